/- Where the Lean function of a Go function gives a value, the Go call returns that value and changes nothing that was there: for every input. (By a program of this session, and by hand.) -/
import Derived.Test.YteebgfcihoidmaaRQx0
import Derived.Test.YteebgfcihoidmaaRQx2
import Derived.Test.YteebgfcihoidmaaRQx3
import Derived.Test.YteebgfcihoidmaaRQx11
namespace Go.Proofs.YteebgfcihoidmaaR.Q
open Go.RowKit Go.Proofs.YteebgfcihoidmaaRW.PrintWords Go.Proofs.YteebgfcihoidmaaRW.PrintLast Go.Proofs.YteebgfcihoidmaaRW.PrintMore
attribute [local go_sem] max2_int min2_int max_two min_two max_three min_three max_four min_four   -- for this text's walks alone
set_option linter.unusedVariables false
set_option linter.unusedSimpArgs false

/-! ### mezzaninelaw15_PteKnown: function 9 -/
mutual
def mezzaninelaw15_PteKnown.j0 : Nat → Bool → Option (Bool)
  | 0, _ => none
  | k + 1, x33 => if x33 = true then (some false) else ((pte_Allowed.f 19 0 false 0 false false false false).bind fun t252 => (if t252 = true then ((pte_Allowed.f 3 0 false 0 false false false false).bind fun t253 => (if t253 = true then (mezzaninelaw15_PteKnown.j1 k true 0 false 1 false false false false) else ((pte_Allowed.f 25 0 false 0 false false false false).bind fun t254 => (if t254 = true then (mezzaninelaw15_PteKnown.j1 k true 0 false 1 false false false false) else ((pte_Allowed.f 25 0 false 0 false false true false).bind fun t255 => (if t255 = true then ((pte_Allowed.f 19 0 false 1 false false false false).bind fun t256 => (if t256 = true then (mezzaninelaw15_PteKnown.j1 k true 0 false 1 false false false false) else ((pte_Allowed.f 19 0 false 1 false true false false).bind fun t257 => (if t257 = true then ((pte_Allowed.f 25 2 false 1 false true false false).bind fun t258 => (if t258 = true then (mezzaninelaw15_PteKnown.j1 k true 0 false 1 false false false false) else ((pte_Allowed.f 9 2 false 1 false true false false).bind fun t259 => (mezzaninelaw15_PteKnown.j1 k (!t259) 0 false 1 false false false false)))) else (mezzaninelaw15_PteKnown.j1 k true 0 false 1 false false false false))))) else (mezzaninelaw15_PteKnown.j1 k true 0 false 1 false false false false))))))) else (mezzaninelaw15_PteKnown.j1 k true 0 false 1 false false false false)))
def mezzaninelaw15_PteKnown.j1 : Nat → Bool → Int → Bool → Int → Bool → Bool → Bool → Bool → Option (Bool)
  | 0, _, _, _, _, _, _, _, _ => none
  | k + 1, x72, x250000, x250001, x250002, x250003, x250004, x250005, x250006 => if x72 = true then (some false) else ((pte_Judge.f k 1 0 x250000 x250001 x250002 x250003 x250004 x250005 x250006).bind fun t260 => (if t260 = 0 then ((pte_Judge.f k 1 1 x250000 x250001 x250002 x250003 x250004 x250005 x250006).bind fun t261 => (if t261 = 1 then ((pte_Judge.f k 67 0 x250000 x250001 x250002 x250003 x250004 x250005 x250006).bind fun t262 => (if t262 = 2 then ((pte_Judge.f k 0 1 x250000 x250001 x250002 x250003 x250004 x250005 x250006).bind fun t263 => (if t263 = 0 then ((pte_Judge.f k 73 0 x250000 x250001 x250002 x250003 x250004 x250005 x250006).bind fun t264 => (mezzaninelaw15_PteKnown.j2 k (t264 != 0) x250000 x250001 x250002 x250003 x250004 x250005 x250006)) else (mezzaninelaw15_PteKnown.j2 k true x250000 x250001 x250002 x250003 x250004 x250005 x250006))) else (mezzaninelaw15_PteKnown.j2 k true x250000 x250001 x250002 x250003 x250004 x250005 x250006))) else (mezzaninelaw15_PteKnown.j2 k true x250000 x250001 x250002 x250003 x250004 x250005 x250006))) else (mezzaninelaw15_PteKnown.j2 k true x250000 x250001 x250002 x250003 x250004 x250005 x250006)))
def mezzaninelaw15_PteKnown.j2 : Nat → Bool → Int → Bool → Int → Bool → Bool → Bool → Bool → Option (Bool)
  | 0, _, _, _, _, _, _, _, _ => none
  | k + 1, x95, x250000, x250001, x250002, x250003, x250004, x250005, x250006 => if x95 = true then (some false) else ((pte_Make.f 512 67).bind fun t265 => ((pte_Judge.f k t265 1 x250000 x250001 x250002 x250003 x250004 x250005 x250006).bind fun t266 => (if t266 = 2 then ((pte_Make.f 1 67).bind fun t267 => ((pte_Judge.f k t267 1 x250000 x250001 x250002 x250003 x250004 x250005 x250006).bind fun t268 => (if t268 = 0 then ((pte_Make.f 1 67).bind fun t269 => ((pte_Judge.f k t269 0 x250000 x250001 x250002 x250003 x250004 x250005 x250006).bind fun t270 => (mezzaninelaw15_PteKnown.j3 k (t270 != 2)))) else (mezzaninelaw15_PteKnown.j3 k true)))) else (mezzaninelaw15_PteKnown.j3 k true))))
def mezzaninelaw15_PteKnown.j3 : Nat → Bool → Option (Bool)
  | 0, _ => none
  | k + 1, x111 => if x111 = true then (some false) else ((mezzaninelaw15_awake.f k).bind fun t271 => (if t271 = true then ((pte_Index.f 1075847167 0).bind fun t272 => (if t272 = 1 then ((pte_Index.f 1075847167 1).bind fun t273 => (if t273 = 1 then ((pte_Index.f 1075847167 2).bind fun t274 => (if t274 = 1 then ((pte_Make.f 512 1).bind fun t275 => ((pte_Pa.f t275 1 4660).bind fun t276 => (some (t276 == 2101812)))) else (some false))) else (some false))) else (some false))) else (some false)))
end
def mezzaninelaw15_PteKnown.f (k : Nat)  : Option (Bool) := (pte_Leaf.f 1).bind fun t238 => (if t238 = true then (mezzaninelaw15_PteKnown.j0 k true) else ((pte_Leaf.f 9).bind fun t239 => (if t239 = true then ((pte_Ok.f k 0).bind fun t240 => (if t240 = true then (mezzaninelaw15_PteKnown.j0 k true) else ((pte_Ok.f k 1).bind fun t241 => (if t241 = true then ((pte_Ok.f k 5).bind fun t242 => (if t242 = true then (mezzaninelaw15_PteKnown.j0 k true) else ((pte_Ok.f k 65).bind fun t243 => (if t243 = true then (mezzaninelaw15_PteKnown.j0 k true) else ((pte_Ok.f k 17).bind fun t244 => (if t244 = true then (mezzaninelaw15_PteKnown.j0 k true) else ((pte_Ok.f k 207).bind fun t245 => (if t245 = true then ((pte_Ok.f k 18014398509482191).bind fun t246 => (mezzaninelaw15_PteKnown.j0 k t246)) else (mezzaninelaw15_PteKnown.j0 k true))))))))) else (mezzaninelaw15_PteKnown.j0 k true))))) else (mezzaninelaw15_PteKnown.j0 k true))))
theorem mezzaninelaw15_PteKnown.mono_l : ∀ k, (∀ y0, LeO (mezzaninelaw15_PteKnown.j0 k y0) (mezzaninelaw15_PteKnown.j0 (k + 1) y0)) ∧ (∀ y0 y1 y2 y3 y4 y5 y6 y7, LeO (mezzaninelaw15_PteKnown.j1 k y0 y1 y2 y3 y4 y5 y6 y7) (mezzaninelaw15_PteKnown.j1 (k + 1) y0 y1 y2 y3 y4 y5 y6 y7)) ∧ (∀ y0 y1 y2 y3 y4 y5 y6 y7, LeO (mezzaninelaw15_PteKnown.j2 k y0 y1 y2 y3 y4 y5 y6 y7) (mezzaninelaw15_PteKnown.j2 (k + 1) y0 y1 y2 y3 y4 y5 y6 y7)) ∧ (∀ y0, LeO (mezzaninelaw15_PteKnown.j3 k y0) (mezzaninelaw15_PteKnown.j3 (k + 1) y0))
  | 0 => ⟨fun _ r h => by simp [mezzaninelaw15_PteKnown.j0] at h, fun _ _ _ _ _ _ _ _ r h => by simp [mezzaninelaw15_PteKnown.j1] at h, fun _ _ _ _ _ _ _ _ r h => by simp [mezzaninelaw15_PteKnown.j2] at h, fun _ r h => by simp [mezzaninelaw15_PteKnown.j3] at h⟩
  | k + 1 => by
    obtain ⟨ih0, ih1, ih2, ih3⟩ := mezzaninelaw15_PteKnown.mono_l k
    refine ⟨?_, ?_, ?_, ?_⟩
    · intro y0
      unfold mezzaninelaw15_PteKnown.j0
      repeat' first
      | (with_reducible exact ih0 _)
      | (with_reducible exact ih1 _ _ _ _ _ _ _ _)
      | (with_reducible exact ih2 _ _ _ _ _ _ _ _)
      | (with_reducible exact ih3 _)
      | (with_reducible exact mezzaninelaw15_awake.mono _)
      | (with_reducible exact pte_Judge.mono _ _ _ _ _ _ _ _ _ _)
      | (with_reducible exact pte_Ok.mono _ _)
      | (with_reducible exact LeO.refl _)
      | (with_reducible exact LeO.none _)
      | (with_reducible refine LeO.ite ?_ ?_)
      | (with_reducible refine LeO.bind ?_ (fun _ => ?_))
      | exact ih0 _
      | exact ih1 _ _ _ _ _ _ _ _
      | exact ih2 _ _ _ _ _ _ _ _
      | exact ih3 _
      | exact mezzaninelaw15_awake.mono _
      | exact pte_Judge.mono _ _ _ _ _ _ _ _ _ _
      | exact pte_Ok.mono _ _
      | exact LeO.none _
      | refine LeO.ite ?_ ?_
      | refine LeO.bind ?_ (fun _ => ?_)
    · intro y0 y1 y2 y3 y4 y5 y6 y7
      unfold mezzaninelaw15_PteKnown.j1
      repeat' first
      | (with_reducible exact ih0 _)
      | (with_reducible exact ih1 _ _ _ _ _ _ _ _)
      | (with_reducible exact ih2 _ _ _ _ _ _ _ _)
      | (with_reducible exact ih3 _)
      | (with_reducible exact mezzaninelaw15_awake.mono _)
      | (with_reducible exact pte_Judge.mono _ _ _ _ _ _ _ _ _ _)
      | (with_reducible exact pte_Ok.mono _ _)
      | (with_reducible exact LeO.refl _)
      | (with_reducible exact LeO.none _)
      | (with_reducible refine LeO.ite ?_ ?_)
      | (with_reducible refine LeO.bind ?_ (fun _ => ?_))
      | exact ih0 _
      | exact ih1 _ _ _ _ _ _ _ _
      | exact ih2 _ _ _ _ _ _ _ _
      | exact ih3 _
      | exact mezzaninelaw15_awake.mono _
      | exact pte_Judge.mono _ _ _ _ _ _ _ _ _ _
      | exact pte_Ok.mono _ _
      | exact LeO.none _
      | refine LeO.ite ?_ ?_
      | refine LeO.bind ?_ (fun _ => ?_)
    · intro y0 y1 y2 y3 y4 y5 y6 y7
      unfold mezzaninelaw15_PteKnown.j2
      repeat' first
      | (with_reducible exact ih0 _)
      | (with_reducible exact ih1 _ _ _ _ _ _ _ _)
      | (with_reducible exact ih2 _ _ _ _ _ _ _ _)
      | (with_reducible exact ih3 _)
      | (with_reducible exact mezzaninelaw15_awake.mono _)
      | (with_reducible exact pte_Judge.mono _ _ _ _ _ _ _ _ _ _)
      | (with_reducible exact pte_Ok.mono _ _)
      | (with_reducible exact LeO.refl _)
      | (with_reducible exact LeO.none _)
      | (with_reducible refine LeO.ite ?_ ?_)
      | (with_reducible refine LeO.bind ?_ (fun _ => ?_))
      | exact ih0 _
      | exact ih1 _ _ _ _ _ _ _ _
      | exact ih2 _ _ _ _ _ _ _ _
      | exact ih3 _
      | exact mezzaninelaw15_awake.mono _
      | exact pte_Judge.mono _ _ _ _ _ _ _ _ _ _
      | exact pte_Ok.mono _ _
      | exact LeO.none _
      | refine LeO.ite ?_ ?_
      | refine LeO.bind ?_ (fun _ => ?_)
    · intro y0
      unfold mezzaninelaw15_PteKnown.j3
      repeat' first
      | (with_reducible exact ih0 _)
      | (with_reducible exact ih1 _ _ _ _ _ _ _ _)
      | (with_reducible exact ih2 _ _ _ _ _ _ _ _)
      | (with_reducible exact ih3 _)
      | (with_reducible exact mezzaninelaw15_awake.mono _)
      | (with_reducible exact pte_Judge.mono _ _ _ _ _ _ _ _ _ _)
      | (with_reducible exact pte_Ok.mono _ _)
      | (with_reducible exact LeO.refl _)
      | (with_reducible exact LeO.none _)
      | (with_reducible refine LeO.ite ?_ ?_)
      | (with_reducible refine LeO.bind ?_ (fun _ => ?_))
      | exact ih0 _
      | exact ih1 _ _ _ _ _ _ _ _
      | exact ih2 _ _ _ _ _ _ _ _
      | exact ih3 _
      | exact mezzaninelaw15_awake.mono _
      | exact pte_Judge.mono _ _ _ _ _ _ _ _ _ _
      | exact pte_Ok.mono _ _
      | exact LeO.none _
      | refine LeO.ite ?_ ?_
      | refine LeO.bind ?_ (fun _ => ?_)
theorem mezzaninelaw15_PteKnown.mono : ∀ k, LeO (mezzaninelaw15_PteKnown.f k ) (mezzaninelaw15_PteKnown.f (k + 1) ) := by
  intro  k
  obtain ⟨ih0, ih1, ih2, ih3⟩ := mezzaninelaw15_PteKnown.mono_l k
  unfold mezzaninelaw15_PteKnown.f
  repeat' first
      | (with_reducible exact ih0 _)
      | (with_reducible exact ih1 _ _ _ _ _ _ _ _)
      | (with_reducible exact ih2 _ _ _ _ _ _ _ _)
      | (with_reducible exact ih3 _)
      | (with_reducible exact mezzaninelaw15_awake.mono _)
      | (with_reducible exact pte_Judge.mono _ _ _ _ _ _ _ _ _ _)
      | (with_reducible exact pte_Ok.mono _ _)
      | (with_reducible exact LeO.refl _)
      | (with_reducible exact LeO.none _)
      | (with_reducible refine LeO.ite ?_ ?_)
      | (with_reducible refine LeO.bind ?_ (fun _ => ?_))
      | exact ih0 _
      | exact ih1 _ _ _ _ _ _ _ _
      | exact ih2 _ _ _ _ _ _ _ _
      | exact ih3 _
      | exact mezzaninelaw15_awake.mono _
      | exact pte_Judge.mono _ _ _ _ _ _ _ _ _ _
      | exact pte_Ok.mono _ _
      | exact LeO.none _
      | refine LeO.ite ?_ ?_
      | refine LeO.bind ?_ (fun _ => ?_)
def mezzaninelaw15_PteKnown.T12 : Bool × List (List Nat × List Nat) := (true, [([], []), ([], []), ([0, 1, 0], [0, 1]), ([2], [2]), ([3, 2], [3]), ([4, 4], [4]), ([4], [4]), ([5, 6, 5, 4], [4, 5, 6]), ([7, 4], [4, 7]), ([4, 8], [4, 8]), ([9, 7], [9]), ([10, 10], [10]), ([10], [10]), ([11, 12, 11, 10], [10, 11, 12]), ([13, 10], [10, 13]), ([10, 14], [10, 14])])
def mezzaninelaw15_PteKnown.B12 : List Nat := [0, 0, 3, 7, 15, 31, 31, 127, 255, 511, 1023, 2047, 2047, 8191, 16383, 32767]
theorem mezzaninelaw15_PteKnown.tab12 : rtab .any (opsOf Try.f9 12) = mezzaninelaw15_PteKnown.T12 := by kernel_rfl
theorem mezzaninelaw15_PteKnown.bits12 : waitsOk mezzaninelaw15_PteKnown.T12.2 mezzaninelaw15_PteKnown.B12 = true := by kernel_rfl
set_option maxHeartbeats 8000000 in
set_option maxRecDepth 100000 in
theorem mezzaninelaw15_PteKnown.calls (k : Nat)  (r : Bool) (w : World) (ht : r = true) (h : mezzaninelaw15_PteKnown.f k  = some r) :
    Calls Try.prog 9 #[] w fun e w' => e = .returned (.bool r) ∧ Below w.heap.size w w' := by
  have hu32 := Try.underlying32
  have HB := Aside0.mk (Below.refl w.heap.size w)
  have HT := Aside0.mk ht
  clear ht
  have H : ((pte_Leaf.f 1).bind fun t238 => (if t238 = true then (mezzaninelaw15_PteKnown.j0 k true) else ((pte_Leaf.f 9).bind fun t239 => (if t239 = true then ((pte_Ok.f k 0).bind fun t240 => (if t240 = true then (mezzaninelaw15_PteKnown.j0 k true) else ((pte_Ok.f k 1).bind fun t241 => (if t241 = true then ((pte_Ok.f k 5).bind fun t242 => (if t242 = true then (mezzaninelaw15_PteKnown.j0 k true) else ((pte_Ok.f k 65).bind fun t243 => (if t243 = true then (mezzaninelaw15_PteKnown.j0 k true) else ((pte_Ok.f k 17).bind fun t244 => (if t244 = true then (mezzaninelaw15_PteKnown.j0 k true) else ((pte_Ok.f k 207).bind fun t245 => (if t245 = true then ((pte_Ok.f k 18014398509482191).bind fun t246 => (mezzaninelaw15_PteKnown.j0 k t246)) else (mezzaninelaw15_PteKnown.j0 k true))))))))) else (mezzaninelaw15_PteKnown.j0 k true))))) else (mezzaninelaw15_PteKnown.j0 k true))))) = some r := h
  clear h
  have HC1 := Aside0.mk H
  clear H
  go_enter Try.func9, Try.ntmps9
  go_upto_region 1 with (fail)
  go_cut [33] (fun v33 wc => ∃ (kq : Nat) (x33_0 : Bool), v33 = .bool x33_0 ∧ Aside0 (mezzaninelaw15_PteKnown.j0 kq x33_0 = some r) ∧ Aside0 (kq ≤ k) ∧ Aside0 (Below w.heap.size w wc))
  case first =>
    have H := HC1.out
    clear HC1
    replace H := Option.bind_eq_some_iff.mp H
    obtain ⟨t238, A20, H⟩ := H
    replace H : (if t238 = true then (mezzaninelaw15_PteKnown.j0 k true) else ((pte_Leaf.f 9).bind fun t239 => (if t239 = true then ((pte_Ok.f k 0).bind fun t240 => (if t240 = true then (mezzaninelaw15_PteKnown.j0 k true) else ((pte_Ok.f k 1).bind fun t241 => (if t241 = true then ((pte_Ok.f k 5).bind fun t242 => (if t242 = true then (mezzaninelaw15_PteKnown.j0 k true) else ((pte_Ok.f k 65).bind fun t243 => (if t243 = true then (mezzaninelaw15_PteKnown.j0 k true) else ((pte_Ok.f k 17).bind fun t244 => (if t244 = true then (mezzaninelaw15_PteKnown.j0 k true) else ((pte_Ok.f k 207).bind fun t245 => (if t245 = true then ((pte_Ok.f k 18014398509482191).bind fun t246 => (mezzaninelaw15_PteKnown.j0 k t246)) else (mezzaninelaw15_PteKnown.j0 k true))))))))) else (mezzaninelaw15_PteKnown.j0 k true))))) else (mezzaninelaw15_PteKnown.j0 k true)))) = some r := H
    have A2 := Aside0.mk A20
    clear A20
    by_cases c3 : t238 = true
    · subst c3
      have H1 : (mezzaninelaw15_PteKnown.j0 k true) = some r := by rw [if_pos rfl] at H; exact H
      clear H
      have H := H1
      clear H1
      exact absurd H (by rw [HT.out]; cases k <;> simp [mezzaninelaw15_PteKnown.j0])
    · replace c3 := Bool.eq_false_iff.mpr c3
      subst c3
      have H1 : ((pte_Leaf.f 9).bind fun t239 => (if t239 = true then ((pte_Ok.f k 0).bind fun t240 => (if t240 = true then (mezzaninelaw15_PteKnown.j0 k true) else ((pte_Ok.f k 1).bind fun t241 => (if t241 = true then ((pte_Ok.f k 5).bind fun t242 => (if t242 = true then (mezzaninelaw15_PteKnown.j0 k true) else ((pte_Ok.f k 65).bind fun t243 => (if t243 = true then (mezzaninelaw15_PteKnown.j0 k true) else ((pte_Ok.f k 17).bind fun t244 => (if t244 = true then (mezzaninelaw15_PteKnown.j0 k true) else ((pte_Ok.f k 207).bind fun t245 => (if t245 = true then ((pte_Ok.f k 18014398509482191).bind fun t246 => (mezzaninelaw15_PteKnown.j0 k t246)) else (mezzaninelaw15_PteKnown.j0 k true))))))))) else (mezzaninelaw15_PteKnown.j0 k true))))) else (mezzaninelaw15_PteKnown.j0 k true))) = some r := by rw [if_neg (show ¬ (false = true) by decide)] at H; exact H
      clear H
      have H := H1
      clear H1
      replace H := Option.bind_eq_some_iff.mp H
      obtain ⟨t239, A40, H⟩ := H
      replace H : (if t239 = true then ((pte_Ok.f k 0).bind fun t240 => (if t240 = true then (mezzaninelaw15_PteKnown.j0 k true) else ((pte_Ok.f k 1).bind fun t241 => (if t241 = true then ((pte_Ok.f k 5).bind fun t242 => (if t242 = true then (mezzaninelaw15_PteKnown.j0 k true) else ((pte_Ok.f k 65).bind fun t243 => (if t243 = true then (mezzaninelaw15_PteKnown.j0 k true) else ((pte_Ok.f k 17).bind fun t244 => (if t244 = true then (mezzaninelaw15_PteKnown.j0 k true) else ((pte_Ok.f k 207).bind fun t245 => (if t245 = true then ((pte_Ok.f k 18014398509482191).bind fun t246 => (mezzaninelaw15_PteKnown.j0 k t246)) else (mezzaninelaw15_PteKnown.j0 k true))))))))) else (mezzaninelaw15_PteKnown.j0 k true))))) else (mezzaninelaw15_PteKnown.j0 k true)) = some r := H
      have A4 := Aside0.mk A40
      clear A40
      by_cases c5 : t239 = true
      · subst c5
        have H1 : ((pte_Ok.f k 0).bind fun t240 => (if t240 = true then (mezzaninelaw15_PteKnown.j0 k true) else ((pte_Ok.f k 1).bind fun t241 => (if t241 = true then ((pte_Ok.f k 5).bind fun t242 => (if t242 = true then (mezzaninelaw15_PteKnown.j0 k true) else ((pte_Ok.f k 65).bind fun t243 => (if t243 = true then (mezzaninelaw15_PteKnown.j0 k true) else ((pte_Ok.f k 17).bind fun t244 => (if t244 = true then (mezzaninelaw15_PteKnown.j0 k true) else ((pte_Ok.f k 207).bind fun t245 => (if t245 = true then ((pte_Ok.f k 18014398509482191).bind fun t246 => (mezzaninelaw15_PteKnown.j0 k t246)) else (mezzaninelaw15_PteKnown.j0 k true))))))))) else (mezzaninelaw15_PteKnown.j0 k true))))) = some r := by rw [if_pos rfl] at H; exact H
        clear H
        have H := H1
        clear H1
        replace H := Option.bind_eq_some_iff.mp H
        obtain ⟨t240, A60, H⟩ := H
        replace H : (if t240 = true then (mezzaninelaw15_PteKnown.j0 k true) else ((pte_Ok.f k 1).bind fun t241 => (if t241 = true then ((pte_Ok.f k 5).bind fun t242 => (if t242 = true then (mezzaninelaw15_PteKnown.j0 k true) else ((pte_Ok.f k 65).bind fun t243 => (if t243 = true then (mezzaninelaw15_PteKnown.j0 k true) else ((pte_Ok.f k 17).bind fun t244 => (if t244 = true then (mezzaninelaw15_PteKnown.j0 k true) else ((pte_Ok.f k 207).bind fun t245 => (if t245 = true then ((pte_Ok.f k 18014398509482191).bind fun t246 => (mezzaninelaw15_PteKnown.j0 k t246)) else (mezzaninelaw15_PteKnown.j0 k true))))))))) else (mezzaninelaw15_PteKnown.j0 k true)))) = some r := H
        have A6 := Aside0.mk A60
        clear A60
        by_cases c7 : t240 = true
        · subst c7
          have H1 : (mezzaninelaw15_PteKnown.j0 k true) = some r := by rw [if_pos rfl] at H; exact H
          clear H
          have H := H1
          clear H1
          exact absurd H (by rw [HT.out]; cases k <;> simp [mezzaninelaw15_PteKnown.j0])
        · replace c7 := Bool.eq_false_iff.mpr c7
          subst c7
          have H1 : ((pte_Ok.f k 1).bind fun t241 => (if t241 = true then ((pte_Ok.f k 5).bind fun t242 => (if t242 = true then (mezzaninelaw15_PteKnown.j0 k true) else ((pte_Ok.f k 65).bind fun t243 => (if t243 = true then (mezzaninelaw15_PteKnown.j0 k true) else ((pte_Ok.f k 17).bind fun t244 => (if t244 = true then (mezzaninelaw15_PteKnown.j0 k true) else ((pte_Ok.f k 207).bind fun t245 => (if t245 = true then ((pte_Ok.f k 18014398509482191).bind fun t246 => (mezzaninelaw15_PteKnown.j0 k t246)) else (mezzaninelaw15_PteKnown.j0 k true))))))))) else (mezzaninelaw15_PteKnown.j0 k true))) = some r := by rw [if_neg (show ¬ (false = true) by decide)] at H; exact H
          clear H
          have H := H1
          clear H1
          replace H := Option.bind_eq_some_iff.mp H
          obtain ⟨t241, A80, H⟩ := H
          replace H : (if t241 = true then ((pte_Ok.f k 5).bind fun t242 => (if t242 = true then (mezzaninelaw15_PteKnown.j0 k true) else ((pte_Ok.f k 65).bind fun t243 => (if t243 = true then (mezzaninelaw15_PteKnown.j0 k true) else ((pte_Ok.f k 17).bind fun t244 => (if t244 = true then (mezzaninelaw15_PteKnown.j0 k true) else ((pte_Ok.f k 207).bind fun t245 => (if t245 = true then ((pte_Ok.f k 18014398509482191).bind fun t246 => (mezzaninelaw15_PteKnown.j0 k t246)) else (mezzaninelaw15_PteKnown.j0 k true))))))))) else (mezzaninelaw15_PteKnown.j0 k true)) = some r := H
          have A8 := Aside0.mk A80
          clear A80
          by_cases c9 : t241 = true
          · subst c9
            have H1 : ((pte_Ok.f k 5).bind fun t242 => (if t242 = true then (mezzaninelaw15_PteKnown.j0 k true) else ((pte_Ok.f k 65).bind fun t243 => (if t243 = true then (mezzaninelaw15_PteKnown.j0 k true) else ((pte_Ok.f k 17).bind fun t244 => (if t244 = true then (mezzaninelaw15_PteKnown.j0 k true) else ((pte_Ok.f k 207).bind fun t245 => (if t245 = true then ((pte_Ok.f k 18014398509482191).bind fun t246 => (mezzaninelaw15_PteKnown.j0 k t246)) else (mezzaninelaw15_PteKnown.j0 k true))))))))) = some r := by rw [if_pos rfl] at H; exact H
            clear H
            have H := H1
            clear H1
            replace H := Option.bind_eq_some_iff.mp H
            obtain ⟨t242, A100, H⟩ := H
            replace H : (if t242 = true then (mezzaninelaw15_PteKnown.j0 k true) else ((pte_Ok.f k 65).bind fun t243 => (if t243 = true then (mezzaninelaw15_PteKnown.j0 k true) else ((pte_Ok.f k 17).bind fun t244 => (if t244 = true then (mezzaninelaw15_PteKnown.j0 k true) else ((pte_Ok.f k 207).bind fun t245 => (if t245 = true then ((pte_Ok.f k 18014398509482191).bind fun t246 => (mezzaninelaw15_PteKnown.j0 k t246)) else (mezzaninelaw15_PteKnown.j0 k true)))))))) = some r := H
            have A10 := Aside0.mk A100
            clear A100
            by_cases c11 : t242 = true
            · subst c11
              have H1 : (mezzaninelaw15_PteKnown.j0 k true) = some r := by rw [if_pos rfl] at H; exact H
              clear H
              have H := H1
              clear H1
              exact absurd H (by rw [HT.out]; cases k <;> simp [mezzaninelaw15_PteKnown.j0])
            · replace c11 := Bool.eq_false_iff.mpr c11
              subst c11
              have H1 : ((pte_Ok.f k 65).bind fun t243 => (if t243 = true then (mezzaninelaw15_PteKnown.j0 k true) else ((pte_Ok.f k 17).bind fun t244 => (if t244 = true then (mezzaninelaw15_PteKnown.j0 k true) else ((pte_Ok.f k 207).bind fun t245 => (if t245 = true then ((pte_Ok.f k 18014398509482191).bind fun t246 => (mezzaninelaw15_PteKnown.j0 k t246)) else (mezzaninelaw15_PteKnown.j0 k true))))))) = some r := by rw [if_neg (show ¬ (false = true) by decide)] at H; exact H
              clear H
              have H := H1
              clear H1
              replace H := Option.bind_eq_some_iff.mp H
              obtain ⟨t243, A120, H⟩ := H
              replace H : (if t243 = true then (mezzaninelaw15_PteKnown.j0 k true) else ((pte_Ok.f k 17).bind fun t244 => (if t244 = true then (mezzaninelaw15_PteKnown.j0 k true) else ((pte_Ok.f k 207).bind fun t245 => (if t245 = true then ((pte_Ok.f k 18014398509482191).bind fun t246 => (mezzaninelaw15_PteKnown.j0 k t246)) else (mezzaninelaw15_PteKnown.j0 k true)))))) = some r := H
              have A12 := Aside0.mk A120
              clear A120
              by_cases c13 : t243 = true
              · subst c13
                have H1 : (mezzaninelaw15_PteKnown.j0 k true) = some r := by rw [if_pos rfl] at H; exact H
                clear H
                have H := H1
                clear H1
                exact absurd H (by rw [HT.out]; cases k <;> simp [mezzaninelaw15_PteKnown.j0])
              · replace c13 := Bool.eq_false_iff.mpr c13
                subst c13
                have H1 : ((pte_Ok.f k 17).bind fun t244 => (if t244 = true then (mezzaninelaw15_PteKnown.j0 k true) else ((pte_Ok.f k 207).bind fun t245 => (if t245 = true then ((pte_Ok.f k 18014398509482191).bind fun t246 => (mezzaninelaw15_PteKnown.j0 k t246)) else (mezzaninelaw15_PteKnown.j0 k true))))) = some r := by rw [if_neg (show ¬ (false = true) by decide)] at H; exact H
                clear H
                have H := H1
                clear H1
                replace H := Option.bind_eq_some_iff.mp H
                obtain ⟨t244, A140, H⟩ := H
                replace H : (if t244 = true then (mezzaninelaw15_PteKnown.j0 k true) else ((pte_Ok.f k 207).bind fun t245 => (if t245 = true then ((pte_Ok.f k 18014398509482191).bind fun t246 => (mezzaninelaw15_PteKnown.j0 k t246)) else (mezzaninelaw15_PteKnown.j0 k true)))) = some r := H
                have A14 := Aside0.mk A140
                clear A140
                by_cases c15 : t244 = true
                · subst c15
                  have H1 : (mezzaninelaw15_PteKnown.j0 k true) = some r := by rw [if_pos rfl] at H; exact H
                  clear H
                  have H := H1
                  clear H1
                  exact absurd H (by rw [HT.out]; cases k <;> simp [mezzaninelaw15_PteKnown.j0])
                · replace c15 := Bool.eq_false_iff.mpr c15
                  subst c15
                  have H1 : ((pte_Ok.f k 207).bind fun t245 => (if t245 = true then ((pte_Ok.f k 18014398509482191).bind fun t246 => (mezzaninelaw15_PteKnown.j0 k t246)) else (mezzaninelaw15_PteKnown.j0 k true))) = some r := by rw [if_neg (show ¬ (false = true) by decide)] at H; exact H
                  clear H
                  have H := H1
                  clear H1
                  replace H := Option.bind_eq_some_iff.mp H
                  obtain ⟨t245, A160, H⟩ := H
                  replace H : (if t245 = true then ((pte_Ok.f k 18014398509482191).bind fun t246 => (mezzaninelaw15_PteKnown.j0 k t246)) else (mezzaninelaw15_PteKnown.j0 k true)) = some r := H
                  have A16 := Aside0.mk A160
                  clear A160
                  by_cases c17 : t245 = true
                  · subst c17
                    have H1 : ((pte_Ok.f k 18014398509482191).bind fun t246 => (mezzaninelaw15_PteKnown.j0 k t246)) = some r := by rw [if_pos rfl] at H; exact H
                    clear H
                    have H := H1
                    clear H1
                    replace H := Option.bind_eq_some_iff.mp H
                    obtain ⟨t246, A180, H⟩ := H
                    replace H : (mezzaninelaw15_PteKnown.j0 k t246) = some r := H
                    have A18 := Aside0.mk A180
                    clear A180
                    have H' := Aside0.mk H
                    clear H
                    go_wp2_with (first | ((with_reducible refine gate_callee (f := 17) rfl ?_); refine goesL_ (some 6) rfl rfl Try.func17 (by kernel_rfl) rfl #[.int .u64 1] rfl (by (try simp only [List.map_toArray, List.map_cons, List.map_nil]); first | done | rfl | (simp only [List.length_drop, List.length_take]; rfl)) ?_; (with_reducible refine (pte_Leaf.calls 1 false _ A2.out).mono ?_); rintro e w' ⟨rfl, ⟨nd, rfl⟩⟩; refine ⟨_, rfl, ?_⟩) | (go_at_call 17; (with_reducible refine (pte_Leaf.calls 9 true _ A4.out).mono ?_); rintro e w' ⟨rfl, ⟨nd, rfl⟩⟩) | (go_at_call 15; (with_reducible refine (pte_Ok.calls k 0 false _ A6.out).mono ?_); rintro e w' ⟨rfl, ⟨nd, rfl⟩⟩) | (go_at_call 15; (with_reducible refine (pte_Ok.calls k 1 true _ A8.out).mono ?_); rintro e w' ⟨rfl, ⟨nd, rfl⟩⟩) | (go_at_call 15; (with_reducible refine (pte_Ok.calls k 5 false _ A10.out).mono ?_); rintro e w' ⟨rfl, ⟨nd, rfl⟩⟩) | (go_at_call 15; (with_reducible refine (pte_Ok.calls k 65 false _ A12.out).mono ?_); rintro e w' ⟨rfl, ⟨nd, rfl⟩⟩) | (go_at_call 15; (with_reducible refine (pte_Ok.calls k 17 false _ A14.out).mono ?_); rintro e w' ⟨rfl, ⟨nd, rfl⟩⟩) | (go_at_call 15; (with_reducible refine (pte_Ok.calls k 207 true _ A16.out).mono ?_); rintro e w' ⟨rfl, ⟨nd, rfl⟩⟩) | (go_at_call 15; (with_reducible refine (pte_Ok.calls k 18014398509482191 t246 _ A18.out).mono ?_); rintro e w' ⟨rfl, ⟨nd, rfl⟩⟩))
                    go_meet
                    case rel => exact ⟨_, (t246), (by first | rfl | (simp; done) | (simp [*]; done)), H', ⟨by first | omega | exact Nat.le_refl _⟩, ⟨by repeat (first | (with_reducible first | exact HB.out | apply below_alloc | apply pw_below_drewN | apply below_drew1) | exact HB.out)⟩⟩
                  · replace c17 := Bool.eq_false_iff.mpr c17
                    subst c17
                    have H1 : (mezzaninelaw15_PteKnown.j0 k true) = some r := by rw [if_neg (show ¬ (false = true) by decide)] at H; exact H
                    clear H
                    have H := H1
                    clear H1
                    exact absurd H (by rw [HT.out]; cases k <;> simp [mezzaninelaw15_PteKnown.j0])
          · replace c9 := Bool.eq_false_iff.mpr c9
            subst c9
            have H1 : (mezzaninelaw15_PteKnown.j0 k true) = some r := by rw [if_neg (show ¬ (false = true) by decide)] at H; exact H
            clear H
            have H := H1
            clear H1
            exact absurd H (by rw [HT.out]; cases k <;> simp [mezzaninelaw15_PteKnown.j0])
      · replace c5 := Bool.eq_false_iff.mpr c5
        subst c5
        have H1 : (mezzaninelaw15_PteKnown.j0 k true) = some r := by rw [if_neg (show ¬ (false = true) by decide)] at H; exact H
        clear H
        have H := H1
        clear H1
        exact absurd H (by rw [HT.out]; cases k <;> simp [mezzaninelaw15_PteKnown.j0])
  case rest =>
    clear HC1
    try clear c1
    try clear p2
    try clear c3
    try clear c5
    try clear c7
    try clear c9
    try clear c11
    try clear c13
    try clear c15
    try clear c17
    obtain ⟨kq, x33_0, rfl, HA, HJ0, HB⟩ := hcut
    cases kq with
    | zero => exact absurd HA.out (by simp [mezzaninelaw15_PteKnown.j0])
    | succ kj0 =>
      have H := HA.out
      clear HA
      simp only [mezzaninelaw15_PteKnown.j0] at H
      by_cases c19 : x33_0 = true
      · subst c19
        have H1 : (some false) = some r := by rw [if_pos rfl] at H; exact H
        clear H
        have H := H1
        clear H1
        exact absurd (Option.some.inj H) (by rw [HT.out]; decide)
      · replace c19 := Bool.eq_false_iff.mpr c19
        subst c19
        have H1 : ((pte_Allowed.f 19 0 false 0 false false false false).bind fun t252 => (if t252 = true then ((pte_Allowed.f 3 0 false 0 false false false false).bind fun t253 => (if t253 = true then (mezzaninelaw15_PteKnown.j1 kj0 true 0 false 1 false false false false) else ((pte_Allowed.f 25 0 false 0 false false false false).bind fun t254 => (if t254 = true then (mezzaninelaw15_PteKnown.j1 kj0 true 0 false 1 false false false false) else ((pte_Allowed.f 25 0 false 0 false false true false).bind fun t255 => (if t255 = true then ((pte_Allowed.f 19 0 false 1 false false false false).bind fun t256 => (if t256 = true then (mezzaninelaw15_PteKnown.j1 kj0 true 0 false 1 false false false false) else ((pte_Allowed.f 19 0 false 1 false true false false).bind fun t257 => (if t257 = true then ((pte_Allowed.f 25 2 false 1 false true false false).bind fun t258 => (if t258 = true then (mezzaninelaw15_PteKnown.j1 kj0 true 0 false 1 false false false false) else ((pte_Allowed.f 9 2 false 1 false true false false).bind fun t259 => (mezzaninelaw15_PteKnown.j1 kj0 (!t259) 0 false 1 false false false false)))) else (mezzaninelaw15_PteKnown.j1 kj0 true 0 false 1 false false false false))))) else (mezzaninelaw15_PteKnown.j1 kj0 true 0 false 1 false false false false))))))) else (mezzaninelaw15_PteKnown.j1 kj0 true 0 false 1 false false false false))) = some r := by rw [if_neg (show ¬ (false = true) by decide)] at H; exact H
        clear H
        have H := H1
        clear H1
        have HC20 := Aside0.mk H
        clear H
        go_upto_region 8 with (first | ((with_reducible refine gate_dst (N := 1) rfl ?_); refine box_event ?hg (N := 1) ?hd (cs := #[.int .u8 0, .bool false, .int .u8 0, .bool false, .bool false, .bool false, .bool false]) (t := 32) ?hr ?_; (case hd => rfl); (case hg => rfl); (case hr => first | (go_simp; done) | (go_simp; rfl)); intro gb247 hg w21 hbox hb; have n0_ := Aside0.mk (below_step (by repeat (first | (with_reducible first | exact HB.out | apply below_alloc | apply pw_below_drewN | apply below_drew1) | exact HB.out)) hb); have n1_ := Aside0.mk (hbox); have n2_ := Aside0.mk ((by rw [hg]; exact (below_size (by repeat (first | (with_reducible first | exact HB.out | apply below_alloc | apply pw_below_drewN | apply below_drew1) | exact HB.out))) : w.heap.size ≤ gb247)); have n3_ := Aside0.mk ((by rw [hg]; exact (below_size (by repeat (first | (with_reducible first | exact HB.out | apply below_alloc | apply pw_below_drewN | apply below_drew1) | exact HB.out))) : w.heap.size ≤ gb247)); clear HB; have HB := n0_; have BK247 := n1_; have GW247 := n2_; have GE247 := n3_; clear n0_ n1_ n2_ n3_; clear hb hbox hg; have hcz22_0 : w21.cell? ⟨gb247, 0, none⟩ = some (.int .u8 0) := (blk_cell BK247.out 0).trans rfl; have hcz22_1 : w21.cell? ⟨gb247, 1, none⟩ = some (.bool false) := (blk_cell BK247.out 1).trans rfl; have hcz22_2 : w21.cell? ⟨gb247, 2, none⟩ = some (.int .u8 0) := (blk_cell BK247.out 2).trans rfl; have hcz22_3 : w21.cell? ⟨gb247, 3, none⟩ = some (.bool false) := (blk_cell BK247.out 3).trans rfl; have hcz22_4 : w21.cell? ⟨gb247, 4, none⟩ = some (.bool false) := (blk_cell BK247.out 4).trans rfl; have hcz22_5 : w21.cell? ⟨gb247, 5, none⟩ = some (.bool false) := (blk_cell BK247.out 5).trans rfl; have hcz22_6 : w21.cell? ⟨gb247, 6, none⟩ = some (.bool false) := (blk_cell BK247.out 6).trans rfl; have hfz22_0 := blk_frozen BK247.out 0; have hfz22_1 := blk_frozen BK247.out 1; have hfz22_2 := blk_frozen BK247.out 2; have hfz22_3 := blk_frozen BK247.out 3; have hfz22_4 := blk_frozen BK247.out 4; have hfz22_5 := blk_frozen BK247.out 5; have hfz22_6 := blk_frozen BK247.out 6) | ((with_reducible refine gate_dst (N := 2) rfl ?_); refine box_event ?hg (N := 2) ?hd (cs := #[.int .u8 0, .bool false, .int .u8 0, .bool false, .bool false, .bool false, .bool false]) (t := 32) ?hr ?_; (case hd => rfl); (case hg => rfl); (case hr => first | (go_simp; done) | (go_simp; rfl)); intro gb248 hg w23 hbox hb; have n0_ := Aside0.mk (blk_below (g := gb247) (o := .cells #[.int .u8 0, .bool false, .int .u8 0, .bool false, .bool false, .bool false, .bool false] 32 (0, 0)) (by (with_reducible repeat (first | refine blk_drewN ?_ _ | refine blk_drew ?_ | refine blk_alloc ?_ _)); refine blk_put (cs := #[.int .u8 0, .bool false, .int .u8 0, .bool false, .bool false, .bool false, .bool false]) ?_ 6 _ rfl; (with_reducible repeat (first | refine blk_drewN ?_ _ | refine blk_drew ?_ | refine blk_alloc ?_ _)); refine blk_put (cs := #[.int .u8 0, .bool false, .int .u8 0, .bool false, .bool false, .bool false, .bool false]) ?_ 5 _ rfl; (with_reducible repeat (first | refine blk_drewN ?_ _ | refine blk_drew ?_ | refine blk_alloc ?_ _)); refine blk_put (cs := #[.int .u8 0, .bool false, .int .u8 0, .bool false, .bool false, .bool false, .bool false]) ?_ 4 _ rfl; (with_reducible repeat (first | refine blk_drewN ?_ _ | refine blk_drew ?_ | refine blk_alloc ?_ _)); refine blk_put (cs := #[.int .u8 0, .bool false, .int .u8 0, .bool false, .bool false, .bool false, .bool false]) ?_ 3 _ rfl; (with_reducible repeat (first | refine blk_drewN ?_ _ | refine blk_drew ?_ | refine blk_alloc ?_ _)); refine blk_put (cs := #[.int .u8 0, .bool false, .int .u8 0, .bool false, .bool false, .bool false, .bool false]) ?_ 2 _ rfl; (with_reducible repeat (first | refine blk_drewN ?_ _ | refine blk_drew ?_ | refine blk_alloc ?_ _)); refine blk_put (cs := #[.int .u8 0, .bool false, .int .u8 0, .bool false, .bool false, .bool false, .bool false]) ?_ 1 _ rfl; (with_reducible repeat (first | refine blk_drewN ?_ _ | refine blk_drew ?_ | refine blk_alloc ?_ _)); refine blk_put (cs := #[.int .u8 0, .bool false, .int .u8 0, .bool false, .bool false, .bool false, .bool false]) ?_ 0 _ rfl; (with_reducible repeat (first | refine blk_drewN ?_ _ | refine blk_drew ?_ | refine blk_alloc ?_ _)); exact BK247.out) hb); have n1_ := Aside0.mk (below_step (by repeat (first | (with_reducible first | exact HB.out | apply below_alloc | apply pw_below_drewN | apply below_drew1 | refine below_set ?_ GE247.out) | exact HB.out)) hb); have n2_ := Aside0.mk (hbox); have n3_ := Aside0.mk ((by rw [hg]; exact (below_size (by repeat (first | (with_reducible first | exact HB.out | apply below_alloc | apply pw_below_drewN | apply below_drew1 | refine below_set ?_ GE247.out) | exact HB.out))) : w.heap.size ≤ gb248)); have n4_ := Aside0.mk ((by rw [hg]; exact (below_size (by repeat (first | (with_reducible first | exact HB.out | apply below_alloc | apply pw_below_drewN | apply below_drew1 | refine below_set ?_ GE247.out) | exact HB.out))) : w.heap.size ≤ gb248)); have n5_ := Aside0.mk ((by rw [hg]; exact Nat.ne_of_lt (blk_lt (g := gb247) (o := .cells #[.int .u8 0, .bool false, .int .u8 0, .bool false, .bool false, .bool false, .bool false] 32 (0, 0)) (by (with_reducible repeat (first | refine blk_drewN ?_ _ | refine blk_drew ?_ | refine blk_alloc ?_ _)); refine blk_put (cs := #[.int .u8 0, .bool false, .int .u8 0, .bool false, .bool false, .bool false, .bool false]) ?_ 6 _ rfl; (with_reducible repeat (first | refine blk_drewN ?_ _ | refine blk_drew ?_ | refine blk_alloc ?_ _)); refine blk_put (cs := #[.int .u8 0, .bool false, .int .u8 0, .bool false, .bool false, .bool false, .bool false]) ?_ 5 _ rfl; (with_reducible repeat (first | refine blk_drewN ?_ _ | refine blk_drew ?_ | refine blk_alloc ?_ _)); refine blk_put (cs := #[.int .u8 0, .bool false, .int .u8 0, .bool false, .bool false, .bool false, .bool false]) ?_ 4 _ rfl; (with_reducible repeat (first | refine blk_drewN ?_ _ | refine blk_drew ?_ | refine blk_alloc ?_ _)); refine blk_put (cs := #[.int .u8 0, .bool false, .int .u8 0, .bool false, .bool false, .bool false, .bool false]) ?_ 3 _ rfl; (with_reducible repeat (first | refine blk_drewN ?_ _ | refine blk_drew ?_ | refine blk_alloc ?_ _)); refine blk_put (cs := #[.int .u8 0, .bool false, .int .u8 0, .bool false, .bool false, .bool false, .bool false]) ?_ 2 _ rfl; (with_reducible repeat (first | refine blk_drewN ?_ _ | refine blk_drew ?_ | refine blk_alloc ?_ _)); refine blk_put (cs := #[.int .u8 0, .bool false, .int .u8 0, .bool false, .bool false, .bool false, .bool false]) ?_ 1 _ rfl; (with_reducible repeat (first | refine blk_drewN ?_ _ | refine blk_drew ?_ | refine blk_alloc ?_ _)); refine blk_put (cs := #[.int .u8 0, .bool false, .int .u8 0, .bool false, .bool false, .bool false, .bool false]) ?_ 0 _ rfl; (with_reducible repeat (first | refine blk_drewN ?_ _ | refine blk_drew ?_ | refine blk_alloc ?_ _)); exact BK247.out)) : gb247 ≠ gb248)); have n6_ := Aside0.mk ((by rw [hg]; exact Nat.ne_of_gt (blk_lt (g := gb247) (o := .cells #[.int .u8 0, .bool false, .int .u8 0, .bool false, .bool false, .bool false, .bool false] 32 (0, 0)) (by (with_reducible repeat (first | refine blk_drewN ?_ _ | refine blk_drew ?_ | refine blk_alloc ?_ _)); refine blk_put (cs := #[.int .u8 0, .bool false, .int .u8 0, .bool false, .bool false, .bool false, .bool false]) ?_ 6 _ rfl; (with_reducible repeat (first | refine blk_drewN ?_ _ | refine blk_drew ?_ | refine blk_alloc ?_ _)); refine blk_put (cs := #[.int .u8 0, .bool false, .int .u8 0, .bool false, .bool false, .bool false, .bool false]) ?_ 5 _ rfl; (with_reducible repeat (first | refine blk_drewN ?_ _ | refine blk_drew ?_ | refine blk_alloc ?_ _)); refine blk_put (cs := #[.int .u8 0, .bool false, .int .u8 0, .bool false, .bool false, .bool false, .bool false]) ?_ 4 _ rfl; (with_reducible repeat (first | refine blk_drewN ?_ _ | refine blk_drew ?_ | refine blk_alloc ?_ _)); refine blk_put (cs := #[.int .u8 0, .bool false, .int .u8 0, .bool false, .bool false, .bool false, .bool false]) ?_ 3 _ rfl; (with_reducible repeat (first | refine blk_drewN ?_ _ | refine blk_drew ?_ | refine blk_alloc ?_ _)); refine blk_put (cs := #[.int .u8 0, .bool false, .int .u8 0, .bool false, .bool false, .bool false, .bool false]) ?_ 2 _ rfl; (with_reducible repeat (first | refine blk_drewN ?_ _ | refine blk_drew ?_ | refine blk_alloc ?_ _)); refine blk_put (cs := #[.int .u8 0, .bool false, .int .u8 0, .bool false, .bool false, .bool false, .bool false]) ?_ 1 _ rfl; (with_reducible repeat (first | refine blk_drewN ?_ _ | refine blk_drew ?_ | refine blk_alloc ?_ _)); refine blk_put (cs := #[.int .u8 0, .bool false, .int .u8 0, .bool false, .bool false, .bool false, .bool false]) ?_ 0 _ rfl; (with_reducible repeat (first | refine blk_drewN ?_ _ | refine blk_drew ?_ | refine blk_alloc ?_ _)); exact BK247.out)) : gb248 ≠ gb247)); clear BK247; clear HB; have BK247 := n0_; have HB := n1_; have BK248 := n2_; have GW248 := n3_; have GE248 := n4_; have NB247_248 := n5_; have NB248_247 := n6_; clear n0_ n1_ n2_ n3_ n4_ n5_ n6_; clear hb hbox hg; have hnb24 := NB248_247.out; have hnc24 := NB247_248.out; have hcz25_0 : w23.cell? ⟨gb248, 0, none⟩ = some (.int .u8 0) := (blk_cell BK248.out 0).trans rfl; have hcz25_1 : w23.cell? ⟨gb248, 1, none⟩ = some (.bool false) := (blk_cell BK248.out 1).trans rfl; have hcz25_2 : w23.cell? ⟨gb248, 2, none⟩ = some (.int .u8 0) := (blk_cell BK248.out 2).trans rfl; have hcz25_3 : w23.cell? ⟨gb248, 3, none⟩ = some (.bool false) := (blk_cell BK248.out 3).trans rfl; have hcz25_4 : w23.cell? ⟨gb248, 4, none⟩ = some (.bool false) := (blk_cell BK248.out 4).trans rfl; have hcz25_5 : w23.cell? ⟨gb248, 5, none⟩ = some (.bool false) := (blk_cell BK248.out 5).trans rfl; have hcz25_6 : w23.cell? ⟨gb248, 6, none⟩ = some (.bool false) := (blk_cell BK248.out 6).trans rfl; have hfz25_0 := blk_frozen BK248.out 0; have hfz25_1 := blk_frozen BK248.out 1; have hfz25_2 := blk_frozen BK248.out 2; have hfz25_3 := blk_frozen BK248.out 3; have hfz25_4 := blk_frozen BK248.out 4; have hfz25_5 := blk_frozen BK248.out 5; have hfz25_6 := blk_frozen BK248.out 6) | ((with_reducible refine gate_dst (N := 3) rfl ?_); refine box_event ?hg (N := 3) ?hd (cs := #[.int .u8 0, .bool false, .int .u8 0, .bool false, .bool false, .bool false, .bool false]) (t := 32) ?hr ?_; (case hd => rfl); (case hg => rfl); (case hr => first | (go_simp; done) | (go_simp; rfl)); intro gb249 hg w26 hbox hb; have n0_ := Aside0.mk (blk_below (g := gb247) (o := .cells #[.int .u8 0, .bool false, .int .u8 0, .bool false, .bool false, .bool false, .bool false] 32 (0, 0)) (by (with_reducible repeat (first | refine blk_drewN ?_ _ | refine blk_drew ?_ | refine blk_alloc ?_ _)); refine blk_far ?_ NB247_248.out _; (with_reducible repeat (first | refine blk_drewN ?_ _ | refine blk_drew ?_ | refine blk_alloc ?_ _)); refine blk_far ?_ NB247_248.out _; (with_reducible repeat (first | refine blk_drewN ?_ _ | refine blk_drew ?_ | refine blk_alloc ?_ _)); refine blk_far ?_ NB247_248.out _; (with_reducible repeat (first | refine blk_drewN ?_ _ | refine blk_drew ?_ | refine blk_alloc ?_ _)); refine blk_far ?_ NB247_248.out _; (with_reducible repeat (first | refine blk_drewN ?_ _ | refine blk_drew ?_ | refine blk_alloc ?_ _)); refine blk_far ?_ NB247_248.out _; (with_reducible repeat (first | refine blk_drewN ?_ _ | refine blk_drew ?_ | refine blk_alloc ?_ _)); refine blk_far ?_ NB247_248.out _; (with_reducible repeat (first | refine blk_drewN ?_ _ | refine blk_drew ?_ | refine blk_alloc ?_ _)); refine blk_far ?_ NB247_248.out _; (with_reducible repeat (first | refine blk_drewN ?_ _ | refine blk_drew ?_ | refine blk_alloc ?_ _)); exact BK247.out) hb); have n1_ := Aside0.mk (blk_below (g := gb248) (o := .cells #[.int .u8 0, .bool false, .int .u8 0, .bool false, .bool false, .bool true, .bool false] 32 (0, 0)) (by (with_reducible repeat (first | refine blk_drewN ?_ _ | refine blk_drew ?_ | refine blk_alloc ?_ _)); refine blk_put (cs := #[.int .u8 0, .bool false, .int .u8 0, .bool false, .bool false, .bool true, .bool false]) ?_ 6 _ rfl; (with_reducible repeat (first | refine blk_drewN ?_ _ | refine blk_drew ?_ | refine blk_alloc ?_ _)); refine blk_put (cs := #[.int .u8 0, .bool false, .int .u8 0, .bool false, .bool false, .bool false, .bool false]) ?_ 5 _ rfl; (with_reducible repeat (first | refine blk_drewN ?_ _ | refine blk_drew ?_ | refine blk_alloc ?_ _)); refine blk_put (cs := #[.int .u8 0, .bool false, .int .u8 0, .bool false, .bool false, .bool false, .bool false]) ?_ 4 _ rfl; (with_reducible repeat (first | refine blk_drewN ?_ _ | refine blk_drew ?_ | refine blk_alloc ?_ _)); refine blk_put (cs := #[.int .u8 0, .bool false, .int .u8 0, .bool false, .bool false, .bool false, .bool false]) ?_ 3 _ rfl; (with_reducible repeat (first | refine blk_drewN ?_ _ | refine blk_drew ?_ | refine blk_alloc ?_ _)); refine blk_put (cs := #[.int .u8 0, .bool false, .int .u8 0, .bool false, .bool false, .bool false, .bool false]) ?_ 2 _ rfl; (with_reducible repeat (first | refine blk_drewN ?_ _ | refine blk_drew ?_ | refine blk_alloc ?_ _)); refine blk_put (cs := #[.int .u8 0, .bool false, .int .u8 0, .bool false, .bool false, .bool false, .bool false]) ?_ 1 _ rfl; (with_reducible repeat (first | refine blk_drewN ?_ _ | refine blk_drew ?_ | refine blk_alloc ?_ _)); refine blk_put (cs := #[.int .u8 0, .bool false, .int .u8 0, .bool false, .bool false, .bool false, .bool false]) ?_ 0 _ rfl; (with_reducible repeat (first | refine blk_drewN ?_ _ | refine blk_drew ?_ | refine blk_alloc ?_ _)); exact BK248.out) hb); have n2_ := Aside0.mk (below_step (by repeat (first | (with_reducible first | exact HB.out | apply below_alloc | apply pw_below_drewN | apply below_drew1 | refine below_set ?_ GE247.out | refine below_set ?_ GE248.out) | exact HB.out)) hb); have n3_ := Aside0.mk (hbox); have n4_ := Aside0.mk ((by rw [hg]; exact (below_size (by repeat (first | (with_reducible first | exact HB.out | apply below_alloc | apply pw_below_drewN | apply below_drew1 | refine below_set ?_ GE247.out | refine below_set ?_ GE248.out) | exact HB.out))) : w.heap.size ≤ gb249)); have n5_ := Aside0.mk ((by rw [hg]; exact (below_size (by repeat (first | (with_reducible first | exact HB.out | apply below_alloc | apply pw_below_drewN | apply below_drew1 | refine below_set ?_ GE247.out | refine below_set ?_ GE248.out) | exact HB.out))) : w.heap.size ≤ gb249)); have n6_ := Aside0.mk ((by rw [hg]; exact Nat.ne_of_lt (blk_lt (g := gb247) (o := .cells #[.int .u8 0, .bool false, .int .u8 0, .bool false, .bool false, .bool false, .bool false] 32 (0, 0)) (by (with_reducible repeat (first | refine blk_drewN ?_ _ | refine blk_drew ?_ | refine blk_alloc ?_ _)); refine blk_far ?_ NB247_248.out _; (with_reducible repeat (first | refine blk_drewN ?_ _ | refine blk_drew ?_ | refine blk_alloc ?_ _)); refine blk_far ?_ NB247_248.out _; (with_reducible repeat (first | refine blk_drewN ?_ _ | refine blk_drew ?_ | refine blk_alloc ?_ _)); refine blk_far ?_ NB247_248.out _; (with_reducible repeat (first | refine blk_drewN ?_ _ | refine blk_drew ?_ | refine blk_alloc ?_ _)); refine blk_far ?_ NB247_248.out _; (with_reducible repeat (first | refine blk_drewN ?_ _ | refine blk_drew ?_ | refine blk_alloc ?_ _)); refine blk_far ?_ NB247_248.out _; (with_reducible repeat (first | refine blk_drewN ?_ _ | refine blk_drew ?_ | refine blk_alloc ?_ _)); refine blk_far ?_ NB247_248.out _; (with_reducible repeat (first | refine blk_drewN ?_ _ | refine blk_drew ?_ | refine blk_alloc ?_ _)); refine blk_far ?_ NB247_248.out _; (with_reducible repeat (first | refine blk_drewN ?_ _ | refine blk_drew ?_ | refine blk_alloc ?_ _)); exact BK247.out)) : gb247 ≠ gb249)); have n7_ := Aside0.mk ((by rw [hg]; exact Nat.ne_of_gt (blk_lt (g := gb247) (o := .cells #[.int .u8 0, .bool false, .int .u8 0, .bool false, .bool false, .bool false, .bool false] 32 (0, 0)) (by (with_reducible repeat (first | refine blk_drewN ?_ _ | refine blk_drew ?_ | refine blk_alloc ?_ _)); refine blk_far ?_ NB247_248.out _; (with_reducible repeat (first | refine blk_drewN ?_ _ | refine blk_drew ?_ | refine blk_alloc ?_ _)); refine blk_far ?_ NB247_248.out _; (with_reducible repeat (first | refine blk_drewN ?_ _ | refine blk_drew ?_ | refine blk_alloc ?_ _)); refine blk_far ?_ NB247_248.out _; (with_reducible repeat (first | refine blk_drewN ?_ _ | refine blk_drew ?_ | refine blk_alloc ?_ _)); refine blk_far ?_ NB247_248.out _; (with_reducible repeat (first | refine blk_drewN ?_ _ | refine blk_drew ?_ | refine blk_alloc ?_ _)); refine blk_far ?_ NB247_248.out _; (with_reducible repeat (first | refine blk_drewN ?_ _ | refine blk_drew ?_ | refine blk_alloc ?_ _)); refine blk_far ?_ NB247_248.out _; (with_reducible repeat (first | refine blk_drewN ?_ _ | refine blk_drew ?_ | refine blk_alloc ?_ _)); refine blk_far ?_ NB247_248.out _; (with_reducible repeat (first | refine blk_drewN ?_ _ | refine blk_drew ?_ | refine blk_alloc ?_ _)); exact BK247.out)) : gb249 ≠ gb247)); have n8_ := Aside0.mk ((by rw [hg]; exact Nat.ne_of_lt (blk_lt (g := gb248) (o := .cells #[.int .u8 0, .bool false, .int .u8 0, .bool false, .bool false, .bool true, .bool false] 32 (0, 0)) (by (with_reducible repeat (first | refine blk_drewN ?_ _ | refine blk_drew ?_ | refine blk_alloc ?_ _)); refine blk_put (cs := #[.int .u8 0, .bool false, .int .u8 0, .bool false, .bool false, .bool true, .bool false]) ?_ 6 _ rfl; (with_reducible repeat (first | refine blk_drewN ?_ _ | refine blk_drew ?_ | refine blk_alloc ?_ _)); refine blk_put (cs := #[.int .u8 0, .bool false, .int .u8 0, .bool false, .bool false, .bool false, .bool false]) ?_ 5 _ rfl; (with_reducible repeat (first | refine blk_drewN ?_ _ | refine blk_drew ?_ | refine blk_alloc ?_ _)); refine blk_put (cs := #[.int .u8 0, .bool false, .int .u8 0, .bool false, .bool false, .bool false, .bool false]) ?_ 4 _ rfl; (with_reducible repeat (first | refine blk_drewN ?_ _ | refine blk_drew ?_ | refine blk_alloc ?_ _)); refine blk_put (cs := #[.int .u8 0, .bool false, .int .u8 0, .bool false, .bool false, .bool false, .bool false]) ?_ 3 _ rfl; (with_reducible repeat (first | refine blk_drewN ?_ _ | refine blk_drew ?_ | refine blk_alloc ?_ _)); refine blk_put (cs := #[.int .u8 0, .bool false, .int .u8 0, .bool false, .bool false, .bool false, .bool false]) ?_ 2 _ rfl; (with_reducible repeat (first | refine blk_drewN ?_ _ | refine blk_drew ?_ | refine blk_alloc ?_ _)); refine blk_put (cs := #[.int .u8 0, .bool false, .int .u8 0, .bool false, .bool false, .bool false, .bool false]) ?_ 1 _ rfl; (with_reducible repeat (first | refine blk_drewN ?_ _ | refine blk_drew ?_ | refine blk_alloc ?_ _)); refine blk_put (cs := #[.int .u8 0, .bool false, .int .u8 0, .bool false, .bool false, .bool false, .bool false]) ?_ 0 _ rfl; (with_reducible repeat (first | refine blk_drewN ?_ _ | refine blk_drew ?_ | refine blk_alloc ?_ _)); exact BK248.out)) : gb248 ≠ gb249)); have n9_ := Aside0.mk ((by rw [hg]; exact Nat.ne_of_gt (blk_lt (g := gb248) (o := .cells #[.int .u8 0, .bool false, .int .u8 0, .bool false, .bool false, .bool true, .bool false] 32 (0, 0)) (by (with_reducible repeat (first | refine blk_drewN ?_ _ | refine blk_drew ?_ | refine blk_alloc ?_ _)); refine blk_put (cs := #[.int .u8 0, .bool false, .int .u8 0, .bool false, .bool false, .bool true, .bool false]) ?_ 6 _ rfl; (with_reducible repeat (first | refine blk_drewN ?_ _ | refine blk_drew ?_ | refine blk_alloc ?_ _)); refine blk_put (cs := #[.int .u8 0, .bool false, .int .u8 0, .bool false, .bool false, .bool false, .bool false]) ?_ 5 _ rfl; (with_reducible repeat (first | refine blk_drewN ?_ _ | refine blk_drew ?_ | refine blk_alloc ?_ _)); refine blk_put (cs := #[.int .u8 0, .bool false, .int .u8 0, .bool false, .bool false, .bool false, .bool false]) ?_ 4 _ rfl; (with_reducible repeat (first | refine blk_drewN ?_ _ | refine blk_drew ?_ | refine blk_alloc ?_ _)); refine blk_put (cs := #[.int .u8 0, .bool false, .int .u8 0, .bool false, .bool false, .bool false, .bool false]) ?_ 3 _ rfl; (with_reducible repeat (first | refine blk_drewN ?_ _ | refine blk_drew ?_ | refine blk_alloc ?_ _)); refine blk_put (cs := #[.int .u8 0, .bool false, .int .u8 0, .bool false, .bool false, .bool false, .bool false]) ?_ 2 _ rfl; (with_reducible repeat (first | refine blk_drewN ?_ _ | refine blk_drew ?_ | refine blk_alloc ?_ _)); refine blk_put (cs := #[.int .u8 0, .bool false, .int .u8 0, .bool false, .bool false, .bool false, .bool false]) ?_ 1 _ rfl; (with_reducible repeat (first | refine blk_drewN ?_ _ | refine blk_drew ?_ | refine blk_alloc ?_ _)); refine blk_put (cs := #[.int .u8 0, .bool false, .int .u8 0, .bool false, .bool false, .bool false, .bool false]) ?_ 0 _ rfl; (with_reducible repeat (first | refine blk_drewN ?_ _ | refine blk_drew ?_ | refine blk_alloc ?_ _)); exact BK248.out)) : gb249 ≠ gb248)); clear BK247; clear BK248; clear HB; have BK247 := n0_; have BK248 := n1_; have HB := n2_; have BK249 := n3_; have GW249 := n4_; have GE249 := n5_; have NB247_249 := n6_; have NB249_247 := n7_; have NB248_249 := n8_; have NB249_248 := n9_; clear n0_ n1_ n2_ n3_ n4_ n5_ n6_ n7_ n8_ n9_; clear hb hbox hg; have hnb27 := NB249_247.out; have hnc27 := NB247_249.out; have hnb28 := NB249_248.out; have hnc28 := NB248_249.out; have hcz29_0 : w26.cell? ⟨gb249, 0, none⟩ = some (.int .u8 0) := (blk_cell BK249.out 0).trans rfl; have hcz29_1 : w26.cell? ⟨gb249, 1, none⟩ = some (.bool false) := (blk_cell BK249.out 1).trans rfl; have hcz29_2 : w26.cell? ⟨gb249, 2, none⟩ = some (.int .u8 0) := (blk_cell BK249.out 2).trans rfl; have hcz29_3 : w26.cell? ⟨gb249, 3, none⟩ = some (.bool false) := (blk_cell BK249.out 3).trans rfl; have hcz29_4 : w26.cell? ⟨gb249, 4, none⟩ = some (.bool false) := (blk_cell BK249.out 4).trans rfl; have hcz29_5 : w26.cell? ⟨gb249, 5, none⟩ = some (.bool false) := (blk_cell BK249.out 5).trans rfl; have hcz29_6 : w26.cell? ⟨gb249, 6, none⟩ = some (.bool false) := (blk_cell BK249.out 6).trans rfl; have hfz29_0 := blk_frozen BK249.out 0; have hfz29_1 := blk_frozen BK249.out 1; have hfz29_2 := blk_frozen BK249.out 2; have hfz29_3 := blk_frozen BK249.out 3; have hfz29_4 := blk_frozen BK249.out 4; have hfz29_5 := blk_frozen BK249.out 5; have hfz29_6 := blk_frozen BK249.out 6) | ((with_reducible refine gate_dst (N := 4) rfl ?_); refine box_event ?hg (N := 4) ?hd (cs := #[.int .u8 0, .bool false, .int .u8 0, .bool false, .bool false, .bool false, .bool false]) (t := 32) ?hr ?_; (case hd => rfl); (case hg => rfl); (case hr => first | (go_simp; done) | (go_simp; rfl)); intro gb250 hg w30 hbox hb; have n0_ := Aside0.mk (blk_below (g := gb247) (o := .cells #[.int .u8 0, .bool false, .int .u8 0, .bool false, .bool false, .bool false, .bool false] 32 (0, 0)) (by (with_reducible repeat (first | refine blk_drewN ?_ _ | refine blk_drew ?_ | refine blk_alloc ?_ _)); refine blk_far ?_ NB247_249.out _; (with_reducible repeat (first | refine blk_drewN ?_ _ | refine blk_drew ?_ | refine blk_alloc ?_ _)); refine blk_far ?_ NB247_249.out _; (with_reducible repeat (first | refine blk_drewN ?_ _ | refine blk_drew ?_ | refine blk_alloc ?_ _)); refine blk_far ?_ NB247_249.out _; (with_reducible repeat (first | refine blk_drewN ?_ _ | refine blk_drew ?_ | refine blk_alloc ?_ _)); refine blk_far ?_ NB247_249.out _; (with_reducible repeat (first | refine blk_drewN ?_ _ | refine blk_drew ?_ | refine blk_alloc ?_ _)); refine blk_far ?_ NB247_249.out _; (with_reducible repeat (first | refine blk_drewN ?_ _ | refine blk_drew ?_ | refine blk_alloc ?_ _)); refine blk_far ?_ NB247_249.out _; (with_reducible repeat (first | refine blk_drewN ?_ _ | refine blk_drew ?_ | refine blk_alloc ?_ _)); refine blk_far ?_ NB247_249.out _; (with_reducible repeat (first | refine blk_drewN ?_ _ | refine blk_drew ?_ | refine blk_alloc ?_ _)); exact BK247.out) hb); have n1_ := Aside0.mk (blk_below (g := gb248) (o := .cells #[.int .u8 0, .bool false, .int .u8 0, .bool false, .bool false, .bool true, .bool false] 32 (0, 0)) (by (with_reducible repeat (first | refine blk_drewN ?_ _ | refine blk_drew ?_ | refine blk_alloc ?_ _)); refine blk_far ?_ NB248_249.out _; (with_reducible repeat (first | refine blk_drewN ?_ _ | refine blk_drew ?_ | refine blk_alloc ?_ _)); refine blk_far ?_ NB248_249.out _; (with_reducible repeat (first | refine blk_drewN ?_ _ | refine blk_drew ?_ | refine blk_alloc ?_ _)); refine blk_far ?_ NB248_249.out _; (with_reducible repeat (first | refine blk_drewN ?_ _ | refine blk_drew ?_ | refine blk_alloc ?_ _)); refine blk_far ?_ NB248_249.out _; (with_reducible repeat (first | refine blk_drewN ?_ _ | refine blk_drew ?_ | refine blk_alloc ?_ _)); refine blk_far ?_ NB248_249.out _; (with_reducible repeat (first | refine blk_drewN ?_ _ | refine blk_drew ?_ | refine blk_alloc ?_ _)); refine blk_far ?_ NB248_249.out _; (with_reducible repeat (first | refine blk_drewN ?_ _ | refine blk_drew ?_ | refine blk_alloc ?_ _)); refine blk_far ?_ NB248_249.out _; (with_reducible repeat (first | refine blk_drewN ?_ _ | refine blk_drew ?_ | refine blk_alloc ?_ _)); exact BK248.out) hb); have n2_ := Aside0.mk (blk_below (g := gb249) (o := .cells #[.int .u8 0, .bool false, .int .u8 1, .bool false, .bool false, .bool false, .bool false] 32 (0, 0)) (by (with_reducible repeat (first | refine blk_drewN ?_ _ | refine blk_drew ?_ | refine blk_alloc ?_ _)); refine blk_put (cs := #[.int .u8 0, .bool false, .int .u8 1, .bool false, .bool false, .bool false, .bool false]) ?_ 6 _ rfl; (with_reducible repeat (first | refine blk_drewN ?_ _ | refine blk_drew ?_ | refine blk_alloc ?_ _)); refine blk_put (cs := #[.int .u8 0, .bool false, .int .u8 1, .bool false, .bool false, .bool false, .bool false]) ?_ 5 _ rfl; (with_reducible repeat (first | refine blk_drewN ?_ _ | refine blk_drew ?_ | refine blk_alloc ?_ _)); refine blk_put (cs := #[.int .u8 0, .bool false, .int .u8 1, .bool false, .bool false, .bool false, .bool false]) ?_ 4 _ rfl; (with_reducible repeat (first | refine blk_drewN ?_ _ | refine blk_drew ?_ | refine blk_alloc ?_ _)); refine blk_put (cs := #[.int .u8 0, .bool false, .int .u8 1, .bool false, .bool false, .bool false, .bool false]) ?_ 3 _ rfl; (with_reducible repeat (first | refine blk_drewN ?_ _ | refine blk_drew ?_ | refine blk_alloc ?_ _)); refine blk_put (cs := #[.int .u8 0, .bool false, .int .u8 0, .bool false, .bool false, .bool false, .bool false]) ?_ 2 _ rfl; (with_reducible repeat (first | refine blk_drewN ?_ _ | refine blk_drew ?_ | refine blk_alloc ?_ _)); refine blk_put (cs := #[.int .u8 0, .bool false, .int .u8 0, .bool false, .bool false, .bool false, .bool false]) ?_ 1 _ rfl; (with_reducible repeat (first | refine blk_drewN ?_ _ | refine blk_drew ?_ | refine blk_alloc ?_ _)); refine blk_put (cs := #[.int .u8 0, .bool false, .int .u8 0, .bool false, .bool false, .bool false, .bool false]) ?_ 0 _ rfl; (with_reducible repeat (first | refine blk_drewN ?_ _ | refine blk_drew ?_ | refine blk_alloc ?_ _)); exact BK249.out) hb); have n3_ := Aside0.mk (below_step (by repeat (first | (with_reducible first | exact HB.out | apply below_alloc | apply pw_below_drewN | apply below_drew1 | refine below_set ?_ GE247.out | refine below_set ?_ GE248.out | refine below_set ?_ GE249.out) | exact HB.out)) hb); have n4_ := Aside0.mk (hbox); have n5_ := Aside0.mk ((by rw [hg]; exact (below_size (by repeat (first | (with_reducible first | exact HB.out | apply below_alloc | apply pw_below_drewN | apply below_drew1 | refine below_set ?_ GE247.out | refine below_set ?_ GE248.out | refine below_set ?_ GE249.out) | exact HB.out))) : w.heap.size ≤ gb250)); have n6_ := Aside0.mk ((by rw [hg]; exact (below_size (by repeat (first | (with_reducible first | exact HB.out | apply below_alloc | apply pw_below_drewN | apply below_drew1 | refine below_set ?_ GE247.out | refine below_set ?_ GE248.out | refine below_set ?_ GE249.out) | exact HB.out))) : w.heap.size ≤ gb250)); have n7_ := Aside0.mk ((by rw [hg]; exact Nat.ne_of_lt (blk_lt (g := gb247) (o := .cells #[.int .u8 0, .bool false, .int .u8 0, .bool false, .bool false, .bool false, .bool false] 32 (0, 0)) (by (with_reducible repeat (first | refine blk_drewN ?_ _ | refine blk_drew ?_ | refine blk_alloc ?_ _)); refine blk_far ?_ NB247_249.out _; (with_reducible repeat (first | refine blk_drewN ?_ _ | refine blk_drew ?_ | refine blk_alloc ?_ _)); refine blk_far ?_ NB247_249.out _; (with_reducible repeat (first | refine blk_drewN ?_ _ | refine blk_drew ?_ | refine blk_alloc ?_ _)); refine blk_far ?_ NB247_249.out _; (with_reducible repeat (first | refine blk_drewN ?_ _ | refine blk_drew ?_ | refine blk_alloc ?_ _)); refine blk_far ?_ NB247_249.out _; (with_reducible repeat (first | refine blk_drewN ?_ _ | refine blk_drew ?_ | refine blk_alloc ?_ _)); refine blk_far ?_ NB247_249.out _; (with_reducible repeat (first | refine blk_drewN ?_ _ | refine blk_drew ?_ | refine blk_alloc ?_ _)); refine blk_far ?_ NB247_249.out _; (with_reducible repeat (first | refine blk_drewN ?_ _ | refine blk_drew ?_ | refine blk_alloc ?_ _)); refine blk_far ?_ NB247_249.out _; (with_reducible repeat (first | refine blk_drewN ?_ _ | refine blk_drew ?_ | refine blk_alloc ?_ _)); exact BK247.out)) : gb247 ≠ gb250)); have n8_ := Aside0.mk ((by rw [hg]; exact Nat.ne_of_gt (blk_lt (g := gb247) (o := .cells #[.int .u8 0, .bool false, .int .u8 0, .bool false, .bool false, .bool false, .bool false] 32 (0, 0)) (by (with_reducible repeat (first | refine blk_drewN ?_ _ | refine blk_drew ?_ | refine blk_alloc ?_ _)); refine blk_far ?_ NB247_249.out _; (with_reducible repeat (first | refine blk_drewN ?_ _ | refine blk_drew ?_ | refine blk_alloc ?_ _)); refine blk_far ?_ NB247_249.out _; (with_reducible repeat (first | refine blk_drewN ?_ _ | refine blk_drew ?_ | refine blk_alloc ?_ _)); refine blk_far ?_ NB247_249.out _; (with_reducible repeat (first | refine blk_drewN ?_ _ | refine blk_drew ?_ | refine blk_alloc ?_ _)); refine blk_far ?_ NB247_249.out _; (with_reducible repeat (first | refine blk_drewN ?_ _ | refine blk_drew ?_ | refine blk_alloc ?_ _)); refine blk_far ?_ NB247_249.out _; (with_reducible repeat (first | refine blk_drewN ?_ _ | refine blk_drew ?_ | refine blk_alloc ?_ _)); refine blk_far ?_ NB247_249.out _; (with_reducible repeat (first | refine blk_drewN ?_ _ | refine blk_drew ?_ | refine blk_alloc ?_ _)); refine blk_far ?_ NB247_249.out _; (with_reducible repeat (first | refine blk_drewN ?_ _ | refine blk_drew ?_ | refine blk_alloc ?_ _)); exact BK247.out)) : gb250 ≠ gb247)); have n9_ := Aside0.mk ((by rw [hg]; exact Nat.ne_of_lt (blk_lt (g := gb248) (o := .cells #[.int .u8 0, .bool false, .int .u8 0, .bool false, .bool false, .bool true, .bool false] 32 (0, 0)) (by (with_reducible repeat (first | refine blk_drewN ?_ _ | refine blk_drew ?_ | refine blk_alloc ?_ _)); refine blk_far ?_ NB248_249.out _; (with_reducible repeat (first | refine blk_drewN ?_ _ | refine blk_drew ?_ | refine blk_alloc ?_ _)); refine blk_far ?_ NB248_249.out _; (with_reducible repeat (first | refine blk_drewN ?_ _ | refine blk_drew ?_ | refine blk_alloc ?_ _)); refine blk_far ?_ NB248_249.out _; (with_reducible repeat (first | refine blk_drewN ?_ _ | refine blk_drew ?_ | refine blk_alloc ?_ _)); refine blk_far ?_ NB248_249.out _; (with_reducible repeat (first | refine blk_drewN ?_ _ | refine blk_drew ?_ | refine blk_alloc ?_ _)); refine blk_far ?_ NB248_249.out _; (with_reducible repeat (first | refine blk_drewN ?_ _ | refine blk_drew ?_ | refine blk_alloc ?_ _)); refine blk_far ?_ NB248_249.out _; (with_reducible repeat (first | refine blk_drewN ?_ _ | refine blk_drew ?_ | refine blk_alloc ?_ _)); refine blk_far ?_ NB248_249.out _; (with_reducible repeat (first | refine blk_drewN ?_ _ | refine blk_drew ?_ | refine blk_alloc ?_ _)); exact BK248.out)) : gb248 ≠ gb250)); have n10_ := Aside0.mk ((by rw [hg]; exact Nat.ne_of_gt (blk_lt (g := gb248) (o := .cells #[.int .u8 0, .bool false, .int .u8 0, .bool false, .bool false, .bool true, .bool false] 32 (0, 0)) (by (with_reducible repeat (first | refine blk_drewN ?_ _ | refine blk_drew ?_ | refine blk_alloc ?_ _)); refine blk_far ?_ NB248_249.out _; (with_reducible repeat (first | refine blk_drewN ?_ _ | refine blk_drew ?_ | refine blk_alloc ?_ _)); refine blk_far ?_ NB248_249.out _; (with_reducible repeat (first | refine blk_drewN ?_ _ | refine blk_drew ?_ | refine blk_alloc ?_ _)); refine blk_far ?_ NB248_249.out _; (with_reducible repeat (first | refine blk_drewN ?_ _ | refine blk_drew ?_ | refine blk_alloc ?_ _)); refine blk_far ?_ NB248_249.out _; (with_reducible repeat (first | refine blk_drewN ?_ _ | refine blk_drew ?_ | refine blk_alloc ?_ _)); refine blk_far ?_ NB248_249.out _; (with_reducible repeat (first | refine blk_drewN ?_ _ | refine blk_drew ?_ | refine blk_alloc ?_ _)); refine blk_far ?_ NB248_249.out _; (with_reducible repeat (first | refine blk_drewN ?_ _ | refine blk_drew ?_ | refine blk_alloc ?_ _)); refine blk_far ?_ NB248_249.out _; (with_reducible repeat (first | refine blk_drewN ?_ _ | refine blk_drew ?_ | refine blk_alloc ?_ _)); exact BK248.out)) : gb250 ≠ gb248)); have n11_ := Aside0.mk ((by rw [hg]; exact Nat.ne_of_lt (blk_lt (g := gb249) (o := .cells #[.int .u8 0, .bool false, .int .u8 1, .bool false, .bool false, .bool false, .bool false] 32 (0, 0)) (by (with_reducible repeat (first | refine blk_drewN ?_ _ | refine blk_drew ?_ | refine blk_alloc ?_ _)); refine blk_put (cs := #[.int .u8 0, .bool false, .int .u8 1, .bool false, .bool false, .bool false, .bool false]) ?_ 6 _ rfl; (with_reducible repeat (first | refine blk_drewN ?_ _ | refine blk_drew ?_ | refine blk_alloc ?_ _)); refine blk_put (cs := #[.int .u8 0, .bool false, .int .u8 1, .bool false, .bool false, .bool false, .bool false]) ?_ 5 _ rfl; (with_reducible repeat (first | refine blk_drewN ?_ _ | refine blk_drew ?_ | refine blk_alloc ?_ _)); refine blk_put (cs := #[.int .u8 0, .bool false, .int .u8 1, .bool false, .bool false, .bool false, .bool false]) ?_ 4 _ rfl; (with_reducible repeat (first | refine blk_drewN ?_ _ | refine blk_drew ?_ | refine blk_alloc ?_ _)); refine blk_put (cs := #[.int .u8 0, .bool false, .int .u8 1, .bool false, .bool false, .bool false, .bool false]) ?_ 3 _ rfl; (with_reducible repeat (first | refine blk_drewN ?_ _ | refine blk_drew ?_ | refine blk_alloc ?_ _)); refine blk_put (cs := #[.int .u8 0, .bool false, .int .u8 0, .bool false, .bool false, .bool false, .bool false]) ?_ 2 _ rfl; (with_reducible repeat (first | refine blk_drewN ?_ _ | refine blk_drew ?_ | refine blk_alloc ?_ _)); refine blk_put (cs := #[.int .u8 0, .bool false, .int .u8 0, .bool false, .bool false, .bool false, .bool false]) ?_ 1 _ rfl; (with_reducible repeat (first | refine blk_drewN ?_ _ | refine blk_drew ?_ | refine blk_alloc ?_ _)); refine blk_put (cs := #[.int .u8 0, .bool false, .int .u8 0, .bool false, .bool false, .bool false, .bool false]) ?_ 0 _ rfl; (with_reducible repeat (first | refine blk_drewN ?_ _ | refine blk_drew ?_ | refine blk_alloc ?_ _)); exact BK249.out)) : gb249 ≠ gb250)); have n12_ := Aside0.mk ((by rw [hg]; exact Nat.ne_of_gt (blk_lt (g := gb249) (o := .cells #[.int .u8 0, .bool false, .int .u8 1, .bool false, .bool false, .bool false, .bool false] 32 (0, 0)) (by (with_reducible repeat (first | refine blk_drewN ?_ _ | refine blk_drew ?_ | refine blk_alloc ?_ _)); refine blk_put (cs := #[.int .u8 0, .bool false, .int .u8 1, .bool false, .bool false, .bool false, .bool false]) ?_ 6 _ rfl; (with_reducible repeat (first | refine blk_drewN ?_ _ | refine blk_drew ?_ | refine blk_alloc ?_ _)); refine blk_put (cs := #[.int .u8 0, .bool false, .int .u8 1, .bool false, .bool false, .bool false, .bool false]) ?_ 5 _ rfl; (with_reducible repeat (first | refine blk_drewN ?_ _ | refine blk_drew ?_ | refine blk_alloc ?_ _)); refine blk_put (cs := #[.int .u8 0, .bool false, .int .u8 1, .bool false, .bool false, .bool false, .bool false]) ?_ 4 _ rfl; (with_reducible repeat (first | refine blk_drewN ?_ _ | refine blk_drew ?_ | refine blk_alloc ?_ _)); refine blk_put (cs := #[.int .u8 0, .bool false, .int .u8 1, .bool false, .bool false, .bool false, .bool false]) ?_ 3 _ rfl; (with_reducible repeat (first | refine blk_drewN ?_ _ | refine blk_drew ?_ | refine blk_alloc ?_ _)); refine blk_put (cs := #[.int .u8 0, .bool false, .int .u8 0, .bool false, .bool false, .bool false, .bool false]) ?_ 2 _ rfl; (with_reducible repeat (first | refine blk_drewN ?_ _ | refine blk_drew ?_ | refine blk_alloc ?_ _)); refine blk_put (cs := #[.int .u8 0, .bool false, .int .u8 0, .bool false, .bool false, .bool false, .bool false]) ?_ 1 _ rfl; (with_reducible repeat (first | refine blk_drewN ?_ _ | refine blk_drew ?_ | refine blk_alloc ?_ _)); refine blk_put (cs := #[.int .u8 0, .bool false, .int .u8 0, .bool false, .bool false, .bool false, .bool false]) ?_ 0 _ rfl; (with_reducible repeat (first | refine blk_drewN ?_ _ | refine blk_drew ?_ | refine blk_alloc ?_ _)); exact BK249.out)) : gb250 ≠ gb249)); clear BK247; clear BK248; clear BK249; clear HB; have BK247 := n0_; have BK248 := n1_; have BK249 := n2_; have HB := n3_; have BK250 := n4_; have GW250 := n5_; have GE250 := n6_; have NB247_250 := n7_; have NB250_247 := n8_; have NB248_250 := n9_; have NB250_248 := n10_; have NB249_250 := n11_; have NB250_249 := n12_; clear n0_ n1_ n2_ n3_ n4_ n5_ n6_ n7_ n8_ n9_ n10_ n11_ n12_; clear hb hbox hg; have hnb31 := NB250_247.out; have hnc31 := NB247_250.out; have hnb32 := NB250_248.out; have hnc32 := NB248_250.out; have hnb33 := NB250_249.out; have hnc33 := NB249_250.out; have hcz34_0 : w30.cell? ⟨gb250, 0, none⟩ = some (.int .u8 0) := (blk_cell BK250.out 0).trans rfl; have hcz34_1 : w30.cell? ⟨gb250, 1, none⟩ = some (.bool false) := (blk_cell BK250.out 1).trans rfl; have hcz34_2 : w30.cell? ⟨gb250, 2, none⟩ = some (.int .u8 0) := (blk_cell BK250.out 2).trans rfl; have hcz34_3 : w30.cell? ⟨gb250, 3, none⟩ = some (.bool false) := (blk_cell BK250.out 3).trans rfl; have hcz34_4 : w30.cell? ⟨gb250, 4, none⟩ = some (.bool false) := (blk_cell BK250.out 4).trans rfl; have hcz34_5 : w30.cell? ⟨gb250, 5, none⟩ = some (.bool false) := (blk_cell BK250.out 5).trans rfl; have hcz34_6 : w30.cell? ⟨gb250, 6, none⟩ = some (.bool false) := (blk_cell BK250.out 6).trans rfl; have hfz34_0 := blk_frozen BK250.out 0; have hfz34_1 := blk_frozen BK250.out 1; have hfz34_2 := blk_frozen BK250.out 2; have hfz34_3 := blk_frozen BK250.out 3; have hfz34_4 := blk_frozen BK250.out 4; have hfz34_5 := blk_frozen BK250.out 5; have hfz34_6 := blk_frozen BK250.out 6) | ((with_reducible refine gate_dst (N := 5) rfl ?_); refine box_event ?hg (N := 5) ?hd (cs := #[.int .u8 0, .bool false, .int .u8 0, .bool false, .bool false, .bool false, .bool false]) (t := 32) ?hr ?_; (case hd => rfl); (case hg => rfl); (case hr => first | (go_simp; done) | (go_simp; rfl)); intro gb251 hg w35 hbox hb; have n0_ := Aside0.mk (blk_below (g := gb247) (o := .cells #[.int .u8 0, .bool false, .int .u8 0, .bool false, .bool false, .bool false, .bool false] 32 (0, 0)) (by (with_reducible repeat (first | refine blk_drewN ?_ _ | refine blk_drew ?_ | refine blk_alloc ?_ _)); refine blk_far ?_ NB247_250.out _; (with_reducible repeat (first | refine blk_drewN ?_ _ | refine blk_drew ?_ | refine blk_alloc ?_ _)); refine blk_far ?_ NB247_250.out _; (with_reducible repeat (first | refine blk_drewN ?_ _ | refine blk_drew ?_ | refine blk_alloc ?_ _)); refine blk_far ?_ NB247_250.out _; (with_reducible repeat (first | refine blk_drewN ?_ _ | refine blk_drew ?_ | refine blk_alloc ?_ _)); refine blk_far ?_ NB247_250.out _; (with_reducible repeat (first | refine blk_drewN ?_ _ | refine blk_drew ?_ | refine blk_alloc ?_ _)); refine blk_far ?_ NB247_250.out _; (with_reducible repeat (first | refine blk_drewN ?_ _ | refine blk_drew ?_ | refine blk_alloc ?_ _)); refine blk_far ?_ NB247_250.out _; (with_reducible repeat (first | refine blk_drewN ?_ _ | refine blk_drew ?_ | refine blk_alloc ?_ _)); refine blk_far ?_ NB247_250.out _; (with_reducible repeat (first | refine blk_drewN ?_ _ | refine blk_drew ?_ | refine blk_alloc ?_ _)); exact BK247.out) hb); have n1_ := Aside0.mk (blk_below (g := gb248) (o := .cells #[.int .u8 0, .bool false, .int .u8 0, .bool false, .bool false, .bool true, .bool false] 32 (0, 0)) (by (with_reducible repeat (first | refine blk_drewN ?_ _ | refine blk_drew ?_ | refine blk_alloc ?_ _)); refine blk_far ?_ NB248_250.out _; (with_reducible repeat (first | refine blk_drewN ?_ _ | refine blk_drew ?_ | refine blk_alloc ?_ _)); refine blk_far ?_ NB248_250.out _; (with_reducible repeat (first | refine blk_drewN ?_ _ | refine blk_drew ?_ | refine blk_alloc ?_ _)); refine blk_far ?_ NB248_250.out _; (with_reducible repeat (first | refine blk_drewN ?_ _ | refine blk_drew ?_ | refine blk_alloc ?_ _)); refine blk_far ?_ NB248_250.out _; (with_reducible repeat (first | refine blk_drewN ?_ _ | refine blk_drew ?_ | refine blk_alloc ?_ _)); refine blk_far ?_ NB248_250.out _; (with_reducible repeat (first | refine blk_drewN ?_ _ | refine blk_drew ?_ | refine blk_alloc ?_ _)); refine blk_far ?_ NB248_250.out _; (with_reducible repeat (first | refine blk_drewN ?_ _ | refine blk_drew ?_ | refine blk_alloc ?_ _)); refine blk_far ?_ NB248_250.out _; (with_reducible repeat (first | refine blk_drewN ?_ _ | refine blk_drew ?_ | refine blk_alloc ?_ _)); exact BK248.out) hb); have n2_ := Aside0.mk (blk_below (g := gb249) (o := .cells #[.int .u8 0, .bool false, .int .u8 1, .bool false, .bool false, .bool false, .bool false] 32 (0, 0)) (by (with_reducible repeat (first | refine blk_drewN ?_ _ | refine blk_drew ?_ | refine blk_alloc ?_ _)); refine blk_far ?_ NB249_250.out _; (with_reducible repeat (first | refine blk_drewN ?_ _ | refine blk_drew ?_ | refine blk_alloc ?_ _)); refine blk_far ?_ NB249_250.out _; (with_reducible repeat (first | refine blk_drewN ?_ _ | refine blk_drew ?_ | refine blk_alloc ?_ _)); refine blk_far ?_ NB249_250.out _; (with_reducible repeat (first | refine blk_drewN ?_ _ | refine blk_drew ?_ | refine blk_alloc ?_ _)); refine blk_far ?_ NB249_250.out _; (with_reducible repeat (first | refine blk_drewN ?_ _ | refine blk_drew ?_ | refine blk_alloc ?_ _)); refine blk_far ?_ NB249_250.out _; (with_reducible repeat (first | refine blk_drewN ?_ _ | refine blk_drew ?_ | refine blk_alloc ?_ _)); refine blk_far ?_ NB249_250.out _; (with_reducible repeat (first | refine blk_drewN ?_ _ | refine blk_drew ?_ | refine blk_alloc ?_ _)); refine blk_far ?_ NB249_250.out _; (with_reducible repeat (first | refine blk_drewN ?_ _ | refine blk_drew ?_ | refine blk_alloc ?_ _)); exact BK249.out) hb); have n3_ := Aside0.mk (blk_below (g := gb250) (o := .cells #[.int .u8 0, .bool false, .int .u8 1, .bool false, .bool true, .bool false, .bool false] 32 (0, 0)) (by (with_reducible repeat (first | refine blk_drewN ?_ _ | refine blk_drew ?_ | refine blk_alloc ?_ _)); refine blk_put (cs := #[.int .u8 0, .bool false, .int .u8 1, .bool false, .bool true, .bool false, .bool false]) ?_ 6 _ rfl; (with_reducible repeat (first | refine blk_drewN ?_ _ | refine blk_drew ?_ | refine blk_alloc ?_ _)); refine blk_put (cs := #[.int .u8 0, .bool false, .int .u8 1, .bool false, .bool true, .bool false, .bool false]) ?_ 5 _ rfl; (with_reducible repeat (first | refine blk_drewN ?_ _ | refine blk_drew ?_ | refine blk_alloc ?_ _)); refine blk_put (cs := #[.int .u8 0, .bool false, .int .u8 1, .bool false, .bool false, .bool false, .bool false]) ?_ 4 _ rfl; (with_reducible repeat (first | refine blk_drewN ?_ _ | refine blk_drew ?_ | refine blk_alloc ?_ _)); refine blk_put (cs := #[.int .u8 0, .bool false, .int .u8 1, .bool false, .bool false, .bool false, .bool false]) ?_ 3 _ rfl; (with_reducible repeat (first | refine blk_drewN ?_ _ | refine blk_drew ?_ | refine blk_alloc ?_ _)); refine blk_put (cs := #[.int .u8 0, .bool false, .int .u8 0, .bool false, .bool false, .bool false, .bool false]) ?_ 2 _ rfl; (with_reducible repeat (first | refine blk_drewN ?_ _ | refine blk_drew ?_ | refine blk_alloc ?_ _)); refine blk_put (cs := #[.int .u8 0, .bool false, .int .u8 0, .bool false, .bool false, .bool false, .bool false]) ?_ 1 _ rfl; (with_reducible repeat (first | refine blk_drewN ?_ _ | refine blk_drew ?_ | refine blk_alloc ?_ _)); refine blk_put (cs := #[.int .u8 0, .bool false, .int .u8 0, .bool false, .bool false, .bool false, .bool false]) ?_ 0 _ rfl; (with_reducible repeat (first | refine blk_drewN ?_ _ | refine blk_drew ?_ | refine blk_alloc ?_ _)); exact BK250.out) hb); have n4_ := Aside0.mk (below_step (by repeat (first | (with_reducible first | exact HB.out | apply below_alloc | apply pw_below_drewN | apply below_drew1 | refine below_set ?_ GE247.out | refine below_set ?_ GE248.out | refine below_set ?_ GE249.out | refine below_set ?_ GE250.out) | exact HB.out)) hb); have n5_ := Aside0.mk (hbox); have n6_ := Aside0.mk ((by rw [hg]; exact (below_size (by repeat (first | (with_reducible first | exact HB.out | apply below_alloc | apply pw_below_drewN | apply below_drew1 | refine below_set ?_ GE247.out | refine below_set ?_ GE248.out | refine below_set ?_ GE249.out | refine below_set ?_ GE250.out) | exact HB.out))) : w.heap.size ≤ gb251)); have n7_ := Aside0.mk ((by rw [hg]; exact (below_size (by repeat (first | (with_reducible first | exact HB.out | apply below_alloc | apply pw_below_drewN | apply below_drew1 | refine below_set ?_ GE247.out | refine below_set ?_ GE248.out | refine below_set ?_ GE249.out | refine below_set ?_ GE250.out) | exact HB.out))) : w.heap.size ≤ gb251)); have n8_ := Aside0.mk ((by rw [hg]; exact Nat.ne_of_lt (blk_lt (g := gb247) (o := .cells #[.int .u8 0, .bool false, .int .u8 0, .bool false, .bool false, .bool false, .bool false] 32 (0, 0)) (by (with_reducible repeat (first | refine blk_drewN ?_ _ | refine blk_drew ?_ | refine blk_alloc ?_ _)); refine blk_far ?_ NB247_250.out _; (with_reducible repeat (first | refine blk_drewN ?_ _ | refine blk_drew ?_ | refine blk_alloc ?_ _)); refine blk_far ?_ NB247_250.out _; (with_reducible repeat (first | refine blk_drewN ?_ _ | refine blk_drew ?_ | refine blk_alloc ?_ _)); refine blk_far ?_ NB247_250.out _; (with_reducible repeat (first | refine blk_drewN ?_ _ | refine blk_drew ?_ | refine blk_alloc ?_ _)); refine blk_far ?_ NB247_250.out _; (with_reducible repeat (first | refine blk_drewN ?_ _ | refine blk_drew ?_ | refine blk_alloc ?_ _)); refine blk_far ?_ NB247_250.out _; (with_reducible repeat (first | refine blk_drewN ?_ _ | refine blk_drew ?_ | refine blk_alloc ?_ _)); refine blk_far ?_ NB247_250.out _; (with_reducible repeat (first | refine blk_drewN ?_ _ | refine blk_drew ?_ | refine blk_alloc ?_ _)); refine blk_far ?_ NB247_250.out _; (with_reducible repeat (first | refine blk_drewN ?_ _ | refine blk_drew ?_ | refine blk_alloc ?_ _)); exact BK247.out)) : gb247 ≠ gb251)); have n9_ := Aside0.mk ((by rw [hg]; exact Nat.ne_of_gt (blk_lt (g := gb247) (o := .cells #[.int .u8 0, .bool false, .int .u8 0, .bool false, .bool false, .bool false, .bool false] 32 (0, 0)) (by (with_reducible repeat (first | refine blk_drewN ?_ _ | refine blk_drew ?_ | refine blk_alloc ?_ _)); refine blk_far ?_ NB247_250.out _; (with_reducible repeat (first | refine blk_drewN ?_ _ | refine blk_drew ?_ | refine blk_alloc ?_ _)); refine blk_far ?_ NB247_250.out _; (with_reducible repeat (first | refine blk_drewN ?_ _ | refine blk_drew ?_ | refine blk_alloc ?_ _)); refine blk_far ?_ NB247_250.out _; (with_reducible repeat (first | refine blk_drewN ?_ _ | refine blk_drew ?_ | refine blk_alloc ?_ _)); refine blk_far ?_ NB247_250.out _; (with_reducible repeat (first | refine blk_drewN ?_ _ | refine blk_drew ?_ | refine blk_alloc ?_ _)); refine blk_far ?_ NB247_250.out _; (with_reducible repeat (first | refine blk_drewN ?_ _ | refine blk_drew ?_ | refine blk_alloc ?_ _)); refine blk_far ?_ NB247_250.out _; (with_reducible repeat (first | refine blk_drewN ?_ _ | refine blk_drew ?_ | refine blk_alloc ?_ _)); refine blk_far ?_ NB247_250.out _; (with_reducible repeat (first | refine blk_drewN ?_ _ | refine blk_drew ?_ | refine blk_alloc ?_ _)); exact BK247.out)) : gb251 ≠ gb247)); have n10_ := Aside0.mk ((by rw [hg]; exact Nat.ne_of_lt (blk_lt (g := gb248) (o := .cells #[.int .u8 0, .bool false, .int .u8 0, .bool false, .bool false, .bool true, .bool false] 32 (0, 0)) (by (with_reducible repeat (first | refine blk_drewN ?_ _ | refine blk_drew ?_ | refine blk_alloc ?_ _)); refine blk_far ?_ NB248_250.out _; (with_reducible repeat (first | refine blk_drewN ?_ _ | refine blk_drew ?_ | refine blk_alloc ?_ _)); refine blk_far ?_ NB248_250.out _; (with_reducible repeat (first | refine blk_drewN ?_ _ | refine blk_drew ?_ | refine blk_alloc ?_ _)); refine blk_far ?_ NB248_250.out _; (with_reducible repeat (first | refine blk_drewN ?_ _ | refine blk_drew ?_ | refine blk_alloc ?_ _)); refine blk_far ?_ NB248_250.out _; (with_reducible repeat (first | refine blk_drewN ?_ _ | refine blk_drew ?_ | refine blk_alloc ?_ _)); refine blk_far ?_ NB248_250.out _; (with_reducible repeat (first | refine blk_drewN ?_ _ | refine blk_drew ?_ | refine blk_alloc ?_ _)); refine blk_far ?_ NB248_250.out _; (with_reducible repeat (first | refine blk_drewN ?_ _ | refine blk_drew ?_ | refine blk_alloc ?_ _)); refine blk_far ?_ NB248_250.out _; (with_reducible repeat (first | refine blk_drewN ?_ _ | refine blk_drew ?_ | refine blk_alloc ?_ _)); exact BK248.out)) : gb248 ≠ gb251)); have n11_ := Aside0.mk ((by rw [hg]; exact Nat.ne_of_gt (blk_lt (g := gb248) (o := .cells #[.int .u8 0, .bool false, .int .u8 0, .bool false, .bool false, .bool true, .bool false] 32 (0, 0)) (by (with_reducible repeat (first | refine blk_drewN ?_ _ | refine blk_drew ?_ | refine blk_alloc ?_ _)); refine blk_far ?_ NB248_250.out _; (with_reducible repeat (first | refine blk_drewN ?_ _ | refine blk_drew ?_ | refine blk_alloc ?_ _)); refine blk_far ?_ NB248_250.out _; (with_reducible repeat (first | refine blk_drewN ?_ _ | refine blk_drew ?_ | refine blk_alloc ?_ _)); refine blk_far ?_ NB248_250.out _; (with_reducible repeat (first | refine blk_drewN ?_ _ | refine blk_drew ?_ | refine blk_alloc ?_ _)); refine blk_far ?_ NB248_250.out _; (with_reducible repeat (first | refine blk_drewN ?_ _ | refine blk_drew ?_ | refine blk_alloc ?_ _)); refine blk_far ?_ NB248_250.out _; (with_reducible repeat (first | refine blk_drewN ?_ _ | refine blk_drew ?_ | refine blk_alloc ?_ _)); refine blk_far ?_ NB248_250.out _; (with_reducible repeat (first | refine blk_drewN ?_ _ | refine blk_drew ?_ | refine blk_alloc ?_ _)); refine blk_far ?_ NB248_250.out _; (with_reducible repeat (first | refine blk_drewN ?_ _ | refine blk_drew ?_ | refine blk_alloc ?_ _)); exact BK248.out)) : gb251 ≠ gb248)); have n12_ := Aside0.mk ((by rw [hg]; exact Nat.ne_of_lt (blk_lt (g := gb249) (o := .cells #[.int .u8 0, .bool false, .int .u8 1, .bool false, .bool false, .bool false, .bool false] 32 (0, 0)) (by (with_reducible repeat (first | refine blk_drewN ?_ _ | refine blk_drew ?_ | refine blk_alloc ?_ _)); refine blk_far ?_ NB249_250.out _; (with_reducible repeat (first | refine blk_drewN ?_ _ | refine blk_drew ?_ | refine blk_alloc ?_ _)); refine blk_far ?_ NB249_250.out _; (with_reducible repeat (first | refine blk_drewN ?_ _ | refine blk_drew ?_ | refine blk_alloc ?_ _)); refine blk_far ?_ NB249_250.out _; (with_reducible repeat (first | refine blk_drewN ?_ _ | refine blk_drew ?_ | refine blk_alloc ?_ _)); refine blk_far ?_ NB249_250.out _; (with_reducible repeat (first | refine blk_drewN ?_ _ | refine blk_drew ?_ | refine blk_alloc ?_ _)); refine blk_far ?_ NB249_250.out _; (with_reducible repeat (first | refine blk_drewN ?_ _ | refine blk_drew ?_ | refine blk_alloc ?_ _)); refine blk_far ?_ NB249_250.out _; (with_reducible repeat (first | refine blk_drewN ?_ _ | refine blk_drew ?_ | refine blk_alloc ?_ _)); refine blk_far ?_ NB249_250.out _; (with_reducible repeat (first | refine blk_drewN ?_ _ | refine blk_drew ?_ | refine blk_alloc ?_ _)); exact BK249.out)) : gb249 ≠ gb251)); have n13_ := Aside0.mk ((by rw [hg]; exact Nat.ne_of_gt (blk_lt (g := gb249) (o := .cells #[.int .u8 0, .bool false, .int .u8 1, .bool false, .bool false, .bool false, .bool false] 32 (0, 0)) (by (with_reducible repeat (first | refine blk_drewN ?_ _ | refine blk_drew ?_ | refine blk_alloc ?_ _)); refine blk_far ?_ NB249_250.out _; (with_reducible repeat (first | refine blk_drewN ?_ _ | refine blk_drew ?_ | refine blk_alloc ?_ _)); refine blk_far ?_ NB249_250.out _; (with_reducible repeat (first | refine blk_drewN ?_ _ | refine blk_drew ?_ | refine blk_alloc ?_ _)); refine blk_far ?_ NB249_250.out _; (with_reducible repeat (first | refine blk_drewN ?_ _ | refine blk_drew ?_ | refine blk_alloc ?_ _)); refine blk_far ?_ NB249_250.out _; (with_reducible repeat (first | refine blk_drewN ?_ _ | refine blk_drew ?_ | refine blk_alloc ?_ _)); refine blk_far ?_ NB249_250.out _; (with_reducible repeat (first | refine blk_drewN ?_ _ | refine blk_drew ?_ | refine blk_alloc ?_ _)); refine blk_far ?_ NB249_250.out _; (with_reducible repeat (first | refine blk_drewN ?_ _ | refine blk_drew ?_ | refine blk_alloc ?_ _)); refine blk_far ?_ NB249_250.out _; (with_reducible repeat (first | refine blk_drewN ?_ _ | refine blk_drew ?_ | refine blk_alloc ?_ _)); exact BK249.out)) : gb251 ≠ gb249)); have n14_ := Aside0.mk ((by rw [hg]; exact Nat.ne_of_lt (blk_lt (g := gb250) (o := .cells #[.int .u8 0, .bool false, .int .u8 1, .bool false, .bool true, .bool false, .bool false] 32 (0, 0)) (by (with_reducible repeat (first | refine blk_drewN ?_ _ | refine blk_drew ?_ | refine blk_alloc ?_ _)); refine blk_put (cs := #[.int .u8 0, .bool false, .int .u8 1, .bool false, .bool true, .bool false, .bool false]) ?_ 6 _ rfl; (with_reducible repeat (first | refine blk_drewN ?_ _ | refine blk_drew ?_ | refine blk_alloc ?_ _)); refine blk_put (cs := #[.int .u8 0, .bool false, .int .u8 1, .bool false, .bool true, .bool false, .bool false]) ?_ 5 _ rfl; (with_reducible repeat (first | refine blk_drewN ?_ _ | refine blk_drew ?_ | refine blk_alloc ?_ _)); refine blk_put (cs := #[.int .u8 0, .bool false, .int .u8 1, .bool false, .bool false, .bool false, .bool false]) ?_ 4 _ rfl; (with_reducible repeat (first | refine blk_drewN ?_ _ | refine blk_drew ?_ | refine blk_alloc ?_ _)); refine blk_put (cs := #[.int .u8 0, .bool false, .int .u8 1, .bool false, .bool false, .bool false, .bool false]) ?_ 3 _ rfl; (with_reducible repeat (first | refine blk_drewN ?_ _ | refine blk_drew ?_ | refine blk_alloc ?_ _)); refine blk_put (cs := #[.int .u8 0, .bool false, .int .u8 0, .bool false, .bool false, .bool false, .bool false]) ?_ 2 _ rfl; (with_reducible repeat (first | refine blk_drewN ?_ _ | refine blk_drew ?_ | refine blk_alloc ?_ _)); refine blk_put (cs := #[.int .u8 0, .bool false, .int .u8 0, .bool false, .bool false, .bool false, .bool false]) ?_ 1 _ rfl; (with_reducible repeat (first | refine blk_drewN ?_ _ | refine blk_drew ?_ | refine blk_alloc ?_ _)); refine blk_put (cs := #[.int .u8 0, .bool false, .int .u8 0, .bool false, .bool false, .bool false, .bool false]) ?_ 0 _ rfl; (with_reducible repeat (first | refine blk_drewN ?_ _ | refine blk_drew ?_ | refine blk_alloc ?_ _)); exact BK250.out)) : gb250 ≠ gb251)); have n15_ := Aside0.mk ((by rw [hg]; exact Nat.ne_of_gt (blk_lt (g := gb250) (o := .cells #[.int .u8 0, .bool false, .int .u8 1, .bool false, .bool true, .bool false, .bool false] 32 (0, 0)) (by (with_reducible repeat (first | refine blk_drewN ?_ _ | refine blk_drew ?_ | refine blk_alloc ?_ _)); refine blk_put (cs := #[.int .u8 0, .bool false, .int .u8 1, .bool false, .bool true, .bool false, .bool false]) ?_ 6 _ rfl; (with_reducible repeat (first | refine blk_drewN ?_ _ | refine blk_drew ?_ | refine blk_alloc ?_ _)); refine blk_put (cs := #[.int .u8 0, .bool false, .int .u8 1, .bool false, .bool true, .bool false, .bool false]) ?_ 5 _ rfl; (with_reducible repeat (first | refine blk_drewN ?_ _ | refine blk_drew ?_ | refine blk_alloc ?_ _)); refine blk_put (cs := #[.int .u8 0, .bool false, .int .u8 1, .bool false, .bool false, .bool false, .bool false]) ?_ 4 _ rfl; (with_reducible repeat (first | refine blk_drewN ?_ _ | refine blk_drew ?_ | refine blk_alloc ?_ _)); refine blk_put (cs := #[.int .u8 0, .bool false, .int .u8 1, .bool false, .bool false, .bool false, .bool false]) ?_ 3 _ rfl; (with_reducible repeat (first | refine blk_drewN ?_ _ | refine blk_drew ?_ | refine blk_alloc ?_ _)); refine blk_put (cs := #[.int .u8 0, .bool false, .int .u8 0, .bool false, .bool false, .bool false, .bool false]) ?_ 2 _ rfl; (with_reducible repeat (first | refine blk_drewN ?_ _ | refine blk_drew ?_ | refine blk_alloc ?_ _)); refine blk_put (cs := #[.int .u8 0, .bool false, .int .u8 0, .bool false, .bool false, .bool false, .bool false]) ?_ 1 _ rfl; (with_reducible repeat (first | refine blk_drewN ?_ _ | refine blk_drew ?_ | refine blk_alloc ?_ _)); refine blk_put (cs := #[.int .u8 0, .bool false, .int .u8 0, .bool false, .bool false, .bool false, .bool false]) ?_ 0 _ rfl; (with_reducible repeat (first | refine blk_drewN ?_ _ | refine blk_drew ?_ | refine blk_alloc ?_ _)); exact BK250.out)) : gb251 ≠ gb250)); clear BK247; clear BK248; clear BK249; clear BK250; clear HB; have BK247 := n0_; have BK248 := n1_; have BK249 := n2_; have BK250 := n3_; have HB := n4_; have BK251 := n5_; have GW251 := n6_; have GE251 := n7_; have NB247_251 := n8_; have NB251_247 := n9_; have NB248_251 := n10_; have NB251_248 := n11_; have NB249_251 := n12_; have NB251_249 := n13_; have NB250_251 := n14_; have NB251_250 := n15_; clear n0_ n1_ n2_ n3_ n4_ n5_ n6_ n7_ n8_ n9_ n10_ n11_ n12_ n13_ n14_ n15_; clear hb hbox hg; have hnb36 := NB251_247.out; have hnc36 := NB247_251.out; have hnb37 := NB251_248.out; have hnc37 := NB248_251.out; have hnb38 := NB251_249.out; have hnc38 := NB249_251.out; have hnb39 := NB251_250.out; have hnc39 := NB250_251.out; have hcz40_0 : w35.cell? ⟨gb251, 0, none⟩ = some (.int .u8 0) := (blk_cell BK251.out 0).trans rfl; have hcz40_1 : w35.cell? ⟨gb251, 1, none⟩ = some (.bool false) := (blk_cell BK251.out 1).trans rfl; have hcz40_2 : w35.cell? ⟨gb251, 2, none⟩ = some (.int .u8 0) := (blk_cell BK251.out 2).trans rfl; have hcz40_3 : w35.cell? ⟨gb251, 3, none⟩ = some (.bool false) := (blk_cell BK251.out 3).trans rfl; have hcz40_4 : w35.cell? ⟨gb251, 4, none⟩ = some (.bool false) := (blk_cell BK251.out 4).trans rfl; have hcz40_5 : w35.cell? ⟨gb251, 5, none⟩ = some (.bool false) := (blk_cell BK251.out 5).trans rfl; have hcz40_6 : w35.cell? ⟨gb251, 6, none⟩ = some (.bool false) := (blk_cell BK251.out 6).trans rfl; have hfz40_0 := blk_frozen BK251.out 0; have hfz40_1 := blk_frozen BK251.out 1; have hfz40_2 := blk_frozen BK251.out 2; have hfz40_3 := blk_frozen BK251.out 3; have hfz40_4 := blk_frozen BK251.out 4; have hfz40_5 := blk_frozen BK251.out 5; have hfz40_6 := blk_frozen BK251.out 6))
        (try simp only [Act.put, List.setIfInBounds_toArray, List.set_cons_zero, List.set_cons_succ])
        go_cut [72] (fun v72 wc => ∃ (kq : Nat) (x72_19 : Bool), v72 = .bool x72_19 ∧ Aside0 (mezzaninelaw15_PteKnown.j1 kq x72_19 0 false 1 false false false false = some r) ∧ Aside0 (kq ≤ kj0) ∧ Aside0 (wc.heap[gb247]? = some (.cells #[.int .u8 0, .bool false, .int .u8 0, .bool false, .bool false, .bool false, .bool false] 32 (0, 0))) ∧ Aside0 (wc.heap[gb248]? = some (.cells #[.int .u8 0, .bool false, .int .u8 0, .bool false, .bool false, .bool true, .bool false] 32 (0, 0))) ∧ Aside0 (wc.heap[gb249]? = some (.cells #[.int .u8 0, .bool false, .int .u8 1, .bool false, .bool false, .bool false, .bool false] 32 (0, 0))) ∧ Aside0 (wc.heap[gb250]? = some (.cells #[.int .u8 0, .bool false, .int .u8 1, .bool false, .bool true, .bool false, .bool false] 32 (0, 0))) ∧ Aside0 (wc.heap[gb251]? = some (.cells #[.int .u8 2, .bool false, .int .u8 1, .bool false, .bool true, .bool false, .bool false] 32 (0, 0))) ∧ Aside0 (Below w.heap.size w wc))
        case first =>
          have H := HC20.out
          clear HC20
          replace H := Option.bind_eq_some_iff.mp H
          obtain ⟨t252, A410, H⟩ := H
          replace H : (if t252 = true then ((pte_Allowed.f 3 0 false 0 false false false false).bind fun t253 => (if t253 = true then (mezzaninelaw15_PteKnown.j1 kj0 true 0 false 1 false false false false) else ((pte_Allowed.f 25 0 false 0 false false false false).bind fun t254 => (if t254 = true then (mezzaninelaw15_PteKnown.j1 kj0 true 0 false 1 false false false false) else ((pte_Allowed.f 25 0 false 0 false false true false).bind fun t255 => (if t255 = true then ((pte_Allowed.f 19 0 false 1 false false false false).bind fun t256 => (if t256 = true then (mezzaninelaw15_PteKnown.j1 kj0 true 0 false 1 false false false false) else ((pte_Allowed.f 19 0 false 1 false true false false).bind fun t257 => (if t257 = true then ((pte_Allowed.f 25 2 false 1 false true false false).bind fun t258 => (if t258 = true then (mezzaninelaw15_PteKnown.j1 kj0 true 0 false 1 false false false false) else ((pte_Allowed.f 9 2 false 1 false true false false).bind fun t259 => (mezzaninelaw15_PteKnown.j1 kj0 (!t259) 0 false 1 false false false false)))) else (mezzaninelaw15_PteKnown.j1 kj0 true 0 false 1 false false false false))))) else (mezzaninelaw15_PteKnown.j1 kj0 true 0 false 1 false false false false))))))) else (mezzaninelaw15_PteKnown.j1 kj0 true 0 false 1 false false false false)) = some r := H
          have A41 := Aside0.mk A410
          clear A410
          by_cases c42 : t252 = true
          · subst c42
            have H1 : ((pte_Allowed.f 3 0 false 0 false false false false).bind fun t253 => (if t253 = true then (mezzaninelaw15_PteKnown.j1 kj0 true 0 false 1 false false false false) else ((pte_Allowed.f 25 0 false 0 false false false false).bind fun t254 => (if t254 = true then (mezzaninelaw15_PteKnown.j1 kj0 true 0 false 1 false false false false) else ((pte_Allowed.f 25 0 false 0 false false true false).bind fun t255 => (if t255 = true then ((pte_Allowed.f 19 0 false 1 false false false false).bind fun t256 => (if t256 = true then (mezzaninelaw15_PteKnown.j1 kj0 true 0 false 1 false false false false) else ((pte_Allowed.f 19 0 false 1 false true false false).bind fun t257 => (if t257 = true then ((pte_Allowed.f 25 2 false 1 false true false false).bind fun t258 => (if t258 = true then (mezzaninelaw15_PteKnown.j1 kj0 true 0 false 1 false false false false) else ((pte_Allowed.f 9 2 false 1 false true false false).bind fun t259 => (mezzaninelaw15_PteKnown.j1 kj0 (!t259) 0 false 1 false false false false)))) else (mezzaninelaw15_PteKnown.j1 kj0 true 0 false 1 false false false false))))) else (mezzaninelaw15_PteKnown.j1 kj0 true 0 false 1 false false false false))))))) = some r := by rw [if_pos rfl] at H; exact H
            clear H
            have H := H1
            clear H1
            replace H := Option.bind_eq_some_iff.mp H
            obtain ⟨t253, A430, H⟩ := H
            replace H : (if t253 = true then (mezzaninelaw15_PteKnown.j1 kj0 true 0 false 1 false false false false) else ((pte_Allowed.f 25 0 false 0 false false false false).bind fun t254 => (if t254 = true then (mezzaninelaw15_PteKnown.j1 kj0 true 0 false 1 false false false false) else ((pte_Allowed.f 25 0 false 0 false false true false).bind fun t255 => (if t255 = true then ((pte_Allowed.f 19 0 false 1 false false false false).bind fun t256 => (if t256 = true then (mezzaninelaw15_PteKnown.j1 kj0 true 0 false 1 false false false false) else ((pte_Allowed.f 19 0 false 1 false true false false).bind fun t257 => (if t257 = true then ((pte_Allowed.f 25 2 false 1 false true false false).bind fun t258 => (if t258 = true then (mezzaninelaw15_PteKnown.j1 kj0 true 0 false 1 false false false false) else ((pte_Allowed.f 9 2 false 1 false true false false).bind fun t259 => (mezzaninelaw15_PteKnown.j1 kj0 (!t259) 0 false 1 false false false false)))) else (mezzaninelaw15_PteKnown.j1 kj0 true 0 false 1 false false false false))))) else (mezzaninelaw15_PteKnown.j1 kj0 true 0 false 1 false false false false)))))) = some r := H
            have A43 := Aside0.mk A430
            clear A430
            by_cases c44 : t253 = true
            · subst c44
              have H1 : (mezzaninelaw15_PteKnown.j1 kj0 true 0 false 1 false false false false) = some r := by rw [if_pos rfl] at H; exact H
              clear H
              have H := H1
              clear H1
              exact absurd H (by rw [HT.out]; cases kj0 <;> simp [mezzaninelaw15_PteKnown.j1])
            · replace c44 := Bool.eq_false_iff.mpr c44
              subst c44
              have H1 : ((pte_Allowed.f 25 0 false 0 false false false false).bind fun t254 => (if t254 = true then (mezzaninelaw15_PteKnown.j1 kj0 true 0 false 1 false false false false) else ((pte_Allowed.f 25 0 false 0 false false true false).bind fun t255 => (if t255 = true then ((pte_Allowed.f 19 0 false 1 false false false false).bind fun t256 => (if t256 = true then (mezzaninelaw15_PteKnown.j1 kj0 true 0 false 1 false false false false) else ((pte_Allowed.f 19 0 false 1 false true false false).bind fun t257 => (if t257 = true then ((pte_Allowed.f 25 2 false 1 false true false false).bind fun t258 => (if t258 = true then (mezzaninelaw15_PteKnown.j1 kj0 true 0 false 1 false false false false) else ((pte_Allowed.f 9 2 false 1 false true false false).bind fun t259 => (mezzaninelaw15_PteKnown.j1 kj0 (!t259) 0 false 1 false false false false)))) else (mezzaninelaw15_PteKnown.j1 kj0 true 0 false 1 false false false false))))) else (mezzaninelaw15_PteKnown.j1 kj0 true 0 false 1 false false false false))))) = some r := by rw [if_neg (show ¬ (false = true) by decide)] at H; exact H
              clear H
              have H := H1
              clear H1
              replace H := Option.bind_eq_some_iff.mp H
              obtain ⟨t254, A450, H⟩ := H
              replace H : (if t254 = true then (mezzaninelaw15_PteKnown.j1 kj0 true 0 false 1 false false false false) else ((pte_Allowed.f 25 0 false 0 false false true false).bind fun t255 => (if t255 = true then ((pte_Allowed.f 19 0 false 1 false false false false).bind fun t256 => (if t256 = true then (mezzaninelaw15_PteKnown.j1 kj0 true 0 false 1 false false false false) else ((pte_Allowed.f 19 0 false 1 false true false false).bind fun t257 => (if t257 = true then ((pte_Allowed.f 25 2 false 1 false true false false).bind fun t258 => (if t258 = true then (mezzaninelaw15_PteKnown.j1 kj0 true 0 false 1 false false false false) else ((pte_Allowed.f 9 2 false 1 false true false false).bind fun t259 => (mezzaninelaw15_PteKnown.j1 kj0 (!t259) 0 false 1 false false false false)))) else (mezzaninelaw15_PteKnown.j1 kj0 true 0 false 1 false false false false))))) else (mezzaninelaw15_PteKnown.j1 kj0 true 0 false 1 false false false false)))) = some r := H
              have A45 := Aside0.mk A450
              clear A450
              by_cases c46 : t254 = true
              · subst c46
                have H1 : (mezzaninelaw15_PteKnown.j1 kj0 true 0 false 1 false false false false) = some r := by rw [if_pos rfl] at H; exact H
                clear H
                have H := H1
                clear H1
                exact absurd H (by rw [HT.out]; cases kj0 <;> simp [mezzaninelaw15_PteKnown.j1])
              · replace c46 := Bool.eq_false_iff.mpr c46
                subst c46
                have H1 : ((pte_Allowed.f 25 0 false 0 false false true false).bind fun t255 => (if t255 = true then ((pte_Allowed.f 19 0 false 1 false false false false).bind fun t256 => (if t256 = true then (mezzaninelaw15_PteKnown.j1 kj0 true 0 false 1 false false false false) else ((pte_Allowed.f 19 0 false 1 false true false false).bind fun t257 => (if t257 = true then ((pte_Allowed.f 25 2 false 1 false true false false).bind fun t258 => (if t258 = true then (mezzaninelaw15_PteKnown.j1 kj0 true 0 false 1 false false false false) else ((pte_Allowed.f 9 2 false 1 false true false false).bind fun t259 => (mezzaninelaw15_PteKnown.j1 kj0 (!t259) 0 false 1 false false false false)))) else (mezzaninelaw15_PteKnown.j1 kj0 true 0 false 1 false false false false))))) else (mezzaninelaw15_PteKnown.j1 kj0 true 0 false 1 false false false false))) = some r := by rw [if_neg (show ¬ (false = true) by decide)] at H; exact H
                clear H
                have H := H1
                clear H1
                replace H := Option.bind_eq_some_iff.mp H
                obtain ⟨t255, A470, H⟩ := H
                replace H : (if t255 = true then ((pte_Allowed.f 19 0 false 1 false false false false).bind fun t256 => (if t256 = true then (mezzaninelaw15_PteKnown.j1 kj0 true 0 false 1 false false false false) else ((pte_Allowed.f 19 0 false 1 false true false false).bind fun t257 => (if t257 = true then ((pte_Allowed.f 25 2 false 1 false true false false).bind fun t258 => (if t258 = true then (mezzaninelaw15_PteKnown.j1 kj0 true 0 false 1 false false false false) else ((pte_Allowed.f 9 2 false 1 false true false false).bind fun t259 => (mezzaninelaw15_PteKnown.j1 kj0 (!t259) 0 false 1 false false false false)))) else (mezzaninelaw15_PteKnown.j1 kj0 true 0 false 1 false false false false))))) else (mezzaninelaw15_PteKnown.j1 kj0 true 0 false 1 false false false false)) = some r := H
                have A47 := Aside0.mk A470
                clear A470
                by_cases c48 : t255 = true
                · subst c48
                  have H1 : ((pte_Allowed.f 19 0 false 1 false false false false).bind fun t256 => (if t256 = true then (mezzaninelaw15_PteKnown.j1 kj0 true 0 false 1 false false false false) else ((pte_Allowed.f 19 0 false 1 false true false false).bind fun t257 => (if t257 = true then ((pte_Allowed.f 25 2 false 1 false true false false).bind fun t258 => (if t258 = true then (mezzaninelaw15_PteKnown.j1 kj0 true 0 false 1 false false false false) else ((pte_Allowed.f 9 2 false 1 false true false false).bind fun t259 => (mezzaninelaw15_PteKnown.j1 kj0 (!t259) 0 false 1 false false false false)))) else (mezzaninelaw15_PteKnown.j1 kj0 true 0 false 1 false false false false))))) = some r := by rw [if_pos rfl] at H; exact H
                  clear H
                  have H := H1
                  clear H1
                  replace H := Option.bind_eq_some_iff.mp H
                  obtain ⟨t256, A490, H⟩ := H
                  replace H : (if t256 = true then (mezzaninelaw15_PteKnown.j1 kj0 true 0 false 1 false false false false) else ((pte_Allowed.f 19 0 false 1 false true false false).bind fun t257 => (if t257 = true then ((pte_Allowed.f 25 2 false 1 false true false false).bind fun t258 => (if t258 = true then (mezzaninelaw15_PteKnown.j1 kj0 true 0 false 1 false false false false) else ((pte_Allowed.f 9 2 false 1 false true false false).bind fun t259 => (mezzaninelaw15_PteKnown.j1 kj0 (!t259) 0 false 1 false false false false)))) else (mezzaninelaw15_PteKnown.j1 kj0 true 0 false 1 false false false false)))) = some r := H
                  have A49 := Aside0.mk A490
                  clear A490
                  by_cases c50 : t256 = true
                  · subst c50
                    have H1 : (mezzaninelaw15_PteKnown.j1 kj0 true 0 false 1 false false false false) = some r := by rw [if_pos rfl] at H; exact H
                    clear H
                    have H := H1
                    clear H1
                    exact absurd H (by rw [HT.out]; cases kj0 <;> simp [mezzaninelaw15_PteKnown.j1])
                  · replace c50 := Bool.eq_false_iff.mpr c50
                    subst c50
                    have H1 : ((pte_Allowed.f 19 0 false 1 false true false false).bind fun t257 => (if t257 = true then ((pte_Allowed.f 25 2 false 1 false true false false).bind fun t258 => (if t258 = true then (mezzaninelaw15_PteKnown.j1 kj0 true 0 false 1 false false false false) else ((pte_Allowed.f 9 2 false 1 false true false false).bind fun t259 => (mezzaninelaw15_PteKnown.j1 kj0 (!t259) 0 false 1 false false false false)))) else (mezzaninelaw15_PteKnown.j1 kj0 true 0 false 1 false false false false))) = some r := by rw [if_neg (show ¬ (false = true) by decide)] at H; exact H
                    clear H
                    have H := H1
                    clear H1
                    replace H := Option.bind_eq_some_iff.mp H
                    obtain ⟨t257, A510, H⟩ := H
                    replace H : (if t257 = true then ((pte_Allowed.f 25 2 false 1 false true false false).bind fun t258 => (if t258 = true then (mezzaninelaw15_PteKnown.j1 kj0 true 0 false 1 false false false false) else ((pte_Allowed.f 9 2 false 1 false true false false).bind fun t259 => (mezzaninelaw15_PteKnown.j1 kj0 (!t259) 0 false 1 false false false false)))) else (mezzaninelaw15_PteKnown.j1 kj0 true 0 false 1 false false false false)) = some r := H
                    have A51 := Aside0.mk A510
                    clear A510
                    by_cases c52 : t257 = true
                    · subst c52
                      have H1 : ((pte_Allowed.f 25 2 false 1 false true false false).bind fun t258 => (if t258 = true then (mezzaninelaw15_PteKnown.j1 kj0 true 0 false 1 false false false false) else ((pte_Allowed.f 9 2 false 1 false true false false).bind fun t259 => (mezzaninelaw15_PteKnown.j1 kj0 (!t259) 0 false 1 false false false false)))) = some r := by rw [if_pos rfl] at H; exact H
                      clear H
                      have H := H1
                      clear H1
                      replace H := Option.bind_eq_some_iff.mp H
                      obtain ⟨t258, A530, H⟩ := H
                      replace H : (if t258 = true then (mezzaninelaw15_PteKnown.j1 kj0 true 0 false 1 false false false false) else ((pte_Allowed.f 9 2 false 1 false true false false).bind fun t259 => (mezzaninelaw15_PteKnown.j1 kj0 (!t259) 0 false 1 false false false false))) = some r := H
                      have A53 := Aside0.mk A530
                      clear A530
                      by_cases c54 : t258 = true
                      · subst c54
                        have H1 : (mezzaninelaw15_PteKnown.j1 kj0 true 0 false 1 false false false false) = some r := by rw [if_pos rfl] at H; exact H
                        clear H
                        have H := H1
                        clear H1
                        exact absurd H (by rw [HT.out]; cases kj0 <;> simp [mezzaninelaw15_PteKnown.j1])
                      · replace c54 := Bool.eq_false_iff.mpr c54
                        subst c54
                        have H1 : ((pte_Allowed.f 9 2 false 1 false true false false).bind fun t259 => (mezzaninelaw15_PteKnown.j1 kj0 (!t259) 0 false 1 false false false false)) = some r := by rw [if_neg (show ¬ (false = true) by decide)] at H; exact H
                        clear H
                        have H := H1
                        clear H1
                        replace H := Option.bind_eq_some_iff.mp H
                        obtain ⟨t259, A550, H⟩ := H
                        replace H : (mezzaninelaw15_PteKnown.j1 kj0 (!t259) 0 false 1 false false false false) = some r := H
                        have A55 := Aside0.mk A550
                        clear A550
                        have H' := Aside0.mk H
                        clear H
                        have hnb56 := NB247_248.out
                        have hnc56 := NB248_247.out
                        have hnb57 := NB247_249.out
                        have hnc57 := NB249_247.out
                        have hnb58 := NB247_250.out
                        have hnc58 := NB250_247.out
                        have hnb59 := NB247_251.out
                        have hnc59 := NB251_247.out
                        have hcz60_0 : w35.cell? ⟨gb247, 0, none⟩ = some (.int .u8 0) := (blk_cell BK247.out 0).trans rfl
                        have hcz60_1 : w35.cell? ⟨gb247, 1, none⟩ = some (.bool false) := (blk_cell BK247.out 1).trans rfl
                        have hcz60_2 : w35.cell? ⟨gb247, 2, none⟩ = some (.int .u8 0) := (blk_cell BK247.out 2).trans rfl
                        have hcz60_3 : w35.cell? ⟨gb247, 3, none⟩ = some (.bool false) := (blk_cell BK247.out 3).trans rfl
                        have hcz60_4 : w35.cell? ⟨gb247, 4, none⟩ = some (.bool false) := (blk_cell BK247.out 4).trans rfl
                        have hcz60_5 : w35.cell? ⟨gb247, 5, none⟩ = some (.bool false) := (blk_cell BK247.out 5).trans rfl
                        have hcz60_6 : w35.cell? ⟨gb247, 6, none⟩ = some (.bool false) := (blk_cell BK247.out 6).trans rfl
                        have hfz60_0 := blk_frozen BK247.out 0
                        have hfz60_1 := blk_frozen BK247.out 1
                        have hfz60_2 := blk_frozen BK247.out 2
                        have hfz60_3 := blk_frozen BK247.out 3
                        have hfz60_4 := blk_frozen BK247.out 4
                        have hfz60_5 := blk_frozen BK247.out 5
                        have hfz60_6 := blk_frozen BK247.out 6
                        go_wp2_with (first | ((with_reducible refine gate_callee (f := 21) rfl ?_); refine goesL_ (some 40) rfl rfl Try.func21 (by kernel_rfl) rfl #[.int .u64 19, .agg #[.int .u8 0, .bool false, .int .u8 0, .bool false, .bool false, .bool false, .bool false]] rfl (by (try simp only [List.map_toArray, List.map_cons, List.map_nil]); first | done | rfl | (simp only [List.length_drop, List.length_take]; rfl)) ?_; (with_reducible refine (pte_Allowed.calls 19 0 false 0 false false false false true _ A41.out).mono ?_); rintro e w61 ⟨rfl, hb⟩; refine ⟨_, rfl, ?_⟩; have n0_ := Aside0.mk (blk_below (g := gb247) (o := .cells #[.int .u8 0, .bool false, .int .u8 0, .bool false, .bool false, .bool false, .bool false] 32 (0, 0)) (by (with_reducible repeat (first | refine blk_drewN ?_ _ | refine blk_drew ?_ | refine blk_alloc ?_ _)); refine blk_far ?_ NB247_251.out _; (with_reducible repeat (first | refine blk_drewN ?_ _ | refine blk_drew ?_ | refine blk_alloc ?_ _)); refine blk_far ?_ NB247_251.out _; (with_reducible repeat (first | refine blk_drewN ?_ _ | refine blk_drew ?_ | refine blk_alloc ?_ _)); refine blk_far ?_ NB247_251.out _; (with_reducible repeat (first | refine blk_drewN ?_ _ | refine blk_drew ?_ | refine blk_alloc ?_ _)); refine blk_far ?_ NB247_251.out _; (with_reducible repeat (first | refine blk_drewN ?_ _ | refine blk_drew ?_ | refine blk_alloc ?_ _)); refine blk_far ?_ NB247_251.out _; (with_reducible repeat (first | refine blk_drewN ?_ _ | refine blk_drew ?_ | refine blk_alloc ?_ _)); refine blk_far ?_ NB247_251.out _; (with_reducible repeat (first | refine blk_drewN ?_ _ | refine blk_drew ?_ | refine blk_alloc ?_ _)); refine blk_far ?_ NB247_251.out _; (with_reducible repeat (first | refine blk_drewN ?_ _ | refine blk_drew ?_ | refine blk_alloc ?_ _)); exact BK247.out) hb); have n1_ := Aside0.mk (blk_below (g := gb248) (o := .cells #[.int .u8 0, .bool false, .int .u8 0, .bool false, .bool false, .bool true, .bool false] 32 (0, 0)) (by (with_reducible repeat (first | refine blk_drewN ?_ _ | refine blk_drew ?_ | refine blk_alloc ?_ _)); refine blk_far ?_ NB248_251.out _; (with_reducible repeat (first | refine blk_drewN ?_ _ | refine blk_drew ?_ | refine blk_alloc ?_ _)); refine blk_far ?_ NB248_251.out _; (with_reducible repeat (first | refine blk_drewN ?_ _ | refine blk_drew ?_ | refine blk_alloc ?_ _)); refine blk_far ?_ NB248_251.out _; (with_reducible repeat (first | refine blk_drewN ?_ _ | refine blk_drew ?_ | refine blk_alloc ?_ _)); refine blk_far ?_ NB248_251.out _; (with_reducible repeat (first | refine blk_drewN ?_ _ | refine blk_drew ?_ | refine blk_alloc ?_ _)); refine blk_far ?_ NB248_251.out _; (with_reducible repeat (first | refine blk_drewN ?_ _ | refine blk_drew ?_ | refine blk_alloc ?_ _)); refine blk_far ?_ NB248_251.out _; (with_reducible repeat (first | refine blk_drewN ?_ _ | refine blk_drew ?_ | refine blk_alloc ?_ _)); refine blk_far ?_ NB248_251.out _; (with_reducible repeat (first | refine blk_drewN ?_ _ | refine blk_drew ?_ | refine blk_alloc ?_ _)); exact BK248.out) hb); have n2_ := Aside0.mk (blk_below (g := gb249) (o := .cells #[.int .u8 0, .bool false, .int .u8 1, .bool false, .bool false, .bool false, .bool false] 32 (0, 0)) (by (with_reducible repeat (first | refine blk_drewN ?_ _ | refine blk_drew ?_ | refine blk_alloc ?_ _)); refine blk_far ?_ NB249_251.out _; (with_reducible repeat (first | refine blk_drewN ?_ _ | refine blk_drew ?_ | refine blk_alloc ?_ _)); refine blk_far ?_ NB249_251.out _; (with_reducible repeat (first | refine blk_drewN ?_ _ | refine blk_drew ?_ | refine blk_alloc ?_ _)); refine blk_far ?_ NB249_251.out _; (with_reducible repeat (first | refine blk_drewN ?_ _ | refine blk_drew ?_ | refine blk_alloc ?_ _)); refine blk_far ?_ NB249_251.out _; (with_reducible repeat (first | refine blk_drewN ?_ _ | refine blk_drew ?_ | refine blk_alloc ?_ _)); refine blk_far ?_ NB249_251.out _; (with_reducible repeat (first | refine blk_drewN ?_ _ | refine blk_drew ?_ | refine blk_alloc ?_ _)); refine blk_far ?_ NB249_251.out _; (with_reducible repeat (first | refine blk_drewN ?_ _ | refine blk_drew ?_ | refine blk_alloc ?_ _)); refine blk_far ?_ NB249_251.out _; (with_reducible repeat (first | refine blk_drewN ?_ _ | refine blk_drew ?_ | refine blk_alloc ?_ _)); exact BK249.out) hb); have n3_ := Aside0.mk (blk_below (g := gb250) (o := .cells #[.int .u8 0, .bool false, .int .u8 1, .bool false, .bool true, .bool false, .bool false] 32 (0, 0)) (by (with_reducible repeat (first | refine blk_drewN ?_ _ | refine blk_drew ?_ | refine blk_alloc ?_ _)); refine blk_far ?_ NB250_251.out _; (with_reducible repeat (first | refine blk_drewN ?_ _ | refine blk_drew ?_ | refine blk_alloc ?_ _)); refine blk_far ?_ NB250_251.out _; (with_reducible repeat (first | refine blk_drewN ?_ _ | refine blk_drew ?_ | refine blk_alloc ?_ _)); refine blk_far ?_ NB250_251.out _; (with_reducible repeat (first | refine blk_drewN ?_ _ | refine blk_drew ?_ | refine blk_alloc ?_ _)); refine blk_far ?_ NB250_251.out _; (with_reducible repeat (first | refine blk_drewN ?_ _ | refine blk_drew ?_ | refine blk_alloc ?_ _)); refine blk_far ?_ NB250_251.out _; (with_reducible repeat (first | refine blk_drewN ?_ _ | refine blk_drew ?_ | refine blk_alloc ?_ _)); refine blk_far ?_ NB250_251.out _; (with_reducible repeat (first | refine blk_drewN ?_ _ | refine blk_drew ?_ | refine blk_alloc ?_ _)); refine blk_far ?_ NB250_251.out _; (with_reducible repeat (first | refine blk_drewN ?_ _ | refine blk_drew ?_ | refine blk_alloc ?_ _)); exact BK250.out) hb); have n4_ := Aside0.mk (blk_below (g := gb251) (o := .cells #[.int .u8 2, .bool false, .int .u8 1, .bool false, .bool true, .bool false, .bool false] 32 (0, 0)) (by (with_reducible repeat (first | refine blk_drewN ?_ _ | refine blk_drew ?_ | refine blk_alloc ?_ _)); refine blk_put (cs := #[.int .u8 2, .bool false, .int .u8 1, .bool false, .bool true, .bool false, .bool false]) ?_ 6 _ rfl; (with_reducible repeat (first | refine blk_drewN ?_ _ | refine blk_drew ?_ | refine blk_alloc ?_ _)); refine blk_put (cs := #[.int .u8 2, .bool false, .int .u8 1, .bool false, .bool true, .bool false, .bool false]) ?_ 5 _ rfl; (with_reducible repeat (first | refine blk_drewN ?_ _ | refine blk_drew ?_ | refine blk_alloc ?_ _)); refine blk_put (cs := #[.int .u8 2, .bool false, .int .u8 1, .bool false, .bool false, .bool false, .bool false]) ?_ 4 _ rfl; (with_reducible repeat (first | refine blk_drewN ?_ _ | refine blk_drew ?_ | refine blk_alloc ?_ _)); refine blk_put (cs := #[.int .u8 2, .bool false, .int .u8 1, .bool false, .bool false, .bool false, .bool false]) ?_ 3 _ rfl; (with_reducible repeat (first | refine blk_drewN ?_ _ | refine blk_drew ?_ | refine blk_alloc ?_ _)); refine blk_put (cs := #[.int .u8 2, .bool false, .int .u8 0, .bool false, .bool false, .bool false, .bool false]) ?_ 2 _ rfl; (with_reducible repeat (first | refine blk_drewN ?_ _ | refine blk_drew ?_ | refine blk_alloc ?_ _)); refine blk_put (cs := #[.int .u8 2, .bool false, .int .u8 0, .bool false, .bool false, .bool false, .bool false]) ?_ 1 _ rfl; (with_reducible repeat (first | refine blk_drewN ?_ _ | refine blk_drew ?_ | refine blk_alloc ?_ _)); refine blk_put (cs := #[.int .u8 0, .bool false, .int .u8 0, .bool false, .bool false, .bool false, .bool false]) ?_ 0 _ rfl; (with_reducible repeat (first | refine blk_drewN ?_ _ | refine blk_drew ?_ | refine blk_alloc ?_ _)); exact BK251.out) hb); have n5_ := Aside0.mk (below_step (by repeat (first | (with_reducible first | exact HB.out | apply below_alloc | apply pw_below_drewN | apply below_drew1 | refine below_set ?_ GE247.out | refine below_set ?_ GE248.out | refine below_set ?_ GE249.out | refine below_set ?_ GE250.out | refine below_set ?_ GE251.out) | exact HB.out)) hb); clear BK247; clear BK248; clear BK249; clear BK250; clear BK251; clear HB; have BK247 := n0_; have BK248 := n1_; have BK249 := n2_; have BK250 := n3_; have BK251 := n4_; have HB := n5_; clear n0_ n1_ n2_ n3_ n4_ n5_; (try clear hb); (try clear hb2); (try clear hk); (try clear hi); have hcz62_0 : w61.cell? ⟨gb247, 0, none⟩ = some (.int .u8 0) := (blk_cell BK247.out 0).trans rfl; have hcz62_1 : w61.cell? ⟨gb247, 1, none⟩ = some (.bool false) := (blk_cell BK247.out 1).trans rfl; have hcz62_2 : w61.cell? ⟨gb247, 2, none⟩ = some (.int .u8 0) := (blk_cell BK247.out 2).trans rfl; have hcz62_3 : w61.cell? ⟨gb247, 3, none⟩ = some (.bool false) := (blk_cell BK247.out 3).trans rfl; have hcz62_4 : w61.cell? ⟨gb247, 4, none⟩ = some (.bool false) := (blk_cell BK247.out 4).trans rfl; have hcz62_5 : w61.cell? ⟨gb247, 5, none⟩ = some (.bool false) := (blk_cell BK247.out 5).trans rfl; have hcz62_6 : w61.cell? ⟨gb247, 6, none⟩ = some (.bool false) := (blk_cell BK247.out 6).trans rfl; have hfz62_0 := blk_frozen BK247.out 0; have hfz62_1 := blk_frozen BK247.out 1; have hfz62_2 := blk_frozen BK247.out 2; have hfz62_3 := blk_frozen BK247.out 3; have hfz62_4 := blk_frozen BK247.out 4; have hfz62_5 := blk_frozen BK247.out 5; have hfz62_6 := blk_frozen BK247.out 6) | (go_at_call 21; (with_reducible refine (pte_Allowed.calls 3 0 false 0 false false false false false _ A43.out).mono ?_); rintro e w63 ⟨rfl, hb⟩; have n0_ := Aside0.mk (blk_below (g := gb247) (o := .cells #[.int .u8 0, .bool false, .int .u8 0, .bool false, .bool false, .bool false, .bool false] 32 (0, 0)) (by (with_reducible repeat (first | refine blk_drewN ?_ _ | refine blk_drew ?_ | refine blk_alloc ?_ _)); exact BK247.out) hb); have n1_ := Aside0.mk (blk_below (g := gb248) (o := .cells #[.int .u8 0, .bool false, .int .u8 0, .bool false, .bool false, .bool true, .bool false] 32 (0, 0)) (by (with_reducible repeat (first | refine blk_drewN ?_ _ | refine blk_drew ?_ | refine blk_alloc ?_ _)); exact BK248.out) hb); have n2_ := Aside0.mk (blk_below (g := gb249) (o := .cells #[.int .u8 0, .bool false, .int .u8 1, .bool false, .bool false, .bool false, .bool false] 32 (0, 0)) (by (with_reducible repeat (first | refine blk_drewN ?_ _ | refine blk_drew ?_ | refine blk_alloc ?_ _)); exact BK249.out) hb); have n3_ := Aside0.mk (blk_below (g := gb250) (o := .cells #[.int .u8 0, .bool false, .int .u8 1, .bool false, .bool true, .bool false, .bool false] 32 (0, 0)) (by (with_reducible repeat (first | refine blk_drewN ?_ _ | refine blk_drew ?_ | refine blk_alloc ?_ _)); exact BK250.out) hb); have n4_ := Aside0.mk (blk_below (g := gb251) (o := .cells #[.int .u8 2, .bool false, .int .u8 1, .bool false, .bool true, .bool false, .bool false] 32 (0, 0)) (by (with_reducible repeat (first | refine blk_drewN ?_ _ | refine blk_drew ?_ | refine blk_alloc ?_ _)); exact BK251.out) hb); have n5_ := Aside0.mk (below_step (by repeat (first | (with_reducible first | exact HB.out | apply below_alloc | apply pw_below_drewN | apply below_drew1 | refine below_set ?_ GE247.out | refine below_set ?_ GE248.out | refine below_set ?_ GE249.out | refine below_set ?_ GE250.out | refine below_set ?_ GE251.out) | exact HB.out)) hb); clear BK247; clear BK248; clear BK249; clear BK250; clear BK251; clear HB; have BK247 := n0_; have BK248 := n1_; have BK249 := n2_; have BK250 := n3_; have BK251 := n4_; have HB := n5_; clear n0_ n1_ n2_ n3_ n4_ n5_; (try clear hb); (try clear hb2); (try clear hk); (try clear hi); have hcz64_0 : w63.cell? ⟨gb247, 0, none⟩ = some (.int .u8 0) := (blk_cell BK247.out 0).trans rfl; have hcz64_1 : w63.cell? ⟨gb247, 1, none⟩ = some (.bool false) := (blk_cell BK247.out 1).trans rfl; have hcz64_2 : w63.cell? ⟨gb247, 2, none⟩ = some (.int .u8 0) := (blk_cell BK247.out 2).trans rfl; have hcz64_3 : w63.cell? ⟨gb247, 3, none⟩ = some (.bool false) := (blk_cell BK247.out 3).trans rfl; have hcz64_4 : w63.cell? ⟨gb247, 4, none⟩ = some (.bool false) := (blk_cell BK247.out 4).trans rfl; have hcz64_5 : w63.cell? ⟨gb247, 5, none⟩ = some (.bool false) := (blk_cell BK247.out 5).trans rfl; have hcz64_6 : w63.cell? ⟨gb247, 6, none⟩ = some (.bool false) := (blk_cell BK247.out 6).trans rfl; have hfz64_0 := blk_frozen BK247.out 0; have hfz64_1 := blk_frozen BK247.out 1; have hfz64_2 := blk_frozen BK247.out 2; have hfz64_3 := blk_frozen BK247.out 3; have hfz64_4 := blk_frozen BK247.out 4; have hfz64_5 := blk_frozen BK247.out 5; have hfz64_6 := blk_frozen BK247.out 6) | (go_at_call 21; (with_reducible refine (pte_Allowed.calls 25 0 false 0 false false false false false _ A45.out).mono ?_); rintro e w65 ⟨rfl, hb⟩; have n0_ := Aside0.mk (blk_below (g := gb247) (o := .cells #[.int .u8 0, .bool false, .int .u8 0, .bool false, .bool false, .bool false, .bool false] 32 (0, 0)) (by (with_reducible repeat (first | refine blk_drewN ?_ _ | refine blk_drew ?_ | refine blk_alloc ?_ _)); exact BK247.out) hb); have n1_ := Aside0.mk (blk_below (g := gb248) (o := .cells #[.int .u8 0, .bool false, .int .u8 0, .bool false, .bool false, .bool true, .bool false] 32 (0, 0)) (by (with_reducible repeat (first | refine blk_drewN ?_ _ | refine blk_drew ?_ | refine blk_alloc ?_ _)); exact BK248.out) hb); have n2_ := Aside0.mk (blk_below (g := gb249) (o := .cells #[.int .u8 0, .bool false, .int .u8 1, .bool false, .bool false, .bool false, .bool false] 32 (0, 0)) (by (with_reducible repeat (first | refine blk_drewN ?_ _ | refine blk_drew ?_ | refine blk_alloc ?_ _)); exact BK249.out) hb); have n3_ := Aside0.mk (blk_below (g := gb250) (o := .cells #[.int .u8 0, .bool false, .int .u8 1, .bool false, .bool true, .bool false, .bool false] 32 (0, 0)) (by (with_reducible repeat (first | refine blk_drewN ?_ _ | refine blk_drew ?_ | refine blk_alloc ?_ _)); exact BK250.out) hb); have n4_ := Aside0.mk (blk_below (g := gb251) (o := .cells #[.int .u8 2, .bool false, .int .u8 1, .bool false, .bool true, .bool false, .bool false] 32 (0, 0)) (by (with_reducible repeat (first | refine blk_drewN ?_ _ | refine blk_drew ?_ | refine blk_alloc ?_ _)); exact BK251.out) hb); have n5_ := Aside0.mk (below_step (by repeat (first | (with_reducible first | exact HB.out | apply below_alloc | apply pw_below_drewN | apply below_drew1 | refine below_set ?_ GE247.out | refine below_set ?_ GE248.out | refine below_set ?_ GE249.out | refine below_set ?_ GE250.out | refine below_set ?_ GE251.out) | exact HB.out)) hb); clear BK247; clear BK248; clear BK249; clear BK250; clear BK251; clear HB; have BK247 := n0_; have BK248 := n1_; have BK249 := n2_; have BK250 := n3_; have BK251 := n4_; have HB := n5_; clear n0_ n1_ n2_ n3_ n4_ n5_; (try clear hb); (try clear hb2); (try clear hk); (try clear hi); have hnb66 := NB248_249.out; have hnc66 := NB249_248.out; have hnb67 := NB248_250.out; have hnc67 := NB250_248.out; have hnb68 := NB248_251.out; have hnc68 := NB251_248.out; have hcz69_0 : w65.cell? ⟨gb248, 0, none⟩ = some (.int .u8 0) := (blk_cell BK248.out 0).trans rfl; have hcz69_1 : w65.cell? ⟨gb248, 1, none⟩ = some (.bool false) := (blk_cell BK248.out 1).trans rfl; have hcz69_2 : w65.cell? ⟨gb248, 2, none⟩ = some (.int .u8 0) := (blk_cell BK248.out 2).trans rfl; have hcz69_3 : w65.cell? ⟨gb248, 3, none⟩ = some (.bool false) := (blk_cell BK248.out 3).trans rfl; have hcz69_4 : w65.cell? ⟨gb248, 4, none⟩ = some (.bool false) := (blk_cell BK248.out 4).trans rfl; have hcz69_5 : w65.cell? ⟨gb248, 5, none⟩ = some (.bool true) := (blk_cell BK248.out 5).trans rfl; have hcz69_6 : w65.cell? ⟨gb248, 6, none⟩ = some (.bool false) := (blk_cell BK248.out 6).trans rfl; have hfz69_0 := blk_frozen BK248.out 0; have hfz69_1 := blk_frozen BK248.out 1; have hfz69_2 := blk_frozen BK248.out 2; have hfz69_3 := blk_frozen BK248.out 3; have hfz69_4 := blk_frozen BK248.out 4; have hfz69_5 := blk_frozen BK248.out 5; have hfz69_6 := blk_frozen BK248.out 6) | (go_at_call 21; (with_reducible refine (pte_Allowed.calls 25 0 false 0 false false true false true _ A47.out).mono ?_); rintro e w70 ⟨rfl, hb⟩; have n0_ := Aside0.mk (blk_below (g := gb247) (o := .cells #[.int .u8 0, .bool false, .int .u8 0, .bool false, .bool false, .bool false, .bool false] 32 (0, 0)) (by (with_reducible repeat (first | refine blk_drewN ?_ _ | refine blk_drew ?_ | refine blk_alloc ?_ _)); exact BK247.out) hb); have n1_ := Aside0.mk (blk_below (g := gb248) (o := .cells #[.int .u8 0, .bool false, .int .u8 0, .bool false, .bool false, .bool true, .bool false] 32 (0, 0)) (by (with_reducible repeat (first | refine blk_drewN ?_ _ | refine blk_drew ?_ | refine blk_alloc ?_ _)); exact BK248.out) hb); have n2_ := Aside0.mk (blk_below (g := gb249) (o := .cells #[.int .u8 0, .bool false, .int .u8 1, .bool false, .bool false, .bool false, .bool false] 32 (0, 0)) (by (with_reducible repeat (first | refine blk_drewN ?_ _ | refine blk_drew ?_ | refine blk_alloc ?_ _)); exact BK249.out) hb); have n3_ := Aside0.mk (blk_below (g := gb250) (o := .cells #[.int .u8 0, .bool false, .int .u8 1, .bool false, .bool true, .bool false, .bool false] 32 (0, 0)) (by (with_reducible repeat (first | refine blk_drewN ?_ _ | refine blk_drew ?_ | refine blk_alloc ?_ _)); exact BK250.out) hb); have n4_ := Aside0.mk (blk_below (g := gb251) (o := .cells #[.int .u8 2, .bool false, .int .u8 1, .bool false, .bool true, .bool false, .bool false] 32 (0, 0)) (by (with_reducible repeat (first | refine blk_drewN ?_ _ | refine blk_drew ?_ | refine blk_alloc ?_ _)); exact BK251.out) hb); have n5_ := Aside0.mk (below_step (by repeat (first | (with_reducible first | exact HB.out | apply below_alloc | apply pw_below_drewN | apply below_drew1 | refine below_set ?_ GE247.out | refine below_set ?_ GE248.out | refine below_set ?_ GE249.out | refine below_set ?_ GE250.out | refine below_set ?_ GE251.out) | exact HB.out)) hb); clear BK247; clear BK248; clear BK249; clear BK250; clear BK251; clear HB; have BK247 := n0_; have BK248 := n1_; have BK249 := n2_; have BK250 := n3_; have BK251 := n4_; have HB := n5_; clear n0_ n1_ n2_ n3_ n4_ n5_; (try clear hb); (try clear hb2); (try clear hk); (try clear hi); have hnb71 := NB249_250.out; have hnc71 := NB250_249.out; have hnb72 := NB249_251.out; have hnc72 := NB251_249.out; have hcz73_0 : w70.cell? ⟨gb249, 0, none⟩ = some (.int .u8 0) := (blk_cell BK249.out 0).trans rfl; have hcz73_1 : w70.cell? ⟨gb249, 1, none⟩ = some (.bool false) := (blk_cell BK249.out 1).trans rfl; have hcz73_2 : w70.cell? ⟨gb249, 2, none⟩ = some (.int .u8 1) := (blk_cell BK249.out 2).trans rfl; have hcz73_3 : w70.cell? ⟨gb249, 3, none⟩ = some (.bool false) := (blk_cell BK249.out 3).trans rfl; have hcz73_4 : w70.cell? ⟨gb249, 4, none⟩ = some (.bool false) := (blk_cell BK249.out 4).trans rfl; have hcz73_5 : w70.cell? ⟨gb249, 5, none⟩ = some (.bool false) := (blk_cell BK249.out 5).trans rfl; have hcz73_6 : w70.cell? ⟨gb249, 6, none⟩ = some (.bool false) := (blk_cell BK249.out 6).trans rfl; have hfz73_0 := blk_frozen BK249.out 0; have hfz73_1 := blk_frozen BK249.out 1; have hfz73_2 := blk_frozen BK249.out 2; have hfz73_3 := blk_frozen BK249.out 3; have hfz73_4 := blk_frozen BK249.out 4; have hfz73_5 := blk_frozen BK249.out 5; have hfz73_6 := blk_frozen BK249.out 6) | (go_at_call 21; (with_reducible refine (pte_Allowed.calls 19 0 false 1 false false false false false _ A49.out).mono ?_); rintro e w74 ⟨rfl, hb⟩; have n0_ := Aside0.mk (blk_below (g := gb247) (o := .cells #[.int .u8 0, .bool false, .int .u8 0, .bool false, .bool false, .bool false, .bool false] 32 (0, 0)) (by (with_reducible repeat (first | refine blk_drewN ?_ _ | refine blk_drew ?_ | refine blk_alloc ?_ _)); exact BK247.out) hb); have n1_ := Aside0.mk (blk_below (g := gb248) (o := .cells #[.int .u8 0, .bool false, .int .u8 0, .bool false, .bool false, .bool true, .bool false] 32 (0, 0)) (by (with_reducible repeat (first | refine blk_drewN ?_ _ | refine blk_drew ?_ | refine blk_alloc ?_ _)); exact BK248.out) hb); have n2_ := Aside0.mk (blk_below (g := gb249) (o := .cells #[.int .u8 0, .bool false, .int .u8 1, .bool false, .bool false, .bool false, .bool false] 32 (0, 0)) (by (with_reducible repeat (first | refine blk_drewN ?_ _ | refine blk_drew ?_ | refine blk_alloc ?_ _)); exact BK249.out) hb); have n3_ := Aside0.mk (blk_below (g := gb250) (o := .cells #[.int .u8 0, .bool false, .int .u8 1, .bool false, .bool true, .bool false, .bool false] 32 (0, 0)) (by (with_reducible repeat (first | refine blk_drewN ?_ _ | refine blk_drew ?_ | refine blk_alloc ?_ _)); exact BK250.out) hb); have n4_ := Aside0.mk (blk_below (g := gb251) (o := .cells #[.int .u8 2, .bool false, .int .u8 1, .bool false, .bool true, .bool false, .bool false] 32 (0, 0)) (by (with_reducible repeat (first | refine blk_drewN ?_ _ | refine blk_drew ?_ | refine blk_alloc ?_ _)); exact BK251.out) hb); have n5_ := Aside0.mk (below_step (by repeat (first | (with_reducible first | exact HB.out | apply below_alloc | apply pw_below_drewN | apply below_drew1 | refine below_set ?_ GE247.out | refine below_set ?_ GE248.out | refine below_set ?_ GE249.out | refine below_set ?_ GE250.out | refine below_set ?_ GE251.out) | exact HB.out)) hb); clear BK247; clear BK248; clear BK249; clear BK250; clear BK251; clear HB; have BK247 := n0_; have BK248 := n1_; have BK249 := n2_; have BK250 := n3_; have BK251 := n4_; have HB := n5_; clear n0_ n1_ n2_ n3_ n4_ n5_; (try clear hb); (try clear hb2); (try clear hk); (try clear hi); have hnb75 := NB250_251.out; have hnc75 := NB251_250.out; have hcz76_0 : w74.cell? ⟨gb250, 0, none⟩ = some (.int .u8 0) := (blk_cell BK250.out 0).trans rfl; have hcz76_1 : w74.cell? ⟨gb250, 1, none⟩ = some (.bool false) := (blk_cell BK250.out 1).trans rfl; have hcz76_2 : w74.cell? ⟨gb250, 2, none⟩ = some (.int .u8 1) := (blk_cell BK250.out 2).trans rfl; have hcz76_3 : w74.cell? ⟨gb250, 3, none⟩ = some (.bool false) := (blk_cell BK250.out 3).trans rfl; have hcz76_4 : w74.cell? ⟨gb250, 4, none⟩ = some (.bool true) := (blk_cell BK250.out 4).trans rfl; have hcz76_5 : w74.cell? ⟨gb250, 5, none⟩ = some (.bool false) := (blk_cell BK250.out 5).trans rfl; have hcz76_6 : w74.cell? ⟨gb250, 6, none⟩ = some (.bool false) := (blk_cell BK250.out 6).trans rfl; have hfz76_0 := blk_frozen BK250.out 0; have hfz76_1 := blk_frozen BK250.out 1; have hfz76_2 := blk_frozen BK250.out 2; have hfz76_3 := blk_frozen BK250.out 3; have hfz76_4 := blk_frozen BK250.out 4; have hfz76_5 := blk_frozen BK250.out 5; have hfz76_6 := blk_frozen BK250.out 6) | (go_at_call 21; (with_reducible refine (pte_Allowed.calls 19 0 false 1 false true false false true _ A51.out).mono ?_); rintro e w77 ⟨rfl, hb⟩; have n0_ := Aside0.mk (blk_below (g := gb247) (o := .cells #[.int .u8 0, .bool false, .int .u8 0, .bool false, .bool false, .bool false, .bool false] 32 (0, 0)) (by (with_reducible repeat (first | refine blk_drewN ?_ _ | refine blk_drew ?_ | refine blk_alloc ?_ _)); exact BK247.out) hb); have n1_ := Aside0.mk (blk_below (g := gb248) (o := .cells #[.int .u8 0, .bool false, .int .u8 0, .bool false, .bool false, .bool true, .bool false] 32 (0, 0)) (by (with_reducible repeat (first | refine blk_drewN ?_ _ | refine blk_drew ?_ | refine blk_alloc ?_ _)); exact BK248.out) hb); have n2_ := Aside0.mk (blk_below (g := gb249) (o := .cells #[.int .u8 0, .bool false, .int .u8 1, .bool false, .bool false, .bool false, .bool false] 32 (0, 0)) (by (with_reducible repeat (first | refine blk_drewN ?_ _ | refine blk_drew ?_ | refine blk_alloc ?_ _)); exact BK249.out) hb); have n3_ := Aside0.mk (blk_below (g := gb250) (o := .cells #[.int .u8 0, .bool false, .int .u8 1, .bool false, .bool true, .bool false, .bool false] 32 (0, 0)) (by (with_reducible repeat (first | refine blk_drewN ?_ _ | refine blk_drew ?_ | refine blk_alloc ?_ _)); exact BK250.out) hb); have n4_ := Aside0.mk (blk_below (g := gb251) (o := .cells #[.int .u8 2, .bool false, .int .u8 1, .bool false, .bool true, .bool false, .bool false] 32 (0, 0)) (by (with_reducible repeat (first | refine blk_drewN ?_ _ | refine blk_drew ?_ | refine blk_alloc ?_ _)); exact BK251.out) hb); have n5_ := Aside0.mk (below_step (by repeat (first | (with_reducible first | exact HB.out | apply below_alloc | apply pw_below_drewN | apply below_drew1 | refine below_set ?_ GE247.out | refine below_set ?_ GE248.out | refine below_set ?_ GE249.out | refine below_set ?_ GE250.out | refine below_set ?_ GE251.out) | exact HB.out)) hb); clear BK247; clear BK248; clear BK249; clear BK250; clear BK251; clear HB; have BK247 := n0_; have BK248 := n1_; have BK249 := n2_; have BK250 := n3_; have BK251 := n4_; have HB := n5_; clear n0_ n1_ n2_ n3_ n4_ n5_; (try clear hb); (try clear hb2); (try clear hk); (try clear hi); have hcz78_0 : w77.cell? ⟨gb251, 0, none⟩ = some (.int .u8 2) := (blk_cell BK251.out 0).trans rfl; have hcz78_1 : w77.cell? ⟨gb251, 1, none⟩ = some (.bool false) := (blk_cell BK251.out 1).trans rfl; have hcz78_2 : w77.cell? ⟨gb251, 2, none⟩ = some (.int .u8 1) := (blk_cell BK251.out 2).trans rfl; have hcz78_3 : w77.cell? ⟨gb251, 3, none⟩ = some (.bool false) := (blk_cell BK251.out 3).trans rfl; have hcz78_4 : w77.cell? ⟨gb251, 4, none⟩ = some (.bool true) := (blk_cell BK251.out 4).trans rfl; have hcz78_5 : w77.cell? ⟨gb251, 5, none⟩ = some (.bool false) := (blk_cell BK251.out 5).trans rfl; have hcz78_6 : w77.cell? ⟨gb251, 6, none⟩ = some (.bool false) := (blk_cell BK251.out 6).trans rfl; have hfz78_0 := blk_frozen BK251.out 0; have hfz78_1 := blk_frozen BK251.out 1; have hfz78_2 := blk_frozen BK251.out 2; have hfz78_3 := blk_frozen BK251.out 3; have hfz78_4 := blk_frozen BK251.out 4; have hfz78_5 := blk_frozen BK251.out 5; have hfz78_6 := blk_frozen BK251.out 6) | (go_at_call 21; (with_reducible refine (pte_Allowed.calls 25 2 false 1 false true false false false _ A53.out).mono ?_); rintro e w79 ⟨rfl, hb⟩; have n0_ := Aside0.mk (blk_below (g := gb247) (o := .cells #[.int .u8 0, .bool false, .int .u8 0, .bool false, .bool false, .bool false, .bool false] 32 (0, 0)) (by (with_reducible repeat (first | refine blk_drewN ?_ _ | refine blk_drew ?_ | refine blk_alloc ?_ _)); exact BK247.out) hb); have n1_ := Aside0.mk (blk_below (g := gb248) (o := .cells #[.int .u8 0, .bool false, .int .u8 0, .bool false, .bool false, .bool true, .bool false] 32 (0, 0)) (by (with_reducible repeat (first | refine blk_drewN ?_ _ | refine blk_drew ?_ | refine blk_alloc ?_ _)); exact BK248.out) hb); have n2_ := Aside0.mk (blk_below (g := gb249) (o := .cells #[.int .u8 0, .bool false, .int .u8 1, .bool false, .bool false, .bool false, .bool false] 32 (0, 0)) (by (with_reducible repeat (first | refine blk_drewN ?_ _ | refine blk_drew ?_ | refine blk_alloc ?_ _)); exact BK249.out) hb); have n3_ := Aside0.mk (blk_below (g := gb250) (o := .cells #[.int .u8 0, .bool false, .int .u8 1, .bool false, .bool true, .bool false, .bool false] 32 (0, 0)) (by (with_reducible repeat (first | refine blk_drewN ?_ _ | refine blk_drew ?_ | refine blk_alloc ?_ _)); exact BK250.out) hb); have n4_ := Aside0.mk (blk_below (g := gb251) (o := .cells #[.int .u8 2, .bool false, .int .u8 1, .bool false, .bool true, .bool false, .bool false] 32 (0, 0)) (by (with_reducible repeat (first | refine blk_drewN ?_ _ | refine blk_drew ?_ | refine blk_alloc ?_ _)); exact BK251.out) hb); have n5_ := Aside0.mk (below_step (by repeat (first | (with_reducible first | exact HB.out | apply below_alloc | apply pw_below_drewN | apply below_drew1 | refine below_set ?_ GE247.out | refine below_set ?_ GE248.out | refine below_set ?_ GE249.out | refine below_set ?_ GE250.out | refine below_set ?_ GE251.out) | exact HB.out)) hb); clear BK247; clear BK248; clear BK249; clear BK250; clear BK251; clear HB; have BK247 := n0_; have BK248 := n1_; have BK249 := n2_; have BK250 := n3_; have BK251 := n4_; have HB := n5_; clear n0_ n1_ n2_ n3_ n4_ n5_; (try clear hb); (try clear hb2); (try clear hk); (try clear hi); have hcz80_0 : w79.cell? ⟨gb251, 0, none⟩ = some (.int .u8 2) := (blk_cell BK251.out 0).trans rfl; have hcz80_1 : w79.cell? ⟨gb251, 1, none⟩ = some (.bool false) := (blk_cell BK251.out 1).trans rfl; have hcz80_2 : w79.cell? ⟨gb251, 2, none⟩ = some (.int .u8 1) := (blk_cell BK251.out 2).trans rfl; have hcz80_3 : w79.cell? ⟨gb251, 3, none⟩ = some (.bool false) := (blk_cell BK251.out 3).trans rfl; have hcz80_4 : w79.cell? ⟨gb251, 4, none⟩ = some (.bool true) := (blk_cell BK251.out 4).trans rfl; have hcz80_5 : w79.cell? ⟨gb251, 5, none⟩ = some (.bool false) := (blk_cell BK251.out 5).trans rfl; have hcz80_6 : w79.cell? ⟨gb251, 6, none⟩ = some (.bool false) := (blk_cell BK251.out 6).trans rfl; have hfz80_0 := blk_frozen BK251.out 0; have hfz80_1 := blk_frozen BK251.out 1; have hfz80_2 := blk_frozen BK251.out 2; have hfz80_3 := blk_frozen BK251.out 3; have hfz80_4 := blk_frozen BK251.out 4; have hfz80_5 := blk_frozen BK251.out 5; have hfz80_6 := blk_frozen BK251.out 6) | (go_at_call 21; (with_reducible refine (pte_Allowed.calls 9 2 false 1 false true false false t259 _ A55.out).mono ?_); rintro e w81 ⟨rfl, hb⟩; have n0_ := Aside0.mk (blk_below (g := gb247) (o := .cells #[.int .u8 0, .bool false, .int .u8 0, .bool false, .bool false, .bool false, .bool false] 32 (0, 0)) (by (with_reducible repeat (first | refine blk_drewN ?_ _ | refine blk_drew ?_ | refine blk_alloc ?_ _)); exact BK247.out) hb); have n1_ := Aside0.mk (blk_below (g := gb248) (o := .cells #[.int .u8 0, .bool false, .int .u8 0, .bool false, .bool false, .bool true, .bool false] 32 (0, 0)) (by (with_reducible repeat (first | refine blk_drewN ?_ _ | refine blk_drew ?_ | refine blk_alloc ?_ _)); exact BK248.out) hb); have n2_ := Aside0.mk (blk_below (g := gb249) (o := .cells #[.int .u8 0, .bool false, .int .u8 1, .bool false, .bool false, .bool false, .bool false] 32 (0, 0)) (by (with_reducible repeat (first | refine blk_drewN ?_ _ | refine blk_drew ?_ | refine blk_alloc ?_ _)); exact BK249.out) hb); have n3_ := Aside0.mk (blk_below (g := gb250) (o := .cells #[.int .u8 0, .bool false, .int .u8 1, .bool false, .bool true, .bool false, .bool false] 32 (0, 0)) (by (with_reducible repeat (first | refine blk_drewN ?_ _ | refine blk_drew ?_ | refine blk_alloc ?_ _)); exact BK250.out) hb); have n4_ := Aside0.mk (blk_below (g := gb251) (o := .cells #[.int .u8 2, .bool false, .int .u8 1, .bool false, .bool true, .bool false, .bool false] 32 (0, 0)) (by (with_reducible repeat (first | refine blk_drewN ?_ _ | refine blk_drew ?_ | refine blk_alloc ?_ _)); exact BK251.out) hb); have n5_ := Aside0.mk (below_step (by repeat (first | (with_reducible first | exact HB.out | apply below_alloc | apply pw_below_drewN | apply below_drew1 | refine below_set ?_ GE247.out | refine below_set ?_ GE248.out | refine below_set ?_ GE249.out | refine below_set ?_ GE250.out | refine below_set ?_ GE251.out) | exact HB.out)) hb); clear BK247; clear BK248; clear BK249; clear BK250; clear BK251; clear HB; have BK247 := n0_; have BK248 := n1_; have BK249 := n2_; have BK250 := n3_; have BK251 := n4_; have HB := n5_; clear n0_ n1_ n2_ n3_ n4_ n5_; (try clear hb); (try clear hb2); (try clear hk); (try clear hi)))
                        go_meet
                        case rel => exact ⟨_, (!t259), (by first | rfl | (simp; done) | (simp [*]; done)), H', ⟨by have := HJ0.out; first | omega | exact Nat.le_refl _⟩, ⟨by (with_reducible repeat (first | refine blk_drewN ?_ _ | refine blk_drew ?_ | refine blk_alloc ?_ _)); exact BK247.out⟩, ⟨by (with_reducible repeat (first | refine blk_drewN ?_ _ | refine blk_drew ?_ | refine blk_alloc ?_ _)); exact BK248.out⟩, ⟨by (with_reducible repeat (first | refine blk_drewN ?_ _ | refine blk_drew ?_ | refine blk_alloc ?_ _)); exact BK249.out⟩, ⟨by (with_reducible repeat (first | refine blk_drewN ?_ _ | refine blk_drew ?_ | refine blk_alloc ?_ _)); exact BK250.out⟩, ⟨by (with_reducible repeat (first | refine blk_drewN ?_ _ | refine blk_drew ?_ | refine blk_alloc ?_ _)); exact BK251.out⟩, ⟨by repeat (first | (with_reducible first | exact HB.out | apply below_alloc | apply pw_below_drewN | apply below_drew1 | refine below_set ?_ GE247.out | refine below_set ?_ GE248.out | refine below_set ?_ GE249.out | refine below_set ?_ GE250.out | refine below_set ?_ GE251.out) | exact HB.out)⟩⟩
                    · replace c52 := Bool.eq_false_iff.mpr c52
                      subst c52
                      have H1 : (mezzaninelaw15_PteKnown.j1 kj0 true 0 false 1 false false false false) = some r := by rw [if_neg (show ¬ (false = true) by decide)] at H; exact H
                      clear H
                      have H := H1
                      clear H1
                      exact absurd H (by rw [HT.out]; cases kj0 <;> simp [mezzaninelaw15_PteKnown.j1])
                · replace c48 := Bool.eq_false_iff.mpr c48
                  subst c48
                  have H1 : (mezzaninelaw15_PteKnown.j1 kj0 true 0 false 1 false false false false) = some r := by rw [if_neg (show ¬ (false = true) by decide)] at H; exact H
                  clear H
                  have H := H1
                  clear H1
                  exact absurd H (by rw [HT.out]; cases kj0 <;> simp [mezzaninelaw15_PteKnown.j1])
          · replace c42 := Bool.eq_false_iff.mpr c42
            subst c42
            have H1 : (mezzaninelaw15_PteKnown.j1 kj0 true 0 false 1 false false false false) = some r := by rw [if_neg (show ¬ (false = true) by decide)] at H; exact H
            clear H
            have H := H1
            clear H1
            exact absurd H (by rw [HT.out]; cases kj0 <;> simp [mezzaninelaw15_PteKnown.j1])
        case rest =>
          clear HC20
          try clear c1
          try clear c2
          try clear p2
          try clear c3
          try clear c4
          try clear c5
          try clear c6
          try clear c7
          try clear c9
          try clear c11
          try clear c13
          try clear c15
          try clear c17
          try clear c19
          try clear c21
          try clear c24
          try clear c27
          try clear c28
          try clear c31
          try clear c32
          try clear c33
          try clear c36
          try clear c37
          try clear c38
          try clear c39
          try clear c42
          try clear c44
          try clear c46
          try clear c48
          try clear c50
          try clear c52
          try clear c54
          try clear c56
          try clear c57
          try clear c58
          try clear c59
          try clear c66
          try clear c67
          try clear c68
          try clear c71
          try clear c72
          try clear c75
          try clear hcz22_0
          try clear hcz22_1
          try clear hcz22_2
          try clear hcz22_3
          try clear hcz22_4
          try clear hcz22_5
          try clear hcz22_6
          try clear hcz25_0
          try clear hcz25_1
          try clear hcz25_2
          try clear hcz25_3
          try clear hcz25_4
          try clear hcz25_5
          try clear hcz25_6
          try clear hcz29_0
          try clear hcz29_1
          try clear hcz29_2
          try clear hcz29_3
          try clear hcz29_4
          try clear hcz29_5
          try clear hcz29_6
          try clear hcz34_0
          try clear hcz34_1
          try clear hcz34_2
          try clear hcz34_3
          try clear hcz34_4
          try clear hcz34_5
          try clear hcz34_6
          try clear hcz40_0
          try clear hcz40_1
          try clear hcz40_2
          try clear hcz40_3
          try clear hcz40_4
          try clear hcz40_5
          try clear hcz40_6
          try clear hcz60_0
          try clear hcz60_1
          try clear hcz60_2
          try clear hcz60_3
          try clear hcz60_4
          try clear hcz60_5
          try clear hcz60_6
          try clear hcz62_0
          try clear hcz62_1
          try clear hcz62_2
          try clear hcz62_3
          try clear hcz62_4
          try clear hcz62_5
          try clear hcz62_6
          try clear hcz64_0
          try clear hcz64_1
          try clear hcz64_2
          try clear hcz64_3
          try clear hcz64_4
          try clear hcz64_5
          try clear hcz64_6
          try clear hcz69_0
          try clear hcz69_1
          try clear hcz69_2
          try clear hcz69_3
          try clear hcz69_4
          try clear hcz69_5
          try clear hcz69_6
          try clear hcz73_0
          try clear hcz73_1
          try clear hcz73_2
          try clear hcz73_3
          try clear hcz73_4
          try clear hcz73_5
          try clear hcz73_6
          try clear hcz76_0
          try clear hcz76_1
          try clear hcz76_2
          try clear hcz76_3
          try clear hcz76_4
          try clear hcz76_5
          try clear hcz76_6
          try clear hcz78_0
          try clear hcz78_1
          try clear hcz78_2
          try clear hcz78_3
          try clear hcz78_4
          try clear hcz78_5
          try clear hcz78_6
          try clear hcz80_0
          try clear hcz80_1
          try clear hcz80_2
          try clear hcz80_3
          try clear hcz80_4
          try clear hcz80_5
          try clear hcz80_6
          try clear hfz22_0
          try clear hfz22_1
          try clear hfz22_2
          try clear hfz22_3
          try clear hfz22_4
          try clear hfz22_5
          try clear hfz22_6
          try clear hfz25_0
          try clear hfz25_1
          try clear hfz25_2
          try clear hfz25_3
          try clear hfz25_4
          try clear hfz25_5
          try clear hfz25_6
          try clear hfz29_0
          try clear hfz29_1
          try clear hfz29_2
          try clear hfz29_3
          try clear hfz29_4
          try clear hfz29_5
          try clear hfz29_6
          try clear hfz34_0
          try clear hfz34_1
          try clear hfz34_2
          try clear hfz34_3
          try clear hfz34_4
          try clear hfz34_5
          try clear hfz34_6
          try clear hfz40_0
          try clear hfz40_1
          try clear hfz40_2
          try clear hfz40_3
          try clear hfz40_4
          try clear hfz40_5
          try clear hfz40_6
          try clear hfz60_0
          try clear hfz60_1
          try clear hfz60_2
          try clear hfz60_3
          try clear hfz60_4
          try clear hfz60_5
          try clear hfz60_6
          try clear hfz62_0
          try clear hfz62_1
          try clear hfz62_2
          try clear hfz62_3
          try clear hfz62_4
          try clear hfz62_5
          try clear hfz62_6
          try clear hfz64_0
          try clear hfz64_1
          try clear hfz64_2
          try clear hfz64_3
          try clear hfz64_4
          try clear hfz64_5
          try clear hfz64_6
          try clear hfz69_0
          try clear hfz69_1
          try clear hfz69_2
          try clear hfz69_3
          try clear hfz69_4
          try clear hfz69_5
          try clear hfz69_6
          try clear hfz73_0
          try clear hfz73_1
          try clear hfz73_2
          try clear hfz73_3
          try clear hfz73_4
          try clear hfz73_5
          try clear hfz73_6
          try clear hfz76_0
          try clear hfz76_1
          try clear hfz76_2
          try clear hfz76_3
          try clear hfz76_4
          try clear hfz76_5
          try clear hfz76_6
          try clear hfz78_0
          try clear hfz78_1
          try clear hfz78_2
          try clear hfz78_3
          try clear hfz78_4
          try clear hfz78_5
          try clear hfz78_6
          try clear hfz80_0
          try clear hfz80_1
          try clear hfz80_2
          try clear hfz80_3
          try clear hfz80_4
          try clear hfz80_5
          try clear hfz80_6
          try clear p2
          obtain ⟨kq, x72_19, rfl, HA, HJ19, BK247, BK248, BK249, BK250, BK251, HB⟩ := hcut
          cases kq with
          | zero => exact absurd HA.out (by simp [mezzaninelaw15_PteKnown.j1])
          | succ kj19 =>
            have H := HA.out
            clear HA
            simp only [mezzaninelaw15_PteKnown.j1] at H
            by_cases c82 : x72_19 = true
            · subst c82
              have H1 : (some false) = some r := by rw [if_pos rfl] at H; exact H
              clear H
              have H := H1
              clear H1
              exact absurd (Option.some.inj H) (by rw [HT.out]; decide)
            · replace c82 := Bool.eq_false_iff.mpr c82
              subst c82
              have H1 : ((pte_Judge.f kj19 1 0 0 false 1 false false false false).bind fun t260 => (if t260 = 0 then ((pte_Judge.f kj19 1 1 0 false 1 false false false false).bind fun t261 => (if t261 = 1 then ((pte_Judge.f kj19 67 0 0 false 1 false false false false).bind fun t262 => (if t262 = 2 then ((pte_Judge.f kj19 0 1 0 false 1 false false false false).bind fun t263 => (if t263 = 0 then ((pte_Judge.f kj19 73 0 0 false 1 false false false false).bind fun t264 => (mezzaninelaw15_PteKnown.j2 kj19 (t264 != 0) 0 false 1 false false false false)) else (mezzaninelaw15_PteKnown.j2 kj19 true 0 false 1 false false false false))) else (mezzaninelaw15_PteKnown.j2 kj19 true 0 false 1 false false false false))) else (mezzaninelaw15_PteKnown.j2 kj19 true 0 false 1 false false false false))) else (mezzaninelaw15_PteKnown.j2 kj19 true 0 false 1 false false false false))) = some r := by rw [if_neg (show ¬ (false = true) by decide)] at H; exact H
              clear H
              have H := H1
              clear H1
              have HC83 := Aside0.mk H
              clear H
              go_upto_region 10 with (fail)
              go_cut [95] (fun v95 wc => ∃ (kq : Nat) (x95_82 : Bool), v95 = .bool x95_82 ∧ Aside0 (mezzaninelaw15_PteKnown.j2 kq x95_82 0 false 1 false false false false = some r) ∧ Aside0 (kq ≤ kj19) ∧ Aside0 (wc.heap[gb247]? = some (.cells #[.int .u8 0, .bool false, .int .u8 0, .bool false, .bool false, .bool false, .bool false] 32 (0, 0))) ∧ Aside0 (wc.heap[gb248]? = some (.cells #[.int .u8 0, .bool false, .int .u8 0, .bool false, .bool false, .bool true, .bool false] 32 (0, 0))) ∧ Aside0 (wc.heap[gb249]? = some (.cells #[.int .u8 0, .bool false, .int .u8 1, .bool false, .bool false, .bool false, .bool false] 32 (0, 0))) ∧ Aside0 (wc.heap[gb250]? = some (.cells #[.int .u8 0, .bool false, .int .u8 1, .bool false, .bool true, .bool false, .bool false] 32 (0, 0))) ∧ Aside0 (wc.heap[gb251]? = some (.cells #[.int .u8 2, .bool false, .int .u8 1, .bool false, .bool true, .bool false, .bool false] 32 (0, 0))) ∧ Aside0 (Below w.heap.size w wc))
              case first =>
                have H := HC83.out
                clear HC83
                replace H := Option.bind_eq_some_iff.mp H
                obtain ⟨t260, A840, H⟩ := H
                replace H : (if t260 = 0 then ((pte_Judge.f kj19 1 1 0 false 1 false false false false).bind fun t261 => (if t261 = 1 then ((pte_Judge.f kj19 67 0 0 false 1 false false false false).bind fun t262 => (if t262 = 2 then ((pte_Judge.f kj19 0 1 0 false 1 false false false false).bind fun t263 => (if t263 = 0 then ((pte_Judge.f kj19 73 0 0 false 1 false false false false).bind fun t264 => (mezzaninelaw15_PteKnown.j2 kj19 (t264 != 0) 0 false 1 false false false false)) else (mezzaninelaw15_PteKnown.j2 kj19 true 0 false 1 false false false false))) else (mezzaninelaw15_PteKnown.j2 kj19 true 0 false 1 false false false false))) else (mezzaninelaw15_PteKnown.j2 kj19 true 0 false 1 false false false false))) else (mezzaninelaw15_PteKnown.j2 kj19 true 0 false 1 false false false false)) = some r := H
                have A84 := Aside0.mk A840
                clear A840
                by_cases c85 : t260 = 0
                · rw [if_pos c85] at H
                  have c85b0 : (t260 == 0) = true := beq_iff_eq.mpr c85
                  have c85b1 : (t260 != 0) = false := bne_eq_false_iff_eq.mpr c85
                  clear c85
                  (first | rw [c85b0] | (simp only [i64_w, i32_w]; rw [c85b0]) | skip)
                  replace H := Option.bind_eq_some_iff.mp H
                  obtain ⟨t261, A860, H⟩ := H
                  replace H : (if t261 = 1 then ((pte_Judge.f kj19 67 0 0 false 1 false false false false).bind fun t262 => (if t262 = 2 then ((pte_Judge.f kj19 0 1 0 false 1 false false false false).bind fun t263 => (if t263 = 0 then ((pte_Judge.f kj19 73 0 0 false 1 false false false false).bind fun t264 => (mezzaninelaw15_PteKnown.j2 kj19 (t264 != 0) 0 false 1 false false false false)) else (mezzaninelaw15_PteKnown.j2 kj19 true 0 false 1 false false false false))) else (mezzaninelaw15_PteKnown.j2 kj19 true 0 false 1 false false false false))) else (mezzaninelaw15_PteKnown.j2 kj19 true 0 false 1 false false false false)) = some r := H
                  have A86 := Aside0.mk A860
                  clear A860
                  by_cases c87 : t261 = 1
                  · rw [if_pos c87] at H
                    have c87b0 : (t261 == 1) = true := beq_iff_eq.mpr c87
                    have c87b1 : (t261 != 1) = false := bne_eq_false_iff_eq.mpr c87
                    clear c87
                    replace H := Option.bind_eq_some_iff.mp H
                    obtain ⟨t262, A880, H⟩ := H
                    replace H : (if t262 = 2 then ((pte_Judge.f kj19 0 1 0 false 1 false false false false).bind fun t263 => (if t263 = 0 then ((pte_Judge.f kj19 73 0 0 false 1 false false false false).bind fun t264 => (mezzaninelaw15_PteKnown.j2 kj19 (t264 != 0) 0 false 1 false false false false)) else (mezzaninelaw15_PteKnown.j2 kj19 true 0 false 1 false false false false))) else (mezzaninelaw15_PteKnown.j2 kj19 true 0 false 1 false false false false)) = some r := H
                    have A88 := Aside0.mk A880
                    clear A880
                    by_cases c89 : t262 = 2
                    · rw [if_pos c89] at H
                      have c89b0 : (t262 == 2) = true := beq_iff_eq.mpr c89
                      have c89b1 : (t262 != 2) = false := bne_eq_false_iff_eq.mpr c89
                      clear c89
                      replace H := Option.bind_eq_some_iff.mp H
                      obtain ⟨t263, A900, H⟩ := H
                      replace H : (if t263 = 0 then ((pte_Judge.f kj19 73 0 0 false 1 false false false false).bind fun t264 => (mezzaninelaw15_PteKnown.j2 kj19 (t264 != 0) 0 false 1 false false false false)) else (mezzaninelaw15_PteKnown.j2 kj19 true 0 false 1 false false false false)) = some r := H
                      have A90 := Aside0.mk A900
                      clear A900
                      by_cases c91 : t263 = 0
                      · rw [if_pos c91] at H
                        have c91b0 : (t263 == 0) = true := beq_iff_eq.mpr c91
                        have c91b1 : (t263 != 0) = false := bne_eq_false_iff_eq.mpr c91
                        clear c91
                        replace H := Option.bind_eq_some_iff.mp H
                        obtain ⟨t264, A920, H⟩ := H
                        replace H : (mezzaninelaw15_PteKnown.j2 kj19 (t264 != 0) 0 false 1 false false false false) = some r := H
                        have A92 := Aside0.mk A920
                        clear A920
                        have H' := Aside0.mk H
                        clear H
                        have hnb93 := NB249_247.out
                        have hnc93 := NB247_249.out
                        have hnb94 := NB249_248.out
                        have hnc94 := NB248_249.out
                        have hnb95 := NB249_250.out
                        have hnc95 := NB250_249.out
                        have hnb96 := NB249_251.out
                        have hnc96 := NB251_249.out
                        have hcz97_0 : wc.cell? ⟨gb249, 0, none⟩ = some (.int .u8 0) := (blk_cell BK249.out 0).trans rfl
                        have hcz97_1 : wc.cell? ⟨gb249, 1, none⟩ = some (.bool false) := (blk_cell BK249.out 1).trans rfl
                        have hcz97_2 : wc.cell? ⟨gb249, 2, none⟩ = some (.int .u8 1) := (blk_cell BK249.out 2).trans rfl
                        have hcz97_3 : wc.cell? ⟨gb249, 3, none⟩ = some (.bool false) := (blk_cell BK249.out 3).trans rfl
                        have hcz97_4 : wc.cell? ⟨gb249, 4, none⟩ = some (.bool false) := (blk_cell BK249.out 4).trans rfl
                        have hcz97_5 : wc.cell? ⟨gb249, 5, none⟩ = some (.bool false) := (blk_cell BK249.out 5).trans rfl
                        have hcz97_6 : wc.cell? ⟨gb249, 6, none⟩ = some (.bool false) := (blk_cell BK249.out 6).trans rfl
                        have hfz97_0 := blk_frozen BK249.out 0
                        have hfz97_1 := blk_frozen BK249.out 1
                        have hfz97_2 := blk_frozen BK249.out 2
                        have hfz97_3 := blk_frozen BK249.out 3
                        have hfz97_4 := blk_frozen BK249.out 4
                        have hfz97_5 := blk_frozen BK249.out 5
                        have hfz97_6 := blk_frozen BK249.out 6
                        go_wp2_with (first | ((with_reducible refine gate_callee (f := 19) rfl ?_); refine goesL_ (some 74) rfl rfl Try.func19 (by kernel_rfl) rfl #[.int .u64 1, .int .i64 0, .agg #[.int .u8 0, .bool false, .int .u8 1, .bool false, .bool false, .bool false, .bool false]] rfl (by (try simp only [List.map_toArray, List.map_cons, List.map_nil]); first | done | rfl | (simp only [List.length_drop, List.length_take]; rfl)) ?_; (with_reducible refine (pte_Judge.calls kj19 1 0 0 false 1 false false false false t260 _ A84.out).mono ?_); rintro e w98 ⟨rfl, hb⟩; refine ⟨_, rfl, ?_⟩; have n0_ := Aside0.mk (blk_below (g := gb247) (o := .cells #[.int .u8 0, .bool false, .int .u8 0, .bool false, .bool false, .bool false, .bool false] 32 (0, 0)) (by (with_reducible repeat (first | refine blk_drewN ?_ _ | refine blk_drew ?_ | refine blk_alloc ?_ _)); exact BK247.out) hb); have n1_ := Aside0.mk (blk_below (g := gb248) (o := .cells #[.int .u8 0, .bool false, .int .u8 0, .bool false, .bool false, .bool true, .bool false] 32 (0, 0)) (by (with_reducible repeat (first | refine blk_drewN ?_ _ | refine blk_drew ?_ | refine blk_alloc ?_ _)); exact BK248.out) hb); have n2_ := Aside0.mk (blk_below (g := gb249) (o := .cells #[.int .u8 0, .bool false, .int .u8 1, .bool false, .bool false, .bool false, .bool false] 32 (0, 0)) (by (with_reducible repeat (first | refine blk_drewN ?_ _ | refine blk_drew ?_ | refine blk_alloc ?_ _)); exact BK249.out) hb); have n3_ := Aside0.mk (blk_below (g := gb250) (o := .cells #[.int .u8 0, .bool false, .int .u8 1, .bool false, .bool true, .bool false, .bool false] 32 (0, 0)) (by (with_reducible repeat (first | refine blk_drewN ?_ _ | refine blk_drew ?_ | refine blk_alloc ?_ _)); exact BK250.out) hb); have n4_ := Aside0.mk (blk_below (g := gb251) (o := .cells #[.int .u8 2, .bool false, .int .u8 1, .bool false, .bool true, .bool false, .bool false] 32 (0, 0)) (by (with_reducible repeat (first | refine blk_drewN ?_ _ | refine blk_drew ?_ | refine blk_alloc ?_ _)); exact BK251.out) hb); have n5_ := Aside0.mk (below_step (by repeat (first | (with_reducible first | exact HB.out | apply below_alloc | apply pw_below_drewN | apply below_drew1 | refine below_set ?_ GE247.out | refine below_set ?_ GE248.out | refine below_set ?_ GE249.out | refine below_set ?_ GE250.out | refine below_set ?_ GE251.out) | exact HB.out)) hb); clear BK247; clear BK248; clear BK249; clear BK250; clear BK251; clear HB; have BK247 := n0_; have BK248 := n1_; have BK249 := n2_; have BK250 := n3_; have BK251 := n4_; have HB := n5_; clear n0_ n1_ n2_ n3_ n4_ n5_; (try clear hb); (try clear hb2); (try clear hk); (try clear hi); have hcz99_0 : w98.cell? ⟨gb249, 0, none⟩ = some (.int .u8 0) := (blk_cell BK249.out 0).trans rfl; have hcz99_1 : w98.cell? ⟨gb249, 1, none⟩ = some (.bool false) := (blk_cell BK249.out 1).trans rfl; have hcz99_2 : w98.cell? ⟨gb249, 2, none⟩ = some (.int .u8 1) := (blk_cell BK249.out 2).trans rfl; have hcz99_3 : w98.cell? ⟨gb249, 3, none⟩ = some (.bool false) := (blk_cell BK249.out 3).trans rfl; have hcz99_4 : w98.cell? ⟨gb249, 4, none⟩ = some (.bool false) := (blk_cell BK249.out 4).trans rfl; have hcz99_5 : w98.cell? ⟨gb249, 5, none⟩ = some (.bool false) := (blk_cell BK249.out 5).trans rfl; have hcz99_6 : w98.cell? ⟨gb249, 6, none⟩ = some (.bool false) := (blk_cell BK249.out 6).trans rfl; have hfz99_0 := blk_frozen BK249.out 0; have hfz99_1 := blk_frozen BK249.out 1; have hfz99_2 := blk_frozen BK249.out 2; have hfz99_3 := blk_frozen BK249.out 3; have hfz99_4 := blk_frozen BK249.out 4; have hfz99_5 := blk_frozen BK249.out 5; have hfz99_6 := blk_frozen BK249.out 6) | (go_at_call 19; (with_reducible refine (pte_Judge.calls kj19 1 1 0 false 1 false false false false t261 _ A86.out).mono ?_); rintro e w100 ⟨rfl, hb⟩; have n0_ := Aside0.mk (blk_below (g := gb247) (o := .cells #[.int .u8 0, .bool false, .int .u8 0, .bool false, .bool false, .bool false, .bool false] 32 (0, 0)) (by (with_reducible repeat (first | refine blk_drewN ?_ _ | refine blk_drew ?_ | refine blk_alloc ?_ _)); exact BK247.out) hb); have n1_ := Aside0.mk (blk_below (g := gb248) (o := .cells #[.int .u8 0, .bool false, .int .u8 0, .bool false, .bool false, .bool true, .bool false] 32 (0, 0)) (by (with_reducible repeat (first | refine blk_drewN ?_ _ | refine blk_drew ?_ | refine blk_alloc ?_ _)); exact BK248.out) hb); have n2_ := Aside0.mk (blk_below (g := gb249) (o := .cells #[.int .u8 0, .bool false, .int .u8 1, .bool false, .bool false, .bool false, .bool false] 32 (0, 0)) (by (with_reducible repeat (first | refine blk_drewN ?_ _ | refine blk_drew ?_ | refine blk_alloc ?_ _)); exact BK249.out) hb); have n3_ := Aside0.mk (blk_below (g := gb250) (o := .cells #[.int .u8 0, .bool false, .int .u8 1, .bool false, .bool true, .bool false, .bool false] 32 (0, 0)) (by (with_reducible repeat (first | refine blk_drewN ?_ _ | refine blk_drew ?_ | refine blk_alloc ?_ _)); exact BK250.out) hb); have n4_ := Aside0.mk (blk_below (g := gb251) (o := .cells #[.int .u8 2, .bool false, .int .u8 1, .bool false, .bool true, .bool false, .bool false] 32 (0, 0)) (by (with_reducible repeat (first | refine blk_drewN ?_ _ | refine blk_drew ?_ | refine blk_alloc ?_ _)); exact BK251.out) hb); have n5_ := Aside0.mk (below_step (by repeat (first | (with_reducible first | exact HB.out | apply below_alloc | apply pw_below_drewN | apply below_drew1 | refine below_set ?_ GE247.out | refine below_set ?_ GE248.out | refine below_set ?_ GE249.out | refine below_set ?_ GE250.out | refine below_set ?_ GE251.out) | exact HB.out)) hb); clear BK247; clear BK248; clear BK249; clear BK250; clear BK251; clear HB; have BK247 := n0_; have BK248 := n1_; have BK249 := n2_; have BK250 := n3_; have BK251 := n4_; have HB := n5_; clear n0_ n1_ n2_ n3_ n4_ n5_; (try clear hb); (try clear hb2); (try clear hk); (try clear hi); have hcz101_0 : w100.cell? ⟨gb249, 0, none⟩ = some (.int .u8 0) := (blk_cell BK249.out 0).trans rfl; have hcz101_1 : w100.cell? ⟨gb249, 1, none⟩ = some (.bool false) := (blk_cell BK249.out 1).trans rfl; have hcz101_2 : w100.cell? ⟨gb249, 2, none⟩ = some (.int .u8 1) := (blk_cell BK249.out 2).trans rfl; have hcz101_3 : w100.cell? ⟨gb249, 3, none⟩ = some (.bool false) := (blk_cell BK249.out 3).trans rfl; have hcz101_4 : w100.cell? ⟨gb249, 4, none⟩ = some (.bool false) := (blk_cell BK249.out 4).trans rfl; have hcz101_5 : w100.cell? ⟨gb249, 5, none⟩ = some (.bool false) := (blk_cell BK249.out 5).trans rfl; have hcz101_6 : w100.cell? ⟨gb249, 6, none⟩ = some (.bool false) := (blk_cell BK249.out 6).trans rfl; have hfz101_0 := blk_frozen BK249.out 0; have hfz101_1 := blk_frozen BK249.out 1; have hfz101_2 := blk_frozen BK249.out 2; have hfz101_3 := blk_frozen BK249.out 3; have hfz101_4 := blk_frozen BK249.out 4; have hfz101_5 := blk_frozen BK249.out 5; have hfz101_6 := blk_frozen BK249.out 6) | (go_at_call 19; (with_reducible refine (pte_Judge.calls kj19 67 0 0 false 1 false false false false t262 _ A88.out).mono ?_); rintro e w102 ⟨rfl, hb⟩; have n0_ := Aside0.mk (blk_below (g := gb247) (o := .cells #[.int .u8 0, .bool false, .int .u8 0, .bool false, .bool false, .bool false, .bool false] 32 (0, 0)) (by (with_reducible repeat (first | refine blk_drewN ?_ _ | refine blk_drew ?_ | refine blk_alloc ?_ _)); exact BK247.out) hb); have n1_ := Aside0.mk (blk_below (g := gb248) (o := .cells #[.int .u8 0, .bool false, .int .u8 0, .bool false, .bool false, .bool true, .bool false] 32 (0, 0)) (by (with_reducible repeat (first | refine blk_drewN ?_ _ | refine blk_drew ?_ | refine blk_alloc ?_ _)); exact BK248.out) hb); have n2_ := Aside0.mk (blk_below (g := gb249) (o := .cells #[.int .u8 0, .bool false, .int .u8 1, .bool false, .bool false, .bool false, .bool false] 32 (0, 0)) (by (with_reducible repeat (first | refine blk_drewN ?_ _ | refine blk_drew ?_ | refine blk_alloc ?_ _)); exact BK249.out) hb); have n3_ := Aside0.mk (blk_below (g := gb250) (o := .cells #[.int .u8 0, .bool false, .int .u8 1, .bool false, .bool true, .bool false, .bool false] 32 (0, 0)) (by (with_reducible repeat (first | refine blk_drewN ?_ _ | refine blk_drew ?_ | refine blk_alloc ?_ _)); exact BK250.out) hb); have n4_ := Aside0.mk (blk_below (g := gb251) (o := .cells #[.int .u8 2, .bool false, .int .u8 1, .bool false, .bool true, .bool false, .bool false] 32 (0, 0)) (by (with_reducible repeat (first | refine blk_drewN ?_ _ | refine blk_drew ?_ | refine blk_alloc ?_ _)); exact BK251.out) hb); have n5_ := Aside0.mk (below_step (by repeat (first | (with_reducible first | exact HB.out | apply below_alloc | apply pw_below_drewN | apply below_drew1 | refine below_set ?_ GE247.out | refine below_set ?_ GE248.out | refine below_set ?_ GE249.out | refine below_set ?_ GE250.out | refine below_set ?_ GE251.out) | exact HB.out)) hb); clear BK247; clear BK248; clear BK249; clear BK250; clear BK251; clear HB; have BK247 := n0_; have BK248 := n1_; have BK249 := n2_; have BK250 := n3_; have BK251 := n4_; have HB := n5_; clear n0_ n1_ n2_ n3_ n4_ n5_; (try clear hb); (try clear hb2); (try clear hk); (try clear hi); have hcz103_0 : w102.cell? ⟨gb249, 0, none⟩ = some (.int .u8 0) := (blk_cell BK249.out 0).trans rfl; have hcz103_1 : w102.cell? ⟨gb249, 1, none⟩ = some (.bool false) := (blk_cell BK249.out 1).trans rfl; have hcz103_2 : w102.cell? ⟨gb249, 2, none⟩ = some (.int .u8 1) := (blk_cell BK249.out 2).trans rfl; have hcz103_3 : w102.cell? ⟨gb249, 3, none⟩ = some (.bool false) := (blk_cell BK249.out 3).trans rfl; have hcz103_4 : w102.cell? ⟨gb249, 4, none⟩ = some (.bool false) := (blk_cell BK249.out 4).trans rfl; have hcz103_5 : w102.cell? ⟨gb249, 5, none⟩ = some (.bool false) := (blk_cell BK249.out 5).trans rfl; have hcz103_6 : w102.cell? ⟨gb249, 6, none⟩ = some (.bool false) := (blk_cell BK249.out 6).trans rfl; have hfz103_0 := blk_frozen BK249.out 0; have hfz103_1 := blk_frozen BK249.out 1; have hfz103_2 := blk_frozen BK249.out 2; have hfz103_3 := blk_frozen BK249.out 3; have hfz103_4 := blk_frozen BK249.out 4; have hfz103_5 := blk_frozen BK249.out 5; have hfz103_6 := blk_frozen BK249.out 6) | (go_at_call 19; (with_reducible refine (pte_Judge.calls kj19 0 1 0 false 1 false false false false t263 _ A90.out).mono ?_); rintro e w104 ⟨rfl, hb⟩; have n0_ := Aside0.mk (blk_below (g := gb247) (o := .cells #[.int .u8 0, .bool false, .int .u8 0, .bool false, .bool false, .bool false, .bool false] 32 (0, 0)) (by (with_reducible repeat (first | refine blk_drewN ?_ _ | refine blk_drew ?_ | refine blk_alloc ?_ _)); exact BK247.out) hb); have n1_ := Aside0.mk (blk_below (g := gb248) (o := .cells #[.int .u8 0, .bool false, .int .u8 0, .bool false, .bool false, .bool true, .bool false] 32 (0, 0)) (by (with_reducible repeat (first | refine blk_drewN ?_ _ | refine blk_drew ?_ | refine blk_alloc ?_ _)); exact BK248.out) hb); have n2_ := Aside0.mk (blk_below (g := gb249) (o := .cells #[.int .u8 0, .bool false, .int .u8 1, .bool false, .bool false, .bool false, .bool false] 32 (0, 0)) (by (with_reducible repeat (first | refine blk_drewN ?_ _ | refine blk_drew ?_ | refine blk_alloc ?_ _)); exact BK249.out) hb); have n3_ := Aside0.mk (blk_below (g := gb250) (o := .cells #[.int .u8 0, .bool false, .int .u8 1, .bool false, .bool true, .bool false, .bool false] 32 (0, 0)) (by (with_reducible repeat (first | refine blk_drewN ?_ _ | refine blk_drew ?_ | refine blk_alloc ?_ _)); exact BK250.out) hb); have n4_ := Aside0.mk (blk_below (g := gb251) (o := .cells #[.int .u8 2, .bool false, .int .u8 1, .bool false, .bool true, .bool false, .bool false] 32 (0, 0)) (by (with_reducible repeat (first | refine blk_drewN ?_ _ | refine blk_drew ?_ | refine blk_alloc ?_ _)); exact BK251.out) hb); have n5_ := Aside0.mk (below_step (by repeat (first | (with_reducible first | exact HB.out | apply below_alloc | apply pw_below_drewN | apply below_drew1 | refine below_set ?_ GE247.out | refine below_set ?_ GE248.out | refine below_set ?_ GE249.out | refine below_set ?_ GE250.out | refine below_set ?_ GE251.out) | exact HB.out)) hb); clear BK247; clear BK248; clear BK249; clear BK250; clear BK251; clear HB; have BK247 := n0_; have BK248 := n1_; have BK249 := n2_; have BK250 := n3_; have BK251 := n4_; have HB := n5_; clear n0_ n1_ n2_ n3_ n4_ n5_; (try clear hb); (try clear hb2); (try clear hk); (try clear hi); have hcz105_0 : w104.cell? ⟨gb249, 0, none⟩ = some (.int .u8 0) := (blk_cell BK249.out 0).trans rfl; have hcz105_1 : w104.cell? ⟨gb249, 1, none⟩ = some (.bool false) := (blk_cell BK249.out 1).trans rfl; have hcz105_2 : w104.cell? ⟨gb249, 2, none⟩ = some (.int .u8 1) := (blk_cell BK249.out 2).trans rfl; have hcz105_3 : w104.cell? ⟨gb249, 3, none⟩ = some (.bool false) := (blk_cell BK249.out 3).trans rfl; have hcz105_4 : w104.cell? ⟨gb249, 4, none⟩ = some (.bool false) := (blk_cell BK249.out 4).trans rfl; have hcz105_5 : w104.cell? ⟨gb249, 5, none⟩ = some (.bool false) := (blk_cell BK249.out 5).trans rfl; have hcz105_6 : w104.cell? ⟨gb249, 6, none⟩ = some (.bool false) := (blk_cell BK249.out 6).trans rfl; have hfz105_0 := blk_frozen BK249.out 0; have hfz105_1 := blk_frozen BK249.out 1; have hfz105_2 := blk_frozen BK249.out 2; have hfz105_3 := blk_frozen BK249.out 3; have hfz105_4 := blk_frozen BK249.out 4; have hfz105_5 := blk_frozen BK249.out 5; have hfz105_6 := blk_frozen BK249.out 6) | (go_at_call 19; (with_reducible refine (pte_Judge.calls kj19 73 0 0 false 1 false false false false t264 _ A92.out).mono ?_); rintro e w106 ⟨rfl, hb⟩; have n0_ := Aside0.mk (blk_below (g := gb247) (o := .cells #[.int .u8 0, .bool false, .int .u8 0, .bool false, .bool false, .bool false, .bool false] 32 (0, 0)) (by (with_reducible repeat (first | refine blk_drewN ?_ _ | refine blk_drew ?_ | refine blk_alloc ?_ _)); exact BK247.out) hb); have n1_ := Aside0.mk (blk_below (g := gb248) (o := .cells #[.int .u8 0, .bool false, .int .u8 0, .bool false, .bool false, .bool true, .bool false] 32 (0, 0)) (by (with_reducible repeat (first | refine blk_drewN ?_ _ | refine blk_drew ?_ | refine blk_alloc ?_ _)); exact BK248.out) hb); have n2_ := Aside0.mk (blk_below (g := gb249) (o := .cells #[.int .u8 0, .bool false, .int .u8 1, .bool false, .bool false, .bool false, .bool false] 32 (0, 0)) (by (with_reducible repeat (first | refine blk_drewN ?_ _ | refine blk_drew ?_ | refine blk_alloc ?_ _)); exact BK249.out) hb); have n3_ := Aside0.mk (blk_below (g := gb250) (o := .cells #[.int .u8 0, .bool false, .int .u8 1, .bool false, .bool true, .bool false, .bool false] 32 (0, 0)) (by (with_reducible repeat (first | refine blk_drewN ?_ _ | refine blk_drew ?_ | refine blk_alloc ?_ _)); exact BK250.out) hb); have n4_ := Aside0.mk (blk_below (g := gb251) (o := .cells #[.int .u8 2, .bool false, .int .u8 1, .bool false, .bool true, .bool false, .bool false] 32 (0, 0)) (by (with_reducible repeat (first | refine blk_drewN ?_ _ | refine blk_drew ?_ | refine blk_alloc ?_ _)); exact BK251.out) hb); have n5_ := Aside0.mk (below_step (by repeat (first | (with_reducible first | exact HB.out | apply below_alloc | apply pw_below_drewN | apply below_drew1 | refine below_set ?_ GE247.out | refine below_set ?_ GE248.out | refine below_set ?_ GE249.out | refine below_set ?_ GE250.out | refine below_set ?_ GE251.out) | exact HB.out)) hb); clear BK247; clear BK248; clear BK249; clear BK250; clear BK251; clear HB; have BK247 := n0_; have BK248 := n1_; have BK249 := n2_; have BK250 := n3_; have BK251 := n4_; have HB := n5_; clear n0_ n1_ n2_ n3_ n4_ n5_; (try clear hb); (try clear hb2); (try clear hk); (try clear hi)))
                        go_meet
                        case rel => exact ⟨_, ((t264 != 0)), (by first | rfl | (simp; done) | (simp [*]; done)), H', ⟨by have := HJ0.out; have := HJ19.out; first | omega | exact Nat.le_refl _⟩, ⟨by (with_reducible repeat (first | refine blk_drewN ?_ _ | refine blk_drew ?_ | refine blk_alloc ?_ _)); exact BK247.out⟩, ⟨by (with_reducible repeat (first | refine blk_drewN ?_ _ | refine blk_drew ?_ | refine blk_alloc ?_ _)); exact BK248.out⟩, ⟨by (with_reducible repeat (first | refine blk_drewN ?_ _ | refine blk_drew ?_ | refine blk_alloc ?_ _)); exact BK249.out⟩, ⟨by (with_reducible repeat (first | refine blk_drewN ?_ _ | refine blk_drew ?_ | refine blk_alloc ?_ _)); exact BK250.out⟩, ⟨by (with_reducible repeat (first | refine blk_drewN ?_ _ | refine blk_drew ?_ | refine blk_alloc ?_ _)); exact BK251.out⟩, ⟨by repeat (first | (with_reducible first | exact HB.out | apply below_alloc | apply pw_below_drewN | apply below_drew1 | refine below_set ?_ GE247.out | refine below_set ?_ GE248.out | refine below_set ?_ GE249.out | refine below_set ?_ GE250.out | refine below_set ?_ GE251.out) | exact HB.out)⟩⟩
                      · rw [if_neg c91] at H
                        have c91b0 : (t263 == 0) = false := beq_eq_false_iff_ne.mpr c91
                        have c91b1 : (t263 != 0) = true := bne_iff_ne.mpr c91
                        exact absurd H (by rw [HT.out]; cases kj19 <;> simp [mezzaninelaw15_PteKnown.j2])
                    · rw [if_neg c89] at H
                      have c89b0 : (t262 == 2) = false := beq_eq_false_iff_ne.mpr c89
                      have c89b1 : (t262 != 2) = true := bne_iff_ne.mpr c89
                      exact absurd H (by rw [HT.out]; cases kj19 <;> simp [mezzaninelaw15_PteKnown.j2])
                  · rw [if_neg c87] at H
                    have c87b0 : (t261 == 1) = false := beq_eq_false_iff_ne.mpr c87
                    have c87b1 : (t261 != 1) = true := bne_iff_ne.mpr c87
                    exact absurd H (by rw [HT.out]; cases kj19 <;> simp [mezzaninelaw15_PteKnown.j2])
                · rw [if_neg c85] at H
                  have c85b0 : (t260 == 0) = false := beq_eq_false_iff_ne.mpr c85
                  have c85b1 : (t260 != 0) = true := bne_iff_ne.mpr c85
                  (first | rw [c85b0] | (simp only [i64_w, i32_w]; rw [c85b0]) | skip)
                  exact absurd H (by rw [HT.out]; cases kj19 <;> simp [mezzaninelaw15_PteKnown.j2])
              case rest =>
                clear HC83
                try clear c1
                try clear c2
                try clear p2
                try clear c3
                try clear c4
                try clear c5
                try clear c6
                try clear c7
                try clear c8
                try clear c9
                try clear c11
                try clear c13
                try clear c15
                try clear c17
                try clear c19
                try clear c21
                try clear c24
                try clear c27
                try clear c28
                try clear c31
                try clear c32
                try clear c33
                try clear c36
                try clear c37
                try clear c38
                try clear c39
                try clear c42
                try clear c44
                try clear c46
                try clear c48
                try clear c50
                try clear c52
                try clear c54
                try clear c56
                try clear c57
                try clear c58
                try clear c59
                try clear c66
                try clear c67
                try clear c68
                try clear c71
                try clear c72
                try clear c75
                try clear c82
                try clear c85
                try clear c85b0
                try clear c85b1
                try clear c87
                try clear c87b0
                try clear c87b1
                try clear c89
                try clear c89b0
                try clear c89b1
                try clear c91
                try clear c91b0
                try clear c91b1
                try clear c93
                try clear c94
                try clear c95
                try clear c96
                try clear hcz101_0
                try clear hcz101_1
                try clear hcz101_2
                try clear hcz101_3
                try clear hcz101_4
                try clear hcz101_5
                try clear hcz101_6
                try clear hcz103_0
                try clear hcz103_1
                try clear hcz103_2
                try clear hcz103_3
                try clear hcz103_4
                try clear hcz103_5
                try clear hcz103_6
                try clear hcz105_0
                try clear hcz105_1
                try clear hcz105_2
                try clear hcz105_3
                try clear hcz105_4
                try clear hcz105_5
                try clear hcz105_6
                try clear hcz22_0
                try clear hcz22_1
                try clear hcz22_2
                try clear hcz22_3
                try clear hcz22_4
                try clear hcz22_5
                try clear hcz22_6
                try clear hcz25_0
                try clear hcz25_1
                try clear hcz25_2
                try clear hcz25_3
                try clear hcz25_4
                try clear hcz25_5
                try clear hcz25_6
                try clear hcz29_0
                try clear hcz29_1
                try clear hcz29_2
                try clear hcz29_3
                try clear hcz29_4
                try clear hcz29_5
                try clear hcz29_6
                try clear hcz34_0
                try clear hcz34_1
                try clear hcz34_2
                try clear hcz34_3
                try clear hcz34_4
                try clear hcz34_5
                try clear hcz34_6
                try clear hcz40_0
                try clear hcz40_1
                try clear hcz40_2
                try clear hcz40_3
                try clear hcz40_4
                try clear hcz40_5
                try clear hcz40_6
                try clear hcz60_0
                try clear hcz60_1
                try clear hcz60_2
                try clear hcz60_3
                try clear hcz60_4
                try clear hcz60_5
                try clear hcz60_6
                try clear hcz62_0
                try clear hcz62_1
                try clear hcz62_2
                try clear hcz62_3
                try clear hcz62_4
                try clear hcz62_5
                try clear hcz62_6
                try clear hcz64_0
                try clear hcz64_1
                try clear hcz64_2
                try clear hcz64_3
                try clear hcz64_4
                try clear hcz64_5
                try clear hcz64_6
                try clear hcz69_0
                try clear hcz69_1
                try clear hcz69_2
                try clear hcz69_3
                try clear hcz69_4
                try clear hcz69_5
                try clear hcz69_6
                try clear hcz73_0
                try clear hcz73_1
                try clear hcz73_2
                try clear hcz73_3
                try clear hcz73_4
                try clear hcz73_5
                try clear hcz73_6
                try clear hcz76_0
                try clear hcz76_1
                try clear hcz76_2
                try clear hcz76_3
                try clear hcz76_4
                try clear hcz76_5
                try clear hcz76_6
                try clear hcz78_0
                try clear hcz78_1
                try clear hcz78_2
                try clear hcz78_3
                try clear hcz78_4
                try clear hcz78_5
                try clear hcz78_6
                try clear hcz80_0
                try clear hcz80_1
                try clear hcz80_2
                try clear hcz80_3
                try clear hcz80_4
                try clear hcz80_5
                try clear hcz80_6
                try clear hcz97_0
                try clear hcz97_1
                try clear hcz97_2
                try clear hcz97_3
                try clear hcz97_4
                try clear hcz97_5
                try clear hcz97_6
                try clear hcz99_0
                try clear hcz99_1
                try clear hcz99_2
                try clear hcz99_3
                try clear hcz99_4
                try clear hcz99_5
                try clear hcz99_6
                try clear hfz101_0
                try clear hfz101_1
                try clear hfz101_2
                try clear hfz101_3
                try clear hfz101_4
                try clear hfz101_5
                try clear hfz101_6
                try clear hfz103_0
                try clear hfz103_1
                try clear hfz103_2
                try clear hfz103_3
                try clear hfz103_4
                try clear hfz103_5
                try clear hfz103_6
                try clear hfz105_0
                try clear hfz105_1
                try clear hfz105_2
                try clear hfz105_3
                try clear hfz105_4
                try clear hfz105_5
                try clear hfz105_6
                try clear hfz22_0
                try clear hfz22_1
                try clear hfz22_2
                try clear hfz22_3
                try clear hfz22_4
                try clear hfz22_5
                try clear hfz22_6
                try clear hfz25_0
                try clear hfz25_1
                try clear hfz25_2
                try clear hfz25_3
                try clear hfz25_4
                try clear hfz25_5
                try clear hfz25_6
                try clear hfz29_0
                try clear hfz29_1
                try clear hfz29_2
                try clear hfz29_3
                try clear hfz29_4
                try clear hfz29_5
                try clear hfz29_6
                try clear hfz34_0
                try clear hfz34_1
                try clear hfz34_2
                try clear hfz34_3
                try clear hfz34_4
                try clear hfz34_5
                try clear hfz34_6
                try clear hfz40_0
                try clear hfz40_1
                try clear hfz40_2
                try clear hfz40_3
                try clear hfz40_4
                try clear hfz40_5
                try clear hfz40_6
                try clear hfz60_0
                try clear hfz60_1
                try clear hfz60_2
                try clear hfz60_3
                try clear hfz60_4
                try clear hfz60_5
                try clear hfz60_6
                try clear hfz62_0
                try clear hfz62_1
                try clear hfz62_2
                try clear hfz62_3
                try clear hfz62_4
                try clear hfz62_5
                try clear hfz62_6
                try clear hfz64_0
                try clear hfz64_1
                try clear hfz64_2
                try clear hfz64_3
                try clear hfz64_4
                try clear hfz64_5
                try clear hfz64_6
                try clear hfz69_0
                try clear hfz69_1
                try clear hfz69_2
                try clear hfz69_3
                try clear hfz69_4
                try clear hfz69_5
                try clear hfz69_6
                try clear hfz73_0
                try clear hfz73_1
                try clear hfz73_2
                try clear hfz73_3
                try clear hfz73_4
                try clear hfz73_5
                try clear hfz73_6
                try clear hfz76_0
                try clear hfz76_1
                try clear hfz76_2
                try clear hfz76_3
                try clear hfz76_4
                try clear hfz76_5
                try clear hfz76_6
                try clear hfz78_0
                try clear hfz78_1
                try clear hfz78_2
                try clear hfz78_3
                try clear hfz78_4
                try clear hfz78_5
                try clear hfz78_6
                try clear hfz80_0
                try clear hfz80_1
                try clear hfz80_2
                try clear hfz80_3
                try clear hfz80_4
                try clear hfz80_5
                try clear hfz80_6
                try clear hfz97_0
                try clear hfz97_1
                try clear hfz97_2
                try clear hfz97_3
                try clear hfz97_4
                try clear hfz97_5
                try clear hfz97_6
                try clear hfz99_0
                try clear hfz99_1
                try clear hfz99_2
                try clear hfz99_3
                try clear hfz99_4
                try clear hfz99_5
                try clear hfz99_6
                try clear p2
                obtain ⟨kq, x95_82, rfl, HA, HJ82, BK247, BK248, BK249, BK250, BK251, HB⟩ := hcut
                cases kq with
                | zero => exact absurd HA.out (by simp [mezzaninelaw15_PteKnown.j2])
                | succ kj82 =>
                  have H := HA.out
                  clear HA
                  simp only [mezzaninelaw15_PteKnown.j2] at H
                  by_cases c107 : x95_82 = true
                  · subst c107
                    have H1 : (some false) = some r := by rw [if_pos rfl] at H; exact H
                    clear H
                    have H := H1
                    clear H1
                    exact absurd (Option.some.inj H) (by rw [HT.out]; decide)
                  · replace c107 := Bool.eq_false_iff.mpr c107
                    subst c107
                    have H1 : ((pte_Make.f 512 67).bind fun t265 => ((pte_Judge.f kj82 t265 1 0 false 1 false false false false).bind fun t266 => (if t266 = 2 then ((pte_Make.f 1 67).bind fun t267 => ((pte_Judge.f kj82 t267 1 0 false 1 false false false false).bind fun t268 => (if t268 = 0 then ((pte_Make.f 1 67).bind fun t269 => ((pte_Judge.f kj82 t269 0 0 false 1 false false false false).bind fun t270 => (mezzaninelaw15_PteKnown.j3 kj82 (t270 != 2)))) else (mezzaninelaw15_PteKnown.j3 kj82 true)))) else (mezzaninelaw15_PteKnown.j3 kj82 true)))) = some r := by rw [if_neg (show ¬ (false = true) by decide)] at H; exact H
                    clear H
                    have H := H1
                    clear H1
                    have HC108 := Aside0.mk H
                    clear H
                    go_upto_region 12 with (fail)
                    go_cut [111] (fun v111 wc => ∃ (kq : Nat) (x111_107 : Bool), v111 = .bool x111_107 ∧ Aside0 (mezzaninelaw15_PteKnown.j3 kq x111_107 = some r) ∧ Aside0 (kq ≤ kj82) ∧ Aside0 (wc.heap[gb247]? = some (.cells #[.int .u8 0, .bool false, .int .u8 0, .bool false, .bool false, .bool false, .bool false] 32 (0, 0))) ∧ Aside0 (wc.heap[gb248]? = some (.cells #[.int .u8 0, .bool false, .int .u8 0, .bool false, .bool false, .bool true, .bool false] 32 (0, 0))) ∧ Aside0 (wc.heap[gb249]? = some (.cells #[.int .u8 0, .bool false, .int .u8 1, .bool false, .bool false, .bool false, .bool false] 32 (0, 0))) ∧ Aside0 (wc.heap[gb250]? = some (.cells #[.int .u8 0, .bool false, .int .u8 1, .bool false, .bool true, .bool false, .bool false] 32 (0, 0))) ∧ Aside0 (wc.heap[gb251]? = some (.cells #[.int .u8 2, .bool false, .int .u8 1, .bool false, .bool true, .bool false, .bool false] 32 (0, 0))) ∧ Aside0 (Below w.heap.size w wc))
                    case first =>
                      have H := HC108.out
                      clear HC108
                      replace H := Option.bind_eq_some_iff.mp H
                      obtain ⟨t265, A1090, H⟩ := H
                      replace H : ((pte_Judge.f kj82 t265 1 0 false 1 false false false false).bind fun t266 => (if t266 = 2 then ((pte_Make.f 1 67).bind fun t267 => ((pte_Judge.f kj82 t267 1 0 false 1 false false false false).bind fun t268 => (if t268 = 0 then ((pte_Make.f 1 67).bind fun t269 => ((pte_Judge.f kj82 t269 0 0 false 1 false false false false).bind fun t270 => (mezzaninelaw15_PteKnown.j3 kj82 (t270 != 2)))) else (mezzaninelaw15_PteKnown.j3 kj82 true)))) else (mezzaninelaw15_PteKnown.j3 kj82 true))) = some r := H
                      have A109 := Aside0.mk A1090
                      clear A1090
                      replace H := Option.bind_eq_some_iff.mp H
                      obtain ⟨t266, A1100, H⟩ := H
                      replace H : (if t266 = 2 then ((pte_Make.f 1 67).bind fun t267 => ((pte_Judge.f kj82 t267 1 0 false 1 false false false false).bind fun t268 => (if t268 = 0 then ((pte_Make.f 1 67).bind fun t269 => ((pte_Judge.f kj82 t269 0 0 false 1 false false false false).bind fun t270 => (mezzaninelaw15_PteKnown.j3 kj82 (t270 != 2)))) else (mezzaninelaw15_PteKnown.j3 kj82 true)))) else (mezzaninelaw15_PteKnown.j3 kj82 true)) = some r := H
                      have A110 := Aside0.mk A1100
                      clear A1100
                      by_cases c111 : t266 = 2
                      · rw [if_pos c111] at H
                        have c111b0 : (t266 == 2) = true := beq_iff_eq.mpr c111
                        have c111b1 : (t266 != 2) = false := bne_eq_false_iff_eq.mpr c111
                        clear c111
                        (first | rw [c111b0] | (simp only [i64_w, i32_w]; rw [c111b0]) | skip)
                        replace H := Option.bind_eq_some_iff.mp H
                        obtain ⟨t267, A1120, H⟩ := H
                        replace H : ((pte_Judge.f kj82 t267 1 0 false 1 false false false false).bind fun t268 => (if t268 = 0 then ((pte_Make.f 1 67).bind fun t269 => ((pte_Judge.f kj82 t269 0 0 false 1 false false false false).bind fun t270 => (mezzaninelaw15_PteKnown.j3 kj82 (t270 != 2)))) else (mezzaninelaw15_PteKnown.j3 kj82 true))) = some r := H
                        have A112 := Aside0.mk A1120
                        clear A1120
                        replace H := Option.bind_eq_some_iff.mp H
                        obtain ⟨t268, A1130, H⟩ := H
                        replace H : (if t268 = 0 then ((pte_Make.f 1 67).bind fun t269 => ((pte_Judge.f kj82 t269 0 0 false 1 false false false false).bind fun t270 => (mezzaninelaw15_PteKnown.j3 kj82 (t270 != 2)))) else (mezzaninelaw15_PteKnown.j3 kj82 true)) = some r := H
                        have A113 := Aside0.mk A1130
                        clear A1130
                        by_cases c114 : t268 = 0
                        · rw [if_pos c114] at H
                          have c114b0 : (t268 == 0) = true := beq_iff_eq.mpr c114
                          have c114b1 : (t268 != 0) = false := bne_eq_false_iff_eq.mpr c114
                          clear c114
                          replace H := Option.bind_eq_some_iff.mp H
                          obtain ⟨t269, A1150, H⟩ := H
                          replace H : ((pte_Judge.f kj82 t269 0 0 false 1 false false false false).bind fun t270 => (mezzaninelaw15_PteKnown.j3 kj82 (t270 != 2))) = some r := H
                          have A115 := Aside0.mk A1150
                          clear A1150
                          replace H := Option.bind_eq_some_iff.mp H
                          obtain ⟨t270, A1160, H⟩ := H
                          replace H : (mezzaninelaw15_PteKnown.j3 kj82 (t270 != 2)) = some r := H
                          have A116 := Aside0.mk A1160
                          clear A1160
                          have H' := Aside0.mk H
                          clear H
                          try go_wp2
                          have n0_ := Aside0.mk (blk_drew BK247.out)
                          have n1_ := Aside0.mk (blk_drew BK248.out)
                          have n2_ := Aside0.mk (blk_drew BK249.out)
                          have n3_ := Aside0.mk (blk_drew BK250.out)
                          have n4_ := Aside0.mk (blk_drew BK251.out)
                          have n5_ := Aside0.mk (below_drew1 HB.out)
                          clear BK247
                          clear BK248
                          clear BK249
                          clear BK250
                          clear BK251
                          clear HB
                          have BK247 := n0_
                          have BK248 := n1_
                          have BK249 := n2_
                          have BK250 := n3_
                          have BK251 := n4_
                          have HB := n5_
                          clear n0_ n1_ n2_ n3_ n4_ n5_
                          refine start_ (n := 16) (S := fun w' => w'.cell? ⟨gb249, 0, none⟩ = some (.int .u8 0) ∧ w'.cell? ⟨gb249, 1, none⟩ = some (.bool false) ∧ w'.cell? ⟨gb249, 2, none⟩ = some (.int .u8 1) ∧ w'.cell? ⟨gb249, 3, none⟩ = some (.bool false) ∧ w'.cell? ⟨gb249, 4, none⟩ = some (.bool false) ∧ w'.cell? ⟨gb249, 5, none⟩ = some (.bool false) ∧ w'.cell? ⟨gb249, 6, none⟩ = some (.bool false)) (ds := []) #[false, false, false, false, false, false, false, false, false, false, false, false, false, false, false, false] (by kernel_rfl) rfl rfl ⟨(blk_cell BK249.out 0).trans rfl, (blk_cell BK249.out 1).trans rfl, (blk_cell BK249.out 2).trans rfl, (blk_cell BK249.out 3).trans rfl, (blk_cell BK249.out 4).trans rfl, (blk_cell BK249.out 5).trans rfl, (blk_cell BK249.out 6).trans rfl⟩ (fun hHeld => ?_); refine with_tabW mezzaninelaw15_PteKnown.tab12 mezzaninelaw15_PteKnown.bits12 (fun HT_ HW_ => ?_)
                          generalize wc.drew = w117 at BK247 BK248 BK249 BK250 BK251 HB hHeld ⊢
                          refine take_ (i := 1) (N := some 97) (v := ?_) (a' := ?_) #[false, true, false, false, false, false, false, false, false, false, false, false, false, false, false, false] rfl rfl (take_ofW HT_.out HW_.out (by kernel_rfl)) (fun _ _ _ h => h) (Or.inl ⟨by rfl, ?_⟩) hHeld ?_ ?_
                          rotate_left
                          · rintro w' ⟨s0, s1, s2, s3, s4, s5, s6⟩
                            go_simp
                            with_reducible rfl
                          rotate_left
                          · simp only [Act.put, List.setIfInBounds_toArray, List.set_cons_zero, List.set_cons_succ, i64_w, i32_w]
                            rfl
                          refine one_ (i := 0) (N := some 96) #[true, true, false, false, false, false, false, false, false, false, false, false, false, false, false, false] rfl rfl (one_of HT_.out (by kernel_rfl)) (by decide) (fun K hK => ?_)
                          refine goes_ Try.func12 (by kernel_rfl) rfl #[.int .u64 512, .int .u64 67] (by rfl) rfl rfl (by (try simp only [List.map_toArray, List.map_cons, List.map_nil]); first | done | rfl | (simp only [List.length_drop, List.length_take]; rfl)) ?_
                          with_reducible refine (pte_Make.calls 512 67 t265 _ A109.out).mono ?_
                          rintro e w118 ⟨rfl, hb⟩
                          refine ⟨_, rfl, ?_⟩
                          have n0_ := Aside0.mk (blk_below (g := gb247) (o := .cells #[.int .u8 0, .bool false, .int .u8 0, .bool false, .bool false, .bool false, .bool false] 32 (0, 0)) (by (with_reducible repeat (first | refine blk_drewN ?_ _ | refine blk_drew ?_ | refine blk_alloc ?_ _)); exact BK247.out) hb)
                          have n1_ := Aside0.mk (blk_below (g := gb248) (o := .cells #[.int .u8 0, .bool false, .int .u8 0, .bool false, .bool false, .bool true, .bool false] 32 (0, 0)) (by (with_reducible repeat (first | refine blk_drewN ?_ _ | refine blk_drew ?_ | refine blk_alloc ?_ _)); exact BK248.out) hb)
                          have n2_ := Aside0.mk (blk_below (g := gb249) (o := .cells #[.int .u8 0, .bool false, .int .u8 1, .bool false, .bool false, .bool false, .bool false] 32 (0, 0)) (by (with_reducible repeat (first | refine blk_drewN ?_ _ | refine blk_drew ?_ | refine blk_alloc ?_ _)); exact BK249.out) hb)
                          have n3_ := Aside0.mk (blk_below (g := gb250) (o := .cells #[.int .u8 0, .bool false, .int .u8 1, .bool false, .bool true, .bool false, .bool false] 32 (0, 0)) (by (with_reducible repeat (first | refine blk_drewN ?_ _ | refine blk_drew ?_ | refine blk_alloc ?_ _)); exact BK250.out) hb)
                          have n4_ := Aside0.mk (blk_below (g := gb251) (o := .cells #[.int .u8 2, .bool false, .int .u8 1, .bool false, .bool true, .bool false, .bool false] 32 (0, 0)) (by (with_reducible repeat (first | refine blk_drewN ?_ _ | refine blk_drew ?_ | refine blk_alloc ?_ _)); exact BK251.out) hb)
                          have n5_ := Aside0.mk (below_step (by repeat (first | (with_reducible first | exact HB.out | apply below_alloc | apply pw_below_drewN | apply below_drew1 | refine below_set ?_ GE247.out | refine below_set ?_ GE248.out | refine below_set ?_ GE249.out | refine below_set ?_ GE250.out | refine below_set ?_ GE251.out) | exact HB.out)) hb)
                          clear BK247
                          clear BK248
                          clear BK249
                          clear BK250
                          clear BK251
                          clear HB
                          have BK247 := n0_
                          have BK248 := n1_
                          have BK249 := n2_
                          have BK250 := n3_
                          have BK251 := n4_
                          have HB := n5_
                          clear n0_ n1_ n2_ n3_ n4_ n5_
                          (try clear hb)
                          (try clear hb2)
                          (try clear hk)
                          (try clear hi)
                          refine hK.out _ _ ⟨(blk_cell BK249.out 0).trans rfl, (blk_cell BK249.out 1).trans rfl, (blk_cell BK249.out 2).trans rfl, (blk_cell BK249.out 3).trans rfl, (blk_cell BK249.out 4).trans rfl, (blk_cell BK249.out 5).trans rfl, (blk_cell BK249.out 6).trans rfl⟩ (fun hHeld => ?_)
                          clear hK K
                          refine norm_ (a' := ?_) ?_ ?_
                          rotate_left
                          · show Act.put _ (some 96) _ = _
                            simp only [Act.put, List.setIfInBounds_toArray, List.set_cons_zero, List.set_cons_succ, i64_w, i32_w]
                            rfl
                          refine one_ (i := 2) (N := some 98) #[true, true, true, false, false, false, false, false, false, false, false, false, false, false, false, false] rfl rfl (one_of HT_.out (by kernel_rfl)) (by decide) (fun K hK => ?_)
                          refine goes_ Try.func19 (by kernel_rfl) rfl #[.int .u64 t265, .int .i64 1, .agg #[.int .u8 0, .bool false, .int .u8 1, .bool false, .bool false, .bool false, .bool false]] (by rfl) rfl rfl (by (try simp only [List.map_toArray, List.map_cons, List.map_nil]); first | done | rfl | (simp only [List.length_drop, List.length_take]; rfl)) ?_
                          with_reducible refine (pte_Judge.calls kj82 t265 1 0 false 1 false false false false t266 _ A110.out).mono ?_
                          rintro e w119 ⟨rfl, hb⟩
                          refine ⟨_, rfl, ?_⟩
                          have n0_ := Aside0.mk (blk_below (g := gb247) (o := .cells #[.int .u8 0, .bool false, .int .u8 0, .bool false, .bool false, .bool false, .bool false] 32 (0, 0)) (by (with_reducible repeat (first | refine blk_drewN ?_ _ | refine blk_drew ?_ | refine blk_alloc ?_ _)); exact BK247.out) hb)
                          have n1_ := Aside0.mk (blk_below (g := gb248) (o := .cells #[.int .u8 0, .bool false, .int .u8 0, .bool false, .bool false, .bool true, .bool false] 32 (0, 0)) (by (with_reducible repeat (first | refine blk_drewN ?_ _ | refine blk_drew ?_ | refine blk_alloc ?_ _)); exact BK248.out) hb)
                          have n2_ := Aside0.mk (blk_below (g := gb249) (o := .cells #[.int .u8 0, .bool false, .int .u8 1, .bool false, .bool false, .bool false, .bool false] 32 (0, 0)) (by (with_reducible repeat (first | refine blk_drewN ?_ _ | refine blk_drew ?_ | refine blk_alloc ?_ _)); exact BK249.out) hb)
                          have n3_ := Aside0.mk (blk_below (g := gb250) (o := .cells #[.int .u8 0, .bool false, .int .u8 1, .bool false, .bool true, .bool false, .bool false] 32 (0, 0)) (by (with_reducible repeat (first | refine blk_drewN ?_ _ | refine blk_drew ?_ | refine blk_alloc ?_ _)); exact BK250.out) hb)
                          have n4_ := Aside0.mk (blk_below (g := gb251) (o := .cells #[.int .u8 2, .bool false, .int .u8 1, .bool false, .bool true, .bool false, .bool false] 32 (0, 0)) (by (with_reducible repeat (first | refine blk_drewN ?_ _ | refine blk_drew ?_ | refine blk_alloc ?_ _)); exact BK251.out) hb)
                          have n5_ := Aside0.mk (below_step (by repeat (first | (with_reducible first | exact HB.out | apply below_alloc | apply pw_below_drewN | apply below_drew1 | refine below_set ?_ GE247.out | refine below_set ?_ GE248.out | refine below_set ?_ GE249.out | refine below_set ?_ GE250.out | refine below_set ?_ GE251.out) | exact HB.out)) hb)
                          clear BK247
                          clear BK248
                          clear BK249
                          clear BK250
                          clear BK251
                          clear HB
                          have BK247 := n0_
                          have BK248 := n1_
                          have BK249 := n2_
                          have BK250 := n3_
                          have BK251 := n4_
                          have HB := n5_
                          clear n0_ n1_ n2_ n3_ n4_ n5_
                          (try clear hb)
                          (try clear hb2)
                          (try clear hk)
                          (try clear hi)
                          refine hK.out _ _ ⟨(blk_cell BK249.out 0).trans rfl, (blk_cell BK249.out 1).trans rfl, (blk_cell BK249.out 2).trans rfl, (blk_cell BK249.out 3).trans rfl, (blk_cell BK249.out 4).trans rfl, (blk_cell BK249.out 5).trans rfl, (blk_cell BK249.out 6).trans rfl⟩ (fun hHeld => ?_)
                          clear hK K
                          refine norm_ (a' := ?_) ?_ ?_
                          rotate_left
                          · show Act.put _ (some 98) _ = _
                            simp only [Act.put, List.setIfInBounds_toArray, List.set_cons_zero, List.set_cons_succ, i64_w, i32_w]
                            rfl
                          refine pure_ (i := 3) (N := some 99) (v := ?_) (a' := ?_) #[true, true, true, true, false, false, false, false, false, false, false, false, false, false, false, false] rfl rfl (any_of HT_.out (by kernel_rfl)) (fun _ _ _ h => h) (Or.inl ⟨by rfl, ?_⟩) ?_ ?_
                          rotate_left
                          · intro w'
                            go_simp
                            with_reducible rfl
                          rotate_left
                          · simp only [Act.put, List.setIfInBounds_toArray, List.set_cons_zero, List.set_cons_succ, i64_w, i32_w]
                            rfl
                          refine pure_ (i := 4) (N := some 100) (v := ?_) (a' := ?_) #[true, true, true, true, true, false, false, false, false, false, false, false, false, false, false, false] rfl rfl (any_of HT_.out (by kernel_rfl)) (fun _ _ _ h => h) (Or.inl ⟨by rfl, ?_⟩) ?_ ?_
                          rotate_left
                          · intro w'
                            go_simp
                            with_reducible rfl
                          rotate_left
                          · simp only [Act.put, List.setIfInBounds_toArray, List.set_cons_zero, List.set_cons_succ, i64_w, i32_w]
                            rfl
                          refine take_ (i := 6) (N := some 102) (v := ?_) (a' := ?_) #[true, true, true, true, true, false, true, false, false, false, false, false, false, false, false, false] rfl rfl (take_ofW HT_.out HW_.out (by kernel_rfl)) (fun _ _ _ h => h) (Or.inl ⟨by rfl, ?_⟩) hHeld ?_ ?_
                          rotate_left
                          · rintro w' ⟨s0, s1, s2, s3, s4, s5, s6⟩
                            go_simp
                            with_reducible rfl
                          rotate_left
                          · simp only [Act.put, List.setIfInBounds_toArray, List.set_cons_zero, List.set_cons_succ, i64_w, i32_w]
                            rfl
                          refine one_ (i := 5) (N := some 101) #[true, true, true, true, true, true, true, false, false, false, false, false, false, false, false, false] rfl rfl (one_of HT_.out (by kernel_rfl)) (by decide) (fun K hK => ?_)
                          refine goes_ Try.func12 (by kernel_rfl) rfl #[.int .u64 1, .int .u64 67] (by rfl) rfl rfl (by (try simp only [List.map_toArray, List.map_cons, List.map_nil]); first | done | rfl | (simp only [List.length_drop, List.length_take]; rfl)) ?_
                          with_reducible refine (pte_Make.calls 1 67 t267 _ A112.out).mono ?_
                          rintro e w120 ⟨rfl, hb⟩
                          refine ⟨_, rfl, ?_⟩
                          have n0_ := Aside0.mk (blk_below (g := gb247) (o := .cells #[.int .u8 0, .bool false, .int .u8 0, .bool false, .bool false, .bool false, .bool false] 32 (0, 0)) (by (with_reducible repeat (first | refine blk_drewN ?_ _ | refine blk_drew ?_ | refine blk_alloc ?_ _)); exact BK247.out) hb)
                          have n1_ := Aside0.mk (blk_below (g := gb248) (o := .cells #[.int .u8 0, .bool false, .int .u8 0, .bool false, .bool false, .bool true, .bool false] 32 (0, 0)) (by (with_reducible repeat (first | refine blk_drewN ?_ _ | refine blk_drew ?_ | refine blk_alloc ?_ _)); exact BK248.out) hb)
                          have n2_ := Aside0.mk (blk_below (g := gb249) (o := .cells #[.int .u8 0, .bool false, .int .u8 1, .bool false, .bool false, .bool false, .bool false] 32 (0, 0)) (by (with_reducible repeat (first | refine blk_drewN ?_ _ | refine blk_drew ?_ | refine blk_alloc ?_ _)); exact BK249.out) hb)
                          have n3_ := Aside0.mk (blk_below (g := gb250) (o := .cells #[.int .u8 0, .bool false, .int .u8 1, .bool false, .bool true, .bool false, .bool false] 32 (0, 0)) (by (with_reducible repeat (first | refine blk_drewN ?_ _ | refine blk_drew ?_ | refine blk_alloc ?_ _)); exact BK250.out) hb)
                          have n4_ := Aside0.mk (blk_below (g := gb251) (o := .cells #[.int .u8 2, .bool false, .int .u8 1, .bool false, .bool true, .bool false, .bool false] 32 (0, 0)) (by (with_reducible repeat (first | refine blk_drewN ?_ _ | refine blk_drew ?_ | refine blk_alloc ?_ _)); exact BK251.out) hb)
                          have n5_ := Aside0.mk (below_step (by repeat (first | (with_reducible first | exact HB.out | apply below_alloc | apply pw_below_drewN | apply below_drew1 | refine below_set ?_ GE247.out | refine below_set ?_ GE248.out | refine below_set ?_ GE249.out | refine below_set ?_ GE250.out | refine below_set ?_ GE251.out) | exact HB.out)) hb)
                          clear BK247
                          clear BK248
                          clear BK249
                          clear BK250
                          clear BK251
                          clear HB
                          have BK247 := n0_
                          have BK248 := n1_
                          have BK249 := n2_
                          have BK250 := n3_
                          have BK251 := n4_
                          have HB := n5_
                          clear n0_ n1_ n2_ n3_ n4_ n5_
                          (try clear hb)
                          (try clear hb2)
                          (try clear hk)
                          (try clear hi)
                          refine hK.out _ _ ⟨(blk_cell BK249.out 0).trans rfl, (blk_cell BK249.out 1).trans rfl, (blk_cell BK249.out 2).trans rfl, (blk_cell BK249.out 3).trans rfl, (blk_cell BK249.out 4).trans rfl, (blk_cell BK249.out 5).trans rfl, (blk_cell BK249.out 6).trans rfl⟩ (fun hHeld => ?_)
                          clear hK K
                          refine norm_ (a' := ?_) ?_ ?_
                          rotate_left
                          · show Act.put _ (some 101) _ = _
                            simp only [Act.put, List.setIfInBounds_toArray, List.set_cons_zero, List.set_cons_succ, i64_w, i32_w]
                            rfl
                          refine one_ (i := 7) (N := some 103) #[true, true, true, true, true, true, true, true, false, false, false, false, false, false, false, false] rfl rfl (one_of HT_.out (by kernel_rfl)) (by decide) (fun K hK => ?_)
                          refine goes_ Try.func19 (by kernel_rfl) rfl #[.int .u64 t267, .int .i64 1, .agg #[.int .u8 0, .bool false, .int .u8 1, .bool false, .bool false, .bool false, .bool false]] (by rfl) rfl rfl (by (try simp only [List.map_toArray, List.map_cons, List.map_nil]); first | done | rfl | (simp only [List.length_drop, List.length_take]; rfl)) ?_
                          with_reducible refine (pte_Judge.calls kj82 t267 1 0 false 1 false false false false t268 _ A113.out).mono ?_
                          rintro e w121 ⟨rfl, hb⟩
                          refine ⟨_, rfl, ?_⟩
                          have n0_ := Aside0.mk (blk_below (g := gb247) (o := .cells #[.int .u8 0, .bool false, .int .u8 0, .bool false, .bool false, .bool false, .bool false] 32 (0, 0)) (by (with_reducible repeat (first | refine blk_drewN ?_ _ | refine blk_drew ?_ | refine blk_alloc ?_ _)); exact BK247.out) hb)
                          have n1_ := Aside0.mk (blk_below (g := gb248) (o := .cells #[.int .u8 0, .bool false, .int .u8 0, .bool false, .bool false, .bool true, .bool false] 32 (0, 0)) (by (with_reducible repeat (first | refine blk_drewN ?_ _ | refine blk_drew ?_ | refine blk_alloc ?_ _)); exact BK248.out) hb)
                          have n2_ := Aside0.mk (blk_below (g := gb249) (o := .cells #[.int .u8 0, .bool false, .int .u8 1, .bool false, .bool false, .bool false, .bool false] 32 (0, 0)) (by (with_reducible repeat (first | refine blk_drewN ?_ _ | refine blk_drew ?_ | refine blk_alloc ?_ _)); exact BK249.out) hb)
                          have n3_ := Aside0.mk (blk_below (g := gb250) (o := .cells #[.int .u8 0, .bool false, .int .u8 1, .bool false, .bool true, .bool false, .bool false] 32 (0, 0)) (by (with_reducible repeat (first | refine blk_drewN ?_ _ | refine blk_drew ?_ | refine blk_alloc ?_ _)); exact BK250.out) hb)
                          have n4_ := Aside0.mk (blk_below (g := gb251) (o := .cells #[.int .u8 2, .bool false, .int .u8 1, .bool false, .bool true, .bool false, .bool false] 32 (0, 0)) (by (with_reducible repeat (first | refine blk_drewN ?_ _ | refine blk_drew ?_ | refine blk_alloc ?_ _)); exact BK251.out) hb)
                          have n5_ := Aside0.mk (below_step (by repeat (first | (with_reducible first | exact HB.out | apply below_alloc | apply pw_below_drewN | apply below_drew1 | refine below_set ?_ GE247.out | refine below_set ?_ GE248.out | refine below_set ?_ GE249.out | refine below_set ?_ GE250.out | refine below_set ?_ GE251.out) | exact HB.out)) hb)
                          clear BK247
                          clear BK248
                          clear BK249
                          clear BK250
                          clear BK251
                          clear HB
                          have BK247 := n0_
                          have BK248 := n1_
                          have BK249 := n2_
                          have BK250 := n3_
                          have BK251 := n4_
                          have HB := n5_
                          clear n0_ n1_ n2_ n3_ n4_ n5_
                          (try clear hb)
                          (try clear hb2)
                          (try clear hk)
                          (try clear hi)
                          refine hK.out _ _ ⟨(blk_cell BK249.out 0).trans rfl, (blk_cell BK249.out 1).trans rfl, (blk_cell BK249.out 2).trans rfl, (blk_cell BK249.out 3).trans rfl, (blk_cell BK249.out 4).trans rfl, (blk_cell BK249.out 5).trans rfl, (blk_cell BK249.out 6).trans rfl⟩ (fun hHeld => ?_)
                          clear hK K
                          refine norm_ (a' := ?_) ?_ ?_
                          rotate_left
                          · show Act.put _ (some 103) _ = _
                            simp only [Act.put, List.setIfInBounds_toArray, List.set_cons_zero, List.set_cons_succ, i64_w, i32_w]
                            rfl
                          refine pure_ (i := 8) (N := some 104) (v := ?_) (a' := ?_) #[true, true, true, true, true, true, true, true, true, false, false, false, false, false, false, false] rfl rfl (any_of HT_.out (by kernel_rfl)) (fun _ _ _ h => h) (Or.inl ⟨by rfl, ?_⟩) ?_ ?_
                          rotate_left
                          · intro w'
                            go_simp
                            with_reducible rfl
                          rotate_left
                          · simp only [Act.put, List.setIfInBounds_toArray, List.set_cons_zero, List.set_cons_succ, i64_w, i32_w]
                            rfl
                          refine pure_ (i := 9) (N := some 105) (v := ?_) (a' := ?_) #[true, true, true, true, true, true, true, true, true, true, false, false, false, false, false, false] rfl rfl (any_of HT_.out (by kernel_rfl)) (fun _ _ _ h => h) (Or.inl ⟨by rfl, ?_⟩) ?_ ?_
                          rotate_left
                          · intro w'
                            go_simp
                            with_reducible rfl
                          rotate_left
                          · simp only [Act.put, List.setIfInBounds_toArray, List.set_cons_zero, List.set_cons_succ, i64_w, i32_w]
                            rfl
                          refine pure_ (i := 10) (N := some 106) (v := ?_) (a' := ?_) #[true, true, true, true, true, true, true, true, true, true, true, false, false, false, false, false] rfl rfl (any_of HT_.out (by kernel_rfl)) (fun _ _ _ h => h) (Or.inl ⟨by rfl, ?_⟩) ?_ ?_
                          rotate_left
                          · intro w'
                            go_simp
                            with_reducible rfl
                          rotate_left
                          · simp only [Act.put, List.setIfInBounds_toArray, List.set_cons_zero, List.set_cons_succ, i64_w, i32_w]
                            rfl
                          refine take_ (i := 12) (N := some 108) (v := ?_) (a' := ?_) #[true, true, true, true, true, true, true, true, true, true, true, false, true, false, false, false] rfl rfl (take_ofW HT_.out HW_.out (by kernel_rfl)) (fun _ _ _ h => h) (Or.inl ⟨by rfl, ?_⟩) hHeld ?_ ?_
                          rotate_left
                          · rintro w' ⟨s0, s1, s2, s3, s4, s5, s6⟩
                            go_simp
                            with_reducible rfl
                          rotate_left
                          · simp only [Act.put, List.setIfInBounds_toArray, List.set_cons_zero, List.set_cons_succ, i64_w, i32_w]
                            rfl
                          refine one_ (i := 11) (N := some 107) #[true, true, true, true, true, true, true, true, true, true, true, true, true, false, false, false] rfl rfl (one_of HT_.out (by kernel_rfl)) (by decide) (fun K hK => ?_)
                          refine goes_ Try.func12 (by kernel_rfl) rfl #[.int .u64 1, .int .u64 67] (by rfl) rfl rfl (by (try simp only [List.map_toArray, List.map_cons, List.map_nil]); first | done | rfl | (simp only [List.length_drop, List.length_take]; rfl)) ?_
                          with_reducible refine (pte_Make.calls 1 67 t269 _ A115.out).mono ?_
                          rintro e w122 ⟨rfl, hb⟩
                          refine ⟨_, rfl, ?_⟩
                          have n0_ := Aside0.mk (blk_below (g := gb247) (o := .cells #[.int .u8 0, .bool false, .int .u8 0, .bool false, .bool false, .bool false, .bool false] 32 (0, 0)) (by (with_reducible repeat (first | refine blk_drewN ?_ _ | refine blk_drew ?_ | refine blk_alloc ?_ _)); exact BK247.out) hb)
                          have n1_ := Aside0.mk (blk_below (g := gb248) (o := .cells #[.int .u8 0, .bool false, .int .u8 0, .bool false, .bool false, .bool true, .bool false] 32 (0, 0)) (by (with_reducible repeat (first | refine blk_drewN ?_ _ | refine blk_drew ?_ | refine blk_alloc ?_ _)); exact BK248.out) hb)
                          have n2_ := Aside0.mk (blk_below (g := gb249) (o := .cells #[.int .u8 0, .bool false, .int .u8 1, .bool false, .bool false, .bool false, .bool false] 32 (0, 0)) (by (with_reducible repeat (first | refine blk_drewN ?_ _ | refine blk_drew ?_ | refine blk_alloc ?_ _)); exact BK249.out) hb)
                          have n3_ := Aside0.mk (blk_below (g := gb250) (o := .cells #[.int .u8 0, .bool false, .int .u8 1, .bool false, .bool true, .bool false, .bool false] 32 (0, 0)) (by (with_reducible repeat (first | refine blk_drewN ?_ _ | refine blk_drew ?_ | refine blk_alloc ?_ _)); exact BK250.out) hb)
                          have n4_ := Aside0.mk (blk_below (g := gb251) (o := .cells #[.int .u8 2, .bool false, .int .u8 1, .bool false, .bool true, .bool false, .bool false] 32 (0, 0)) (by (with_reducible repeat (first | refine blk_drewN ?_ _ | refine blk_drew ?_ | refine blk_alloc ?_ _)); exact BK251.out) hb)
                          have n5_ := Aside0.mk (below_step (by repeat (first | (with_reducible first | exact HB.out | apply below_alloc | apply pw_below_drewN | apply below_drew1 | refine below_set ?_ GE247.out | refine below_set ?_ GE248.out | refine below_set ?_ GE249.out | refine below_set ?_ GE250.out | refine below_set ?_ GE251.out) | exact HB.out)) hb)
                          clear BK247
                          clear BK248
                          clear BK249
                          clear BK250
                          clear BK251
                          clear HB
                          have BK247 := n0_
                          have BK248 := n1_
                          have BK249 := n2_
                          have BK250 := n3_
                          have BK251 := n4_
                          have HB := n5_
                          clear n0_ n1_ n2_ n3_ n4_ n5_
                          (try clear hb)
                          (try clear hb2)
                          (try clear hk)
                          (try clear hi)
                          refine hK.out _ _ ⟨(blk_cell BK249.out 0).trans rfl, (blk_cell BK249.out 1).trans rfl, (blk_cell BK249.out 2).trans rfl, (blk_cell BK249.out 3).trans rfl, (blk_cell BK249.out 4).trans rfl, (blk_cell BK249.out 5).trans rfl, (blk_cell BK249.out 6).trans rfl⟩ (fun hHeld => ?_)
                          clear hK K
                          refine norm_ (a' := ?_) ?_ ?_
                          rotate_left
                          · show Act.put _ (some 107) _ = _
                            simp only [Act.put, List.setIfInBounds_toArray, List.set_cons_zero, List.set_cons_succ, i64_w, i32_w]
                            rfl
                          refine one_ (i := 13) (N := some 109) #[true, true, true, true, true, true, true, true, true, true, true, true, true, true, false, false] rfl rfl (one_of HT_.out (by kernel_rfl)) (by decide) (fun K hK => ?_)
                          refine goes_ Try.func19 (by kernel_rfl) rfl #[.int .u64 t269, .int .i64 0, .agg #[.int .u8 0, .bool false, .int .u8 1, .bool false, .bool false, .bool false, .bool false]] (by rfl) rfl rfl (by (try simp only [List.map_toArray, List.map_cons, List.map_nil]); first | done | rfl | (simp only [List.length_drop, List.length_take]; rfl)) ?_
                          with_reducible refine (pte_Judge.calls kj82 t269 0 0 false 1 false false false false t270 _ A116.out).mono ?_
                          rintro e w123 ⟨rfl, hb⟩
                          refine ⟨_, rfl, ?_⟩
                          have n0_ := Aside0.mk (blk_below (g := gb247) (o := .cells #[.int .u8 0, .bool false, .int .u8 0, .bool false, .bool false, .bool false, .bool false] 32 (0, 0)) (by (with_reducible repeat (first | refine blk_drewN ?_ _ | refine blk_drew ?_ | refine blk_alloc ?_ _)); exact BK247.out) hb)
                          have n1_ := Aside0.mk (blk_below (g := gb248) (o := .cells #[.int .u8 0, .bool false, .int .u8 0, .bool false, .bool false, .bool true, .bool false] 32 (0, 0)) (by (with_reducible repeat (first | refine blk_drewN ?_ _ | refine blk_drew ?_ | refine blk_alloc ?_ _)); exact BK248.out) hb)
                          have n2_ := Aside0.mk (blk_below (g := gb249) (o := .cells #[.int .u8 0, .bool false, .int .u8 1, .bool false, .bool false, .bool false, .bool false] 32 (0, 0)) (by (with_reducible repeat (first | refine blk_drewN ?_ _ | refine blk_drew ?_ | refine blk_alloc ?_ _)); exact BK249.out) hb)
                          have n3_ := Aside0.mk (blk_below (g := gb250) (o := .cells #[.int .u8 0, .bool false, .int .u8 1, .bool false, .bool true, .bool false, .bool false] 32 (0, 0)) (by (with_reducible repeat (first | refine blk_drewN ?_ _ | refine blk_drew ?_ | refine blk_alloc ?_ _)); exact BK250.out) hb)
                          have n4_ := Aside0.mk (blk_below (g := gb251) (o := .cells #[.int .u8 2, .bool false, .int .u8 1, .bool false, .bool true, .bool false, .bool false] 32 (0, 0)) (by (with_reducible repeat (first | refine blk_drewN ?_ _ | refine blk_drew ?_ | refine blk_alloc ?_ _)); exact BK251.out) hb)
                          have n5_ := Aside0.mk (below_step (by repeat (first | (with_reducible first | exact HB.out | apply below_alloc | apply pw_below_drewN | apply below_drew1 | refine below_set ?_ GE247.out | refine below_set ?_ GE248.out | refine below_set ?_ GE249.out | refine below_set ?_ GE250.out | refine below_set ?_ GE251.out) | exact HB.out)) hb)
                          clear BK247
                          clear BK248
                          clear BK249
                          clear BK250
                          clear BK251
                          clear HB
                          have BK247 := n0_
                          have BK248 := n1_
                          have BK249 := n2_
                          have BK250 := n3_
                          have BK251 := n4_
                          have HB := n5_
                          clear n0_ n1_ n2_ n3_ n4_ n5_
                          (try clear hb)
                          (try clear hb2)
                          (try clear hk)
                          (try clear hi)
                          refine hK.out _ _ ⟨(blk_cell BK249.out 0).trans rfl, (blk_cell BK249.out 1).trans rfl, (blk_cell BK249.out 2).trans rfl, (blk_cell BK249.out 3).trans rfl, (blk_cell BK249.out 4).trans rfl, (blk_cell BK249.out 5).trans rfl, (blk_cell BK249.out 6).trans rfl⟩ (fun hHeld => ?_)
                          clear hK K
                          refine norm_ (a' := ?_) ?_ ?_
                          rotate_left
                          · show Act.put _ (some 109) _ = _
                            simp only [Act.put, List.setIfInBounds_toArray, List.set_cons_zero, List.set_cons_succ, i64_w, i32_w]
                            rfl
                          refine pure_ (i := 14) (N := some 110) (v := ?_) (a' := ?_) #[true, true, true, true, true, true, true, true, true, true, true, true, true, true, true, false] rfl rfl (any_of HT_.out (by kernel_rfl)) (fun _ _ _ h => h) (Or.inl ⟨by rfl, ?_⟩) ?_ ?_
                          rotate_left
                          · intro w'
                            go_simp
                            with_reducible rfl
                          rotate_left
                          · simp only [Act.put, List.setIfInBounds_toArray, List.set_cons_zero, List.set_cons_succ, i64_w, i32_w]
                            rfl
                          refine pure_ (i := 15) (N := some 111) (v := ?_) (a' := ?_) #[true, true, true, true, true, true, true, true, true, true, true, true, true, true, true, true] rfl rfl (any_of HT_.out (by kernel_rfl)) (fun _ _ _ h => h) (Or.inl ⟨by rfl, ?_⟩) ?_ ?_
                          rotate_left
                          · intro w'
                            go_simp
                            with_reducible rfl
                          rotate_left
                          · simp only [Act.put, List.setIfInBounds_toArray, List.set_cons_zero, List.set_cons_succ, i64_w, i32_w]
                            rfl
                          refine done_ (done_of HT_.out (by kernel_rfl)) ?_
                          try go_wp2
                          go_meet
                          case rel => exact ⟨_, ((t270 != 2)), (by first | rfl | (simp; done) | (simp [*]; done)), H', ⟨by have := HJ0.out; have := HJ19.out; have := HJ82.out; first | omega | exact Nat.le_refl _⟩, ⟨by (with_reducible repeat (first | refine blk_drewN ?_ _ | refine blk_drew ?_ | refine blk_alloc ?_ _)); exact BK247.out⟩, ⟨by (with_reducible repeat (first | refine blk_drewN ?_ _ | refine blk_drew ?_ | refine blk_alloc ?_ _)); exact BK248.out⟩, ⟨by (with_reducible repeat (first | refine blk_drewN ?_ _ | refine blk_drew ?_ | refine blk_alloc ?_ _)); exact BK249.out⟩, ⟨by (with_reducible repeat (first | refine blk_drewN ?_ _ | refine blk_drew ?_ | refine blk_alloc ?_ _)); exact BK250.out⟩, ⟨by (with_reducible repeat (first | refine blk_drewN ?_ _ | refine blk_drew ?_ | refine blk_alloc ?_ _)); exact BK251.out⟩, ⟨by repeat (first | (with_reducible first | exact HB.out | apply below_alloc | apply pw_below_drewN | apply below_drew1 | refine below_set ?_ GE247.out | refine below_set ?_ GE248.out | refine below_set ?_ GE249.out | refine below_set ?_ GE250.out | refine below_set ?_ GE251.out) | exact HB.out)⟩⟩
                        · rw [if_neg c114] at H
                          have c114b0 : (t268 == 0) = false := beq_eq_false_iff_ne.mpr c114
                          have c114b1 : (t268 != 0) = true := bne_iff_ne.mpr c114
                          exact absurd H (by rw [HT.out]; cases kj82 <;> simp [mezzaninelaw15_PteKnown.j3])
                      · rw [if_neg c111] at H
                        have c111b0 : (t266 == 2) = false := beq_eq_false_iff_ne.mpr c111
                        have c111b1 : (t266 != 2) = true := bne_iff_ne.mpr c111
                        (first | rw [c111b0] | (simp only [i64_w, i32_w]; rw [c111b0]) | skip)
                        exact absurd H (by rw [HT.out]; cases kj82 <;> simp [mezzaninelaw15_PteKnown.j3])
                    case rest =>
                      clear HC108
                      try clear c1
                      try clear p2
                      try clear c10
                      try clear c11
                      try clear c12
                      try clear c19
                      try clear c107
                      try clear c111
                      try clear c111b0
                      try clear c111b1
                      try clear c114
                      try clear c114b0
                      try clear c114b1
                      try clear hcz40_1
                      try clear hcz40_2
                      try clear hcz40_3
                      try clear hcz40_4
                      try clear hcz40_5
                      try clear hcz40_6
                      try clear hcz60_0
                      try clear hcz60_1
                      try clear hcz60_2
                      try clear hcz60_3
                      try clear hcz60_4
                      try clear hcz60_5
                      try clear hcz60_6
                      try clear hcz62_0
                      try clear hcz62_1
                      try clear hcz62_2
                      try clear hcz62_3
                      try clear hcz62_4
                      try clear hcz62_5
                      try clear hcz62_6
                      try clear hcz64_0
                      try clear hcz64_1
                      try clear hcz64_2
                      try clear hcz64_3
                      try clear hcz64_4
                      try clear hcz64_5
                      try clear hcz64_6
                      try clear hcz69_0
                      try clear hcz69_1
                      try clear hcz69_2
                      try clear hcz69_3
                      try clear hcz69_4
                      try clear hcz69_5
                      try clear hcz69_6
                      try clear hcz73_0
                      try clear hcz73_1
                      try clear hcz73_2
                      try clear hcz73_3
                      try clear hcz73_4
                      try clear hcz73_5
                      try clear hcz73_6
                      try clear hcz76_0
                      try clear hcz76_1
                      try clear hcz76_2
                      try clear hcz76_3
                      try clear hcz76_4
                      try clear hcz76_5
                      try clear hcz76_6
                      try clear hcz78_0
                      try clear hcz78_1
                      try clear hcz78_2
                      try clear hcz78_3
                      try clear hcz78_4
                      try clear hcz78_5
                      try clear hcz78_6
                      try clear hcz80_0
                      try clear hcz80_1
                      try clear hcz80_2
                      try clear hcz80_3
                      try clear hcz80_4
                      try clear hcz80_5
                      try clear hcz80_6
                      try clear hcz97_0
                      try clear hcz97_1
                      try clear hcz97_2
                      try clear hcz97_3
                      try clear hcz97_4
                      try clear hcz97_5
                      try clear hcz97_6
                      try clear hcz99_0
                      try clear hcz99_1
                      try clear hcz99_2
                      try clear hcz99_3
                      try clear hcz99_4
                      try clear hcz99_5
                      try clear hcz99_6
                      try clear hfz101_0
                      try clear hfz101_1
                      try clear hfz101_2
                      try clear hfz101_3
                      try clear hfz101_4
                      try clear hfz101_5
                      try clear hfz101_6
                      try clear hfz103_0
                      try clear hfz103_1
                      try clear hfz103_2
                      try clear hfz103_3
                      try clear hfz103_4
                      try clear hfz103_5
                      try clear hfz103_6
                      try clear hfz105_0
                      try clear hfz105_1
                      try clear hfz105_2
                      try clear hfz105_3
                      try clear hfz105_4
                      try clear hfz105_5
                      try clear hfz105_6
                      try clear hfz22_0
                      try clear hfz22_1
                      try clear hfz22_2
                      try clear hfz22_3
                      try clear hfz22_4
                      try clear hfz22_5
                      try clear hfz22_6
                      try clear hfz25_0
                      try clear hfz25_1
                      try clear hfz25_2
                      try clear hfz25_3
                      try clear hfz25_4
                      try clear hfz25_5
                      try clear hfz25_6
                      try clear hfz29_0
                      try clear hfz29_1
                      try clear hfz29_2
                      try clear hfz29_3
                      try clear hfz29_4
                      try clear hfz29_5
                      try clear hfz29_6
                      try clear hfz34_0
                      try clear hfz34_1
                      try clear hfz34_2
                      try clear hfz34_3
                      try clear hfz34_4
                      try clear hfz34_5
                      try clear hfz34_6
                      try clear hfz40_0
                      try clear hfz40_1
                      try clear hfz40_2
                      try clear hfz40_3
                      try clear hfz40_4
                      try clear hfz40_5
                      try clear hfz40_6
                      try clear hfz60_0
                      try clear hfz60_1
                      try clear hfz60_2
                      try clear hfz60_3
                      try clear hfz60_4
                      try clear hfz60_5
                      try clear hfz60_6
                      try clear hfz62_0
                      try clear hfz62_1
                      try clear hfz62_2
                      try clear hfz62_3
                      try clear hfz62_4
                      try clear hfz62_5
                      try clear hfz62_6
                      try clear hfz64_0
                      try clear hfz64_1
                      try clear hfz64_2
                      try clear hfz64_3
                      try clear hfz64_4
                      try clear hfz64_5
                      try clear hfz64_6
                      try clear hfz69_0
                      try clear hfz69_1
                      try clear hfz69_2
                      try clear hfz69_3
                      try clear hfz69_4
                      try clear hfz69_5
                      try clear hfz69_6
                      try clear hfz73_0
                      try clear hfz73_1
                      try clear hfz73_2
                      try clear hfz73_3
                      try clear hfz73_4
                      try clear hfz73_5
                      try clear hfz73_6
                      try clear hfz76_0
                      try clear hfz76_1
                      try clear hfz76_2
                      try clear hfz76_3
                      try clear hfz76_4
                      try clear hfz76_5
                      try clear hfz76_6
                      try clear hfz78_0
                      try clear hfz78_1
                      try clear hfz78_2
                      try clear hfz78_3
                      try clear hfz78_4
                      try clear hfz78_5
                      try clear hfz78_6
                      try clear hfz80_0
                      try clear hfz80_1
                      try clear hfz80_2
                      try clear hfz80_3
                      try clear hfz80_4
                      try clear hfz80_5
                      try clear hfz80_6
                      try clear hfz97_0
                      try clear hfz97_1
                      try clear hfz97_2
                      try clear hfz97_3
                      try clear hfz97_4
                      try clear hfz97_5
                      try clear hfz97_6
                      try clear hfz99_0
                      try clear hfz99_1
                      try clear hfz99_2
                      try clear hfz99_3
                      try clear hfz99_4
                      try clear hfz99_5
                      try clear hfz99_6
                      try clear p2
                      obtain ⟨kq, x111_107, rfl, HA, HJ107, BK247, BK248, BK249, BK250, BK251, HB⟩ := hcut
                      cases kq with
                      | zero => exact absurd HA.out (by simp [mezzaninelaw15_PteKnown.j3])
                      | succ kj107 =>
                        have H := HA.out
                        clear HA
                        simp only [mezzaninelaw15_PteKnown.j3] at H
                        by_cases c124 : x111_107 = true
                        · subst c124
                          have H1 : (some false) = some r := by rw [if_pos rfl] at H; exact H
                          clear H
                          have H := H1
                          clear H1
                          exact absurd (Option.some.inj H) (by rw [HT.out]; decide)
                        · replace c124 := Bool.eq_false_iff.mpr c124
                          subst c124
                          have H1 : ((mezzaninelaw15_awake.f kj107).bind fun t271 => (if t271 = true then ((pte_Index.f 1075847167 0).bind fun t272 => (if t272 = 1 then ((pte_Index.f 1075847167 1).bind fun t273 => (if t273 = 1 then ((pte_Index.f 1075847167 2).bind fun t274 => (if t274 = 1 then ((pte_Make.f 512 1).bind fun t275 => ((pte_Pa.f t275 1 4660).bind fun t276 => (some (t276 == 2101812)))) else (some false))) else (some false))) else (some false))) else (some false))) = some r := by rw [if_neg (show ¬ (false = true) by decide)] at H; exact H
                          clear H
                          have H := H1
                          clear H1
                          replace H := Option.bind_eq_some_iff.mp H
                          obtain ⟨t271, A1250, H⟩ := H
                          replace H : (if t271 = true then ((pte_Index.f 1075847167 0).bind fun t272 => (if t272 = 1 then ((pte_Index.f 1075847167 1).bind fun t273 => (if t273 = 1 then ((pte_Index.f 1075847167 2).bind fun t274 => (if t274 = 1 then ((pte_Make.f 512 1).bind fun t275 => ((pte_Pa.f t275 1 4660).bind fun t276 => (some (t276 == 2101812)))) else (some false))) else (some false))) else (some false))) else (some false)) = some r := H
                          have A125 := Aside0.mk A1250
                          clear A1250
                          by_cases c126 : t271 = true
                          · subst c126
                            have H1 : ((pte_Index.f 1075847167 0).bind fun t272 => (if t272 = 1 then ((pte_Index.f 1075847167 1).bind fun t273 => (if t273 = 1 then ((pte_Index.f 1075847167 2).bind fun t274 => (if t274 = 1 then ((pte_Make.f 512 1).bind fun t275 => ((pte_Pa.f t275 1 4660).bind fun t276 => (some (t276 == 2101812)))) else (some false))) else (some false))) else (some false))) = some r := by rw [if_pos rfl] at H; exact H
                            clear H
                            have H := H1
                            clear H1
                            replace H := Option.bind_eq_some_iff.mp H
                            obtain ⟨t272, A1270, H⟩ := H
                            replace H : (if t272 = 1 then ((pte_Index.f 1075847167 1).bind fun t273 => (if t273 = 1 then ((pte_Index.f 1075847167 2).bind fun t274 => (if t274 = 1 then ((pte_Make.f 512 1).bind fun t275 => ((pte_Pa.f t275 1 4660).bind fun t276 => (some (t276 == 2101812)))) else (some false))) else (some false))) else (some false)) = some r := H
                            have A127 := Aside0.mk A1270
                            clear A1270
                            by_cases c128 : t272 = 1
                            · rw [if_pos c128] at H
                              have c128b0 : (t272 == 1) = true := beq_iff_eq.mpr c128
                              have c128b1 : (t272 != 1) = false := bne_eq_false_iff_eq.mpr c128
                              clear c128
                              replace H := Option.bind_eq_some_iff.mp H
                              obtain ⟨t273, A1290, H⟩ := H
                              replace H : (if t273 = 1 then ((pte_Index.f 1075847167 2).bind fun t274 => (if t274 = 1 then ((pte_Make.f 512 1).bind fun t275 => ((pte_Pa.f t275 1 4660).bind fun t276 => (some (t276 == 2101812)))) else (some false))) else (some false)) = some r := H
                              have A129 := Aside0.mk A1290
                              clear A1290
                              by_cases c130 : t273 = 1
                              · rw [if_pos c130] at H
                                have c130b0 : (t273 == 1) = true := beq_iff_eq.mpr c130
                                have c130b1 : (t273 != 1) = false := bne_eq_false_iff_eq.mpr c130
                                clear c130
                                replace H := Option.bind_eq_some_iff.mp H
                                obtain ⟨t274, A1310, H⟩ := H
                                replace H : (if t274 = 1 then ((pte_Make.f 512 1).bind fun t275 => ((pte_Pa.f t275 1 4660).bind fun t276 => (some (t276 == 2101812)))) else (some false)) = some r := H
                                have A131 := Aside0.mk A1310
                                clear A1310
                                by_cases c132 : t274 = 1
                                · rw [if_pos c132] at H
                                  have c132b0 : (t274 == 1) = true := beq_iff_eq.mpr c132
                                  have c132b1 : (t274 != 1) = false := bne_eq_false_iff_eq.mpr c132
                                  clear c132
                                  replace H := Option.bind_eq_some_iff.mp H
                                  obtain ⟨t275, A1330, H⟩ := H
                                  replace H : ((pte_Pa.f t275 1 4660).bind fun t276 => (some (t276 == 2101812))) = some r := H
                                  have A133 := Aside0.mk A1330
                                  clear A1330
                                  replace H := Option.bind_eq_some_iff.mp H
                                  obtain ⟨t276, A1340, H⟩ := H
                                  replace H : (some (t276 == 2101812)) = some r := H
                                  have A134 := Aside0.mk A1340
                                  clear A1340
                                  obtain rfl := Option.some.inj H
                                  go_wp2_with (first | (go_at_call 11; (with_reducible refine (mezzaninelaw15_awake.calls kj107  true _ A125.out).mono ?_); rintro e w135 ⟨rfl, hb⟩; have n0_ := Aside0.mk (blk_below (g := gb247) (o := .cells #[.int .u8 0, .bool false, .int .u8 0, .bool false, .bool false, .bool false, .bool false] 32 (0, 0)) (by (with_reducible repeat (first | refine blk_drewN ?_ _ | refine blk_drew ?_ | refine blk_alloc ?_ _)); exact BK247.out) hb); have n1_ := Aside0.mk (blk_below (g := gb248) (o := .cells #[.int .u8 0, .bool false, .int .u8 0, .bool false, .bool false, .bool true, .bool false] 32 (0, 0)) (by (with_reducible repeat (first | refine blk_drewN ?_ _ | refine blk_drew ?_ | refine blk_alloc ?_ _)); exact BK248.out) hb); have n2_ := Aside0.mk (blk_below (g := gb249) (o := .cells #[.int .u8 0, .bool false, .int .u8 1, .bool false, .bool false, .bool false, .bool false] 32 (0, 0)) (by (with_reducible repeat (first | refine blk_drewN ?_ _ | refine blk_drew ?_ | refine blk_alloc ?_ _)); exact BK249.out) hb); have n3_ := Aside0.mk (blk_below (g := gb250) (o := .cells #[.int .u8 0, .bool false, .int .u8 1, .bool false, .bool true, .bool false, .bool false] 32 (0, 0)) (by (with_reducible repeat (first | refine blk_drewN ?_ _ | refine blk_drew ?_ | refine blk_alloc ?_ _)); exact BK250.out) hb); have n4_ := Aside0.mk (blk_below (g := gb251) (o := .cells #[.int .u8 2, .bool false, .int .u8 1, .bool false, .bool true, .bool false, .bool false] 32 (0, 0)) (by (with_reducible repeat (first | refine blk_drewN ?_ _ | refine blk_drew ?_ | refine blk_alloc ?_ _)); exact BK251.out) hb); have n5_ := Aside0.mk (below_step (by repeat (first | (with_reducible first | exact HB.out | apply below_alloc | apply pw_below_drewN | apply below_drew1 | refine below_set ?_ GE247.out | refine below_set ?_ GE248.out | refine below_set ?_ GE249.out | refine below_set ?_ GE250.out | refine below_set ?_ GE251.out) | exact HB.out)) hb); clear BK247; clear BK248; clear BK249; clear BK250; clear BK251; clear HB; have BK247 := n0_; have BK248 := n1_; have BK249 := n2_; have BK250 := n3_; have BK251 := n4_; have HB := n5_; clear n0_ n1_ n2_ n3_ n4_ n5_; (try clear hb); (try clear hb2); (try clear hk); (try clear hi)) | (go_at_call 25; (with_reducible refine (pte_Index.calls 1075847167 0 t272 _ A127.out).mono ?_); rintro e w136 ⟨rfl, hb⟩; have n0_ := Aside0.mk (blk_below (g := gb247) (o := .cells #[.int .u8 0, .bool false, .int .u8 0, .bool false, .bool false, .bool false, .bool false] 32 (0, 0)) (by (with_reducible repeat (first | refine blk_drewN ?_ _ | refine blk_drew ?_ | refine blk_alloc ?_ _)); exact BK247.out) hb); have n1_ := Aside0.mk (blk_below (g := gb248) (o := .cells #[.int .u8 0, .bool false, .int .u8 0, .bool false, .bool false, .bool true, .bool false] 32 (0, 0)) (by (with_reducible repeat (first | refine blk_drewN ?_ _ | refine blk_drew ?_ | refine blk_alloc ?_ _)); exact BK248.out) hb); have n2_ := Aside0.mk (blk_below (g := gb249) (o := .cells #[.int .u8 0, .bool false, .int .u8 1, .bool false, .bool false, .bool false, .bool false] 32 (0, 0)) (by (with_reducible repeat (first | refine blk_drewN ?_ _ | refine blk_drew ?_ | refine blk_alloc ?_ _)); exact BK249.out) hb); have n3_ := Aside0.mk (blk_below (g := gb250) (o := .cells #[.int .u8 0, .bool false, .int .u8 1, .bool false, .bool true, .bool false, .bool false] 32 (0, 0)) (by (with_reducible repeat (first | refine blk_drewN ?_ _ | refine blk_drew ?_ | refine blk_alloc ?_ _)); exact BK250.out) hb); have n4_ := Aside0.mk (blk_below (g := gb251) (o := .cells #[.int .u8 2, .bool false, .int .u8 1, .bool false, .bool true, .bool false, .bool false] 32 (0, 0)) (by (with_reducible repeat (first | refine blk_drewN ?_ _ | refine blk_drew ?_ | refine blk_alloc ?_ _)); exact BK251.out) hb); have n5_ := Aside0.mk (below_step (by repeat (first | (with_reducible first | exact HB.out | apply below_alloc | apply pw_below_drewN | apply below_drew1 | refine below_set ?_ GE247.out | refine below_set ?_ GE248.out | refine below_set ?_ GE249.out | refine below_set ?_ GE250.out | refine below_set ?_ GE251.out) | exact HB.out)) hb); clear BK247; clear BK248; clear BK249; clear BK250; clear BK251; clear HB; have BK247 := n0_; have BK248 := n1_; have BK249 := n2_; have BK250 := n3_; have BK251 := n4_; have HB := n5_; clear n0_ n1_ n2_ n3_ n4_ n5_; (try clear hb); (try clear hb2); (try clear hk); (try clear hi)) | (go_at_call 25; (with_reducible refine (pte_Index.calls 1075847167 1 t273 _ A129.out).mono ?_); rintro e w137 ⟨rfl, hb⟩; have n0_ := Aside0.mk (blk_below (g := gb247) (o := .cells #[.int .u8 0, .bool false, .int .u8 0, .bool false, .bool false, .bool false, .bool false] 32 (0, 0)) (by (with_reducible repeat (first | refine blk_drewN ?_ _ | refine blk_drew ?_ | refine blk_alloc ?_ _)); exact BK247.out) hb); have n1_ := Aside0.mk (blk_below (g := gb248) (o := .cells #[.int .u8 0, .bool false, .int .u8 0, .bool false, .bool false, .bool true, .bool false] 32 (0, 0)) (by (with_reducible repeat (first | refine blk_drewN ?_ _ | refine blk_drew ?_ | refine blk_alloc ?_ _)); exact BK248.out) hb); have n2_ := Aside0.mk (blk_below (g := gb249) (o := .cells #[.int .u8 0, .bool false, .int .u8 1, .bool false, .bool false, .bool false, .bool false] 32 (0, 0)) (by (with_reducible repeat (first | refine blk_drewN ?_ _ | refine blk_drew ?_ | refine blk_alloc ?_ _)); exact BK249.out) hb); have n3_ := Aside0.mk (blk_below (g := gb250) (o := .cells #[.int .u8 0, .bool false, .int .u8 1, .bool false, .bool true, .bool false, .bool false] 32 (0, 0)) (by (with_reducible repeat (first | refine blk_drewN ?_ _ | refine blk_drew ?_ | refine blk_alloc ?_ _)); exact BK250.out) hb); have n4_ := Aside0.mk (blk_below (g := gb251) (o := .cells #[.int .u8 2, .bool false, .int .u8 1, .bool false, .bool true, .bool false, .bool false] 32 (0, 0)) (by (with_reducible repeat (first | refine blk_drewN ?_ _ | refine blk_drew ?_ | refine blk_alloc ?_ _)); exact BK251.out) hb); have n5_ := Aside0.mk (below_step (by repeat (first | (with_reducible first | exact HB.out | apply below_alloc | apply pw_below_drewN | apply below_drew1 | refine below_set ?_ GE247.out | refine below_set ?_ GE248.out | refine below_set ?_ GE249.out | refine below_set ?_ GE250.out | refine below_set ?_ GE251.out) | exact HB.out)) hb); clear BK247; clear BK248; clear BK249; clear BK250; clear BK251; clear HB; have BK247 := n0_; have BK248 := n1_; have BK249 := n2_; have BK250 := n3_; have BK251 := n4_; have HB := n5_; clear n0_ n1_ n2_ n3_ n4_ n5_; (try clear hb); (try clear hb2); (try clear hk); (try clear hi)) | (go_at_call 25; (with_reducible refine (pte_Index.calls 1075847167 2 t274 _ A131.out).mono ?_); rintro e w138 ⟨rfl, hb⟩; have n0_ := Aside0.mk (blk_below (g := gb247) (o := .cells #[.int .u8 0, .bool false, .int .u8 0, .bool false, .bool false, .bool false, .bool false] 32 (0, 0)) (by (with_reducible repeat (first | refine blk_drewN ?_ _ | refine blk_drew ?_ | refine blk_alloc ?_ _)); exact BK247.out) hb); have n1_ := Aside0.mk (blk_below (g := gb248) (o := .cells #[.int .u8 0, .bool false, .int .u8 0, .bool false, .bool false, .bool true, .bool false] 32 (0, 0)) (by (with_reducible repeat (first | refine blk_drewN ?_ _ | refine blk_drew ?_ | refine blk_alloc ?_ _)); exact BK248.out) hb); have n2_ := Aside0.mk (blk_below (g := gb249) (o := .cells #[.int .u8 0, .bool false, .int .u8 1, .bool false, .bool false, .bool false, .bool false] 32 (0, 0)) (by (with_reducible repeat (first | refine blk_drewN ?_ _ | refine blk_drew ?_ | refine blk_alloc ?_ _)); exact BK249.out) hb); have n3_ := Aside0.mk (blk_below (g := gb250) (o := .cells #[.int .u8 0, .bool false, .int .u8 1, .bool false, .bool true, .bool false, .bool false] 32 (0, 0)) (by (with_reducible repeat (first | refine blk_drewN ?_ _ | refine blk_drew ?_ | refine blk_alloc ?_ _)); exact BK250.out) hb); have n4_ := Aside0.mk (blk_below (g := gb251) (o := .cells #[.int .u8 2, .bool false, .int .u8 1, .bool false, .bool true, .bool false, .bool false] 32 (0, 0)) (by (with_reducible repeat (first | refine blk_drewN ?_ _ | refine blk_drew ?_ | refine blk_alloc ?_ _)); exact BK251.out) hb); have n5_ := Aside0.mk (below_step (by repeat (first | (with_reducible first | exact HB.out | apply below_alloc | apply pw_below_drewN | apply below_drew1 | refine below_set ?_ GE247.out | refine below_set ?_ GE248.out | refine below_set ?_ GE249.out | refine below_set ?_ GE250.out | refine below_set ?_ GE251.out) | exact HB.out)) hb); clear BK247; clear BK248; clear BK249; clear BK250; clear BK251; clear HB; have BK247 := n0_; have BK248 := n1_; have BK249 := n2_; have BK250 := n3_; have BK251 := n4_; have HB := n5_; clear n0_ n1_ n2_ n3_ n4_ n5_; (try clear hb); (try clear hb2); (try clear hk); (try clear hi)) | (go_at_call 12; (with_reducible refine (pte_Make.calls 512 1 t275 _ A133.out).mono ?_); rintro e w139 ⟨rfl, hb⟩; have n0_ := Aside0.mk (blk_below (g := gb247) (o := .cells #[.int .u8 0, .bool false, .int .u8 0, .bool false, .bool false, .bool false, .bool false] 32 (0, 0)) (by (with_reducible repeat (first | refine blk_drewN ?_ _ | refine blk_drew ?_ | refine blk_alloc ?_ _)); exact BK247.out) hb); have n1_ := Aside0.mk (blk_below (g := gb248) (o := .cells #[.int .u8 0, .bool false, .int .u8 0, .bool false, .bool false, .bool true, .bool false] 32 (0, 0)) (by (with_reducible repeat (first | refine blk_drewN ?_ _ | refine blk_drew ?_ | refine blk_alloc ?_ _)); exact BK248.out) hb); have n2_ := Aside0.mk (blk_below (g := gb249) (o := .cells #[.int .u8 0, .bool false, .int .u8 1, .bool false, .bool false, .bool false, .bool false] 32 (0, 0)) (by (with_reducible repeat (first | refine blk_drewN ?_ _ | refine blk_drew ?_ | refine blk_alloc ?_ _)); exact BK249.out) hb); have n3_ := Aside0.mk (blk_below (g := gb250) (o := .cells #[.int .u8 0, .bool false, .int .u8 1, .bool false, .bool true, .bool false, .bool false] 32 (0, 0)) (by (with_reducible repeat (first | refine blk_drewN ?_ _ | refine blk_drew ?_ | refine blk_alloc ?_ _)); exact BK250.out) hb); have n4_ := Aside0.mk (blk_below (g := gb251) (o := .cells #[.int .u8 2, .bool false, .int .u8 1, .bool false, .bool true, .bool false, .bool false] 32 (0, 0)) (by (with_reducible repeat (first | refine blk_drewN ?_ _ | refine blk_drew ?_ | refine blk_alloc ?_ _)); exact BK251.out) hb); have n5_ := Aside0.mk (below_step (by repeat (first | (with_reducible first | exact HB.out | apply below_alloc | apply pw_below_drewN | apply below_drew1 | refine below_set ?_ GE247.out | refine below_set ?_ GE248.out | refine below_set ?_ GE249.out | refine below_set ?_ GE250.out | refine below_set ?_ GE251.out) | exact HB.out)) hb); clear BK247; clear BK248; clear BK249; clear BK250; clear BK251; clear HB; have BK247 := n0_; have BK248 := n1_; have BK249 := n2_; have BK250 := n3_; have BK251 := n4_; have HB := n5_; clear n0_ n1_ n2_ n3_ n4_ n5_; (try clear hb); (try clear hb2); (try clear hk); (try clear hi)) | (go_at_call 26; (with_reducible refine (pte_Pa.calls t275 1 4660 t276 _ A134.out).mono ?_); rintro e w140 ⟨rfl, hb⟩; have n0_ := Aside0.mk (blk_below (g := gb247) (o := .cells #[.int .u8 0, .bool false, .int .u8 0, .bool false, .bool false, .bool false, .bool false] 32 (0, 0)) (by (with_reducible repeat (first | refine blk_drewN ?_ _ | refine blk_drew ?_ | refine blk_alloc ?_ _)); exact BK247.out) hb); have n1_ := Aside0.mk (blk_below (g := gb248) (o := .cells #[.int .u8 0, .bool false, .int .u8 0, .bool false, .bool false, .bool true, .bool false] 32 (0, 0)) (by (with_reducible repeat (first | refine blk_drewN ?_ _ | refine blk_drew ?_ | refine blk_alloc ?_ _)); exact BK248.out) hb); have n2_ := Aside0.mk (blk_below (g := gb249) (o := .cells #[.int .u8 0, .bool false, .int .u8 1, .bool false, .bool false, .bool false, .bool false] 32 (0, 0)) (by (with_reducible repeat (first | refine blk_drewN ?_ _ | refine blk_drew ?_ | refine blk_alloc ?_ _)); exact BK249.out) hb); have n3_ := Aside0.mk (blk_below (g := gb250) (o := .cells #[.int .u8 0, .bool false, .int .u8 1, .bool false, .bool true, .bool false, .bool false] 32 (0, 0)) (by (with_reducible repeat (first | refine blk_drewN ?_ _ | refine blk_drew ?_ | refine blk_alloc ?_ _)); exact BK250.out) hb); have n4_ := Aside0.mk (blk_below (g := gb251) (o := .cells #[.int .u8 2, .bool false, .int .u8 1, .bool false, .bool true, .bool false, .bool false] 32 (0, 0)) (by (with_reducible repeat (first | refine blk_drewN ?_ _ | refine blk_drew ?_ | refine blk_alloc ?_ _)); exact BK251.out) hb); have n5_ := Aside0.mk (below_step (by repeat (first | (with_reducible first | exact HB.out | apply below_alloc | apply pw_below_drewN | apply below_drew1 | refine below_set ?_ GE247.out | refine below_set ?_ GE248.out | refine below_set ?_ GE249.out | refine below_set ?_ GE250.out | refine below_set ?_ GE251.out) | exact HB.out)) hb); clear BK247; clear BK248; clear BK249; clear BK250; clear BK251; clear HB; have BK247 := n0_; have BK248 := n1_; have BK249 := n2_; have BK250 := n3_; have BK251 := n4_; have HB := n5_; clear n0_ n1_ n2_ n3_ n4_ n5_; (try clear hb); (try clear hb2); (try clear hk); (try clear hi)))
                                  go_ret
                                  exact ⟨by first | rfl | (simp [errW_none, errW_some] <;> rfl) | (simp [*, errW_none, errW_some] <;> rfl), by repeat (first | (with_reducible first | exact HB.out | apply below_alloc | apply pw_below_drewN | apply below_drew1 | refine below_set ?_ GE247.out | refine below_set ?_ GE248.out | refine below_set ?_ GE249.out | refine below_set ?_ GE250.out | refine below_set ?_ GE251.out) | exact HB.out)⟩
                                · rw [if_neg c132] at H
                                  have c132b0 : (t274 == 1) = false := beq_eq_false_iff_ne.mpr c132
                                  have c132b1 : (t274 != 1) = true := bne_iff_ne.mpr c132
                                  exact absurd (Option.some.inj H) (by rw [HT.out]; decide)
                              · rw [if_neg c130] at H
                                have c130b0 : (t273 == 1) = false := beq_eq_false_iff_ne.mpr c130
                                have c130b1 : (t273 != 1) = true := bne_iff_ne.mpr c130
                                exact absurd (Option.some.inj H) (by rw [HT.out]; decide)
                            · rw [if_neg c128] at H
                              have c128b0 : (t272 == 1) = false := beq_eq_false_iff_ne.mpr c128
                              have c128b1 : (t272 != 1) = true := bne_iff_ne.mpr c128
                              exact absurd (Option.some.inj H) (by rw [HT.out]; decide)
                          · replace c126 := Bool.eq_false_iff.mpr c126
                            subst c126
                            have H1 : (some false) = some r := by rw [if_neg (show ¬ (false = true) by decide)] at H; exact H
                            clear H
                            have H := H1
                            clear H1
                            exact absurd (Option.some.inj H) (by rw [HT.out]; decide)

/-- THE ONE PURE STATEMENT of mezzaninelaw15_PteKnown: yours. -/
def mezzaninelaw15_PteKnown.Pure : Prop := ∃ k, mezzaninelaw15_PteKnown.f k  = some true
theorem mezzaninelaw15_PteKnown.walk (P : mezzaninelaw15_PteKnown.Pure)  (w : World)  :
    Calls Try.prog 9 #[] w fun e w' => e = .returned (.bool true) ∧ Below w.heap.size w w' := by
  obtain ⟨k, h⟩ := P  
  refine (mezzaninelaw15_PteKnown.calls k  true w rfl h).mono ?_
  rintro e w' ⟨rfl, hd⟩
  exact ⟨rfl, hd⟩

end Go.Proofs.YteebgfcihoidmaaR.Q
