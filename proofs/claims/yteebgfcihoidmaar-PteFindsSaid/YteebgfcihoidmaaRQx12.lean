/- Where the Lean function of a Go function gives a value, the Go call returns that value and changes nothing that was there: for every input. (By a program of this session, and by hand.) -/
import Derived.Test.YteebgfcihoidmaaRQx0
import Derived.Test.YteebgfcihoidmaaRQx2
import Derived.Test.YteebgfcihoidmaaRQx3
import Derived.Test.YteebgfcihoidmaaRQx11
namespace Go.Proofs.YteebgfcihoidmaaR.Q
open Go.RowKit Go.Proofs.YteebgfcihoidmaaRW.PrintWords Go.Proofs.YteebgfcihoidmaaRW.PrintLast Go.Proofs.YteebgfcihoidmaaRW.PrintMore
attribute [local go_sem] max2_int min2_int max_two min_two max_three min_three max_four min_four   -- for this text's walks alone
set_option linter.unusedVariables false
set_option linter.unusedSimpArgs false

/-! ### mezzaninelaw15_PteFinds: function 8 -/
def mezzaninelaw15_PteFinds.j0 : Nat → Int → Int → Int → Int → Int → Int → Bool → Int → Bool → Int → Bool → Bool → Bool → Bool → Option (Bool)
  | 0, _, _, _, _, _, _, _, _, _, _, _, _, _, _ => none
  | k + 1, x0, x2, x9, x10, x11, x12, x42, x221000, x221001, x221002, x221003, x221004, x221005, x221006 => if x42 = true then (some false) else (if x10 = 2 then ((pte_Ok.f k x0).bind fun t224 => (if t224 = true then ((pte_Leaf.f x0).bind fun t225 => (if t225 = true then ((pte_Allowed.f x0 x221000 x221001 x221002 x221003 x221004 x221005 x221006).bind fun t226 => (if t226 = true then ((pte_Page.f x0).bind fun t227 => (some (x11 == (IntKind.u64.wrap ((IntKind.u64.wrap (t227 * 4096)) + (Go.bits .and .u64 x2 x12)))))) else (some false))) else (some false))) else (some false))) else (if x10 = 1 then ((pte_Ok.f k x0).bind fun t228 => (if t228 = true then ((pte_Leaf.f x0).bind fun t229 => (if t229 = true then (some false) else (some (decide (x9 > 0))))) else (some false))) else (if x10 = 0 then ((pte_Ok.f k x0).bind fun t230 => (if t230 = true then ((pte_Leaf.f x0).bind fun t231 => (if t231 = true then ((pte_Leaf.f x0).bind fun t232 => (if t232 = true then ((pte_Allowed.f x0 x221000 x221001 x221002 x221003 x221004 x221005 x221006).bind fun t233 => (if t233 = true then ((pte_Page.f x0).bind fun t234 => (some ((Go.bits .and .u64 (IntKind.u64.wrap (t234 * 4096)) x12) != 0))) else (some true))) else (some false))) else (if x9 = 0 then (some true) else ((pte_Leaf.f x0).bind fun t235 => (if t235 = true then ((pte_Allowed.f x0 x221000 x221001 x221002 x221003 x221004 x221005 x221006).bind fun t236 => (if t236 = true then ((pte_Page.f x0).bind fun t237 => (some ((Go.bits .and .u64 (IntKind.u64.wrap (t237 * 4096)) x12) != 0))) else (some true))) else (some false)))))) else (some true))) else (some false))))
def mezzaninelaw15_PteFinds.f (k : Nat) (a0 : Int) (a1 : Int) (a2 : Int) (a3_0 : Int) (a3_1 : Bool) (a3_2 : Int) (a3_3 : Bool) (a3_4 : Bool) (a3_5 : Bool) (a3_6 : Bool) : Option (Bool) := (mezzaninelaw15_awake.f k).bind fun t221 => (if t221 = true then ((pte_Judge.f k a0 (Int.tmod (Go.bits .and .i64 a1 3) 3) a3_0 a3_1 a3_2 a3_3 a3_4 a3_5 a3_6).bind fun t222 => ((pte_Pa.f a0 (Int.tmod (Go.bits .and .i64 a1 3) 3) a2).bind fun t223 => (if 0 ≤ (IntKind.u64.wrap (wrap64 (12 + (wrap64 (9 * (Int.tmod (Go.bits .and .i64 a1 3) 3)))))) then (if (Go.bits .and .u64 t223 (IntKind.u64.wrap ((shl .u64 1 (IntKind.u64.wrap (wrap64 (12 + (wrap64 (9 * (Int.tmod (Go.bits .and .i64 a1 3) 3))))))) - 1))) = (Go.bits .and .u64 a2 (IntKind.u64.wrap ((shl .u64 1 (IntKind.u64.wrap (wrap64 (12 + (wrap64 (9 * (Int.tmod (Go.bits .and .i64 a1 3) 3))))))) - 1))) then (mezzaninelaw15_PteFinds.j0 k a0 a2 (Int.tmod (Go.bits .and .i64 a1 3) 3) t222 t223 (IntKind.u64.wrap ((shl .u64 1 (IntKind.u64.wrap (wrap64 (12 + (wrap64 (9 * (Int.tmod (Go.bits .and .i64 a1 3) 3))))))) - 1)) (decide (t223 ≥ 72057594037927936)) a3_0 a3_1 a3_2 a3_3 a3_4 a3_5 a3_6) else (mezzaninelaw15_PteFinds.j0 k a0 a2 (Int.tmod (Go.bits .and .i64 a1 3) 3) t222 t223 (IntKind.u64.wrap ((shl .u64 1 (IntKind.u64.wrap (wrap64 (12 + (wrap64 (9 * (Int.tmod (Go.bits .and .i64 a1 3) 3))))))) - 1)) true a3_0 a3_1 a3_2 a3_3 a3_4 a3_5 a3_6)) else (none)))) else (some false))
theorem mezzaninelaw15_PteFinds.mono_l : ∀ k, (∀ y0 y1 y2 y3 y4 y5 y6 y7 y8 y9 y10 y11 y12 y13, LeO (mezzaninelaw15_PteFinds.j0 k y0 y1 y2 y3 y4 y5 y6 y7 y8 y9 y10 y11 y12 y13) (mezzaninelaw15_PteFinds.j0 (k + 1) y0 y1 y2 y3 y4 y5 y6 y7 y8 y9 y10 y11 y12 y13))
  | 0 => fun _ _ _ _ _ _ _ _ _ _ _ _ _ _ r h => by simp [mezzaninelaw15_PteFinds.j0] at h
  | k + 1 => by
    have ih0 := mezzaninelaw15_PteFinds.mono_l k
    · intro y0 y1 y2 y3 y4 y5 y6 y7 y8 y9 y10 y11 y12 y13
      unfold mezzaninelaw15_PteFinds.j0
      repeat' first
      | (with_reducible exact ih0 _ _ _ _ _ _ _ _ _ _ _ _ _ _)
      | (with_reducible exact mezzaninelaw15_awake.mono _)
      | (with_reducible exact pte_Judge.mono _ _ _ _ _ _ _ _ _ _)
      | (with_reducible exact pte_Ok.mono _ _)
      | (with_reducible exact LeO.refl _)
      | (with_reducible exact LeO.none _)
      | (with_reducible refine LeO.ite ?_ ?_)
      | (with_reducible refine LeO.bind ?_ (fun _ => ?_))
      | exact ih0 _ _ _ _ _ _ _ _ _ _ _ _ _ _
      | exact mezzaninelaw15_awake.mono _
      | exact pte_Judge.mono _ _ _ _ _ _ _ _ _ _
      | exact pte_Ok.mono _ _
      | exact LeO.none _
      | refine LeO.ite ?_ ?_
      | refine LeO.bind ?_ (fun _ => ?_)
theorem mezzaninelaw15_PteFinds.mono : ∀ a0 a1 a2 a3 a4 a5 a6 a7 a8 a9 k, LeO (mezzaninelaw15_PteFinds.f k a0 a1 a2 a3 a4 a5 a6 a7 a8 a9) (mezzaninelaw15_PteFinds.f (k + 1) a0 a1 a2 a3 a4 a5 a6 a7 a8 a9) := by
  intro a0 a1 a2 a3 a4 a5 a6 a7 a8 a9 k
  have ih0 := mezzaninelaw15_PteFinds.mono_l k
  unfold mezzaninelaw15_PteFinds.f
  repeat' first
      | (with_reducible exact ih0 _ _ _ _ _ _ _ _ _ _ _ _ _ _)
      | (with_reducible exact mezzaninelaw15_awake.mono _)
      | (with_reducible exact pte_Judge.mono _ _ _ _ _ _ _ _ _ _)
      | (with_reducible exact pte_Ok.mono _ _)
      | (with_reducible exact LeO.refl _)
      | (with_reducible exact LeO.none _)
      | (with_reducible refine LeO.ite ?_ ?_)
      | (with_reducible refine LeO.bind ?_ (fun _ => ?_))
      | exact ih0 _ _ _ _ _ _ _ _ _ _ _ _ _ _
      | exact mezzaninelaw15_awake.mono _
      | exact pte_Judge.mono _ _ _ _ _ _ _ _ _ _
      | exact pte_Ok.mono _ _
      | exact LeO.none _
      | refine LeO.ite ?_ ?_
      | refine LeO.bind ?_ (fun _ => ?_)
set_option maxHeartbeats 8000000 in
set_option maxRecDepth 100000 in
theorem mezzaninelaw15_PteFinds.calls (k : Nat) (a0 : Int) (a1 : Int) (a2 : Int) (a3_0 : Int) (a3_1 : Bool) (a3_2 : Int) (a3_3 : Bool) (a3_4 : Bool) (a3_5 : Bool) (a3_6 : Bool) (r : Bool) (w : World) (ht : r = true) (h : mezzaninelaw15_PteFinds.f k a0 a1 a2 a3_0 a3_1 a3_2 a3_3 a3_4 a3_5 a3_6 = some r) :
    Calls Try.prog 8 #[.int .u64 a0, .int .i64 a1, .int .u64 a2, .agg #[.int .u8 a3_0, .bool a3_1, .int .u8 a3_2, .bool a3_3, .bool a3_4, .bool a3_5, .bool a3_6]] w fun e w' => e = .returned (.bool r) ∧ Below w.heap.size w w' := by
  have hu32 := Try.underlying32
  have HB := Aside0.mk (Below.refl w.heap.size w)
  have HT := Aside0.mk ht
  clear ht
  have H : ((mezzaninelaw15_awake.f k).bind fun t221 => (if t221 = true then ((pte_Judge.f k a0 (Int.tmod (Go.bits .and .i64 a1 3) 3) a3_0 a3_1 a3_2 a3_3 a3_4 a3_5 a3_6).bind fun t222 => ((pte_Pa.f a0 (Int.tmod (Go.bits .and .i64 a1 3) 3) a2).bind fun t223 => (if 0 ≤ (IntKind.u64.wrap (wrap64 (12 + (wrap64 (9 * (Int.tmod (Go.bits .and .i64 a1 3) 3)))))) then (if (Go.bits .and .u64 t223 (IntKind.u64.wrap ((shl .u64 1 (IntKind.u64.wrap (wrap64 (12 + (wrap64 (9 * (Int.tmod (Go.bits .and .i64 a1 3) 3))))))) - 1))) = (Go.bits .and .u64 a2 (IntKind.u64.wrap ((shl .u64 1 (IntKind.u64.wrap (wrap64 (12 + (wrap64 (9 * (Int.tmod (Go.bits .and .i64 a1 3) 3))))))) - 1))) then (mezzaninelaw15_PteFinds.j0 k a0 a2 (Int.tmod (Go.bits .and .i64 a1 3) 3) t222 t223 (IntKind.u64.wrap ((shl .u64 1 (IntKind.u64.wrap (wrap64 (12 + (wrap64 (9 * (Int.tmod (Go.bits .and .i64 a1 3) 3))))))) - 1)) (decide (t223 ≥ 72057594037927936)) a3_0 a3_1 a3_2 a3_3 a3_4 a3_5 a3_6) else (mezzaninelaw15_PteFinds.j0 k a0 a2 (Int.tmod (Go.bits .and .i64 a1 3) 3) t222 t223 (IntKind.u64.wrap ((shl .u64 1 (IntKind.u64.wrap (wrap64 (12 + (wrap64 (9 * (Int.tmod (Go.bits .and .i64 a1 3) 3))))))) - 1)) true a3_0 a3_1 a3_2 a3_3 a3_4 a3_5 a3_6)) else (none)))) else (some false))) = some r := h
  clear h
  replace H := Option.bind_eq_some_iff.mp H
  obtain ⟨t221, A50, H⟩ := H
  replace H : (if t221 = true then ((pte_Judge.f k a0 (Int.tmod (Go.bits .and .i64 a1 3) 3) a3_0 a3_1 a3_2 a3_3 a3_4 a3_5 a3_6).bind fun t222 => ((pte_Pa.f a0 (Int.tmod (Go.bits .and .i64 a1 3) 3) a2).bind fun t223 => (if 0 ≤ (IntKind.u64.wrap (wrap64 (12 + (wrap64 (9 * (Int.tmod (Go.bits .and .i64 a1 3) 3)))))) then (if (Go.bits .and .u64 t223 (IntKind.u64.wrap ((shl .u64 1 (IntKind.u64.wrap (wrap64 (12 + (wrap64 (9 * (Int.tmod (Go.bits .and .i64 a1 3) 3))))))) - 1))) = (Go.bits .and .u64 a2 (IntKind.u64.wrap ((shl .u64 1 (IntKind.u64.wrap (wrap64 (12 + (wrap64 (9 * (Int.tmod (Go.bits .and .i64 a1 3) 3))))))) - 1))) then (mezzaninelaw15_PteFinds.j0 k a0 a2 (Int.tmod (Go.bits .and .i64 a1 3) 3) t222 t223 (IntKind.u64.wrap ((shl .u64 1 (IntKind.u64.wrap (wrap64 (12 + (wrap64 (9 * (Int.tmod (Go.bits .and .i64 a1 3) 3))))))) - 1)) (decide (t223 ≥ 72057594037927936)) a3_0 a3_1 a3_2 a3_3 a3_4 a3_5 a3_6) else (mezzaninelaw15_PteFinds.j0 k a0 a2 (Int.tmod (Go.bits .and .i64 a1 3) 3) t222 t223 (IntKind.u64.wrap ((shl .u64 1 (IntKind.u64.wrap (wrap64 (12 + (wrap64 (9 * (Int.tmod (Go.bits .and .i64 a1 3) 3))))))) - 1)) true a3_0 a3_1 a3_2 a3_3 a3_4 a3_5 a3_6)) else (none)))) else (some false)) = some r := H
  have A5 := Aside0.mk A50
  clear A50
  by_cases c6 : t221 = true
  · subst c6
    have H1 : ((pte_Judge.f k a0 (Int.tmod (Go.bits .and .i64 a1 3) 3) a3_0 a3_1 a3_2 a3_3 a3_4 a3_5 a3_6).bind fun t222 => ((pte_Pa.f a0 (Int.tmod (Go.bits .and .i64 a1 3) 3) a2).bind fun t223 => (if 0 ≤ (IntKind.u64.wrap (wrap64 (12 + (wrap64 (9 * (Int.tmod (Go.bits .and .i64 a1 3) 3)))))) then (if (Go.bits .and .u64 t223 (IntKind.u64.wrap ((shl .u64 1 (IntKind.u64.wrap (wrap64 (12 + (wrap64 (9 * (Int.tmod (Go.bits .and .i64 a1 3) 3))))))) - 1))) = (Go.bits .and .u64 a2 (IntKind.u64.wrap ((shl .u64 1 (IntKind.u64.wrap (wrap64 (12 + (wrap64 (9 * (Int.tmod (Go.bits .and .i64 a1 3) 3))))))) - 1))) then (mezzaninelaw15_PteFinds.j0 k a0 a2 (Int.tmod (Go.bits .and .i64 a1 3) 3) t222 t223 (IntKind.u64.wrap ((shl .u64 1 (IntKind.u64.wrap (wrap64 (12 + (wrap64 (9 * (Int.tmod (Go.bits .and .i64 a1 3) 3))))))) - 1)) (decide (t223 ≥ 72057594037927936)) a3_0 a3_1 a3_2 a3_3 a3_4 a3_5 a3_6) else (mezzaninelaw15_PteFinds.j0 k a0 a2 (Int.tmod (Go.bits .and .i64 a1 3) 3) t222 t223 (IntKind.u64.wrap ((shl .u64 1 (IntKind.u64.wrap (wrap64 (12 + (wrap64 (9 * (Int.tmod (Go.bits .and .i64 a1 3) 3))))))) - 1)) true a3_0 a3_1 a3_2 a3_3 a3_4 a3_5 a3_6)) else (none)))) = some r := by rw [if_pos rfl] at H; exact H
    clear H
    have H := H1
    clear H1
    replace H := Option.bind_eq_some_iff.mp H
    obtain ⟨t222, A70, H⟩ := H
    replace H : ((pte_Pa.f a0 (Int.tmod (Go.bits .and .i64 a1 3) 3) a2).bind fun t223 => (if 0 ≤ (IntKind.u64.wrap (wrap64 (12 + (wrap64 (9 * (Int.tmod (Go.bits .and .i64 a1 3) 3)))))) then (if (Go.bits .and .u64 t223 (IntKind.u64.wrap ((shl .u64 1 (IntKind.u64.wrap (wrap64 (12 + (wrap64 (9 * (Int.tmod (Go.bits .and .i64 a1 3) 3))))))) - 1))) = (Go.bits .and .u64 a2 (IntKind.u64.wrap ((shl .u64 1 (IntKind.u64.wrap (wrap64 (12 + (wrap64 (9 * (Int.tmod (Go.bits .and .i64 a1 3) 3))))))) - 1))) then (mezzaninelaw15_PteFinds.j0 k a0 a2 (Int.tmod (Go.bits .and .i64 a1 3) 3) t222 t223 (IntKind.u64.wrap ((shl .u64 1 (IntKind.u64.wrap (wrap64 (12 + (wrap64 (9 * (Int.tmod (Go.bits .and .i64 a1 3) 3))))))) - 1)) (decide (t223 ≥ 72057594037927936)) a3_0 a3_1 a3_2 a3_3 a3_4 a3_5 a3_6) else (mezzaninelaw15_PteFinds.j0 k a0 a2 (Int.tmod (Go.bits .and .i64 a1 3) 3) t222 t223 (IntKind.u64.wrap ((shl .u64 1 (IntKind.u64.wrap (wrap64 (12 + (wrap64 (9 * (Int.tmod (Go.bits .and .i64 a1 3) 3))))))) - 1)) true a3_0 a3_1 a3_2 a3_3 a3_4 a3_5 a3_6)) else (none))) = some r := H
    have A7 := Aside0.mk A70
    clear A70
    replace H := Option.bind_eq_some_iff.mp H
    obtain ⟨t223, A80, H⟩ := H
    replace H : (if 0 ≤ (IntKind.u64.wrap (wrap64 (12 + (wrap64 (9 * (Int.tmod (Go.bits .and .i64 a1 3) 3)))))) then (if (Go.bits .and .u64 t223 (IntKind.u64.wrap ((shl .u64 1 (IntKind.u64.wrap (wrap64 (12 + (wrap64 (9 * (Int.tmod (Go.bits .and .i64 a1 3) 3))))))) - 1))) = (Go.bits .and .u64 a2 (IntKind.u64.wrap ((shl .u64 1 (IntKind.u64.wrap (wrap64 (12 + (wrap64 (9 * (Int.tmod (Go.bits .and .i64 a1 3) 3))))))) - 1))) then (mezzaninelaw15_PteFinds.j0 k a0 a2 (Int.tmod (Go.bits .and .i64 a1 3) 3) t222 t223 (IntKind.u64.wrap ((shl .u64 1 (IntKind.u64.wrap (wrap64 (12 + (wrap64 (9 * (Int.tmod (Go.bits .and .i64 a1 3) 3))))))) - 1)) (decide (t223 ≥ 72057594037927936)) a3_0 a3_1 a3_2 a3_3 a3_4 a3_5 a3_6) else (mezzaninelaw15_PteFinds.j0 k a0 a2 (Int.tmod (Go.bits .and .i64 a1 3) 3) t222 t223 (IntKind.u64.wrap ((shl .u64 1 (IntKind.u64.wrap (wrap64 (12 + (wrap64 (9 * (Int.tmod (Go.bits .and .i64 a1 3) 3))))))) - 1)) true a3_0 a3_1 a3_2 a3_3 a3_4 a3_5 a3_6)) else (none)) = some r := H
    have A8 := Aside0.mk A80
    clear A80
    obtain ⟨ji9, hji9⟩ : ∃ j_ : Int, (IntKind.u64.wrap (wrap64 (12 + (wrap64 (9 * (Int.tmod (Go.bits .and .i64 a1 3) 3)))))) = j_ := ⟨_, rfl⟩
    replace H : (if 0 ≤ (ji9) then (if (Go.bits .and .u64 t223 (IntKind.u64.wrap ((shl .u64 1 (ji9)) - 1))) = (Go.bits .and .u64 a2 (IntKind.u64.wrap ((shl .u64 1 (ji9)) - 1))) then (mezzaninelaw15_PteFinds.j0 k a0 a2 (Int.tmod (Go.bits .and .i64 a1 3) 3) t222 t223 (IntKind.u64.wrap ((shl .u64 1 (ji9)) - 1)) (decide (t223 ≥ 72057594037927936)) a3_0 a3_1 a3_2 a3_3 a3_4 a3_5 a3_6) else (mezzaninelaw15_PteFinds.j0 k a0 a2 (Int.tmod (Go.bits .and .i64 a1 3) 3) t222 t223 (IntKind.u64.wrap ((shl .u64 1 (ji9)) - 1)) true a3_0 a3_1 a3_2 a3_3 a3_4 a3_5 a3_6)) else (none)) = some r := by first | (rw [hji9] at H; exact H) | (simp only [hji9] at H ⊢; exact H)
    (try rw [hji9] at A5)
    (try rw [hji9] at A7)
    (try rw [hji9] at A8)
    by_cases c10 : 0 ≤ (ji9)
    · rw [if_pos c10] at H
      have c10b0 := eq_true c10
      have c10b1 : decide (0 ≤ (ji9)) = true := decide_eq_true c10
      clear c10
      obtain ⟨ji11, hji11⟩ : ∃ j_ : Int, (shl .u64 1 (ji9)) = j_ := ⟨_, rfl⟩
      replace H : (if (Go.bits .and .u64 t223 (IntKind.u64.wrap ((ji11) - 1))) = (Go.bits .and .u64 a2 (IntKind.u64.wrap ((ji11) - 1))) then (mezzaninelaw15_PteFinds.j0 k a0 a2 (Int.tmod (Go.bits .and .i64 a1 3) 3) t222 t223 (IntKind.u64.wrap ((ji11) - 1)) (decide (t223 ≥ 72057594037927936)) a3_0 a3_1 a3_2 a3_3 a3_4 a3_5 a3_6) else (mezzaninelaw15_PteFinds.j0 k a0 a2 (Int.tmod (Go.bits .and .i64 a1 3) 3) t222 t223 (IntKind.u64.wrap ((ji11) - 1)) true a3_0 a3_1 a3_2 a3_3 a3_4 a3_5 a3_6)) = some r := by first | (rw [hji11] at H; exact H) | (simp only [hji11] at H ⊢; exact H)
      (try rw [hji11] at A5)
      (try rw [hji11] at A7)
      (try rw [hji11] at A8)
      have hji11_ : (IntKind.u64.wrap (1 * 2 ^ min (ji9).toNat 64)) = ji11 := hji11
      have hji11z : (ji9) ≤ 64 → (IntKind.u64.wrap (1 * 2 ^ (ji9).toNat)) = ji11 := shl_small hji11
      have hji11u : (IntKind.u64.wrap (2 ^ min (ji9).toNat 64)) = ji11 := by have h_ := hji11_; rw [Int.one_mul] at h_; exact h_
      have hji11v : (ji9) ≤ 64 → (IntKind.u64.wrap (2 ^ (ji9).toNat)) = ji11 := fun hle_ => by have h_ := hji11z hle_; rw [Int.one_mul] at h_; exact h_
      have HC12 := Aside0.mk H
      clear H
      go_enter Try.func8, Try.ntmps8
      go_upto_region 7 with (first | ((with_reducible refine gate_dst (N := 7) rfl ?_); refine box_event ?hg (N := 7) ?hd (cs := #[.int .u8 a3_0, .bool a3_1, .int .u8 a3_2, .bool a3_3, .bool a3_4, .bool a3_5, .bool a3_6]) (t := 32) ?hr ?_; (case hd => rfl); (case hg => rfl); (case hr => first | (go_simp; done) | (go_simp; rfl)); intro gb220 hg w13 hbox hb; have n0_ := Aside0.mk (below_step (by repeat (first | (with_reducible first | exact HB.out | apply below_alloc | apply pw_below_drewN | apply below_drew1) | exact HB.out)) hb); have n1_ := Aside0.mk (hbox); have n2_ := Aside0.mk ((by rw [hg]; exact (below_size (by repeat (first | (with_reducible first | exact HB.out | apply below_alloc | apply pw_below_drewN | apply below_drew1) | exact HB.out))) : w.heap.size ≤ gb220)); have n3_ := Aside0.mk ((by rw [hg]; exact (below_size (by repeat (first | (with_reducible first | exact HB.out | apply below_alloc | apply pw_below_drewN | apply below_drew1) | exact HB.out))) : w.heap.size ≤ gb220)); clear HB; have HB := n0_; have BK220 := n1_; have GW220 := n2_; have GE220 := n3_; clear n0_ n1_ n2_ n3_; clear hb hbox hg) | ((with_reducible refine gate_callee (f := 11) rfl ?_); refine goesL_ (some 13) rfl rfl Try.func11 (by kernel_rfl) rfl #[] rfl (by (try simp only [List.map_toArray, List.map_cons, List.map_nil]); first | done | rfl | (simp only [List.length_drop, List.length_take]; rfl)) ?_; (with_reducible refine (mezzaninelaw15_awake.calls k  true _ A5.out).mono ?_); rintro e w14 ⟨rfl, hb⟩; refine ⟨_, rfl, ?_⟩; have n0_ := Aside0.mk (blk_below (g := gb220) (o := .cells #[.int .u8 a3_0, .bool a3_1, .int .u8 a3_2, .bool a3_3, .bool a3_4, .bool a3_5, .bool a3_6] 32 (0, 0)) (by (with_reducible repeat (first | refine blk_drewN ?_ _ | refine blk_drew ?_ | refine blk_alloc ?_ _)); exact BK220.out) hb); have n1_ := Aside0.mk (below_step (by repeat (first | (with_reducible first | exact HB.out | apply below_alloc | apply pw_below_drewN | apply below_drew1 | refine below_set ?_ GE220.out) | exact HB.out)) hb); clear BK220; clear HB; have BK220 := n0_; have HB := n1_; clear n0_ n1_; (try clear hb); (try clear hb2); (try clear hk); (try clear hi); have hcz15_0 : w14.cell? ⟨gb220, 0, none⟩ = some (.int .u8 a3_0) := (blk_cell BK220.out 0).trans rfl; have hcz15_1 : w14.cell? ⟨gb220, 1, none⟩ = some (.bool a3_1) := (blk_cell BK220.out 1).trans rfl; have hcz15_2 : w14.cell? ⟨gb220, 2, none⟩ = some (.int .u8 a3_2) := (blk_cell BK220.out 2).trans rfl; have hcz15_3 : w14.cell? ⟨gb220, 3, none⟩ = some (.bool a3_3) := (blk_cell BK220.out 3).trans rfl; have hcz15_4 : w14.cell? ⟨gb220, 4, none⟩ = some (.bool a3_4) := (blk_cell BK220.out 4).trans rfl; have hcz15_5 : w14.cell? ⟨gb220, 5, none⟩ = some (.bool a3_5) := (blk_cell BK220.out 5).trans rfl; have hcz15_6 : w14.cell? ⟨gb220, 6, none⟩ = some (.bool a3_6) := (blk_cell BK220.out 6).trans rfl; have hfz15_0 := blk_frozen BK220.out 0; have hfz15_1 := blk_frozen BK220.out 1; have hfz15_2 := blk_frozen BK220.out 2; have hfz15_3 := blk_frozen BK220.out 3; have hfz15_4 := blk_frozen BK220.out 4; have hfz15_5 := blk_frozen BK220.out 5; have hfz15_6 := blk_frozen BK220.out 6) | ((with_reducible refine gate_callee (f := 19) rfl ?_); refine goesL_ (some 21) rfl rfl Try.func19 (by kernel_rfl) rfl #[.int .u64 a0, .int .i64 (Int.tmod (Go.bits .and .i64 a1 3) 3), .agg #[.int .u8 a3_0, .bool a3_1, .int .u8 a3_2, .bool a3_3, .bool a3_4, .bool a3_5, .bool a3_6]] rfl (by (try simp only [List.map_toArray, List.map_cons, List.map_nil]); first | done | rfl | (simp only [List.length_drop, List.length_take]; rfl)) ?_; (with_reducible refine (pte_Judge.calls k a0 (Int.tmod (Go.bits .and .i64 a1 3) 3) a3_0 a3_1 a3_2 a3_3 a3_4 a3_5 a3_6 t222 _ A7.out).mono ?_); rintro e w16 ⟨rfl, hb⟩; refine ⟨_, rfl, ?_⟩; have n0_ := Aside0.mk (blk_below (g := gb220) (o := .cells #[.int .u8 a3_0, .bool a3_1, .int .u8 a3_2, .bool a3_3, .bool a3_4, .bool a3_5, .bool a3_6] 32 (0, 0)) (by (with_reducible repeat (first | refine blk_drewN ?_ _ | refine blk_drew ?_ | refine blk_alloc ?_ _)); exact BK220.out) hb); have n1_ := Aside0.mk (below_step (by repeat (first | (with_reducible first | exact HB.out | apply below_alloc | apply pw_below_drewN | apply below_drew1 | refine below_set ?_ GE220.out) | exact HB.out)) hb); clear BK220; clear HB; have BK220 := n0_; have HB := n1_; clear n0_ n1_; (try clear hb); (try clear hb2); (try clear hk); (try clear hi)) | ((with_reducible refine gate_callee (f := 26) rfl ?_); refine goesL_ (some 25) rfl rfl Try.func26 (by kernel_rfl) rfl #[.int .u64 a0, .int .i64 (Int.tmod (Go.bits .and .i64 a1 3) 3), .int .u64 a2] rfl (by (try simp only [List.map_toArray, List.map_cons, List.map_nil]); first | done | rfl | (simp only [List.length_drop, List.length_take]; rfl)) ?_; (with_reducible refine (pte_Pa.calls a0 (Int.tmod (Go.bits .and .i64 a1 3) 3) a2 t223 _ A8.out).mono ?_); rintro e w17 ⟨rfl, hb⟩; refine ⟨_, rfl, ?_⟩; have n0_ := Aside0.mk (blk_below (g := gb220) (o := .cells #[.int .u8 a3_0, .bool a3_1, .int .u8 a3_2, .bool a3_3, .bool a3_4, .bool a3_5, .bool a3_6] 32 (0, 0)) (by (with_reducible repeat (first | refine blk_drewN ?_ _ | refine blk_drew ?_ | refine blk_alloc ?_ _)); exact BK220.out) hb); have n1_ := Aside0.mk (below_step (by repeat (first | (with_reducible first | exact HB.out | apply below_alloc | apply pw_below_drewN | apply below_drew1 | refine below_set ?_ GE220.out) | exact HB.out)) hb); clear BK220; clear HB; have BK220 := n0_; have HB := n1_; clear n0_ n1_; (try clear hb); (try clear hb2); (try clear hk); (try clear hi)))
      (try simp only [Act.put, List.setIfInBounds_toArray, List.set_cons_zero, List.set_cons_succ])
      go_cut [42] (fun v42 wc => ∃ (kq : Nat) (x42_11 : Bool), v42 = .bool x42_11 ∧ Aside0 (mezzaninelaw15_PteFinds.j0 kq a0 a2 (Int.tmod (Go.bits .and .i64 a1 3) 3) t222 t223 (IntKind.u64.wrap ((ji11) - 1)) x42_11 a3_0 a3_1 a3_2 a3_3 a3_4 a3_5 a3_6 = some r) ∧ Aside0 (kq ≤ k) ∧ Aside0 (wc.heap[gb220]? = some (.cells #[.int .u8 a3_0, .bool a3_1, .int .u8 a3_2, .bool a3_3, .bool a3_4, .bool a3_5, .bool a3_6] 32 (0, 0))) ∧ Aside0 (Below w.heap.size w wc))
      case first =>
        have H := HC12.out
        clear HC12
        by_cases c18 : (Go.bits .and .u64 t223 (IntKind.u64.wrap ((ji11) - 1))) = (Go.bits .and .u64 a2 (IntKind.u64.wrap ((ji11) - 1)))
        · rw [if_pos c18] at H
          have c18b0 : ((Go.bits .and .u64 t223 (IntKind.u64.wrap ((ji11) - 1))) == (Go.bits .and .u64 a2 (IntKind.u64.wrap ((ji11) - 1)))) = true := beq_iff_eq.mpr c18
          have c18b1 : ((Go.bits .and .u64 t223 (IntKind.u64.wrap ((ji11) - 1))) != (Go.bits .and .u64 a2 (IntKind.u64.wrap ((ji11) - 1)))) = false := bne_eq_false_iff_eq.mpr c18
          clear c18
          (first | rw [c18b0] | (simp only [i64_w, i32_w]; rw [c18b0]) | skip)
          have H' := Aside0.mk H
          clear H
          go_wp2
          go_meet
          case rel => exact ⟨_, (decide (t223 ≥ 72057594037927936)), (by first | rfl | (simp; done) | (simp [*]; done)), H', ⟨by first | omega | exact Nat.le_refl _⟩, ⟨by (with_reducible repeat (first | refine blk_drewN ?_ _ | refine blk_drew ?_ | refine blk_alloc ?_ _)); exact BK220.out⟩, ⟨by repeat (first | (with_reducible first | exact HB.out | apply below_alloc | apply pw_below_drewN | apply below_drew1 | refine below_set ?_ GE220.out) | exact HB.out)⟩⟩
        · rw [if_neg c18] at H
          have c18b0 : ((Go.bits .and .u64 t223 (IntKind.u64.wrap ((ji11) - 1))) == (Go.bits .and .u64 a2 (IntKind.u64.wrap ((ji11) - 1)))) = false := beq_eq_false_iff_ne.mpr c18
          have c18b1 : ((Go.bits .and .u64 t223 (IntKind.u64.wrap ((ji11) - 1))) != (Go.bits .and .u64 a2 (IntKind.u64.wrap ((ji11) - 1)))) = true := bne_iff_ne.mpr c18
          (first | rw [c18b0] | (simp only [i64_w, i32_w]; rw [c18b0]) | skip)
          exact absurd H (by rw [HT.out]; cases k <;> simp [mezzaninelaw15_PteFinds.j0])
      case rest =>
        clear HC12
        try clear c1
        try clear c2
        try clear p2
        try clear c6
        try clear p6
        try clear c8
        try clear c10
        try clear c10b0
        try clear c10b1
        try clear c11
        try clear c18
        try clear c18b0
        try clear c18b1
        try clear hcz15_0
        try clear hcz15_1
        try clear hcz15_2
        try clear hcz15_3
        try clear hcz15_4
        try clear hcz15_5
        try clear hcz15_6
        try clear hfz15_0
        try clear hfz15_1
        try clear hfz15_2
        try clear hfz15_3
        try clear hfz15_4
        try clear hfz15_5
        try clear hfz15_6
        obtain ⟨kq, x42_11, rfl, HA, HJ11, BK220, HB⟩ := hcut
        cases kq with
        | zero => exact absurd HA.out (by simp [mezzaninelaw15_PteFinds.j0])
        | succ kj11 =>
          have H := HA.out
          clear HA
          simp only [mezzaninelaw15_PteFinds.j0] at H
          by_cases c19 : x42_11 = true
          · subst c19
            have H1 : (some false) = some r := by rw [if_pos rfl] at H; exact H
            clear H
            have H := H1
            clear H1
            exact absurd (Option.some.inj H) (by rw [HT.out]; decide)
          · replace c19 := Bool.eq_false_iff.mpr c19
            subst c19
            have H1 : (if t222 = 2 then ((pte_Ok.f kj11 a0).bind fun t224 => (if t224 = true then ((pte_Leaf.f a0).bind fun t225 => (if t225 = true then ((pte_Allowed.f a0 a3_0 a3_1 a3_2 a3_3 a3_4 a3_5 a3_6).bind fun t226 => (if t226 = true then ((pte_Page.f a0).bind fun t227 => (some (t223 == (IntKind.u64.wrap ((IntKind.u64.wrap (t227 * 4096)) + (Go.bits .and .u64 a2 (IntKind.u64.wrap ((ji11) - 1)))))))) else (some false))) else (some false))) else (some false))) else (if t222 = 1 then ((pte_Ok.f kj11 a0).bind fun t228 => (if t228 = true then ((pte_Leaf.f a0).bind fun t229 => (if t229 = true then (some false) else (some (decide ((Int.tmod (Go.bits .and .i64 a1 3) 3) > 0))))) else (some false))) else (if t222 = 0 then ((pte_Ok.f kj11 a0).bind fun t230 => (if t230 = true then ((pte_Leaf.f a0).bind fun t231 => (if t231 = true then ((pte_Leaf.f a0).bind fun t232 => (if t232 = true then ((pte_Allowed.f a0 a3_0 a3_1 a3_2 a3_3 a3_4 a3_5 a3_6).bind fun t233 => (if t233 = true then ((pte_Page.f a0).bind fun t234 => (some ((Go.bits .and .u64 (IntKind.u64.wrap (t234 * 4096)) (IntKind.u64.wrap ((ji11) - 1))) != 0))) else (some true))) else (some false))) else (if (Int.tmod (Go.bits .and .i64 a1 3) 3) = 0 then (some true) else ((pte_Leaf.f a0).bind fun t235 => (if t235 = true then ((pte_Allowed.f a0 a3_0 a3_1 a3_2 a3_3 a3_4 a3_5 a3_6).bind fun t236 => (if t236 = true then ((pte_Page.f a0).bind fun t237 => (some ((Go.bits .and .u64 (IntKind.u64.wrap (t237 * 4096)) (IntKind.u64.wrap ((ji11) - 1))) != 0))) else (some true))) else (some false)))))) else (some true))) else (some false)))) = some r := by rw [if_neg (show ¬ (false = true) by decide)] at H; exact H
            clear H
            have H := H1
            clear H1
            by_cases c20 : t222 = 2
            · rw [if_pos c20] at H
              have c20b0 : (t222 == 2) = true := beq_iff_eq.mpr c20
              have c20b1 : (t222 != 2) = false := bne_eq_false_iff_eq.mpr c20
              clear c20
              replace H := Option.bind_eq_some_iff.mp H
              obtain ⟨t224, A210, H⟩ := H
              replace H : (if t224 = true then ((pte_Leaf.f a0).bind fun t225 => (if t225 = true then ((pte_Allowed.f a0 a3_0 a3_1 a3_2 a3_3 a3_4 a3_5 a3_6).bind fun t226 => (if t226 = true then ((pte_Page.f a0).bind fun t227 => (some (t223 == (IntKind.u64.wrap ((IntKind.u64.wrap (t227 * 4096)) + (Go.bits .and .u64 a2 (IntKind.u64.wrap ((ji11) - 1)))))))) else (some false))) else (some false))) else (some false)) = some r := H
              have A21 := Aside0.mk A210
              clear A210
              by_cases c22 : t224 = true
              · subst c22
                have H1 : ((pte_Leaf.f a0).bind fun t225 => (if t225 = true then ((pte_Allowed.f a0 a3_0 a3_1 a3_2 a3_3 a3_4 a3_5 a3_6).bind fun t226 => (if t226 = true then ((pte_Page.f a0).bind fun t227 => (some (t223 == (IntKind.u64.wrap ((IntKind.u64.wrap (t227 * 4096)) + (Go.bits .and .u64 a2 (IntKind.u64.wrap ((ji11) - 1)))))))) else (some false))) else (some false))) = some r := by rw [if_pos rfl] at H; exact H
                clear H
                have H := H1
                clear H1
                replace H := Option.bind_eq_some_iff.mp H
                obtain ⟨t225, A230, H⟩ := H
                replace H : (if t225 = true then ((pte_Allowed.f a0 a3_0 a3_1 a3_2 a3_3 a3_4 a3_5 a3_6).bind fun t226 => (if t226 = true then ((pte_Page.f a0).bind fun t227 => (some (t223 == (IntKind.u64.wrap ((IntKind.u64.wrap (t227 * 4096)) + (Go.bits .and .u64 a2 (IntKind.u64.wrap ((ji11) - 1)))))))) else (some false))) else (some false)) = some r := H
                have A23 := Aside0.mk A230
                clear A230
                by_cases c24 : t225 = true
                · subst c24
                  have H1 : ((pte_Allowed.f a0 a3_0 a3_1 a3_2 a3_3 a3_4 a3_5 a3_6).bind fun t226 => (if t226 = true then ((pte_Page.f a0).bind fun t227 => (some (t223 == (IntKind.u64.wrap ((IntKind.u64.wrap (t227 * 4096)) + (Go.bits .and .u64 a2 (IntKind.u64.wrap ((ji11) - 1)))))))) else (some false))) = some r := by rw [if_pos rfl] at H; exact H
                  clear H
                  have H := H1
                  clear H1
                  replace H := Option.bind_eq_some_iff.mp H
                  obtain ⟨t226, A250, H⟩ := H
                  replace H : (if t226 = true then ((pte_Page.f a0).bind fun t227 => (some (t223 == (IntKind.u64.wrap ((IntKind.u64.wrap (t227 * 4096)) + (Go.bits .and .u64 a2 (IntKind.u64.wrap ((ji11) - 1)))))))) else (some false)) = some r := H
                  have A25 := Aside0.mk A250
                  clear A250
                  by_cases c26 : t226 = true
                  · subst c26
                    have H1 : ((pte_Page.f a0).bind fun t227 => (some (t223 == (IntKind.u64.wrap ((IntKind.u64.wrap (t227 * 4096)) + (Go.bits .and .u64 a2 (IntKind.u64.wrap ((ji11) - 1)))))))) = some r := by rw [if_pos rfl] at H; exact H
                    clear H
                    have H := H1
                    clear H1
                    replace H := Option.bind_eq_some_iff.mp H
                    obtain ⟨t227, A270, H⟩ := H
                    replace H : (some (t223 == (IntKind.u64.wrap ((IntKind.u64.wrap (t227 * 4096)) + (Go.bits .and .u64 a2 (IntKind.u64.wrap ((ji11) - 1))))))) = some r := H
                    have A27 := Aside0.mk A270
                    clear A270
                    obtain rfl := Option.some.inj H
                    go_wp2_with (first | ((with_reducible refine gate_callee (f := 15) rfl ?_); refine goesL_ (some 47) rfl rfl Try.func15 (by kernel_rfl) rfl #[.int .u64 a0] rfl (by (try simp only [List.map_toArray, List.map_cons, List.map_nil]); first | done | rfl | (simp only [List.length_drop, List.length_take]; rfl)) ?_; (with_reducible refine (pte_Ok.calls kj11 a0 true _ A21.out).mono ?_); rintro e w' ⟨rfl, ⟨nd, rfl⟩⟩; refine ⟨_, rfl, ?_⟩) | (go_at_call 17; (with_reducible refine (pte_Leaf.calls a0 true _ A23.out).mono ?_); rintro e w' ⟨rfl, ⟨nd, rfl⟩⟩; have hcz28_0 : wc.cell? ⟨gb220, 0, none⟩ = some (.int .u8 a3_0) := (blk_cell BK220.out 0).trans rfl; have hcz28_1 : wc.cell? ⟨gb220, 1, none⟩ = some (.bool a3_1) := (blk_cell BK220.out 1).trans rfl; have hcz28_2 : wc.cell? ⟨gb220, 2, none⟩ = some (.int .u8 a3_2) := (blk_cell BK220.out 2).trans rfl; have hcz28_3 : wc.cell? ⟨gb220, 3, none⟩ = some (.bool a3_3) := (blk_cell BK220.out 3).trans rfl; have hcz28_4 : wc.cell? ⟨gb220, 4, none⟩ = some (.bool a3_4) := (blk_cell BK220.out 4).trans rfl; have hcz28_5 : wc.cell? ⟨gb220, 5, none⟩ = some (.bool a3_5) := (blk_cell BK220.out 5).trans rfl; have hcz28_6 : wc.cell? ⟨gb220, 6, none⟩ = some (.bool a3_6) := (blk_cell BK220.out 6).trans rfl; have hfz28_0 := blk_frozen BK220.out 0; have hfz28_1 := blk_frozen BK220.out 1; have hfz28_2 := blk_frozen BK220.out 2; have hfz28_3 := blk_frozen BK220.out 3; have hfz28_4 := blk_frozen BK220.out 4; have hfz28_5 := blk_frozen BK220.out 5; have hfz28_6 := blk_frozen BK220.out 6) | (go_at_call 21; (with_reducible refine (pte_Allowed.calls a0 a3_0 a3_1 a3_2 a3_3 a3_4 a3_5 a3_6 true _ A25.out).mono ?_); rintro e w29 ⟨rfl, hb⟩; have n0_ := Aside0.mk (blk_below (g := gb220) (o := .cells #[.int .u8 a3_0, .bool a3_1, .int .u8 a3_2, .bool a3_3, .bool a3_4, .bool a3_5, .bool a3_6] 32 (0, 0)) (by (with_reducible repeat (first | refine blk_drewN ?_ _ | refine blk_drew ?_ | refine blk_alloc ?_ _)); exact BK220.out) hb); have n1_ := Aside0.mk (below_step (by repeat (first | (with_reducible first | exact HB.out | apply below_alloc | apply pw_below_drewN | apply below_drew1 | refine below_set ?_ GE220.out) | exact HB.out)) hb); clear BK220; clear HB; have BK220 := n0_; have HB := n1_; clear n0_ n1_; (try clear hb); (try clear hb2); (try clear hk); (try clear hi)) | (go_at_call 14; (with_reducible refine (pte_Page.calls a0 t227 _ A27.out).mono ?_); rintro e w30 ⟨rfl, hb⟩; have n0_ := Aside0.mk (blk_below (g := gb220) (o := .cells #[.int .u8 a3_0, .bool a3_1, .int .u8 a3_2, .bool a3_3, .bool a3_4, .bool a3_5, .bool a3_6] 32 (0, 0)) (by (with_reducible repeat (first | refine blk_drewN ?_ _ | refine blk_drew ?_ | refine blk_alloc ?_ _)); exact BK220.out) hb); have n1_ := Aside0.mk (below_step (by repeat (first | (with_reducible first | exact HB.out | apply below_alloc | apply pw_below_drewN | apply below_drew1 | refine below_set ?_ GE220.out) | exact HB.out)) hb); clear BK220; clear HB; have BK220 := n0_; have HB := n1_; clear n0_ n1_; (try clear hb); (try clear hb2); (try clear hk); (try clear hi)))
                    go_ret
                    exact ⟨by first | rfl | (simp [errW_none, errW_some] <;> rfl) | (simp only [← hji9, ← hji11]; first | rfl | (simp [errW_none, errW_some] <;> rfl)) | (simp [*, errW_none, errW_some] <;> rfl), by repeat (first | (with_reducible first | exact HB.out | apply below_alloc | apply pw_below_drewN | apply below_drew1 | refine below_set ?_ GE220.out) | exact HB.out)⟩
                  · replace c26 := Bool.eq_false_iff.mpr c26
                    subst c26
                    have H1 : (some false) = some r := by rw [if_neg (show ¬ (false = true) by decide)] at H; exact H
                    clear H
                    have H := H1
                    clear H1
                    exact absurd (Option.some.inj H) (by rw [HT.out]; decide)
                · replace c24 := Bool.eq_false_iff.mpr c24
                  subst c24
                  have H1 : (some false) = some r := by rw [if_neg (show ¬ (false = true) by decide)] at H; exact H
                  clear H
                  have H := H1
                  clear H1
                  exact absurd (Option.some.inj H) (by rw [HT.out]; decide)
              · replace c22 := Bool.eq_false_iff.mpr c22
                subst c22
                have H1 : (some false) = some r := by rw [if_neg (show ¬ (false = true) by decide)] at H; exact H
                clear H
                have H := H1
                clear H1
                exact absurd (Option.some.inj H) (by rw [HT.out]; decide)
            · rw [if_neg c20] at H
              have c20b0 : (t222 == 2) = false := beq_eq_false_iff_ne.mpr c20
              have c20b1 : (t222 != 2) = true := bne_iff_ne.mpr c20
              by_cases c31 : t222 = 1
              · rw [if_pos c31] at H
                have c31b0 : (t222 == 1) = true := beq_iff_eq.mpr c31
                have c31b1 : (t222 != 1) = false := bne_eq_false_iff_eq.mpr c31
                clear c31
                replace H := Option.bind_eq_some_iff.mp H
                obtain ⟨t228, A320, H⟩ := H
                replace H : (if t228 = true then ((pte_Leaf.f a0).bind fun t229 => (if t229 = true then (some false) else (some (decide ((Int.tmod (Go.bits .and .i64 a1 3) 3) > 0))))) else (some false)) = some r := H
                have A32 := Aside0.mk A320
                clear A320
                by_cases c33 : t228 = true
                · subst c33
                  have H1 : ((pte_Leaf.f a0).bind fun t229 => (if t229 = true then (some false) else (some (decide ((Int.tmod (Go.bits .and .i64 a1 3) 3) > 0))))) = some r := by rw [if_pos rfl] at H; exact H
                  clear H
                  have H := H1
                  clear H1
                  replace H := Option.bind_eq_some_iff.mp H
                  obtain ⟨t229, A340, H⟩ := H
                  replace H : (if t229 = true then (some false) else (some (decide ((Int.tmod (Go.bits .and .i64 a1 3) 3) > 0)))) = some r := H
                  have A34 := Aside0.mk A340
                  clear A340
                  by_cases c35 : t229 = true
                  · subst c35
                    have H1 : (some false) = some r := by rw [if_pos rfl] at H; exact H
                    clear H
                    have H := H1
                    clear H1
                    exact absurd (Option.some.inj H) (by rw [HT.out]; decide)
                  · replace c35 := Bool.eq_false_iff.mpr c35
                    subst c35
                    have H1 : (some (decide ((Int.tmod (Go.bits .and .i64 a1 3) 3) > 0))) = some r := by rw [if_neg (show ¬ (false = true) by decide)] at H; exact H
                    clear H
                    have H := H1
                    clear H1
                    obtain rfl := Option.some.inj H
                    go_wp2_with (first | ((with_reducible refine gate_callee (f := 15) rfl ?_); refine goesL_ (some 71) rfl rfl Try.func15 (by kernel_rfl) rfl #[.int .u64 a0] rfl (by (try simp only [List.map_toArray, List.map_cons, List.map_nil]); first | done | rfl | (simp only [List.length_drop, List.length_take]; rfl)) ?_; (with_reducible refine (pte_Ok.calls kj11 a0 true _ A32.out).mono ?_); rintro e w' ⟨rfl, ⟨nd, rfl⟩⟩; refine ⟨_, rfl, ?_⟩) | (go_at_call 17; (with_reducible refine (pte_Leaf.calls a0 false _ A34.out).mono ?_); rintro e w' ⟨rfl, ⟨nd, rfl⟩⟩))
                    go_ret
                    exact ⟨by first | rfl | (simp [errW_none, errW_some] <;> rfl) | (simp only [← hji9, ← hji11]; first | rfl | (simp [errW_none, errW_some] <;> rfl)) | (simp [*, errW_none, errW_some] <;> rfl), by repeat (first | (with_reducible first | exact HB.out | apply below_alloc | apply pw_below_drewN | apply below_drew1 | refine below_set ?_ GE220.out) | exact HB.out)⟩
                · replace c33 := Bool.eq_false_iff.mpr c33
                  subst c33
                  have H1 : (some false) = some r := by rw [if_neg (show ¬ (false = true) by decide)] at H; exact H
                  clear H
                  have H := H1
                  clear H1
                  exact absurd (Option.some.inj H) (by rw [HT.out]; decide)
              · rw [if_neg c31] at H
                have c31b0 : (t222 == 1) = false := beq_eq_false_iff_ne.mpr c31
                have c31b1 : (t222 != 1) = true := bne_iff_ne.mpr c31
                by_cases c36 : t222 = 0
                · rw [if_pos c36] at H
                  have c36b0 : (t222 == 0) = true := beq_iff_eq.mpr c36
                  have c36b1 : (t222 != 0) = false := bne_eq_false_iff_eq.mpr c36
                  clear c36
                  replace H := Option.bind_eq_some_iff.mp H
                  obtain ⟨t230, A370, H⟩ := H
                  replace H : (if t230 = true then ((pte_Leaf.f a0).bind fun t231 => (if t231 = true then ((pte_Leaf.f a0).bind fun t232 => (if t232 = true then ((pte_Allowed.f a0 a3_0 a3_1 a3_2 a3_3 a3_4 a3_5 a3_6).bind fun t233 => (if t233 = true then ((pte_Page.f a0).bind fun t234 => (some ((Go.bits .and .u64 (IntKind.u64.wrap (t234 * 4096)) (IntKind.u64.wrap ((ji11) - 1))) != 0))) else (some true))) else (some false))) else (if (Int.tmod (Go.bits .and .i64 a1 3) 3) = 0 then (some true) else ((pte_Leaf.f a0).bind fun t235 => (if t235 = true then ((pte_Allowed.f a0 a3_0 a3_1 a3_2 a3_3 a3_4 a3_5 a3_6).bind fun t236 => (if t236 = true then ((pte_Page.f a0).bind fun t237 => (some ((Go.bits .and .u64 (IntKind.u64.wrap (t237 * 4096)) (IntKind.u64.wrap ((ji11) - 1))) != 0))) else (some true))) else (some false)))))) else (some true)) = some r := H
                  have A37 := Aside0.mk A370
                  clear A370
                  by_cases c38 : t230 = true
                  · subst c38
                    have H1 : ((pte_Leaf.f a0).bind fun t231 => (if t231 = true then ((pte_Leaf.f a0).bind fun t232 => (if t232 = true then ((pte_Allowed.f a0 a3_0 a3_1 a3_2 a3_3 a3_4 a3_5 a3_6).bind fun t233 => (if t233 = true then ((pte_Page.f a0).bind fun t234 => (some ((Go.bits .and .u64 (IntKind.u64.wrap (t234 * 4096)) (IntKind.u64.wrap ((ji11) - 1))) != 0))) else (some true))) else (some false))) else (if (Int.tmod (Go.bits .and .i64 a1 3) 3) = 0 then (some true) else ((pte_Leaf.f a0).bind fun t235 => (if t235 = true then ((pte_Allowed.f a0 a3_0 a3_1 a3_2 a3_3 a3_4 a3_5 a3_6).bind fun t236 => (if t236 = true then ((pte_Page.f a0).bind fun t237 => (some ((Go.bits .and .u64 (IntKind.u64.wrap (t237 * 4096)) (IntKind.u64.wrap ((ji11) - 1))) != 0))) else (some true))) else (some false)))))) = some r := by rw [if_pos rfl] at H; exact H
                    clear H
                    have H := H1
                    clear H1
                    replace H := Option.bind_eq_some_iff.mp H
                    obtain ⟨t231, A390, H⟩ := H
                    replace H : (if t231 = true then ((pte_Leaf.f a0).bind fun t232 => (if t232 = true then ((pte_Allowed.f a0 a3_0 a3_1 a3_2 a3_3 a3_4 a3_5 a3_6).bind fun t233 => (if t233 = true then ((pte_Page.f a0).bind fun t234 => (some ((Go.bits .and .u64 (IntKind.u64.wrap (t234 * 4096)) (IntKind.u64.wrap ((ji11) - 1))) != 0))) else (some true))) else (some false))) else (if (Int.tmod (Go.bits .and .i64 a1 3) 3) = 0 then (some true) else ((pte_Leaf.f a0).bind fun t235 => (if t235 = true then ((pte_Allowed.f a0 a3_0 a3_1 a3_2 a3_3 a3_4 a3_5 a3_6).bind fun t236 => (if t236 = true then ((pte_Page.f a0).bind fun t237 => (some ((Go.bits .and .u64 (IntKind.u64.wrap (t237 * 4096)) (IntKind.u64.wrap ((ji11) - 1))) != 0))) else (some true))) else (some false))))) = some r := H
                    have A39 := Aside0.mk A390
                    clear A390
                    by_cases c40 : t231 = true
                    · subst c40
                      have H1 : ((pte_Leaf.f a0).bind fun t232 => (if t232 = true then ((pte_Allowed.f a0 a3_0 a3_1 a3_2 a3_3 a3_4 a3_5 a3_6).bind fun t233 => (if t233 = true then ((pte_Page.f a0).bind fun t234 => (some ((Go.bits .and .u64 (IntKind.u64.wrap (t234 * 4096)) (IntKind.u64.wrap ((ji11) - 1))) != 0))) else (some true))) else (some false))) = some r := by rw [if_pos rfl] at H; exact H
                      clear H
                      have H := H1
                      clear H1
                      replace H := Option.bind_eq_some_iff.mp H
                      obtain ⟨t232, A410, H⟩ := H
                      replace H : (if t232 = true then ((pte_Allowed.f a0 a3_0 a3_1 a3_2 a3_3 a3_4 a3_5 a3_6).bind fun t233 => (if t233 = true then ((pte_Page.f a0).bind fun t234 => (some ((Go.bits .and .u64 (IntKind.u64.wrap (t234 * 4096)) (IntKind.u64.wrap ((ji11) - 1))) != 0))) else (some true))) else (some false)) = some r := H
                      have A41 := Aside0.mk A410
                      clear A410
                      have eA41 : true = t232 := Option.some.inj (A39.out.symm.trans A41.out)
                      clear A41
                      subst eA41
                      have H1 : ((pte_Allowed.f a0 a3_0 a3_1 a3_2 a3_3 a3_4 a3_5 a3_6).bind fun t233 => (if t233 = true then ((pte_Page.f a0).bind fun t234 => (some ((Go.bits .and .u64 (IntKind.u64.wrap (t234 * 4096)) (IntKind.u64.wrap ((ji11) - 1))) != 0))) else (some true))) = some r := by rw [if_pos rfl] at H; exact H
                      clear H
                      have H := H1
                      clear H1
                      replace H := Option.bind_eq_some_iff.mp H
                      obtain ⟨t233, A420, H⟩ := H
                      replace H : (if t233 = true then ((pte_Page.f a0).bind fun t234 => (some ((Go.bits .and .u64 (IntKind.u64.wrap (t234 * 4096)) (IntKind.u64.wrap ((ji11) - 1))) != 0))) else (some true)) = some r := H
                      have A42 := Aside0.mk A420
                      clear A420
                      by_cases c43 : t233 = true
                      · subst c43
                        have H1 : ((pte_Page.f a0).bind fun t234 => (some ((Go.bits .and .u64 (IntKind.u64.wrap (t234 * 4096)) (IntKind.u64.wrap ((ji11) - 1))) != 0))) = some r := by rw [if_pos rfl] at H; exact H
                        clear H
                        have H := H1
                        clear H1
                        replace H := Option.bind_eq_some_iff.mp H
                        obtain ⟨t234, A440, H⟩ := H
                        replace H : (some ((Go.bits .and .u64 (IntKind.u64.wrap (t234 * 4096)) (IntKind.u64.wrap ((ji11) - 1))) != 0)) = some r := H
                        have A44 := Aside0.mk A440
                        clear A440
                        obtain rfl := Option.some.inj H
                        go_wp2_with (first | (go_at_call 15; (with_reducible refine (pte_Ok.calls kj11 a0 true _ A37.out).mono ?_); rintro e w' ⟨rfl, ⟨nd, rfl⟩⟩) | (go_at_call 17; (with_reducible refine (pte_Leaf.calls a0 true _ A39.out).mono ?_); rintro e w' ⟨rfl, ⟨nd, rfl⟩⟩; have hcz45_0 : wc.cell? ⟨gb220, 0, none⟩ = some (.int .u8 a3_0) := (blk_cell BK220.out 0).trans rfl; have hcz45_1 : wc.cell? ⟨gb220, 1, none⟩ = some (.bool a3_1) := (blk_cell BK220.out 1).trans rfl; have hcz45_2 : wc.cell? ⟨gb220, 2, none⟩ = some (.int .u8 a3_2) := (blk_cell BK220.out 2).trans rfl; have hcz45_3 : wc.cell? ⟨gb220, 3, none⟩ = some (.bool a3_3) := (blk_cell BK220.out 3).trans rfl; have hcz45_4 : wc.cell? ⟨gb220, 4, none⟩ = some (.bool a3_4) := (blk_cell BK220.out 4).trans rfl; have hcz45_5 : wc.cell? ⟨gb220, 5, none⟩ = some (.bool a3_5) := (blk_cell BK220.out 5).trans rfl; have hcz45_6 : wc.cell? ⟨gb220, 6, none⟩ = some (.bool a3_6) := (blk_cell BK220.out 6).trans rfl; have hfz45_0 := blk_frozen BK220.out 0; have hfz45_1 := blk_frozen BK220.out 1; have hfz45_2 := blk_frozen BK220.out 2; have hfz45_3 := blk_frozen BK220.out 3; have hfz45_4 := blk_frozen BK220.out 4; have hfz45_5 := blk_frozen BK220.out 5; have hfz45_6 := blk_frozen BK220.out 6) | (go_at_call 21; (with_reducible refine (pte_Allowed.calls a0 a3_0 a3_1 a3_2 a3_3 a3_4 a3_5 a3_6 true _ A42.out).mono ?_); rintro e w46 ⟨rfl, hb⟩; have n0_ := Aside0.mk (blk_below (g := gb220) (o := .cells #[.int .u8 a3_0, .bool a3_1, .int .u8 a3_2, .bool a3_3, .bool a3_4, .bool a3_5, .bool a3_6] 32 (0, 0)) (by (with_reducible repeat (first | refine blk_drewN ?_ _ | refine blk_drew ?_ | refine blk_alloc ?_ _)); exact BK220.out) hb); have n1_ := Aside0.mk (below_step (by repeat (first | (with_reducible first | exact HB.out | apply below_alloc | apply pw_below_drewN | apply below_drew1 | refine below_set ?_ GE220.out) | exact HB.out)) hb); clear BK220; clear HB; have BK220 := n0_; have HB := n1_; clear n0_ n1_; (try clear hb); (try clear hb2); (try clear hk); (try clear hi)) | (go_at_call 14; (with_reducible refine (pte_Page.calls a0 t234 _ A44.out).mono ?_); rintro e w47 ⟨rfl, hb⟩; have n0_ := Aside0.mk (blk_below (g := gb220) (o := .cells #[.int .u8 a3_0, .bool a3_1, .int .u8 a3_2, .bool a3_3, .bool a3_4, .bool a3_5, .bool a3_6] 32 (0, 0)) (by (with_reducible repeat (first | refine blk_drewN ?_ _ | refine blk_drew ?_ | refine blk_alloc ?_ _)); exact BK220.out) hb); have n1_ := Aside0.mk (below_step (by repeat (first | (with_reducible first | exact HB.out | apply below_alloc | apply pw_below_drewN | apply below_drew1 | refine below_set ?_ GE220.out) | exact HB.out)) hb); clear BK220; clear HB; have BK220 := n0_; have HB := n1_; clear n0_ n1_; (try clear hb); (try clear hb2); (try clear hk); (try clear hi)))
                        go_ret
                        exact ⟨by first | rfl | (simp [errW_none, errW_some] <;> rfl) | (simp only [← hji9, ← hji11]; first | rfl | (simp [errW_none, errW_some] <;> rfl)) | (simp [*, errW_none, errW_some] <;> rfl), by repeat (first | (with_reducible first | exact HB.out | apply below_alloc | apply pw_below_drewN | apply below_drew1 | refine below_set ?_ GE220.out) | exact HB.out)⟩
                      · replace c43 := Bool.eq_false_iff.mpr c43
                        subst c43
                        have H1 : (some true) = some r := by rw [if_neg (show ¬ (false = true) by decide)] at H; exact H
                        clear H
                        have H := H1
                        clear H1
                        obtain rfl := Option.some.inj H
                        go_wp2_with (first | (go_at_call 15; (with_reducible refine (pte_Ok.calls kj11 a0 true _ A37.out).mono ?_); rintro e w' ⟨rfl, ⟨nd, rfl⟩⟩) | (go_at_call 17; (with_reducible refine (pte_Leaf.calls a0 true _ A39.out).mono ?_); rintro e w' ⟨rfl, ⟨nd, rfl⟩⟩; have hcz48_0 : wc.cell? ⟨gb220, 0, none⟩ = some (.int .u8 a3_0) := (blk_cell BK220.out 0).trans rfl; have hcz48_1 : wc.cell? ⟨gb220, 1, none⟩ = some (.bool a3_1) := (blk_cell BK220.out 1).trans rfl; have hcz48_2 : wc.cell? ⟨gb220, 2, none⟩ = some (.int .u8 a3_2) := (blk_cell BK220.out 2).trans rfl; have hcz48_3 : wc.cell? ⟨gb220, 3, none⟩ = some (.bool a3_3) := (blk_cell BK220.out 3).trans rfl; have hcz48_4 : wc.cell? ⟨gb220, 4, none⟩ = some (.bool a3_4) := (blk_cell BK220.out 4).trans rfl; have hcz48_5 : wc.cell? ⟨gb220, 5, none⟩ = some (.bool a3_5) := (blk_cell BK220.out 5).trans rfl; have hcz48_6 : wc.cell? ⟨gb220, 6, none⟩ = some (.bool a3_6) := (blk_cell BK220.out 6).trans rfl; have hfz48_0 := blk_frozen BK220.out 0; have hfz48_1 := blk_frozen BK220.out 1; have hfz48_2 := blk_frozen BK220.out 2; have hfz48_3 := blk_frozen BK220.out 3; have hfz48_4 := blk_frozen BK220.out 4; have hfz48_5 := blk_frozen BK220.out 5; have hfz48_6 := blk_frozen BK220.out 6) | (go_at_call 21; (with_reducible refine (pte_Allowed.calls a0 a3_0 a3_1 a3_2 a3_3 a3_4 a3_5 a3_6 false _ A42.out).mono ?_); rintro e w49 ⟨rfl, hb⟩; have n0_ := Aside0.mk (blk_below (g := gb220) (o := .cells #[.int .u8 a3_0, .bool a3_1, .int .u8 a3_2, .bool a3_3, .bool a3_4, .bool a3_5, .bool a3_6] 32 (0, 0)) (by (with_reducible repeat (first | refine blk_drewN ?_ _ | refine blk_drew ?_ | refine blk_alloc ?_ _)); exact BK220.out) hb); have n1_ := Aside0.mk (below_step (by repeat (first | (with_reducible first | exact HB.out | apply below_alloc | apply pw_below_drewN | apply below_drew1 | refine below_set ?_ GE220.out) | exact HB.out)) hb); clear BK220; clear HB; have BK220 := n0_; have HB := n1_; clear n0_ n1_; (try clear hb); (try clear hb2); (try clear hk); (try clear hi)))
                        go_ret
                        exact ⟨by first | rfl | (simp [errW_none, errW_some] <;> rfl) | (simp only [← hji9, ← hji11]; first | rfl | (simp [errW_none, errW_some] <;> rfl)) | (simp [*, errW_none, errW_some] <;> rfl), by repeat (first | (with_reducible first | exact HB.out | apply below_alloc | apply pw_below_drewN | apply below_drew1 | refine below_set ?_ GE220.out) | exact HB.out)⟩
                    · replace c40 := Bool.eq_false_iff.mpr c40
                      subst c40
                      have H1 : (if (Int.tmod (Go.bits .and .i64 a1 3) 3) = 0 then (some true) else ((pte_Leaf.f a0).bind fun t235 => (if t235 = true then ((pte_Allowed.f a0 a3_0 a3_1 a3_2 a3_3 a3_4 a3_5 a3_6).bind fun t236 => (if t236 = true then ((pte_Page.f a0).bind fun t237 => (some ((Go.bits .and .u64 (IntKind.u64.wrap (t237 * 4096)) (IntKind.u64.wrap ((ji11) - 1))) != 0))) else (some true))) else (some false)))) = some r := by rw [if_neg (show ¬ (false = true) by decide)] at H; exact H
                      clear H
                      have H := H1
                      clear H1
                      by_cases c50 : (Int.tmod (Go.bits .and .i64 a1 3) 3) = 0
                      · rw [if_pos c50] at H
                        have c50b0 : ((Int.tmod (Go.bits .and .i64 a1 3) 3) == 0) = true := beq_iff_eq.mpr c50
                        have c50b1 : ((Int.tmod (Go.bits .and .i64 a1 3) 3) != 0) = false := bne_eq_false_iff_eq.mpr c50
                        clear c50
                        obtain rfl := Option.some.inj H
                        go_wp2_with (first | (go_at_call 15; (with_reducible refine (pte_Ok.calls kj11 a0 true _ A37.out).mono ?_); rintro e w' ⟨rfl, ⟨nd, rfl⟩⟩) | (go_at_call 17; (with_reducible refine (pte_Leaf.calls a0 false _ A39.out).mono ?_); rintro e w' ⟨rfl, ⟨nd, rfl⟩⟩))
                        go_ret
                        exact ⟨by first | rfl | (simp [errW_none, errW_some] <;> rfl) | (simp only [← hji9, ← hji11]; first | rfl | (simp [errW_none, errW_some] <;> rfl)) | (simp [*, errW_none, errW_some] <;> rfl), by repeat (first | (with_reducible first | exact HB.out | apply below_alloc | apply pw_below_drewN | apply below_drew1 | refine below_set ?_ GE220.out) | exact HB.out)⟩
                      · rw [if_neg c50] at H
                        have c50b0 : ((Int.tmod (Go.bits .and .i64 a1 3) 3) == 0) = false := beq_eq_false_iff_ne.mpr c50
                        have c50b1 : ((Int.tmod (Go.bits .and .i64 a1 3) 3) != 0) = true := bne_iff_ne.mpr c50
                        replace H := Option.bind_eq_some_iff.mp H
                        obtain ⟨t235, A510, H⟩ := H
                        replace H : (if t235 = true then ((pte_Allowed.f a0 a3_0 a3_1 a3_2 a3_3 a3_4 a3_5 a3_6).bind fun t236 => (if t236 = true then ((pte_Page.f a0).bind fun t237 => (some ((Go.bits .and .u64 (IntKind.u64.wrap (t237 * 4096)) (IntKind.u64.wrap ((ji11) - 1))) != 0))) else (some true))) else (some false)) = some r := H
                        have A51 := Aside0.mk A510
                        clear A510
                        have eA51 : false = t235 := Option.some.inj (A39.out.symm.trans A51.out)
                        clear A51
                        subst eA51
                        have H1 : (some false) = some r := by rw [if_neg (show ¬ (false = true) by decide)] at H; exact H
                        clear H
                        have H := H1
                        clear H1
                        exact absurd (Option.some.inj H) (by rw [HT.out]; decide)
                  · replace c38 := Bool.eq_false_iff.mpr c38
                    subst c38
                    have H1 : (some true) = some r := by rw [if_neg (show ¬ (false = true) by decide)] at H; exact H
                    clear H
                    have H := H1
                    clear H1
                    obtain rfl := Option.some.inj H
                    go_wp2_with (first | (go_at_call 15; (with_reducible refine (pte_Ok.calls kj11 a0 false _ A37.out).mono ?_); rintro e w' ⟨rfl, ⟨nd, rfl⟩⟩))
                    go_ret
                    exact ⟨by first | rfl | (simp [errW_none, errW_some] <;> rfl) | (simp only [← hji9, ← hji11]; first | rfl | (simp [errW_none, errW_some] <;> rfl)) | (simp [*, errW_none, errW_some] <;> rfl), by repeat (first | (with_reducible first | exact HB.out | apply below_alloc | apply pw_below_drewN | apply below_drew1 | refine below_set ?_ GE220.out) | exact HB.out)⟩
                · rw [if_neg c36] at H
                  have c36b0 : (t222 == 0) = false := beq_eq_false_iff_ne.mpr c36
                  have c36b1 : (t222 != 0) = true := bne_iff_ne.mpr c36
                  exact absurd (Option.some.inj H) (by rw [HT.out]; decide)
    · rw [if_neg c10] at H
      exact absurd H (by simp)
  · replace c6 := Bool.eq_false_iff.mpr c6
    subst c6
    have H1 : (some false) = some r := by rw [if_neg (show ¬ (false = true) by decide)] at H; exact H
    clear H
    have H := H1
    clear H1
    exact absurd (Option.some.inj H) (by rw [HT.out]; decide)

/-- THE ONE PURE STATEMENT of mezzaninelaw15_PteFinds: yours. -/
def mezzaninelaw15_PteFinds.Pure : Prop := ∀ (a0 : Int) (a1 : Int) (a2 : Int) (a3_0 : Int) (a3_1 : Bool) (a3_2 : Int) (a3_3 : Bool) (a3_4 : Bool) (a3_5 : Bool) (a3_6 : Bool), (Lit.int .u64 a0).wf = true → (Lit.int .i64 a1).wf = true → (Lit.int .u64 a2).wf = true → (Lit.int .u8 a3_0).wf = true → (Lit.int .u8 a3_2).wf = true → ∃ k, mezzaninelaw15_PteFinds.f k a0 a1 a2 a3_0 a3_1 a3_2 a3_3 a3_4 a3_5 a3_6 = some true
theorem mezzaninelaw15_PteFinds.walk (P : mezzaninelaw15_PteFinds.Pure) (a0 : Int) (a1 : Int) (a2 : Int) (a3_0 : Int) (a3_1 : Bool) (a3_2 : Int) (a3_3 : Bool) (a3_4 : Bool) (a3_5 : Bool) (a3_6 : Bool) (w : World) (w0 : (Lit.int .u64 a0).wf = true) (w1 : (Lit.int .i64 a1).wf = true) (w2 : (Lit.int .u64 a2).wf = true) (w3_0 : (Lit.int .u8 a3_0).wf = true) (w3_2 : (Lit.int .u8 a3_2).wf = true) :
    Calls Try.prog 8 #[.int .u64 a0, .int .i64 a1, .int .u64 a2, .agg #[.int .u8 a3_0, .bool a3_1, .int .u8 a3_2, .bool a3_3, .bool a3_4, .bool a3_5, .bool a3_6]] w fun e w' => e = .returned (.bool true) ∧ Below w.heap.size w w' := by
  obtain ⟨k, h⟩ := P a0 a1 a2 a3_0 a3_1 a3_2 a3_3 a3_4 a3_5 a3_6 w0 w1 w2 w3_0 w3_2
  refine (mezzaninelaw15_PteFinds.calls k a0 a1 a2 a3_0 a3_1 a3_2 a3_3 a3_4 a3_5 a3_6 true w rfl h).mono ?_
  rintro e w' ⟨rfl, hd⟩
  exact ⟨rfl, hd⟩

end Go.Proofs.YteebgfcihoidmaaR.Q
