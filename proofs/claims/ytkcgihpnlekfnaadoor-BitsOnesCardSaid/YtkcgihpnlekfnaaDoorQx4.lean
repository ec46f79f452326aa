/- Where the Lean function of a Go function gives a value, the Go call returns that value and changes nothing that was there: for every input. (By a program of this session, and by hand.) -/
import Derived.Test.YtkcgihpnlekfnaaDoorQx0
import Derived.Test.YtkcgihpnlekfnaaDoorQx1
import Derived.Test.YtkcgihpnlekfnaaDoorQx2
import Derived.Test.YtkcgihpnlekfnaaDoorQx3
namespace Go.Proofs.YtkcgihpnlekfnaaDoor.Q
open Go.RowKit Go.Proofs.YtkcgihpnlekfnaaDoorW.PrintWords Go.Proofs.YtkcgihpnlekfnaaDoorW.PrintLast Go.Proofs.YtkcgihpnlekfnaaDoorW.PrintMore
attribute [local go_sem] max2_int min2_int max_two min_two max_three min_three max_four min_four   -- for this text's walks alone
set_option linter.unusedVariables false
set_option linter.unusedSimpArgs false

/-! ### mezzaninelaw01_BitsOnes: function 3 -/
mutual
def mezzaninelaw01_BitsOnes.j0 : Nat → Int → List Int → List Int → Bool → Option (Bool)
  | 0, _, _, _, _ => none
  | k + 1, x0, x2, x7, x59 => if x59 = true then (some false) else ((bits_Of.f k x7).bind fun t131 => ((bits_Ones.f k x0).bind fun t132 => ((mezzanineref01_Ones.f x0).bind fun t135 => ((mezzanineref01_Same.f k t132 t135).bind fun t138 => (mezzaninelaw01_BitsOnes.l0 k x0 x2 x7 t131 t132 t138 0)))))
def mezzaninelaw01_BitsOnes.l0 : Nat → Int → List Int → List Int → Int → List Int → Bool → Int → Option (Bool)
  | 0, _, _, _, _, _, _, _ => none
  | k + 1, x0, x2, x7, x8, x9, x10, x11 => if x11 < (x9.length : Int) then (if 0 ≤ x11 then (mezzaninelaw01_BitsOnes.l0 k x0 x2 x7 x8 (x9.set (x11 : Int).toNat (-1)) x10 (wrap64 (x11 + 1))) else (none)) else ((mezzanineref01_Of.f x2).bind fun t140 => (if x8 = t140 then (if x10 = true then ((mezzanineref01_Same.f k x7 x2).bind fun t141 => (if t141 = true then ((bits_Ones.f k x0).bind fun t142 => ((mezzanineref01_Ones.f x0).bind fun t145 => ((mezzanineref01_Same.f k t142 t145).bind fun t148 => (some t148)))) else (some false))) else (some false)) else (some false)))
end
def mezzaninelaw01_BitsOnes.f (k : Nat) (a0 : Int) (a1 : Int) (l2 : List Int) : Option (Bool) := (mezzaninelaw01_awake.f k).bind fun t116 => (if t116 = true then (if (l2.length : Int) > 200 then (some true) else ((some (([] : List Int) : List Int)).bind fun y117 => (if y117.length + l2.length < 17592186044416 then ((some (y117 ++ l2 : List Int)).bind fun y120 => ((bits_Bit_uint64.f a0 a1).bind fun t123 => ((mezzanineref01_Bit.f a0 a1).bind fun t124 => (if (t123 != t124) = true then (mezzaninelaw01_BitsOnes.j0 k a0 l2 y120 true) else ((bits_Bit_uint32.f ((a0) % 4294967296) a1).bind fun t125 => ((mezzanineref01_Bit.f (Int.tmod a0 4294967296) a1).bind fun t126 => (if (t125 != t126) = true then (mezzaninelaw01_BitsOnes.j0 k a0 l2 y120 true) else ((mezzaninelaw01_word.f (IntKind.u16.wrap (a0)) a1).bind fun t127 => ((mezzanineref01_Bit.f (Int.tmod a0 65536) a1).bind fun t128 => (if (t127 != t128) = true then (mezzaninelaw01_BitsOnes.j0 k a0 l2 y120 true) else ((bits_Bit_uint8.f ((a0) % 256) a1).bind fun t129 => ((mezzanineref01_Bit.f (Int.tmod a0 256) a1).bind fun t130 => (mezzaninelaw01_BitsOnes.j0 k a0 l2 y120 (t129 != t130)))))))))))))) else (none)))) else (some false))
theorem mezzaninelaw01_BitsOnes.mono_l : ∀ k, (∀ y0 y1 y2 y3, LeO (mezzaninelaw01_BitsOnes.j0 k y0 y1 y2 y3) (mezzaninelaw01_BitsOnes.j0 (k + 1) y0 y1 y2 y3)) ∧ (∀ y0 y1 y2 y3 y4 y5 y6, LeO (mezzaninelaw01_BitsOnes.l0 k y0 y1 y2 y3 y4 y5 y6) (mezzaninelaw01_BitsOnes.l0 (k + 1) y0 y1 y2 y3 y4 y5 y6))
  | 0 => ⟨fun _ _ _ _ r h => by simp [mezzaninelaw01_BitsOnes.j0] at h, fun _ _ _ _ _ _ _ r h => by simp [mezzaninelaw01_BitsOnes.l0] at h⟩
  | k + 1 => by
    obtain ⟨ih0, ih1⟩ := mezzaninelaw01_BitsOnes.mono_l k
    refine ⟨?_, ?_⟩
    · intro y0 y1 y2 y3
      unfold mezzaninelaw01_BitsOnes.j0
      repeat' first
      | (with_reducible exact ih0 _ _ _ _)
      | (with_reducible exact ih1 _ _ _ _ _ _ _)
      | (with_reducible exact bits_Of.mono _ _)
      | (with_reducible exact bits_Ones.mono _ _)
      | (with_reducible exact mezzaninelaw01_awake.mono _)
      | (with_reducible exact mezzanineref01_Same.mono _ _ _)
      | (with_reducible exact LeO.refl _)
      | (with_reducible exact LeO.none _)
      | (with_reducible refine LeO.ite ?_ ?_)
      | (with_reducible refine LeO.bind ?_ (fun _ => ?_))
      | exact ih0 _ _ _ _
      | exact ih1 _ _ _ _ _ _ _
      | exact bits_Of.mono _ _
      | exact bits_Ones.mono _ _
      | exact mezzaninelaw01_awake.mono _
      | exact mezzanineref01_Same.mono _ _ _
      | exact LeO.none _
      | refine LeO.ite ?_ ?_
      | refine LeO.bind ?_ (fun _ => ?_)
    · intro y0 y1 y2 y3 y4 y5 y6
      unfold mezzaninelaw01_BitsOnes.l0
      repeat' first
      | (with_reducible exact ih0 _ _ _ _)
      | (with_reducible exact ih1 _ _ _ _ _ _ _)
      | (with_reducible exact bits_Of.mono _ _)
      | (with_reducible exact bits_Ones.mono _ _)
      | (with_reducible exact mezzaninelaw01_awake.mono _)
      | (with_reducible exact mezzanineref01_Same.mono _ _ _)
      | (with_reducible exact LeO.refl _)
      | (with_reducible exact LeO.none _)
      | (with_reducible refine LeO.ite ?_ ?_)
      | (with_reducible refine LeO.bind ?_ (fun _ => ?_))
      | exact ih0 _ _ _ _
      | exact ih1 _ _ _ _ _ _ _
      | exact bits_Of.mono _ _
      | exact bits_Ones.mono _ _
      | exact mezzaninelaw01_awake.mono _
      | exact mezzanineref01_Same.mono _ _ _
      | exact LeO.none _
      | refine LeO.ite ?_ ?_
      | refine LeO.bind ?_ (fun _ => ?_)
theorem mezzaninelaw01_BitsOnes.mono : ∀ a0 a1 a2 k, LeO (mezzaninelaw01_BitsOnes.f k a0 a1 a2) (mezzaninelaw01_BitsOnes.f (k + 1) a0 a1 a2) := by
  intro a0 a1 a2 k
  obtain ⟨ih0, ih1⟩ := mezzaninelaw01_BitsOnes.mono_l k
  unfold mezzaninelaw01_BitsOnes.f
  repeat' first
      | (with_reducible exact ih0 _ _ _ _)
      | (with_reducible exact ih1 _ _ _ _ _ _ _)
      | (with_reducible exact bits_Of.mono _ _)
      | (with_reducible exact bits_Ones.mono _ _)
      | (with_reducible exact mezzaninelaw01_awake.mono _)
      | (with_reducible exact mezzanineref01_Same.mono _ _ _)
      | (with_reducible exact LeO.refl _)
      | (with_reducible exact LeO.none _)
      | (with_reducible refine LeO.ite ?_ ?_)
      | (with_reducible refine LeO.bind ?_ (fun _ => ?_))
      | exact ih0 _ _ _ _
      | exact ih1 _ _ _ _ _ _ _
      | exact bits_Of.mono _ _
      | exact bits_Ones.mono _ _
      | exact mezzaninelaw01_awake.mono _
      | exact mezzanineref01_Same.mono _ _ _
      | exact LeO.none _
      | refine LeO.ite ?_ ?_
      | refine LeO.bind ?_ (fun _ => ?_)
set_option maxHeartbeats 8000000 in
set_option maxRecDepth 100000 in
theorem mezzaninelaw01_BitsOnes.calls (k : Nat) (a0 : Int) (a1 : Int) (A2 : Option Addr) (c2 : Nat) (l2 : List Int) (r : Bool) (w : World) (hr2 : Kd.C (Kd.int .i64) w A2 l2.length l2) (hc2 : l2.length ≤ c2) (ht : r = true) (h : mezzaninelaw01_BitsOnes.f k a0 a1 l2 = some r) (hT : Tab w) :
    Calls Tryd.prog 3 #[.int .u64 a0, .int .i64 a1, .slice A2 l2.length c2] w fun e w' => e = .returned (.bool r) ∧ Below w.heap.size w w' := by
  have HR2 := Aside0.mk hr2
  have HC2 := Aside0.mk hc2
  clear hr2 hc2
  have HB := Aside0.mk (Below.refl w.heap.size w)
  have HT := Aside0.mk ht
  clear ht
  have H : ((mezzaninelaw01_awake.f k).bind fun t116 => (if t116 = true then (if (l2.length : Int) > 200 then (some true) else ((some (([] : List Int) : List Int)).bind fun y117 => (if y117.length + l2.length < 17592186044416 then ((some (y117 ++ l2 : List Int)).bind fun y120 => ((bits_Bit_uint64.f a0 a1).bind fun t123 => ((mezzanineref01_Bit.f a0 a1).bind fun t124 => (if (t123 != t124) = true then (mezzaninelaw01_BitsOnes.j0 k a0 l2 y120 true) else ((bits_Bit_uint32.f ((a0) % 4294967296) a1).bind fun t125 => ((mezzanineref01_Bit.f (Int.tmod a0 4294967296) a1).bind fun t126 => (if (t125 != t126) = true then (mezzaninelaw01_BitsOnes.j0 k a0 l2 y120 true) else ((mezzaninelaw01_word.f (IntKind.u16.wrap (a0)) a1).bind fun t127 => ((mezzanineref01_Bit.f (Int.tmod a0 65536) a1).bind fun t128 => (if (t127 != t128) = true then (mezzaninelaw01_BitsOnes.j0 k a0 l2 y120 true) else ((bits_Bit_uint8.f ((a0) % 256) a1).bind fun t129 => ((mezzanineref01_Bit.f (Int.tmod a0 256) a1).bind fun t130 => (mezzaninelaw01_BitsOnes.j0 k a0 l2 y120 (t129 != t130)))))))))))))) else (none)))) else (some false))) = some r := h
  clear h
  replace H := Option.bind_eq_some_iff.mp H
  obtain ⟨t116, A40, H⟩ := H
  replace H : (if t116 = true then (if (l2.length : Int) > 200 then (some true) else ((some (([] : List Int) : List Int)).bind fun y117 => (if y117.length + l2.length < 17592186044416 then ((some (y117 ++ l2 : List Int)).bind fun y120 => ((bits_Bit_uint64.f a0 a1).bind fun t123 => ((mezzanineref01_Bit.f a0 a1).bind fun t124 => (if (t123 != t124) = true then (mezzaninelaw01_BitsOnes.j0 k a0 l2 y120 true) else ((bits_Bit_uint32.f ((a0) % 4294967296) a1).bind fun t125 => ((mezzanineref01_Bit.f (Int.tmod a0 4294967296) a1).bind fun t126 => (if (t125 != t126) = true then (mezzaninelaw01_BitsOnes.j0 k a0 l2 y120 true) else ((mezzaninelaw01_word.f (IntKind.u16.wrap (a0)) a1).bind fun t127 => ((mezzanineref01_Bit.f (Int.tmod a0 65536) a1).bind fun t128 => (if (t127 != t128) = true then (mezzaninelaw01_BitsOnes.j0 k a0 l2 y120 true) else ((bits_Bit_uint8.f ((a0) % 256) a1).bind fun t129 => ((mezzanineref01_Bit.f (Int.tmod a0 256) a1).bind fun t130 => (mezzaninelaw01_BitsOnes.j0 k a0 l2 y120 (t129 != t130)))))))))))))) else (none)))) else (some false)) = some r := H
  have A4 := Aside0.mk A40
  clear A40
  by_cases c5 : t116 = true
  · subst c5
    have H1 : (if (l2.length : Int) > 200 then (some true) else ((some (([] : List Int) : List Int)).bind fun y117 => (if y117.length + l2.length < 17592186044416 then ((some (y117 ++ l2 : List Int)).bind fun y120 => ((bits_Bit_uint64.f a0 a1).bind fun t123 => ((mezzanineref01_Bit.f a0 a1).bind fun t124 => (if (t123 != t124) = true then (mezzaninelaw01_BitsOnes.j0 k a0 l2 y120 true) else ((bits_Bit_uint32.f ((a0) % 4294967296) a1).bind fun t125 => ((mezzanineref01_Bit.f (Int.tmod a0 4294967296) a1).bind fun t126 => (if (t125 != t126) = true then (mezzaninelaw01_BitsOnes.j0 k a0 l2 y120 true) else ((mezzaninelaw01_word.f (IntKind.u16.wrap (a0)) a1).bind fun t127 => ((mezzanineref01_Bit.f (Int.tmod a0 65536) a1).bind fun t128 => (if (t127 != t128) = true then (mezzaninelaw01_BitsOnes.j0 k a0 l2 y120 true) else ((bits_Bit_uint8.f ((a0) % 256) a1).bind fun t129 => ((mezzanineref01_Bit.f (Int.tmod a0 256) a1).bind fun t130 => (mezzaninelaw01_BitsOnes.j0 k a0 l2 y120 (t129 != t130)))))))))))))) else (none)))) = some r := by rw [if_pos rfl] at H; exact H
    clear H
    have H := H1
    clear H1
    by_cases c6 : (l2.length : Int) > 200
    · rw [if_pos c6] at H
      have c6b0 : decide (200 < (l2.length : Int)) = true := decide_eq_true c6
      have c6b1 : decide (200 < l2.length) = true := decide_eq_true (by omega)
      clear c6
      obtain rfl := Option.some.inj H
      go_enter Tryd.func3, Tryd.ntmps3
      go_wp2_with (first | ((with_reducible refine gate_callee (f := 6) rfl ?_); refine goesL_ (some 12) rfl rfl Tryd.func6 (by kernel_rfl) rfl #[] rfl (by (try simp only [List.map_toArray, List.map_cons, List.map_nil]); first | done | rfl | (simp only [List.length_drop, List.length_take]; rfl)) ?_; (with_reducible refine (mezzaninelaw01_awake.calls k  true _ A4.out).mono ?_); rintro e w7 ⟨rfl, hb⟩; refine ⟨_, rfl, ?_⟩; have n0_ := Aside0.mk (below_step (by repeat (first | (with_reducible first | exact HB.out | apply below_alloc | apply pw_below_drewN | apply below_drew1) | exact HB.out)) hb); clear HB; have HB := n0_; clear n0_; (try clear hb); (try clear hb2); (try clear hk); (try clear hi)))
      go_ret
      exact ⟨by first | rfl | (simp [errW_none, errW_some] <;> rfl) | (simp [*, errW_none, errW_some] <;> rfl), by repeat (first | (with_reducible first | exact HB.out | apply below_alloc | apply pw_below_drewN | apply below_drew1) | exact HB.out)⟩
    · rw [if_neg c6] at H
      have c6b0 : decide (200 < (l2.length : Int)) = false := decide_eq_false c6
      have c6b1 : decide (200 < l2.length) = false := decide_eq_false (by omega)
      clear c6
      obtain ⟨y117, hy117⟩ : ∃ y_ : List Int, y_ = (([] : List Int)) := ⟨_, rfl⟩
      replace H : (if y117.length + l2.length < 17592186044416 then ((some (y117 ++ l2 : List Int)).bind fun y120 => ((bits_Bit_uint64.f a0 a1).bind fun t123 => ((mezzanineref01_Bit.f a0 a1).bind fun t124 => (if (t123 != t124) = true then (mezzaninelaw01_BitsOnes.j0 k a0 l2 y120 true) else ((bits_Bit_uint32.f ((a0) % 4294967296) a1).bind fun t125 => ((mezzanineref01_Bit.f (Int.tmod a0 4294967296) a1).bind fun t126 => (if (t125 != t126) = true then (mezzaninelaw01_BitsOnes.j0 k a0 l2 y120 true) else ((mezzaninelaw01_word.f (IntKind.u16.wrap (a0)) a1).bind fun t127 => ((mezzanineref01_Bit.f (Int.tmod a0 65536) a1).bind fun t128 => (if (t127 != t128) = true then (mezzaninelaw01_BitsOnes.j0 k a0 l2 y120 true) else ((bits_Bit_uint8.f ((a0) % 256) a1).bind fun t129 => ((mezzanineref01_Bit.f (Int.tmod a0 256) a1).bind fun t130 => (mezzaninelaw01_BitsOnes.j0 k a0 l2 y120 (t129 != t130)))))))))))))) else (none)) = some r := by first | (rw [hy117]; with_reducible exact H) | (have H2_ := (Option.bind_some _ _).symm.trans H; rw [hy117]; with_reducible exact H2_) | (have H2_ := (Option.bind_some _ _).symm.trans H; with_reducible exact H2_) | with_reducible exact H | (rw [hy117]; exact H) | exact H
      have Ny117 := Aside0.mk hy117
      clear hy117
      by_cases c8 : y117.length + l2.length < 17592186044416
      · rw [if_pos c8] at H
        have LMc8 := Aside0.mk c8
        clear c8
        obtain ⟨y120, hy120⟩ : ∃ y_ : List Int, y_ = (y117 ++ l2) := ⟨_, rfl⟩
        replace H : ((bits_Bit_uint64.f a0 a1).bind fun t123 => ((mezzanineref01_Bit.f a0 a1).bind fun t124 => (if (t123 != t124) = true then (mezzaninelaw01_BitsOnes.j0 k a0 l2 y120 true) else ((bits_Bit_uint32.f ((a0) % 4294967296) a1).bind fun t125 => ((mezzanineref01_Bit.f (Int.tmod a0 4294967296) a1).bind fun t126 => (if (t125 != t126) = true then (mezzaninelaw01_BitsOnes.j0 k a0 l2 y120 true) else ((mezzaninelaw01_word.f (IntKind.u16.wrap (a0)) a1).bind fun t127 => ((mezzanineref01_Bit.f (Int.tmod a0 65536) a1).bind fun t128 => (if (t127 != t128) = true then (mezzaninelaw01_BitsOnes.j0 k a0 l2 y120 true) else ((bits_Bit_uint8.f ((a0) % 256) a1).bind fun t129 => ((mezzanineref01_Bit.f (Int.tmod a0 256) a1).bind fun t130 => (mezzaninelaw01_BitsOnes.j0 k a0 l2 y120 (t129 != t130))))))))))))) = some r := by first | (rw [hy120]; with_reducible exact H) | (have H2_ := (Option.bind_some _ _).symm.trans H; rw [hy120]; with_reducible exact H2_) | (have H2_ := (Option.bind_some _ _).symm.trans H; with_reducible exact H2_) | with_reducible exact H | (rw [hy120]; exact H) | exact H
        have Ny120 := Aside0.mk hy120
        clear hy120
        have HC9 := Aside0.mk H
        clear H
        go_enter Tryd.func3, Tryd.ntmps3
        go_upto_region 6 with (first | ((with_reducible refine gate_callee (f := 6) rfl ?_); refine goesL_ (some 12) rfl rfl Tryd.func6 (by kernel_rfl) rfl #[] rfl (by (try simp only [List.map_toArray, List.map_cons, List.map_nil]); first | done | rfl | (simp only [List.length_drop, List.length_take]; rfl)) ?_; (with_reducible refine (mezzaninelaw01_awake.calls k  true _ A4.out).mono ?_); rintro e w10 ⟨rfl, hb⟩; refine ⟨_, rfl, ?_⟩; have n0_ := Aside0.mk (below_step (by repeat (first | (with_reducible first | exact HB.out | apply below_alloc | apply pw_below_drewN | apply below_drew1) | exact HB.out)) hb); clear HB; have HB := n0_; clear n0_; (try clear hb); (try clear hb2); (try clear hk); (try clear hi)) | ((with_reducible refine gate_dst (N := 17) rfl ?_); refine Kd.R_lit (Kd.int .i64) _ 3 ?hg (N := 17) ?hd (xs := ([] : List Int)) (inner := []) (ok := fun _ => True) (okp := fun _ => True) ?hr ?hp (fun _ hk => hk) trivial (Below.refl _ _) (Nat.le_refl _) (by simp) ?_; (case hd => rfl); (case hg => rfl); (case hr => first | (go_simp; done) | (go_simp; rfl)); (case hp => exact (Reps.none _ _)); intro v118 w11 ho12 hb hg_ hnew_; clear hg_ hnew_; (first | rw [← Ny117.out] at ho12 | (simp only [Int.reduceToNat] at ho12; rw [← Ny117.out] at ho12)); have n0_ := Aside0.mk (Kd.R_lower ho12 (below_size (by repeat (first | (with_reducible first | exact HB.out | apply below_alloc | apply pw_below_drewN | apply below_drew1) | exact HB.out)))); have n1_ := Aside0.mk (below_step (by repeat (first | (with_reducible first | exact HB.out | apply below_alloc | apply pw_below_drewN | apply below_drew1) | exact HB.out)) hb); clear HB; have HO119 := n0_; have HB := n1_; clear n0_ n1_; clear hb ho12) | ((with_reducible refine gate_builtin (b := .append) (xs := #[.tmp 17, .tmp 18]) rfl ?_); at_builtin; refine Kd.R_append_rows (Kd.int .i64) (w0 := w) w.heap.size rfl (.tmp 17) (.tmp 18) 23 3 (.int .i64 0) 8 rfl Tryd.underlying23 info3 rfl (by decide) (by omega) v118 y117 l2 _ _ _ (fun _ => True) (fun _ => False) rfl rfl ?aO ?aR (fun _ _ h => h) (fun _ h => h.elim) ?aF ?aB ?aS ?aL ?_; (case aR => repeat (first | exact (Kd.C_below HR2.out HB.out) | (with_reducible refine Kd.C_alloc ?_ _) | (with_reducible refine Kd.C_drewN ?_ _) | (with_reducible refine Kd.C_drew ?_))); (case aB => exact (by repeat (first | (with_reducible first | exact HB.out | apply below_alloc | apply pw_below_drewN | apply below_drew1) | exact HB.out))); (case aF => exact (fun _ _ => trivial)); (case aO => exact (by (with_reducible repeat (first | apply Kd.R_alloc | apply Kd.R_drewN | apply Kd.R_drew)); exact HO119.out)); (case aS => exact (below_size (by repeat (first | (with_reducible first | exact HB.out | apply below_alloc | apply pw_below_drewN | apply below_drew1) | exact HB.out)))); (case aL => have := LMc8.out; omega); intro v121 w13 ho hb hg hat; rw [← Ny120.out] at ho; have n0_ := Aside0.mk (hb); have n1_ := Aside0.mk (ho); clear HB; clear HO119; have HB := n0_; have HO122 := n1_; clear n0_ n1_; clear ho hb hg hat))
        (try simp only [Act.put, List.setIfInBounds_toArray, List.set_cons_zero, List.set_cons_succ])
        go_cut [59] (fun v59 wc => ∃ (kq : Nat) (x59_8 : Bool), v59 = .bool x59_8 ∧ Aside0 (mezzaninelaw01_BitsOnes.j0 kq a0 l2 y120 x59_8 = some r) ∧ Aside0 (kq ≤ k) ∧ Aside0 (Kd.R (Kd.int .i64) 3 wc w.heap.size (fun _ => True) v121 y120) ∧ Aside0 (Below w.heap.size w wc))
        case first =>
          have H := HC9.out
          clear HC9
          replace H := Option.bind_eq_some_iff.mp H
          obtain ⟨t123, A140, H⟩ := H
          replace H : ((mezzanineref01_Bit.f a0 a1).bind fun t124 => (if (t123 != t124) = true then (mezzaninelaw01_BitsOnes.j0 k a0 l2 y120 true) else ((bits_Bit_uint32.f ((a0) % 4294967296) a1).bind fun t125 => ((mezzanineref01_Bit.f (Int.tmod a0 4294967296) a1).bind fun t126 => (if (t125 != t126) = true then (mezzaninelaw01_BitsOnes.j0 k a0 l2 y120 true) else ((mezzaninelaw01_word.f (IntKind.u16.wrap (a0)) a1).bind fun t127 => ((mezzanineref01_Bit.f (Int.tmod a0 65536) a1).bind fun t128 => (if (t127 != t128) = true then (mezzaninelaw01_BitsOnes.j0 k a0 l2 y120 true) else ((bits_Bit_uint8.f ((a0) % 256) a1).bind fun t129 => ((mezzanineref01_Bit.f (Int.tmod a0 256) a1).bind fun t130 => (mezzaninelaw01_BitsOnes.j0 k a0 l2 y120 (t129 != t130)))))))))))) = some r := H
          have A14 := Aside0.mk A140
          clear A140
          replace H := Option.bind_eq_some_iff.mp H
          obtain ⟨t124, A150, H⟩ := H
          replace H : (if (t123 != t124) = true then (mezzaninelaw01_BitsOnes.j0 k a0 l2 y120 true) else ((bits_Bit_uint32.f ((a0) % 4294967296) a1).bind fun t125 => ((mezzanineref01_Bit.f (Int.tmod a0 4294967296) a1).bind fun t126 => (if (t125 != t126) = true then (mezzaninelaw01_BitsOnes.j0 k a0 l2 y120 true) else ((mezzaninelaw01_word.f (IntKind.u16.wrap (a0)) a1).bind fun t127 => ((mezzanineref01_Bit.f (Int.tmod a0 65536) a1).bind fun t128 => (if (t127 != t128) = true then (mezzaninelaw01_BitsOnes.j0 k a0 l2 y120 true) else ((bits_Bit_uint8.f ((a0) % 256) a1).bind fun t129 => ((mezzanineref01_Bit.f (Int.tmod a0 256) a1).bind fun t130 => (mezzaninelaw01_BitsOnes.j0 k a0 l2 y120 (t129 != t130))))))))))) = some r := H
          have A15 := Aside0.mk A150
          clear A150
          by_cases c16 : (t123 != t124) = true
          · rw [if_pos c16] at H
            have c16b0 : (t123 != t124) = true := c16
            (try (have c16b1 : decide (t123 = t124) = false := by simpa using c16))
            (try (have c16b2 : (t123 == t124) = false := by simpa using c16))
            (try (have c16b3 : ¬ (t123 = t124) := by simpa using c16))
            clear c16
            (first | rw [c16b0] | (simp only [i64_w, i32_w]; rw [c16b0]) | skip)
            exact absurd H (by rw [HT.out]; cases k <;> simp [mezzaninelaw01_BitsOnes.j0])
          · rw [if_neg c16] at H
            have c16b0 : (t123 != t124) = false := by simpa using c16
            (try (have c16b1 : decide (t123 = t124) = true := by simpa using c16))
            (try (have c16b2 : (t123 == t124) = true := by simpa using c16))
            clear c16
            (first | rw [c16b0] | (simp only [i64_w, i32_w]; rw [c16b0]) | skip)
            replace H := Option.bind_eq_some_iff.mp H
            obtain ⟨t125, A170, H⟩ := H
            replace H : ((mezzanineref01_Bit.f (Int.tmod a0 4294967296) a1).bind fun t126 => (if (t125 != t126) = true then (mezzaninelaw01_BitsOnes.j0 k a0 l2 y120 true) else ((mezzaninelaw01_word.f (IntKind.u16.wrap (a0)) a1).bind fun t127 => ((mezzanineref01_Bit.f (Int.tmod a0 65536) a1).bind fun t128 => (if (t127 != t128) = true then (mezzaninelaw01_BitsOnes.j0 k a0 l2 y120 true) else ((bits_Bit_uint8.f ((a0) % 256) a1).bind fun t129 => ((mezzanineref01_Bit.f (Int.tmod a0 256) a1).bind fun t130 => (mezzaninelaw01_BitsOnes.j0 k a0 l2 y120 (t129 != t130))))))))) = some r := H
            have A17 := Aside0.mk A170
            clear A170
            replace H := Option.bind_eq_some_iff.mp H
            obtain ⟨t126, A180, H⟩ := H
            replace H : (if (t125 != t126) = true then (mezzaninelaw01_BitsOnes.j0 k a0 l2 y120 true) else ((mezzaninelaw01_word.f (IntKind.u16.wrap (a0)) a1).bind fun t127 => ((mezzanineref01_Bit.f (Int.tmod a0 65536) a1).bind fun t128 => (if (t127 != t128) = true then (mezzaninelaw01_BitsOnes.j0 k a0 l2 y120 true) else ((bits_Bit_uint8.f ((a0) % 256) a1).bind fun t129 => ((mezzanineref01_Bit.f (Int.tmod a0 256) a1).bind fun t130 => (mezzaninelaw01_BitsOnes.j0 k a0 l2 y120 (t129 != t130)))))))) = some r := H
            have A18 := Aside0.mk A180
            clear A180
            by_cases c19 : (t125 != t126) = true
            · rw [if_pos c19] at H
              have c19b0 : (t125 != t126) = true := c19
              (try (have c19b1 : decide (t125 = t126) = false := by simpa using c19))
              (try (have c19b2 : (t125 == t126) = false := by simpa using c19))
              (try (have c19b3 : ¬ (t125 = t126) := by simpa using c19))
              clear c19
              exact absurd H (by rw [HT.out]; cases k <;> simp [mezzaninelaw01_BitsOnes.j0])
            · rw [if_neg c19] at H
              have c19b0 : (t125 != t126) = false := by simpa using c19
              (try (have c19b1 : decide (t125 = t126) = true := by simpa using c19))
              (try (have c19b2 : (t125 == t126) = true := by simpa using c19))
              clear c19
              replace H := Option.bind_eq_some_iff.mp H
              obtain ⟨t127, A200, H⟩ := H
              replace H : ((mezzanineref01_Bit.f (Int.tmod a0 65536) a1).bind fun t128 => (if (t127 != t128) = true then (mezzaninelaw01_BitsOnes.j0 k a0 l2 y120 true) else ((bits_Bit_uint8.f ((a0) % 256) a1).bind fun t129 => ((mezzanineref01_Bit.f (Int.tmod a0 256) a1).bind fun t130 => (mezzaninelaw01_BitsOnes.j0 k a0 l2 y120 (t129 != t130)))))) = some r := H
              have A20 := Aside0.mk A200
              clear A200
              replace H := Option.bind_eq_some_iff.mp H
              obtain ⟨t128, A210, H⟩ := H
              replace H : (if (t127 != t128) = true then (mezzaninelaw01_BitsOnes.j0 k a0 l2 y120 true) else ((bits_Bit_uint8.f ((a0) % 256) a1).bind fun t129 => ((mezzanineref01_Bit.f (Int.tmod a0 256) a1).bind fun t130 => (mezzaninelaw01_BitsOnes.j0 k a0 l2 y120 (t129 != t130))))) = some r := H
              have A21 := Aside0.mk A210
              clear A210
              by_cases c22 : (t127 != t128) = true
              · rw [if_pos c22] at H
                have c22b0 : (t127 != t128) = true := c22
                (try (have c22b1 : decide (t127 = t128) = false := by simpa using c22))
                (try (have c22b2 : (t127 == t128) = false := by simpa using c22))
                (try (have c22b3 : ¬ (t127 = t128) := by simpa using c22))
                clear c22
                exact absurd H (by rw [HT.out]; cases k <;> simp [mezzaninelaw01_BitsOnes.j0])
              · rw [if_neg c22] at H
                have c22b0 : (t127 != t128) = false := by simpa using c22
                (try (have c22b1 : decide (t127 = t128) = true := by simpa using c22))
                (try (have c22b2 : (t127 == t128) = true := by simpa using c22))
                clear c22
                replace H := Option.bind_eq_some_iff.mp H
                obtain ⟨t129, A230, H⟩ := H
                replace H : ((mezzanineref01_Bit.f (Int.tmod a0 256) a1).bind fun t130 => (mezzaninelaw01_BitsOnes.j0 k a0 l2 y120 (t129 != t130))) = some r := H
                have A23 := Aside0.mk A230
                clear A230
                replace H := Option.bind_eq_some_iff.mp H
                obtain ⟨t130, A240, H⟩ := H
                replace H : (mezzaninelaw01_BitsOnes.j0 k a0 l2 y120 (t129 != t130)) = some r := H
                have A24 := Aside0.mk A240
                clear A240
                have H' := Aside0.mk H
                clear H
                go_wp2_with (first | ((with_reducible refine gate_callee (f := 7) rfl ?_); refine goesL_ (some 22) rfl rfl Tryd.func7 (by kernel_rfl) rfl #[.int .u64 a0, .int .i64 a1] rfl (by (try simp only [List.map_toArray, List.map_cons, List.map_nil]); first | done | rfl | (simp only [List.length_drop, List.length_take]; rfl)) ?_; (with_reducible refine (bits_Bit_uint64.calls a0 a1 t123 _ A14.out).mono ?_); rintro e w' ⟨rfl, ⟨nd, rfl⟩⟩; refine ⟨_, rfl, ?_⟩) | ((with_reducible refine gate_callee (f := 8) rfl ?_); refine goesL_ (some 25) rfl rfl Tryd.func8 (by kernel_rfl) rfl #[.int .u64 a0, .int .i64 a1] rfl (by (try simp only [List.map_toArray, List.map_cons, List.map_nil]); first | done | rfl | (simp only [List.length_drop, List.length_take]; rfl)) ?_; (with_reducible refine (mezzanineref01_Bit.calls a0 a1 t124 _ A15.out).mono ?_); rintro e w25 ⟨rfl, hb⟩; refine ⟨_, rfl, ?_⟩; have n0_ := Aside0.mk (Kd.R_below (by (with_reducible repeat (first | apply Kd.R_alloc | apply Kd.R_drewN | apply Kd.R_drew)); exact HO122.out) hb); have n1_ := Aside0.mk (below_step (by repeat (first | (with_reducible first | exact HB.out | apply below_alloc | apply pw_below_drewN | apply below_drew1) | exact HB.out)) hb); clear HO122; clear HB; have HO122 := n0_; have HB := n1_; clear n0_ n1_; (try clear hb); (try clear hb2); (try clear hk); (try clear hi)) | (go_at_call 9; (with_reducible refine (bits_Bit_uint32.calls ((a0) % 4294967296) a1 t125 _ A17.out).mono ?_); rintro e w' ⟨rfl, ⟨nd, rfl⟩⟩) | (go_at_call 8; (with_reducible refine (mezzanineref01_Bit.calls (Int.tmod a0 4294967296) a1 t126 _ A18.out).mono ?_); rintro e w26 ⟨rfl, hb⟩; have n0_ := Aside0.mk (Kd.R_below (by (with_reducible repeat (first | apply Kd.R_alloc | apply Kd.R_drewN | apply Kd.R_drew)); exact HO122.out) hb); have n1_ := Aside0.mk (below_step (by repeat (first | (with_reducible first | exact HB.out | apply below_alloc | apply pw_below_drewN | apply below_drew1) | exact HB.out)) hb); clear HO122; clear HB; have HO122 := n0_; have HB := n1_; clear n0_ n1_; (try clear hb); (try clear hb2); (try clear hk); (try clear hi)) | (go_at_call 10; (with_reducible refine (mezzaninelaw01_word.calls (IntKind.u16.wrap (a0)) a1 t127 _ A20.out).mono ?_); rintro e w' ⟨rfl, ⟨nd, rfl⟩⟩) | (go_at_call 8; (with_reducible refine (mezzanineref01_Bit.calls (Int.tmod a0 65536) a1 t128 _ A21.out).mono ?_); rintro e w27 ⟨rfl, hb⟩; have n0_ := Aside0.mk (Kd.R_below (by (with_reducible repeat (first | apply Kd.R_alloc | apply Kd.R_drewN | apply Kd.R_drew)); exact HO122.out) hb); have n1_ := Aside0.mk (below_step (by repeat (first | (with_reducible first | exact HB.out | apply below_alloc | apply pw_below_drewN | apply below_drew1) | exact HB.out)) hb); clear HO122; clear HB; have HO122 := n0_; have HB := n1_; clear n0_ n1_; (try clear hb); (try clear hb2); (try clear hk); (try clear hi)) | (go_at_call 11; (with_reducible refine (bits_Bit_uint8.calls ((a0) % 256) a1 t129 _ A23.out).mono ?_); rintro e w' ⟨rfl, ⟨nd, rfl⟩⟩) | (go_at_call 8; (with_reducible refine (mezzanineref01_Bit.calls (Int.tmod a0 256) a1 t130 _ A24.out).mono ?_); rintro e w28 ⟨rfl, hb⟩; have n0_ := Aside0.mk (Kd.R_below (by (with_reducible repeat (first | apply Kd.R_alloc | apply Kd.R_drewN | apply Kd.R_drew)); exact HO122.out) hb); have n1_ := Aside0.mk (below_step (by repeat (first | (with_reducible first | exact HB.out | apply below_alloc | apply pw_below_drewN | apply below_drew1) | exact HB.out)) hb); clear HO122; clear HB; have HO122 := n0_; have HB := n1_; clear n0_ n1_; (try clear hb); (try clear hb2); (try clear hk); (try clear hi)))
                go_meet
                case rel => exact ⟨_, ((t129 != t130)), (by first | rfl | (simp; done) | (simp [*]; done)), H', ⟨by first | omega | exact Nat.le_refl _⟩, ⟨by (with_reducible repeat (first | apply Kd.R_alloc | apply Kd.R_drewN | apply Kd.R_drew)); exact HO122.out⟩, ⟨by repeat (first | (with_reducible first | exact HB.out | apply below_alloc | apply pw_below_drewN | apply below_drew1) | exact HB.out)⟩⟩
        case rest =>
          clear HC9
          try clear c1
          try clear c2
          try clear p2
          try clear c3
          try clear c5
          try clear c6
          try clear c6b0
          try clear c6b1
          try clear c7
          try clear c8
          try clear c16
          try clear c16b0
          try clear c16b1
          try clear c16b2
          try clear c19
          try clear c19b0
          try clear c19b1
          try clear c19b2
          try clear c22
          try clear c22b0
          try clear c22b1
          try clear c22b2
          obtain ⟨kq, x59_8, rfl, HA, HJ8, HO_7, HB⟩ := hcut
          cases kq with
          | zero => exact absurd HA.out (by simp [mezzaninelaw01_BitsOnes.j0])
          | succ kj8 =>
            have H := HA.out
            clear HA
            simp only [mezzaninelaw01_BitsOnes.j0] at H
            by_cases c29 : x59_8 = true
            · subst c29
              have H1 : (some false) = some r := by rw [if_pos rfl] at H; exact H
              clear H
              have H := H1
              clear H1
              exact absurd (Option.some.inj H) (by rw [HT.out]; decide)
            · replace c29 := Bool.eq_false_iff.mpr c29
              subst c29
              have H1 : ((bits_Of.f kj8 y120).bind fun t131 => ((bits_Ones.f kj8 a0).bind fun t132 => ((mezzanineref01_Ones.f a0).bind fun t135 => ((mezzanineref01_Same.f kj8 t132 t135).bind fun t138 => (mezzaninelaw01_BitsOnes.l0 kj8 a0 l2 y120 t131 t132 t138 0))))) = some r := by rw [if_neg (show ¬ (false = true) by decide)] at H; exact H
              clear H
              have H := H1
              clear H1
              replace H := Option.bind_eq_some_iff.mp H
              obtain ⟨t131, A300, H⟩ := H
              replace H : ((bits_Ones.f kj8 a0).bind fun t132 => ((mezzanineref01_Ones.f a0).bind fun t135 => ((mezzanineref01_Same.f kj8 t132 t135).bind fun t138 => (mezzaninelaw01_BitsOnes.l0 kj8 a0 l2 y120 t131 t132 t138 0)))) = some r := H
              have A30 := Aside0.mk A300
              clear A300
              replace H := Option.bind_eq_some_iff.mp H
              obtain ⟨t132, A310, H⟩ := H
              replace H : ((mezzanineref01_Ones.f a0).bind fun t135 => ((mezzanineref01_Same.f kj8 t132 t135).bind fun t138 => (mezzaninelaw01_BitsOnes.l0 kj8 a0 l2 y120 t131 t132 t138 0))) = some r := H
              have A31 := Aside0.mk A310
              clear A310
              replace H := Option.bind_eq_some_iff.mp H
              obtain ⟨t135, A320, H⟩ := H
              replace H : ((mezzanineref01_Same.f kj8 t132 t135).bind fun t138 => (mezzaninelaw01_BitsOnes.l0 kj8 a0 l2 y120 t131 t132 t138 0)) = some r := H
              have A32 := Aside0.mk A320
              clear A320
              replace H := Option.bind_eq_some_iff.mp H
              obtain ⟨t138, A330, H⟩ := H
              replace H : (mezzaninelaw01_BitsOnes.l0 kj8 a0 l2 y120 t131 t132 t138 0) = some r := H
              have A33 := Aside0.mk A330
              clear A330
              have H' := Aside0.mk H
              clear H
              obtain ⟨Ao34, co34, eo34⟩ := Kd.R_slice HO_7.out
              subst eo34
              go_wp2_with (first | ((with_reducible refine gate_callee (f := 12) rfl ?_); refine goesL_ (some 61) rfl rfl Tryd.func12 (by kernel_rfl) rfl #[.slice Ao34 y120.length co34] rfl (by (try simp only [List.map_toArray, List.map_cons, List.map_nil]); first | done | rfl | (simp only [List.length_drop, List.length_take]; rfl)) ?_; (with_reducible refine (bits_Of.calls kj8 _ _ y120 t131 _ ?side1 ?side2 A30.out).mono ?_); (case side1 => repeat (first | exact (Kd.R_reads' HO_7.out).2.2 | (with_reducible refine Kd.C_alloc ?_ _) | (with_reducible refine Kd.C_drewN ?_ _) | (with_reducible refine Kd.C_drew ?_))); (case side2 => exact (Kd.R_reads' HO_7.out).2.1); rintro e w' ⟨rfl, ⟨nd, rfl⟩⟩; refine ⟨_, rfl, ?_⟩) | ((with_reducible refine gate_callee (f := 13) rfl ?_); refine goesL_ (some 63) rfl rfl Tryd.func13 (by kernel_rfl) rfl #[.int .u64 a0] rfl (by (try simp only [List.map_toArray, List.map_cons, List.map_nil]); first | done | rfl | (simp only [List.length_drop, List.length_take]; rfl)) ?_; (with_reducible refine (bits_Ones.calls kj8 a0 t132 _ A31.out (Tab.from hT (by repeat (first | (with_reducible first | exact HB.out | exact Below.refl _ _ | apply below_alloc | apply pw_below_drewN | apply below_drew1) | exact HB.out)))).mono ?_); rintro e w35 ⟨v133, rfl, ho0, hb⟩; refine ⟨_, rfl, ?_⟩; have n0_ := Aside0.mk (Kd.R_elder' (by (with_reducible repeat (first | apply Kd.R_alloc | apply Kd.R_drewN | apply Kd.R_drew)); exact HO_7.out) (Kd.R_base ho0) hb); have n1_ := Aside0.mk (Kd.R_lower (Kd.R_new' ho0 (Kd.R_lt (by (with_reducible repeat (first | apply Kd.R_alloc | apply Kd.R_drewN | apply Kd.R_drew)); exact HO_7.out))) (below_size (by repeat (first | (with_reducible first | exact HB.out | apply below_alloc | apply pw_below_drewN | apply below_drew1) | exact HB.out)))); have n2_ := Aside0.mk (below_step (by repeat (first | (with_reducible first | exact HB.out | apply below_alloc | apply pw_below_drewN | apply below_drew1) | exact HB.out)) hb); clear HO_7; clear HB; have HO_7 := n0_; have HO134 := n1_; have HB := n2_; clear n0_ n1_ n2_; (try clear hb); (try clear hb2); (try clear hk); (try clear hi); (try clear ho0)) | ((with_reducible refine gate_callee (f := 15) rfl ?_); refine goesL_ (some 66) rfl rfl Tryd.func15 (by kernel_rfl) rfl #[.int .u64 a0] rfl (by (try simp only [List.map_toArray, List.map_cons, List.map_nil]); first | done | rfl | (simp only [List.length_drop, List.length_take]; rfl)) ?_; (with_reducible refine (mezzanineref01_Ones.calls a0 t135 _ A32.out).mono ?_); rintro e w36 ⟨v136, rfl, ho0, hb⟩; refine ⟨_, rfl, ?_⟩; have n0_ := Aside0.mk (Kd.R_elder' (by (with_reducible repeat (first | apply Kd.R_alloc | apply Kd.R_drewN | apply Kd.R_drew)); exact HO_7.out) (Kd.R_base ho0) hb); have n1_ := Aside0.mk (Kd.R_elder' (by (with_reducible repeat (first | apply Kd.R_alloc | apply Kd.R_drewN | apply Kd.R_drew)); exact HO134.out) (Kd.R_base ho0) hb); have n2_ := Aside0.mk (Kd.R_lower (Kd.R_new' (Kd.R_new' ho0 (Kd.R_lt (by (with_reducible repeat (first | apply Kd.R_alloc | apply Kd.R_drewN | apply Kd.R_drew)); exact HO_7.out))) (Kd.R_lt (by (with_reducible repeat (first | apply Kd.R_alloc | apply Kd.R_drewN | apply Kd.R_drew)); exact HO134.out))) (below_size (by repeat (first | (with_reducible first | exact HB.out | apply below_alloc | apply pw_below_drewN | apply below_drew1) | exact HB.out)))); have n3_ := Aside0.mk (below_step (by repeat (first | (with_reducible first | exact HB.out | apply below_alloc | apply pw_below_drewN | apply below_drew1) | exact HB.out)) hb); clear HO_7; clear HO134; clear HB; have HO_7 := n0_; have HO134 := n1_; have HO137 := n2_; have HB := n3_; clear n0_ n1_ n2_ n3_; (try clear hb); (try clear hb2); (try clear hk); (try clear hi); (try clear ho0); obtain ⟨Ao37, co37, eo37⟩ := Kd.R_slice HO134.out; subst eo37; obtain ⟨Ao38, co38, eo38⟩ := Kd.R_slice HO137.out; subst eo38) | ((with_reducible refine gate_callee (f := 14) rfl ?_); refine goesL_ (some 67) rfl rfl Tryd.func14 (by kernel_rfl) rfl #[.slice Ao37 t132.length co37, .slice Ao38 t135.length co38] rfl (by (try simp only [List.map_toArray, List.map_cons, List.map_nil]); first | done | rfl | (simp only [List.length_drop, List.length_take]; rfl)) ?_; (with_reducible refine (mezzanineref01_Same.calls kj8 _ _ t132 _ _ t135 t138 _ ?side1 ?side2 ?side3 ?side4 A33.out).mono ?_); (case side1 => repeat (first | exact (Kd.R_reads' HO134.out).2.2 | (with_reducible refine Kd.C_alloc ?_ _) | (with_reducible refine Kd.C_drewN ?_ _) | (with_reducible refine Kd.C_drew ?_))); (case side2 => exact (Kd.R_reads' HO134.out).2.1); (case side3 => repeat (first | exact (Kd.R_reads' HO137.out).2.2 | (with_reducible refine Kd.C_alloc ?_ _) | (with_reducible refine Kd.C_drewN ?_ _) | (with_reducible refine Kd.C_drew ?_))); (case side4 => exact (Kd.R_reads' HO137.out).2.1); rintro e w' ⟨rfl, ⟨nd, rfl⟩⟩; refine ⟨_, rfl, ?_⟩))
              go_loopg [11] kj8 (fun kq v11 w' => ∃ (x9_2 : List Int) (x11_2 : Int), v11 = .int .i64 x11_2 ∧ Aside0 (mezzaninelaw01_BitsOnes.l0 kq a0 l2 y120 t131 x9_2 t138 x11_2 = some r) ∧ Aside0 (kq ≤ kj8) ∧ Aside0 (Kd.R (Kd.int .i64) 3 w' w.heap.size (fun k_ => some k_ ≠ ((.slice Ao37 t132.length co37) : Value).ownBlock) (.slice Ao34 y120.length co34) y120) ∧ Aside0 (Kd.R (Kd.int .i64) 3 w' w.heap.size (fun k_ => some k_ ≠ ((.slice Ao34 y120.length co34) : Value).ownBlock) (.slice Ao37 t132.length co37) x9_2) ∧ Aside0 (Below w.heap.size w w'))
              case atStart => exact ⟨(t132), (0), (by first | rfl | (simp; done) | (simp [*]; done)), H', ⟨Nat.le_refl _⟩, ⟨by (with_reducible repeat (first | apply Kd.R_alloc | apply Kd.R_drewN | apply Kd.R_drew)); exact Kd.R_mono HO_7.out (fun _ hk => hk.1.2)⟩, ⟨by (with_reducible repeat (first | apply Kd.R_alloc | apply Kd.R_drewN | apply Kd.R_drew)); exact Kd.R_mono HO134.out (fun _ hk => hk.1.2)⟩, ⟨by repeat (first | (with_reducible first | exact HB.out | apply below_alloc | apply pw_below_drewN | apply below_drew1) | exact HB.out)⟩⟩
              case round =>
                clear H'
                try clear c1
                try clear c2
                try clear p2
                try clear c3
                try clear c5
                try clear c6
                try clear c6b0
                try clear c6b1
                try clear c7
                try clear c8
                try clear c12
                try clear c13
                try clear c14
                try clear c15
                try clear c16
                try clear c16b0
                try clear c16b1
                try clear c16b2
                try clear c19
                try clear c19b0
                try clear c19b1
                try clear c19b2
                try clear c22
                try clear c22b0
                try clear c22b1
                try clear c22b2
                try clear c29
                try clear p2
                obtain ⟨x9_2, x11_2, rfl, HA, HK2, HO_7, HO_9, HB⟩ := hrel
                have hl9_2 := (Kd.R_reads' HO_9.out).1
                rw [hl9_2] at HO_9
                (try simp only [hl9_2])
                (try simp only [hl9_2] at HO_7)
                cases gk with
                | zero => exact absurd HA.out (by simp [mezzaninelaw01_BitsOnes.l0])
                | succ k2 =>
                  have H := HA.out
                  clear HA
                  simp only [mezzaninelaw01_BitsOnes.l0] at H
                  by_cases c39 : x11_2 < (x9_2.length : Int)
                  · rw [if_pos c39] at H
                    have c39b0 : decide (x11_2 < (x9_2.length : Int)) = true := decide_eq_true c39
                    clear c39
                    by_cases c40 : 0 ≤ x11_2
                    · rw [if_pos c40] at H
                      have c40b0 : decide (0 ≤ x11_2) = true := decide_eq_true c40
                      clear c40
                      obtain ⟨y139, hy139⟩ : ∃ y_ : List Int, y_ = (x9_2.set (x11_2 : Int).toNat (-1)) := ⟨_, rfl⟩
                      replace H : (mezzaninelaw01_BitsOnes.l0 k2 a0 l2 y120 t131 y139 t138 (wrap64 (x11_2 + 1))) = some r := by first | (rw [hy139]; with_reducible exact H) | (have H2_ := (Option.bind_some _ _).symm.trans H; rw [hy139]; with_reducible exact H2_) | (have H2_ := (Option.bind_some _ _).symm.trans H; with_reducible exact H2_) | with_reducible exact H | (rw [hy139]; exact H) | exact H
                      have Ny139 := Aside0.mk hy139
                      clear hy139
                      have H' := Aside0.mk H
                      clear H
                      have p41 : 0 ≤ (x11_2 : Int) := of_decide_eq_true (by first | (with_reducible assumption) | assumption)
                      have q41 : (x11_2 : Int) < ((x9_2.length : Int) : Int) := of_decide_eq_true (by first | (with_reducible assumption) | assumption)
                      obtain ⟨go41, co41, eo41, gb41, gl41, cl41, HG41⟩ := Kd.R_form HO_9.out (by omega)
                      (first | cases eo41 | (injection eo41 with ea_ en_ ec_; (first | subst ea_ | (injection ea_ with ea_; subst ea_)); subst ec_; clear en_))
                      have GB41 := Aside0.mk gb41
                      have GG41 := Aside0.mk HG41
                      clear gb41 gl41 HG41
                      obtain ⟨hx41_0, hf41_0⟩ := Kd.R_celln 0 HO_9.out (x11_2 : Int) p41 q41
                      replace p41 := eq_true p41
                      replace q41 := eq_true q41
                      have HP42 := Kd.R_putg HO_9.out (x11_2 : Int) (-1)
                      go_wp2_with (first | ((with_reducible refine gate_store (t := 3) (p := 76) rfl ?_); refine store_event (t := 3) (p := 76) (v := ?vo_w43) (w1 := (wr.setCell ⟨go41, (x11_2 : Int).toNat, none⟩ (.int .i64 (-1)))) ?hg ?ho ?hn ?hr ?_; (case ho => rfl); (case hg => rfl); (case hn => rfl); (case hr => first | (go_simp; done) | (go_simp; rfl)); intro w43 hw; have hg : wr.grownBy w43 (some go41) := (by rw [hw]; exact HP42.2); have hp_ : Kd.R (Kd.int .i64) 3 w43 w.heap.size (fun k_ => some k_ ≠ (.slice Ao34 y120.length co34 : Value).ownBlock) (.slice (some ⟨go41, 0, none⟩) x9_2.length co37) y139 := (by rw [hw, Ny139.out]; exact HP42.1); clear HP42; have n0_ := Aside0.mk (Kd.R_after (v := (.slice (some ⟨go41, 0, none⟩) x9_2.length co37)) (v1 := (.slice (some ⟨go41, 0, none⟩) x9_2.length co37)) (ok := (fun _ => True)) (by (with_reducible repeat (first | apply Kd.R_alloc | apply Kd.R_drewN | apply Kd.R_drew)); exact Kd.R_mono HO_7.out (fun _ hk => ⟨trivial, hk⟩)) hg (.inl rfl)); have n1_ := Aside0.mk (hp_); have n2_ := Aside0.mk ((by rw [hw]; exact below_set (HB.out) GB41.out : Below w.heap.size w w43)); clear HO_7; clear HO_9; clear HB; have HO_7 := n0_; have HO_9 := n1_; have HB := n2_; clear n0_ n1_ n2_; clear hg hw hp_))
                      (try simp only [← hl9_2])
                      go_roundg k2
                      case measure => have := HJ8.out; have := HK2.out; omega
                      case rel => exact ⟨(y139), (wrap64 (x11_2 + 1)), (by first | rfl | (simp; done) | (simp [*]; done)), H', ⟨by have := HJ8.out; have := HK2.out; omega⟩, ⟨by (try simp only [hl9_2]); (with_reducible repeat (first | apply Kd.R_alloc | apply Kd.R_drewN | apply Kd.R_drew)); exact Kd.R_mono HO_7.out (fun _ hk => hk.2)⟩, ⟨by (try simp only [hl9_2]); (with_reducible repeat (first | apply Kd.R_alloc | apply Kd.R_drewN | apply Kd.R_drew)); exact HO_9.out⟩, ⟨by repeat (first | (with_reducible first | exact HB.out | apply below_alloc | apply pw_below_drewN | apply below_drew1) | exact HB.out)⟩⟩
                    · rw [if_neg c40] at H
                      exact absurd H (by simp)
                  · rw [if_neg c39] at H
                    have c39b0 : decide (x11_2 < (x9_2.length : Int)) = false := decide_eq_false c39
                    clear c39
                    replace H := Option.bind_eq_some_iff.mp H
                    obtain ⟨t140, A440, H⟩ := H
                    replace H : (if t131 = t140 then (if t138 = true then ((mezzanineref01_Same.f k2 y120 l2).bind fun t141 => (if t141 = true then ((bits_Ones.f k2 a0).bind fun t142 => ((mezzanineref01_Ones.f a0).bind fun t145 => ((mezzanineref01_Same.f k2 t142 t145).bind fun t148 => (some t148)))) else (some false))) else (some false)) else (some false)) = some r := H
                    have A44 := Aside0.mk A440
                    clear A440
                    by_cases c45 : t131 = t140
                    · rw [if_pos c45] at H
                      have c45b0 : (t131 == t140) = true := beq_iff_eq.mpr c45
                      have c45b1 : (t131 != t140) = false := bne_eq_false_iff_eq.mpr c45
                      clear c45
                      by_cases c46 : t138 = true
                      · subst c46
                        have H1 : ((mezzanineref01_Same.f k2 y120 l2).bind fun t141 => (if t141 = true then ((bits_Ones.f k2 a0).bind fun t142 => ((mezzanineref01_Ones.f a0).bind fun t145 => ((mezzanineref01_Same.f k2 t142 t145).bind fun t148 => (some t148)))) else (some false))) = some r := by rw [if_pos rfl] at H; exact H
                        clear H
                        have H := H1
                        clear H1
                        replace H := Option.bind_eq_some_iff.mp H
                        obtain ⟨t141, A470, H⟩ := H
                        replace H : (if t141 = true then ((bits_Ones.f k2 a0).bind fun t142 => ((mezzanineref01_Ones.f a0).bind fun t145 => ((mezzanineref01_Same.f k2 t142 t145).bind fun t148 => (some t148)))) else (some false)) = some r := H
                        have A47 := Aside0.mk A470
                        clear A470
                        by_cases c48 : t141 = true
                        · subst c48
                          have H1 : ((bits_Ones.f k2 a0).bind fun t142 => ((mezzanineref01_Ones.f a0).bind fun t145 => ((mezzanineref01_Same.f k2 t142 t145).bind fun t148 => (some t148)))) = some r := by rw [if_pos rfl] at H; exact H
                          clear H
                          have H := H1
                          clear H1
                          replace H := Option.bind_eq_some_iff.mp H
                          obtain ⟨t142, A490, H⟩ := H
                          replace H : ((mezzanineref01_Ones.f a0).bind fun t145 => ((mezzanineref01_Same.f k2 t142 t145).bind fun t148 => (some t148))) = some r := H
                          have A49 := Aside0.mk A490
                          clear A490
                          replace H := Option.bind_eq_some_iff.mp H
                          obtain ⟨t145, A500, H⟩ := H
                          replace H : ((mezzanineref01_Same.f k2 t142 t145).bind fun t148 => (some t148)) = some r := H
                          have A50 := Aside0.mk A500
                          clear A500
                          replace H := Option.bind_eq_some_iff.mp H
                          obtain ⟨t148, A510, H⟩ := H
                          replace H : (some t148) = some r := H
                          have A51 := Aside0.mk A510
                          clear A510
                          obtain rfl := Option.some.inj H
                          go_wp2_with (first | ((with_reducible refine gate_callee (f := 16) rfl ?_); refine goesL_ (some 79) rfl rfl Tryd.func16 (by kernel_rfl) rfl #[.slice A2 l2.length c2] rfl (by (try simp only [List.map_toArray, List.map_cons, List.map_nil]); first | done | rfl | (simp only [List.length_drop, List.length_take]; rfl)) ?_; (with_reducible refine (mezzanineref01_Of.calls _ _ l2 t140 _ ?side1 ?side2 A44.out).mono ?_); (case side1 => repeat (first | exact (Kd.C_below HR2.out HB.out) | (with_reducible refine Kd.C_alloc ?_ _) | (with_reducible refine Kd.C_drewN ?_ _) | (with_reducible refine Kd.C_drew ?_))); (case side2 => exact HC2.out); rintro e w52 ⟨rfl, hb⟩; refine ⟨_, rfl, ?_⟩; have n0_ := Aside0.mk (Kd.R_below (by (with_reducible repeat (first | apply Kd.R_alloc | apply Kd.R_drewN | apply Kd.R_drew)); exact HO_7.out) hb); have n1_ := Aside0.mk (Kd.R_below (by (with_reducible repeat (first | apply Kd.R_alloc | apply Kd.R_drewN | apply Kd.R_drew)); exact HO_9.out) hb); have n2_ := Aside0.mk (below_step (by repeat (first | (with_reducible first | exact HB.out | apply below_alloc | apply pw_below_drewN | apply below_drew1) | exact HB.out)) hb); clear HO_7; clear HO_9; clear HB; have HO_7 := n0_; have HO_9 := n1_; have HB := n2_; clear n0_ n1_ n2_; (try clear hb); (try clear hb2); (try clear hk); (try clear hi)) | (go_at_call 14; (with_reducible refine (mezzanineref01_Same.calls k2 _ _ y120 _ _ l2 true _ ?side1 ?side2 ?side3 ?side4 A47.out).mono ?_); (case side1 => repeat (first | exact (Kd.R_reads' HO_7.out).2.2 | (with_reducible refine Kd.C_alloc ?_ _) | (with_reducible refine Kd.C_drewN ?_ _) | (with_reducible refine Kd.C_drew ?_))); (case side2 => exact (Kd.R_reads' HO_7.out).2.1); (case side3 => repeat (first | exact (Kd.C_below HR2.out HB.out) | (with_reducible refine Kd.C_alloc ?_ _) | (with_reducible refine Kd.C_drewN ?_ _) | (with_reducible refine Kd.C_drew ?_))); (case side4 => exact HC2.out); rintro e w' ⟨rfl, ⟨nd, rfl⟩⟩) | (go_at_call 13; (with_reducible refine (bits_Ones.calls k2 a0 t142 _ A49.out (Tab.from hT (by repeat (first | (with_reducible first | exact HB.out | exact Below.refl _ _ | apply below_alloc | apply pw_below_drewN | apply below_drew1) | exact HB.out)))).mono ?_); rintro e w53 ⟨v143, rfl, ho0, hb⟩; have n0_ := Aside0.mk (Kd.R_elder' (by (with_reducible repeat (first | apply Kd.R_alloc | apply Kd.R_drewN | apply Kd.R_drew)); exact HO_7.out) (Kd.R_base ho0) hb); have n1_ := Aside0.mk (Kd.R_elder' (by (with_reducible repeat (first | apply Kd.R_alloc | apply Kd.R_drewN | apply Kd.R_drew)); exact HO_9.out) (Kd.R_base ho0) hb); have n2_ := Aside0.mk (Kd.R_lower (Kd.R_new' (Kd.R_new' ho0 (Kd.R_lt (by (with_reducible repeat (first | apply Kd.R_alloc | apply Kd.R_drewN | apply Kd.R_drew)); exact HO_7.out))) (Kd.R_lt (by (with_reducible repeat (first | apply Kd.R_alloc | apply Kd.R_drewN | apply Kd.R_drew)); exact HO_9.out))) (below_size (by repeat (first | (with_reducible first | exact HB.out | apply below_alloc | apply pw_below_drewN | apply below_drew1) | exact HB.out)))); have n3_ := Aside0.mk (below_step (by repeat (first | (with_reducible first | exact HB.out | apply below_alloc | apply pw_below_drewN | apply below_drew1) | exact HB.out)) hb); clear HO_7; clear HO_9; clear HB; have HO_7 := n0_; have HO_9 := n1_; have HO144 := n2_; have HB := n3_; clear n0_ n1_ n2_ n3_; (try clear hb); (try clear hb2); (try clear hk); (try clear hi); (try clear ho0)) | (go_at_call 15; (with_reducible refine (mezzanineref01_Ones.calls a0 t145 _ A50.out).mono ?_); rintro e w54 ⟨v146, rfl, ho0, hb⟩; have n0_ := Aside0.mk (Kd.R_elder' (by (with_reducible repeat (first | apply Kd.R_alloc | apply Kd.R_drewN | apply Kd.R_drew)); exact HO_7.out) (Kd.R_base ho0) hb); have n1_ := Aside0.mk (Kd.R_elder' (by (with_reducible repeat (first | apply Kd.R_alloc | apply Kd.R_drewN | apply Kd.R_drew)); exact HO_9.out) (Kd.R_base ho0) hb); have n2_ := Aside0.mk (Kd.R_elder' (by (with_reducible repeat (first | apply Kd.R_alloc | apply Kd.R_drewN | apply Kd.R_drew)); exact HO144.out) (Kd.R_base ho0) hb); have n3_ := Aside0.mk (Kd.R_lower (Kd.R_new' (Kd.R_new' (Kd.R_new' ho0 (Kd.R_lt (by (with_reducible repeat (first | apply Kd.R_alloc | apply Kd.R_drewN | apply Kd.R_drew)); exact HO_7.out))) (Kd.R_lt (by (with_reducible repeat (first | apply Kd.R_alloc | apply Kd.R_drewN | apply Kd.R_drew)); exact HO_9.out))) (Kd.R_lt (by (with_reducible repeat (first | apply Kd.R_alloc | apply Kd.R_drewN | apply Kd.R_drew)); exact HO144.out))) (below_size (by repeat (first | (with_reducible first | exact HB.out | apply below_alloc | apply pw_below_drewN | apply below_drew1) | exact HB.out)))); have n4_ := Aside0.mk (below_step (by repeat (first | (with_reducible first | exact HB.out | apply below_alloc | apply pw_below_drewN | apply below_drew1) | exact HB.out)) hb); clear HO_7; clear HO_9; clear HO144; clear HB; have HO_7 := n0_; have HO_9 := n1_; have HO144 := n2_; have HO147 := n3_; have HB := n4_; clear n0_ n1_ n2_ n3_ n4_; (try clear hb); (try clear hb2); (try clear hk); (try clear hi); (try clear ho0); obtain ⟨Ao55, co55, eo55⟩ := Kd.R_slice HO144.out; subst eo55; obtain ⟨Ao56, co56, eo56⟩ := Kd.R_slice HO147.out; subst eo56) | (go_at_call 14; (with_reducible refine (mezzanineref01_Same.calls k2 _ _ t142 _ _ t145 t148 _ ?side1 ?side2 ?side3 ?side4 A51.out).mono ?_); (case side1 => repeat (first | exact (Kd.R_reads' HO144.out).2.2 | (with_reducible refine Kd.C_alloc ?_ _) | (with_reducible refine Kd.C_drewN ?_ _) | (with_reducible refine Kd.C_drew ?_))); (case side2 => exact (Kd.R_reads' HO144.out).2.1); (case side3 => repeat (first | exact (Kd.R_reads' HO147.out).2.2 | (with_reducible refine Kd.C_alloc ?_ _) | (with_reducible refine Kd.C_drewN ?_ _) | (with_reducible refine Kd.C_drew ?_))); (case side4 => exact (Kd.R_reads' HO147.out).2.1); rintro e w' ⟨rfl, ⟨nd, rfl⟩⟩))
                          go_ret
                          exact ⟨by first | rfl | (simp [errW_none, errW_some] <;> rfl) | (simp [*, errW_none, errW_some] <;> rfl), by repeat (first | (with_reducible first | exact HB.out | apply below_alloc | apply pw_below_drewN | apply below_drew1) | exact HB.out)⟩
                        · replace c48 := Bool.eq_false_iff.mpr c48
                          subst c48
                          have H1 : (some false) = some r := by rw [if_neg (show ¬ (false = true) by decide)] at H; exact H
                          clear H
                          have H := H1
                          clear H1
                          exact absurd (Option.some.inj H) (by rw [HT.out]; decide)
                      · replace c46 := Bool.eq_false_iff.mpr c46
                        subst c46
                        have H1 : (some false) = some r := by rw [if_neg (show ¬ (false = true) by decide)] at H; exact H
                        clear H
                        have H := H1
                        clear H1
                        exact absurd (Option.some.inj H) (by rw [HT.out]; decide)
                    · rw [if_neg c45] at H
                      have c45b0 : (t131 == t140) = false := beq_eq_false_iff_ne.mpr c45
                      have c45b1 : (t131 != t140) = true := bne_iff_ne.mpr c45
                      exact absurd (Option.some.inj H) (by rw [HT.out]; decide)
      · rw [if_neg c8] at H
        exact absurd H (by simp)
  · replace c5 := Bool.eq_false_iff.mpr c5
    subst c5
    have H1 : (some false) = some r := by rw [if_neg (show ¬ (false = true) by decide)] at H; exact H
    clear H
    have H := H1
    clear H1
    exact absurd (Option.some.inj H) (by rw [HT.out]; decide)

/-- THE ONE PURE STATEMENT of mezzaninelaw01_BitsOnes: yours. -/
def mezzaninelaw01_BitsOnes.Pure : Prop := ∀ (a0 : Int) (a1 : Int) (l2 : List Int), (Lit.int .u64 a0).wf = true → (Lit.int .i64 a1).wf = true → l2.length ≤ maxLen → l2.length * 8 ≤ 140737488351232 → (∀ x ∈ l2, (Lit.int .i64 x).wf = true) → ∃ k, mezzaninelaw01_BitsOnes.f k a0 a1 l2 = some true
theorem mezzaninelaw01_BitsOnes.walk (P : mezzaninelaw01_BitsOnes.Pure) (a0 : Int) (a1 : Int) (a2 : Option Addr) (len2 cap2 : Nat) (z2 : List Int) (w : World) (w0 : (Lit.int .u64 a0).wf = true) (w1 : (Lit.int .i64 a1).wf = true) (w2 : (a2 = none ∧ len2 = 0 ∧ cap2 = 0 ∧ z2 = []) ∨ ∃ x, a2 = some x ∧ len2 ≤ cap2 ∧ cap2 ≤ maxLen ∧ z2.length = cap2 ∧ (∀ i, i < z2.length → w.cell? (x.add i) = some (.int .i64 (z2.getD i 0))) ∧ ∀ n ∈ z2, (Lit.int .i64 n).wf = true) (y2 : len2 * 8 ≤ 140737488351232) (hT : Tab w) :
    Calls Tryd.prog 3 #[.int .u64 a0, .int .i64 a1, .slice a2 len2 cap2] w fun e w' => e = .returned (.bool true) ∧ Below w.heap.size w w' := by
  obtain ⟨l2, rfl, hr2, hm2, hw2, hc2⟩ := ReadsInt.ofRowC w2
  obtain ⟨k, h⟩ := P a0 a1 l2 w0 w1 hm2 y2 hw2
  refine (mezzaninelaw01_BitsOnes.calls k a0 a1 _ _ l2 true w (Kd.C_of_reads (d := (0 : Int)) (h1 := fun _ => rfl) hr2) hc2 rfl h (Tab.from hT (by repeat (first | (with_reducible first | exact HB.out | exact Below.refl _ _ | apply below_alloc | apply pw_below_drewN | apply below_drew1) | exact HB.out)))).mono ?_
  rintro e w' ⟨rfl, hd⟩
  exact ⟨rfl, hd⟩

end Go.Proofs.YtkcgihpnlekfnaaDoor.Q
