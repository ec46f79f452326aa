/- Where the Lean function of a Go function gives a value, the Go call returns that value and changes nothing that was there: for every input. (By a program of this session, and by hand.) -/
import Derived.Test.YtkcgihpnlekfnaaQx0
import Derived.Test.YtkcgihpnlekfnaaQx1
import Derived.Test.YtkcgihpnlekfnaaQx4
namespace Go.Proofs.Ytkcgihpnlekfnaa.Q
open Go.RowKit Go.Proofs.YtkcgihpnlekfnaaW.PrintWords Go.Proofs.YtkcgihpnlekfnaaW.PrintLast Go.Proofs.YtkcgihpnlekfnaaW.PrintMore
attribute [local go_sem] max2_int min2_int max_two min_two max_three min_three max_four min_four   -- for this text's walks alone
set_option linter.unusedVariables false
set_option linter.unusedSimpArgs false

/-! ### mezzaninelaw01_BitsBack: function 6 -/
mutual
def mezzaninelaw01_BitsBack.j0 : Nat → Int → Int → Int → Int → Int → Int → Int → Bool → Option (Bool)
  | 0, _, _, _, _, _, _, _, _ => none
  | k + 1, x0, x1, x2, x3, x4, x11, x12, x40 => if x40 = true then (some false) else (if x2 < 0 then (mezzaninelaw01_BitsBack.j1 k x0 x1 x2 x3 x4 x11 x12 true) else (if x2 > 63 then (mezzaninelaw01_BitsBack.j1 k x0 x1 x2 x3 x4 x11 x12 true) else (mezzaninelaw01_BitsBack.j1 k x0 x1 x2 x3 x4 x11 x12 (decide (x3 < 1)))))
def mezzaninelaw01_BitsBack.j1 : Nat → Int → Int → Int → Int → Int → Int → Int → Bool → Option (Bool)
  | 0, _, _, _, _, _, _, _, _ => none
  | k + 1, x0, x1, x2, x3, x4, x11, x12, x50 => if x50 = true then (if x11 = x0 then (some (x12 == 0)) else (some false)) else (if x3 > (wrap64 (64 - x2)) then (mezzaninelaw01_BitsBack.j2 k x0 x1 x2 x3 x4 x11 x12 (wrap64 (64 - x2))) else (mezzaninelaw01_BitsBack.j2 k x0 x1 x2 x3 x4 x11 x12 x3))
def mezzaninelaw01_BitsBack.j2 : Nat → Int → Int → Int → Int → Int → Int → Int → Int → Option (Bool)
  | 0, _, _, _, _, _, _, _, _ => none
  | k + 1, x0, x1, x2, x3, x4, x11, x12, x13 => (bits_Field.f x11 x2 x3).bind fun t137 => ((bits_Mask.f x13).bind fun t138 => (if t137 = (Go.bits .and .u64 x1 t138) then ((bits_Mask.f x2).bind fun t139 => ((bits_Mask.f x2).bind fun t140 => (mezzaninelaw01_BitsBack.j3 k x0 x2 x4 x11 x12 x13 ((Go.bits .and .u64 x11 t139) != (Go.bits .and .u64 x0 t140))))) else (mezzaninelaw01_BitsBack.j3 k x0 x2 x4 x11 x12 x13 true)))
def mezzaninelaw01_BitsBack.j3 : Nat → Int → Int → Int → Int → Int → Int → Bool → Option (Bool)
  | 0, _, _, _, _, _, _, _ => none
  | k + 1, x0, x2, x4, x11, x12, x13, x84 => if x84 = true then (some false) else (if (wrap64 (x2 + x13)) < 64 then (if 0 ≤ (IntKind.u64.wrap (wrap64 (x2 + x13))) then (mezzaninelaw01_BitsBack.j4 k x0 x2 x4 x12 x13 ((shr .u64 x11 (IntKind.u64.wrap (wrap64 (x2 + x13)))) != (shr .u64 x0 (IntKind.u64.wrap (wrap64 (x2 + x13)))))) else (none)) else (mezzaninelaw01_BitsBack.j4 k x0 x2 x4 x12 x13 false))
def mezzaninelaw01_BitsBack.j4 : Nat → Int → Int → Int → Int → Int → Bool → Option (Bool)
  | 0, _, _, _, _, _, _ => none
  | k + 1, x0, x2, x4, x12, x13, x103 => if x103 = true then (some false) else (if x4 < 1 then (mezzaninelaw01_BitsBack.j5 k x0 x2 x4 x12 x13 true) else (mezzaninelaw01_BitsBack.j5 k x0 x2 x4 x12 x13 (decide (x4 ≥ x13))))
def mezzaninelaw01_BitsBack.j5 : Nat → Int → Int → Int → Int → Int → Bool → Option (Bool)
  | 0, _, _, _, _, _, _ => none
  | k + 1, x0, x2, x4, x12, x13, x110 => if x110 = true then (some true) else ((bits_Field.f x0 x2 x4).bind fun t141 => ((bits_Field.f x0 (wrap64 (x2 + x4)) (wrap64 (x13 - x4))).bind fun t142 => (if 0 ≤ (IntKind.u64.wrap (x4)) then (some ((IntKind.u64.wrap (t141 + (shl .u64 t142 (IntKind.u64.wrap (x4))))) == x12)) else (none))))
end
def mezzaninelaw01_BitsBack.f (k : Nat) (a0 : Int) (a1 : Int) (a2 : Int) (a3 : Int) (a4 : Int) : Option (Bool) := (mezzaninelaw01_awake.f k).bind fun t132 => (if t132 = true then ((bits_Put.f a0 a2 a3 a1).bind fun t133 => ((bits_Field.f a0 a2 a3).bind fun t134 => ((bits_Put.f a0 a2 a3 t134).bind fun t135 => (if t135 = a0 then ((bits_Put.f t133 a2 a3 t134).bind fun t136 => (mezzaninelaw01_BitsBack.j0 k a0 a1 a2 a3 a4 t133 t134 (t136 != a0))) else (mezzaninelaw01_BitsBack.j0 k a0 a1 a2 a3 a4 t133 t134 true))))) else (some false))
theorem mezzaninelaw01_BitsBack.mono_l : ∀ k, (∀ y0 y1 y2 y3 y4 y5 y6 y7, LeO (mezzaninelaw01_BitsBack.j0 k y0 y1 y2 y3 y4 y5 y6 y7) (mezzaninelaw01_BitsBack.j0 (k + 1) y0 y1 y2 y3 y4 y5 y6 y7)) ∧ (∀ y0 y1 y2 y3 y4 y5 y6 y7, LeO (mezzaninelaw01_BitsBack.j1 k y0 y1 y2 y3 y4 y5 y6 y7) (mezzaninelaw01_BitsBack.j1 (k + 1) y0 y1 y2 y3 y4 y5 y6 y7)) ∧ (∀ y0 y1 y2 y3 y4 y5 y6 y7, LeO (mezzaninelaw01_BitsBack.j2 k y0 y1 y2 y3 y4 y5 y6 y7) (mezzaninelaw01_BitsBack.j2 (k + 1) y0 y1 y2 y3 y4 y5 y6 y7)) ∧ (∀ y0 y1 y2 y3 y4 y5 y6, LeO (mezzaninelaw01_BitsBack.j3 k y0 y1 y2 y3 y4 y5 y6) (mezzaninelaw01_BitsBack.j3 (k + 1) y0 y1 y2 y3 y4 y5 y6)) ∧ (∀ y0 y1 y2 y3 y4 y5, LeO (mezzaninelaw01_BitsBack.j4 k y0 y1 y2 y3 y4 y5) (mezzaninelaw01_BitsBack.j4 (k + 1) y0 y1 y2 y3 y4 y5)) ∧ (∀ y0 y1 y2 y3 y4 y5, LeO (mezzaninelaw01_BitsBack.j5 k y0 y1 y2 y3 y4 y5) (mezzaninelaw01_BitsBack.j5 (k + 1) y0 y1 y2 y3 y4 y5))
  | 0 => ⟨fun _ _ _ _ _ _ _ _ r h => by simp [mezzaninelaw01_BitsBack.j0] at h, fun _ _ _ _ _ _ _ _ r h => by simp [mezzaninelaw01_BitsBack.j1] at h, fun _ _ _ _ _ _ _ _ r h => by simp [mezzaninelaw01_BitsBack.j2] at h, fun _ _ _ _ _ _ _ r h => by simp [mezzaninelaw01_BitsBack.j3] at h, fun _ _ _ _ _ _ r h => by simp [mezzaninelaw01_BitsBack.j4] at h, fun _ _ _ _ _ _ r h => by simp [mezzaninelaw01_BitsBack.j5] at h⟩
  | k + 1 => by
    obtain ⟨ih0, ih1, ih2, ih3, ih4, ih5⟩ := mezzaninelaw01_BitsBack.mono_l k
    refine ⟨?_, ?_, ?_, ?_, ?_, ?_⟩
    · intro y0 y1 y2 y3 y4 y5 y6 y7
      unfold mezzaninelaw01_BitsBack.j0
      repeat' first
      | (with_reducible exact ih0 _ _ _ _ _ _ _ _)
      | (with_reducible exact ih1 _ _ _ _ _ _ _ _)
      | (with_reducible exact ih2 _ _ _ _ _ _ _ _)
      | (with_reducible exact ih3 _ _ _ _ _ _ _)
      | (with_reducible exact ih4 _ _ _ _ _ _)
      | (with_reducible exact ih5 _ _ _ _ _ _)
      | (with_reducible exact mezzaninelaw01_awake.mono _)
      | (with_reducible exact LeO.refl _)
      | (with_reducible exact LeO.none _)
      | (with_reducible refine LeO.ite ?_ ?_)
      | (with_reducible refine LeO.bind ?_ (fun _ => ?_))
      | exact ih0 _ _ _ _ _ _ _ _
      | exact ih1 _ _ _ _ _ _ _ _
      | exact ih2 _ _ _ _ _ _ _ _
      | exact ih3 _ _ _ _ _ _ _
      | exact ih4 _ _ _ _ _ _
      | exact ih5 _ _ _ _ _ _
      | exact mezzaninelaw01_awake.mono _
      | exact LeO.none _
      | refine LeO.ite ?_ ?_
      | refine LeO.bind ?_ (fun _ => ?_)
    · intro y0 y1 y2 y3 y4 y5 y6 y7
      unfold mezzaninelaw01_BitsBack.j1
      repeat' first
      | (with_reducible exact ih0 _ _ _ _ _ _ _ _)
      | (with_reducible exact ih1 _ _ _ _ _ _ _ _)
      | (with_reducible exact ih2 _ _ _ _ _ _ _ _)
      | (with_reducible exact ih3 _ _ _ _ _ _ _)
      | (with_reducible exact ih4 _ _ _ _ _ _)
      | (with_reducible exact ih5 _ _ _ _ _ _)
      | (with_reducible exact mezzaninelaw01_awake.mono _)
      | (with_reducible exact LeO.refl _)
      | (with_reducible exact LeO.none _)
      | (with_reducible refine LeO.ite ?_ ?_)
      | (with_reducible refine LeO.bind ?_ (fun _ => ?_))
      | exact ih0 _ _ _ _ _ _ _ _
      | exact ih1 _ _ _ _ _ _ _ _
      | exact ih2 _ _ _ _ _ _ _ _
      | exact ih3 _ _ _ _ _ _ _
      | exact ih4 _ _ _ _ _ _
      | exact ih5 _ _ _ _ _ _
      | exact mezzaninelaw01_awake.mono _
      | exact LeO.none _
      | refine LeO.ite ?_ ?_
      | refine LeO.bind ?_ (fun _ => ?_)
    · intro y0 y1 y2 y3 y4 y5 y6 y7
      unfold mezzaninelaw01_BitsBack.j2
      repeat' first
      | (with_reducible exact ih0 _ _ _ _ _ _ _ _)
      | (with_reducible exact ih1 _ _ _ _ _ _ _ _)
      | (with_reducible exact ih2 _ _ _ _ _ _ _ _)
      | (with_reducible exact ih3 _ _ _ _ _ _ _)
      | (with_reducible exact ih4 _ _ _ _ _ _)
      | (with_reducible exact ih5 _ _ _ _ _ _)
      | (with_reducible exact mezzaninelaw01_awake.mono _)
      | (with_reducible exact LeO.refl _)
      | (with_reducible exact LeO.none _)
      | (with_reducible refine LeO.ite ?_ ?_)
      | (with_reducible refine LeO.bind ?_ (fun _ => ?_))
      | exact ih0 _ _ _ _ _ _ _ _
      | exact ih1 _ _ _ _ _ _ _ _
      | exact ih2 _ _ _ _ _ _ _ _
      | exact ih3 _ _ _ _ _ _ _
      | exact ih4 _ _ _ _ _ _
      | exact ih5 _ _ _ _ _ _
      | exact mezzaninelaw01_awake.mono _
      | exact LeO.none _
      | refine LeO.ite ?_ ?_
      | refine LeO.bind ?_ (fun _ => ?_)
    · intro y0 y1 y2 y3 y4 y5 y6
      unfold mezzaninelaw01_BitsBack.j3
      repeat' first
      | (with_reducible exact ih0 _ _ _ _ _ _ _ _)
      | (with_reducible exact ih1 _ _ _ _ _ _ _ _)
      | (with_reducible exact ih2 _ _ _ _ _ _ _ _)
      | (with_reducible exact ih3 _ _ _ _ _ _ _)
      | (with_reducible exact ih4 _ _ _ _ _ _)
      | (with_reducible exact ih5 _ _ _ _ _ _)
      | (with_reducible exact mezzaninelaw01_awake.mono _)
      | (with_reducible exact LeO.refl _)
      | (with_reducible exact LeO.none _)
      | (with_reducible refine LeO.ite ?_ ?_)
      | (with_reducible refine LeO.bind ?_ (fun _ => ?_))
      | exact ih0 _ _ _ _ _ _ _ _
      | exact ih1 _ _ _ _ _ _ _ _
      | exact ih2 _ _ _ _ _ _ _ _
      | exact ih3 _ _ _ _ _ _ _
      | exact ih4 _ _ _ _ _ _
      | exact ih5 _ _ _ _ _ _
      | exact mezzaninelaw01_awake.mono _
      | exact LeO.none _
      | refine LeO.ite ?_ ?_
      | refine LeO.bind ?_ (fun _ => ?_)
    · intro y0 y1 y2 y3 y4 y5
      unfold mezzaninelaw01_BitsBack.j4
      repeat' first
      | (with_reducible exact ih0 _ _ _ _ _ _ _ _)
      | (with_reducible exact ih1 _ _ _ _ _ _ _ _)
      | (with_reducible exact ih2 _ _ _ _ _ _ _ _)
      | (with_reducible exact ih3 _ _ _ _ _ _ _)
      | (with_reducible exact ih4 _ _ _ _ _ _)
      | (with_reducible exact ih5 _ _ _ _ _ _)
      | (with_reducible exact mezzaninelaw01_awake.mono _)
      | (with_reducible exact LeO.refl _)
      | (with_reducible exact LeO.none _)
      | (with_reducible refine LeO.ite ?_ ?_)
      | (with_reducible refine LeO.bind ?_ (fun _ => ?_))
      | exact ih0 _ _ _ _ _ _ _ _
      | exact ih1 _ _ _ _ _ _ _ _
      | exact ih2 _ _ _ _ _ _ _ _
      | exact ih3 _ _ _ _ _ _ _
      | exact ih4 _ _ _ _ _ _
      | exact ih5 _ _ _ _ _ _
      | exact mezzaninelaw01_awake.mono _
      | exact LeO.none _
      | refine LeO.ite ?_ ?_
      | refine LeO.bind ?_ (fun _ => ?_)
    · intro y0 y1 y2 y3 y4 y5
      unfold mezzaninelaw01_BitsBack.j5
      repeat' first
      | (with_reducible exact ih0 _ _ _ _ _ _ _ _)
      | (with_reducible exact ih1 _ _ _ _ _ _ _ _)
      | (with_reducible exact ih2 _ _ _ _ _ _ _ _)
      | (with_reducible exact ih3 _ _ _ _ _ _ _)
      | (with_reducible exact ih4 _ _ _ _ _ _)
      | (with_reducible exact ih5 _ _ _ _ _ _)
      | (with_reducible exact mezzaninelaw01_awake.mono _)
      | (with_reducible exact LeO.refl _)
      | (with_reducible exact LeO.none _)
      | (with_reducible refine LeO.ite ?_ ?_)
      | (with_reducible refine LeO.bind ?_ (fun _ => ?_))
      | exact ih0 _ _ _ _ _ _ _ _
      | exact ih1 _ _ _ _ _ _ _ _
      | exact ih2 _ _ _ _ _ _ _ _
      | exact ih3 _ _ _ _ _ _ _
      | exact ih4 _ _ _ _ _ _
      | exact ih5 _ _ _ _ _ _
      | exact mezzaninelaw01_awake.mono _
      | exact LeO.none _
      | refine LeO.ite ?_ ?_
      | refine LeO.bind ?_ (fun _ => ?_)
theorem mezzaninelaw01_BitsBack.mono : ∀ a0 a1 a2 a3 a4 k, LeO (mezzaninelaw01_BitsBack.f k a0 a1 a2 a3 a4) (mezzaninelaw01_BitsBack.f (k + 1) a0 a1 a2 a3 a4) := by
  intro a0 a1 a2 a3 a4 k
  obtain ⟨ih0, ih1, ih2, ih3, ih4, ih5⟩ := mezzaninelaw01_BitsBack.mono_l k
  unfold mezzaninelaw01_BitsBack.f
  repeat' first
      | (with_reducible exact ih0 _ _ _ _ _ _ _ _)
      | (with_reducible exact ih1 _ _ _ _ _ _ _ _)
      | (with_reducible exact ih2 _ _ _ _ _ _ _ _)
      | (with_reducible exact ih3 _ _ _ _ _ _ _)
      | (with_reducible exact ih4 _ _ _ _ _ _)
      | (with_reducible exact ih5 _ _ _ _ _ _)
      | (with_reducible exact mezzaninelaw01_awake.mono _)
      | (with_reducible exact LeO.refl _)
      | (with_reducible exact LeO.none _)
      | (with_reducible refine LeO.ite ?_ ?_)
      | (with_reducible refine LeO.bind ?_ (fun _ => ?_))
      | exact ih0 _ _ _ _ _ _ _ _
      | exact ih1 _ _ _ _ _ _ _ _
      | exact ih2 _ _ _ _ _ _ _ _
      | exact ih3 _ _ _ _ _ _ _
      | exact ih4 _ _ _ _ _ _
      | exact ih5 _ _ _ _ _ _
      | exact mezzaninelaw01_awake.mono _
      | exact LeO.none _
      | refine LeO.ite ?_ ?_
      | refine LeO.bind ?_ (fun _ => ?_)
set_option maxHeartbeats 8000000 in
set_option maxRecDepth 100000 in
theorem mezzaninelaw01_BitsBack.calls (k : Nat) (a0 : Int) (a1 : Int) (a2 : Int) (a3 : Int) (a4 : Int) (r : Bool) (w : World) (h : mezzaninelaw01_BitsBack.f k a0 a1 a2 a3 a4 = some r) :
    Calls Try.prog 6 #[.int .u64 a0, .int .u64 a1, .int .i64 a2, .int .i64 a3, .int .i64 a4] w fun e w' => e = .returned (.bool r) ∧ Below w.heap.size w w' := by
  have HB := Aside0.mk (Below.refl w.heap.size w)
  have H : ((mezzaninelaw01_awake.f k).bind fun t132 => (if t132 = true then ((bits_Put.f a0 a2 a3 a1).bind fun t133 => ((bits_Field.f a0 a2 a3).bind fun t134 => ((bits_Put.f a0 a2 a3 t134).bind fun t135 => (if t135 = a0 then ((bits_Put.f t133 a2 a3 t134).bind fun t136 => (mezzaninelaw01_BitsBack.j0 k a0 a1 a2 a3 a4 t133 t134 (t136 != a0))) else (mezzaninelaw01_BitsBack.j0 k a0 a1 a2 a3 a4 t133 t134 true))))) else (some false))) = some r := h
  clear h
  replace H := Option.bind_eq_some_iff.mp H
  obtain ⟨t132, A60, H⟩ := H
  replace H : (if t132 = true then ((bits_Put.f a0 a2 a3 a1).bind fun t133 => ((bits_Field.f a0 a2 a3).bind fun t134 => ((bits_Put.f a0 a2 a3 t134).bind fun t135 => (if t135 = a0 then ((bits_Put.f t133 a2 a3 t134).bind fun t136 => (mezzaninelaw01_BitsBack.j0 k a0 a1 a2 a3 a4 t133 t134 (t136 != a0))) else (mezzaninelaw01_BitsBack.j0 k a0 a1 a2 a3 a4 t133 t134 true))))) else (some false)) = some r := H
  have A6 := Aside0.mk A60
  clear A60
  by_cases c7 : t132 = true
  · subst c7
    have H1 : ((bits_Put.f a0 a2 a3 a1).bind fun t133 => ((bits_Field.f a0 a2 a3).bind fun t134 => ((bits_Put.f a0 a2 a3 t134).bind fun t135 => (if t135 = a0 then ((bits_Put.f t133 a2 a3 t134).bind fun t136 => (mezzaninelaw01_BitsBack.j0 k a0 a1 a2 a3 a4 t133 t134 (t136 != a0))) else (mezzaninelaw01_BitsBack.j0 k a0 a1 a2 a3 a4 t133 t134 true))))) = some r := by rw [if_pos rfl] at H; exact H
    clear H
    have H := H1
    clear H1
    replace H := Option.bind_eq_some_iff.mp H
    obtain ⟨t133, A80, H⟩ := H
    replace H : ((bits_Field.f a0 a2 a3).bind fun t134 => ((bits_Put.f a0 a2 a3 t134).bind fun t135 => (if t135 = a0 then ((bits_Put.f t133 a2 a3 t134).bind fun t136 => (mezzaninelaw01_BitsBack.j0 k a0 a1 a2 a3 a4 t133 t134 (t136 != a0))) else (mezzaninelaw01_BitsBack.j0 k a0 a1 a2 a3 a4 t133 t134 true)))) = some r := H
    have A8 := Aside0.mk A80
    clear A80
    replace H := Option.bind_eq_some_iff.mp H
    obtain ⟨t134, A90, H⟩ := H
    replace H : ((bits_Put.f a0 a2 a3 t134).bind fun t135 => (if t135 = a0 then ((bits_Put.f t133 a2 a3 t134).bind fun t136 => (mezzaninelaw01_BitsBack.j0 k a0 a1 a2 a3 a4 t133 t134 (t136 != a0))) else (mezzaninelaw01_BitsBack.j0 k a0 a1 a2 a3 a4 t133 t134 true))) = some r := H
    have A9 := Aside0.mk A90
    clear A90
    have HC10 := Aside0.mk H
    clear H
    go_enter Try.func6, Try.ntmps6
    go_upto_region 5 with (first | ((with_reducible refine gate_callee (f := 8) rfl ?_); refine goesL_ (some 14) rfl rfl Try.func8 (by kernel_rfl) rfl #[] rfl (by (try simp only [List.map_toArray, List.map_cons, List.map_nil]); first | done | rfl | (simp only [List.length_drop, List.length_take]; rfl)) ?_; (with_reducible refine (mezzaninelaw01_awake.calls k  true _ A6.out).mono ?_); rintro e w11 ⟨rfl, hb⟩; refine ⟨_, rfl, ?_⟩; have n0_ := Aside0.mk (below_step (by repeat (first | (with_reducible first | exact HB.out | apply below_alloc | apply pw_below_drewN | apply below_drew1) | exact HB.out)) hb); clear HB; have HB := n0_; clear n0_; (try clear hb); (try clear hb2); (try clear hk); (try clear hi)) | ((with_reducible refine gate_callee (f := 17) rfl ?_); refine goesL_ (some 20) rfl rfl Try.func17 (by kernel_rfl) rfl #[.int .u64 a0, .int .i64 a2, .int .i64 a3, .int .u64 a1] rfl (by (try simp only [List.map_toArray, List.map_cons, List.map_nil]); first | done | rfl | (simp only [List.length_drop, List.length_take]; rfl)) ?_; (with_reducible refine (bits_Put.calls a0 a2 a3 a1 t133 _ A8.out).mono ?_); rintro e w12 ⟨rfl, hb⟩; refine ⟨_, rfl, ?_⟩; have n0_ := Aside0.mk (below_step (by repeat (first | (with_reducible first | exact HB.out | apply below_alloc | apply pw_below_drewN | apply below_drew1) | exact HB.out)) hb); clear HB; have HB := n0_; clear n0_; (try clear hb); (try clear hb2); (try clear hk); (try clear hi)) | ((with_reducible refine gate_callee (f := 13) rfl ?_); refine goesL_ (some 24) rfl rfl Try.func13 (by kernel_rfl) rfl #[.int .u64 a0, .int .i64 a2, .int .i64 a3] rfl (by (try simp only [List.map_toArray, List.map_cons, List.map_nil]); first | done | rfl | (simp only [List.length_drop, List.length_take]; rfl)) ?_; (with_reducible refine (bits_Field.calls a0 a2 a3 t134 _ A9.out).mono ?_); rintro e w13 ⟨rfl, hb⟩; refine ⟨_, rfl, ?_⟩; have n0_ := Aside0.mk (below_step (by repeat (first | (with_reducible first | exact HB.out | apply below_alloc | apply pw_below_drewN | apply below_drew1) | exact HB.out)) hb); clear HB; have HB := n0_; clear n0_; (try clear hb); (try clear hb2); (try clear hk); (try clear hi)))
    (try simp only [Act.put, List.setIfInBounds_toArray, List.set_cons_zero, List.set_cons_succ])
    go_cut [40] (fun v40 wc => ∃ (kq : Nat) (x40_9 : Bool), v40 = .bool x40_9 ∧ Aside0 (mezzaninelaw01_BitsBack.j0 kq a0 a1 a2 a3 a4 t133 t134 x40_9 = some r) ∧ Aside0 (kq ≤ k) ∧ Aside0 (Below w.heap.size w wc))
    case first =>
      have H := HC10.out
      clear HC10
      replace H := Option.bind_eq_some_iff.mp H
      obtain ⟨t135, A140, H⟩ := H
      replace H : (if t135 = a0 then ((bits_Put.f t133 a2 a3 t134).bind fun t136 => (mezzaninelaw01_BitsBack.j0 k a0 a1 a2 a3 a4 t133 t134 (t136 != a0))) else (mezzaninelaw01_BitsBack.j0 k a0 a1 a2 a3 a4 t133 t134 true)) = some r := H
      have A14 := Aside0.mk A140
      clear A140
      by_cases c15 : t135 = a0
      · rw [if_pos c15] at H
        have c15b0 : (t135 == a0) = true := beq_iff_eq.mpr c15
        have c15b1 : (t135 != a0) = false := bne_eq_false_iff_eq.mpr c15
        clear c15
        (first | rw [c15b0] | (simp only [i64_w, i32_w]; rw [c15b0]) | skip)
        replace H := Option.bind_eq_some_iff.mp H
        obtain ⟨t136, A160, H⟩ := H
        replace H : (mezzaninelaw01_BitsBack.j0 k a0 a1 a2 a3 a4 t133 t134 (t136 != a0)) = some r := H
        have A16 := Aside0.mk A160
        clear A160
        have H' := Aside0.mk H
        clear H
        go_wp2_with (first | ((with_reducible refine gate_callee (f := 17) rfl ?_); refine goesL_ (some 29) rfl rfl Try.func17 (by kernel_rfl) rfl #[.int .u64 a0, .int .i64 a2, .int .i64 a3, .int .u64 t134] rfl (by (try simp only [List.map_toArray, List.map_cons, List.map_nil]); first | done | rfl | (simp only [List.length_drop, List.length_take]; rfl)) ?_; (with_reducible refine (bits_Put.calls a0 a2 a3 t134 t135 _ A14.out).mono ?_); rintro e w17 ⟨rfl, hb⟩; refine ⟨_, rfl, ?_⟩; have n0_ := Aside0.mk (below_step (by repeat (first | (with_reducible first | exact HB.out | apply below_alloc | apply pw_below_drewN | apply below_drew1) | exact HB.out)) hb); clear HB; have HB := n0_; clear n0_; (try clear hb); (try clear hb2); (try clear hk); (try clear hi)) | (go_at_call 17; (with_reducible refine (bits_Put.calls t133 a2 a3 t134 t136 _ A16.out).mono ?_); rintro e w18 ⟨rfl, hb⟩; have n0_ := Aside0.mk (below_step (by repeat (first | (with_reducible first | exact HB.out | apply below_alloc | apply pw_below_drewN | apply below_drew1) | exact HB.out)) hb); clear HB; have HB := n0_; clear n0_; (try clear hb); (try clear hb2); (try clear hk); (try clear hi)))
        go_meet
        case rel => exact ⟨_, ((t136 != a0)), (by first | rfl | (simp; done) | (simp [*]; done)), H', ⟨by first | omega | exact Nat.le_refl _⟩, ⟨by repeat (first | (with_reducible first | exact HB.out | apply below_alloc | apply pw_below_drewN | apply below_drew1) | exact HB.out)⟩⟩
      · rw [if_neg c15] at H
        have c15b0 : (t135 == a0) = false := beq_eq_false_iff_ne.mpr c15
        have c15b1 : (t135 != a0) = true := bne_iff_ne.mpr c15
        (first | rw [c15b0] | (simp only [i64_w, i32_w]; rw [c15b0]) | skip)
        have H' := Aside0.mk H
        clear H
        go_wp2_with (first | ((with_reducible refine gate_callee (f := 17) rfl ?_); refine goesL_ (some 29) rfl rfl Try.func17 (by kernel_rfl) rfl #[.int .u64 a0, .int .i64 a2, .int .i64 a3, .int .u64 t134] rfl (by (try simp only [List.map_toArray, List.map_cons, List.map_nil]); first | done | rfl | (simp only [List.length_drop, List.length_take]; rfl)) ?_; (with_reducible refine (bits_Put.calls a0 a2 a3 t134 t135 _ A14.out).mono ?_); rintro e w19 ⟨rfl, hb⟩; refine ⟨_, rfl, ?_⟩; have n0_ := Aside0.mk (below_step (by repeat (first | (with_reducible first | exact HB.out | apply below_alloc | apply pw_below_drewN | apply below_drew1) | exact HB.out)) hb); clear HB; have HB := n0_; clear n0_; (try clear hb); (try clear hb2); (try clear hk); (try clear hi)))
        go_meet
        case rel => exact ⟨_, (true), (by first | rfl | (simp; done) | (simp [*]; done)), H', ⟨by first | omega | exact Nat.le_refl _⟩, ⟨by repeat (first | (with_reducible first | exact HB.out | apply below_alloc | apply pw_below_drewN | apply below_drew1) | exact HB.out)⟩⟩
    case rest =>
      clear HC10
      try clear c1
      try clear p2
      try clear c6
      try clear c7
      try clear c8
      try clear c13
      try clear c15
      try clear c15b0
      try clear c15b1
      try clear c17
      obtain ⟨kq, x40_9, rfl, HA, HJ9, HB⟩ := hcut
      cases kq with
      | zero => exact absurd HA.out (by simp [mezzaninelaw01_BitsBack.j0])
      | succ kj9 =>
        have H := HA.out
        clear HA
        simp only [mezzaninelaw01_BitsBack.j0] at H
        by_cases c20 : x40_9 = true
        · subst c20
          have H1 : (some false) = some r := by rw [if_pos rfl] at H; exact H
          clear H
          have H := H1
          clear H1
          obtain rfl := Option.some.inj H
          go_wp2
          go_ret
          exact ⟨by first | rfl | (simp [errW_none, errW_some] <;> rfl) | (simp [*, errW_none, errW_some] <;> rfl), by repeat (first | (with_reducible first | exact HB.out | apply below_alloc | apply pw_below_drewN | apply below_drew1) | exact HB.out)⟩
        · replace c20 := Bool.eq_false_iff.mpr c20
          subst c20
          have H1 : (if a2 < 0 then (mezzaninelaw01_BitsBack.j1 kj9 a0 a1 a2 a3 a4 t133 t134 true) else (if a2 > 63 then (mezzaninelaw01_BitsBack.j1 kj9 a0 a1 a2 a3 a4 t133 t134 true) else (mezzaninelaw01_BitsBack.j1 kj9 a0 a1 a2 a3 a4 t133 t134 (decide (a3 < 1))))) = some r := by rw [if_neg (show ¬ (false = true) by decide)] at H; exact H
          clear H
          have H := H1
          clear H1
          have HC21 := Aside0.mk H
          clear H
          go_upto_region 7 with (fail)
          go_cut [50] (fun v50 wc => ∃ (kq : Nat) (x50_20 : Bool), v50 = .bool x50_20 ∧ Aside0 (mezzaninelaw01_BitsBack.j1 kq a0 a1 a2 a3 a4 t133 t134 x50_20 = some r) ∧ Aside0 (kq ≤ kj9) ∧ Aside0 (Below w.heap.size w wc))
          case first =>
            have H := HC21.out
            clear HC21
            by_cases c22 : a2 < 0
            · rw [if_pos c22] at H
              have c22b0 : decide (a2 < 0) = true := decide_eq_true c22
              clear c22
              (first | rw [c22b0] | (simp only [i64_w, i32_w]; rw [c22b0]) | skip)
              have H' := Aside0.mk H
              clear H
              go_wp2
              go_meet
              case rel => exact ⟨_, (true), (by first | rfl | (simp; done) | (simp [*]; done)), H', ⟨by have := HJ9.out; first | omega | exact Nat.le_refl _⟩, ⟨by repeat (first | (with_reducible first | exact HB.out | apply below_alloc | apply pw_below_drewN | apply below_drew1) | exact HB.out)⟩⟩
            · rw [if_neg c22] at H
              have c22b0 : decide (a2 < 0) = false := decide_eq_false c22
              clear c22
              (first | rw [c22b0] | (simp only [i64_w, i32_w]; rw [c22b0]) | skip)
              by_cases c23 : a2 > 63
              · rw [if_pos c23] at H
                have c23b0 : decide (63 < a2) = true := decide_eq_true c23
                clear c23
                have H' := Aside0.mk H
                clear H
                go_wp2
                go_meet
                case rel => exact ⟨_, (true), (by first | rfl | (simp; done) | (simp [*]; done)), H', ⟨by have := HJ9.out; first | omega | exact Nat.le_refl _⟩, ⟨by repeat (first | (with_reducible first | exact HB.out | apply below_alloc | apply pw_below_drewN | apply below_drew1) | exact HB.out)⟩⟩
              · rw [if_neg c23] at H
                have c23b0 : decide (63 < a2) = false := decide_eq_false c23
                clear c23
                have H' := Aside0.mk H
                clear H
                go_wp2
                go_meet
                case rel => exact ⟨_, (decide (a3 < 1)), (by first | rfl | (simp; done) | (simp [*]; done)), H', ⟨by have := HJ9.out; first | omega | exact Nat.le_refl _⟩, ⟨by repeat (first | (with_reducible first | exact HB.out | apply below_alloc | apply pw_below_drewN | apply below_drew1) | exact HB.out)⟩⟩
          case rest =>
            clear HC21
            try clear c1
            try clear c2
            try clear p2
            try clear c6
            try clear c7
            try clear c8
            try clear c13
            try clear c15
            try clear c15b0
            try clear c15b1
            try clear c17
            try clear c20
            try clear c22
            try clear c22b0
            try clear c23
            try clear c23b0
            try clear p2
            obtain ⟨kq, x50_20, rfl, HA, HJ20, HB⟩ := hcut
            cases kq with
            | zero => exact absurd HA.out (by simp [mezzaninelaw01_BitsBack.j1])
            | succ kj20 =>
              have H := HA.out
              clear HA
              simp only [mezzaninelaw01_BitsBack.j1] at H
              by_cases c24 : x50_20 = true
              · subst c24
                have H1 : (if t133 = a0 then (some (t134 == 0)) else (some false)) = some r := by rw [if_pos rfl] at H; exact H
                clear H
                have H := H1
                clear H1
                by_cases c25 : t133 = a0
                · rw [if_pos c25] at H
                  have c25b0 : (t133 == a0) = true := beq_iff_eq.mpr c25
                  have c25b1 : (t133 != a0) = false := bne_eq_false_iff_eq.mpr c25
                  clear c25
                  obtain rfl := Option.some.inj H
                  go_wp2
                  go_ret
                  exact ⟨by first | rfl | (simp [errW_none, errW_some] <;> rfl) | (simp [*, errW_none, errW_some] <;> rfl), by repeat (first | (with_reducible first | exact HB.out | apply below_alloc | apply pw_below_drewN | apply below_drew1) | exact HB.out)⟩
                · rw [if_neg c25] at H
                  have c25b0 : (t133 == a0) = false := beq_eq_false_iff_ne.mpr c25
                  have c25b1 : (t133 != a0) = true := bne_iff_ne.mpr c25
                  obtain rfl := Option.some.inj H
                  go_wp2
                  go_ret
                  exact ⟨by first | rfl | (simp [errW_none, errW_some] <;> rfl) | (simp [*, errW_none, errW_some] <;> rfl), by repeat (first | (with_reducible first | exact HB.out | apply below_alloc | apply pw_below_drewN | apply below_drew1) | exact HB.out)⟩
              · replace c24 := Bool.eq_false_iff.mpr c24
                subst c24
                have H1 : (if a3 > (wrap64 (64 - a2)) then (mezzaninelaw01_BitsBack.j2 kj20 a0 a1 a2 a3 a4 t133 t134 (wrap64 (64 - a2))) else (mezzaninelaw01_BitsBack.j2 kj20 a0 a1 a2 a3 a4 t133 t134 a3)) = some r := by rw [if_neg (show ¬ (false = true) by decide)] at H; exact H
                clear H
                have H := H1
                clear H1
                have HC26 := Aside0.mk H
                clear H
                go_upto_if 62 with (fail)
                go_cut [13] (fun v13 wc => ∃ (kq : Nat) (x13_25 : Int), v13 = .int .i64 x13_25 ∧ Aside0 (mezzaninelaw01_BitsBack.j2 kq a0 a1 a2 a3 a4 t133 t134 x13_25 = some r) ∧ Aside0 (kq ≤ kj20) ∧ Aside0 (Below w.heap.size w wc))
                case first =>
                  have H := HC26.out
                  clear HC26
                  by_cases c27 : a3 > (wrap64 (64 - a2))
                  · rw [if_pos c27] at H
                    have c27b0 : decide ((wrap64 (64 - a2)) < a3) = true := decide_eq_true c27
                    clear c27
                    (first | rw [c27b0] | (simp only [i64_w, i32_w]; rw [c27b0]) | skip)
                    have H' := Aside0.mk H
                    clear H
                    go_wp2
                    go_meet
                    case rel => exact ⟨_, (wrap64 (64 - a2)), (by first | rfl | (simp; done) | (simp [*]; done)), H', ⟨by have := HJ9.out; have := HJ20.out; first | omega | exact Nat.le_refl _⟩, ⟨by repeat (first | (with_reducible first | exact HB.out | apply below_alloc | apply pw_below_drewN | apply below_drew1) | exact HB.out)⟩⟩
                  · rw [if_neg c27] at H
                    have c27b0 : decide ((wrap64 (64 - a2)) < a3) = false := decide_eq_false c27
                    clear c27
                    (first | rw [c27b0] | (simp only [i64_w, i32_w]; rw [c27b0]) | skip)
                    have H' := Aside0.mk H
                    clear H
                    go_wp2
                    go_meet
                    case rel => exact ⟨_, (a3), (by first | rfl | (simp; done) | (simp [*]; done)), H', ⟨by have := HJ9.out; have := HJ20.out; first | omega | exact Nat.le_refl _⟩, ⟨by repeat (first | (with_reducible first | exact HB.out | apply below_alloc | apply pw_below_drewN | apply below_drew1) | exact HB.out)⟩⟩
                case rest =>
                  clear HC26
                  try clear c1
                  try clear c2
                  try clear p2
                  try clear c6
                  try clear p6
                  try clear c7
                  try clear c8
                  try clear c13
                  try clear c15
                  try clear c15b0
                  try clear c15b1
                  try clear c17
                  try clear c20
                  try clear c22
                  try clear c22b0
                  try clear c23
                  try clear c23b0
                  try clear c24
                  try clear c25
                  try clear c25b0
                  try clear c25b1
                  try clear c27
                  try clear c27b0
                  try clear p2
                  obtain ⟨kq, x13_25, rfl, HA, HJ25, HB⟩ := hcut
                  cases kq with
                  | zero => exact absurd HA.out (by simp [mezzaninelaw01_BitsBack.j2])
                  | succ kj25 =>
                    have H := HA.out
                    clear HA
                    simp only [mezzaninelaw01_BitsBack.j2] at H
                    have HC28 := Aside0.mk H
                    clear H
                    go_upto_region 12 with (fail)
                    go_cut [84] (fun v84 wc => ∃ (kq : Nat) (x84_27 : Bool), v84 = .bool x84_27 ∧ Aside0 (mezzaninelaw01_BitsBack.j3 kq a0 a2 a4 t133 t134 x13_25 x84_27 = some r) ∧ Aside0 (kq ≤ kj25) ∧ Aside0 (Below w.heap.size w wc))
                    case first =>
                      have H := HC28.out
                      clear HC28
                      replace H := Option.bind_eq_some_iff.mp H
                      obtain ⟨t137, A290, H⟩ := H
                      replace H : ((bits_Mask.f x13_25).bind fun t138 => (if t137 = (Go.bits .and .u64 a1 t138) then ((bits_Mask.f a2).bind fun t139 => ((bits_Mask.f a2).bind fun t140 => (mezzaninelaw01_BitsBack.j3 kj25 a0 a2 a4 t133 t134 x13_25 ((Go.bits .and .u64 t133 t139) != (Go.bits .and .u64 a0 t140))))) else (mezzaninelaw01_BitsBack.j3 kj25 a0 a2 a4 t133 t134 x13_25 true))) = some r := H
                      have A29 := Aside0.mk A290
                      clear A290
                      replace H := Option.bind_eq_some_iff.mp H
                      obtain ⟨t138, A300, H⟩ := H
                      replace H : (if t137 = (Go.bits .and .u64 a1 t138) then ((bits_Mask.f a2).bind fun t139 => ((bits_Mask.f a2).bind fun t140 => (mezzaninelaw01_BitsBack.j3 kj25 a0 a2 a4 t133 t134 x13_25 ((Go.bits .and .u64 t133 t139) != (Go.bits .and .u64 a0 t140))))) else (mezzaninelaw01_BitsBack.j3 kj25 a0 a2 a4 t133 t134 x13_25 true)) = some r := H
                      have A30 := Aside0.mk A300
                      clear A300
                      by_cases c31 : t137 = (Go.bits .and .u64 a1 t138)
                      · rw [if_pos c31] at H
                        have c31b0 : (t137 == (Go.bits .and .u64 a1 t138)) = true := beq_iff_eq.mpr c31
                        have c31b1 : (t137 != (Go.bits .and .u64 a1 t138)) = false := bne_eq_false_iff_eq.mpr c31
                        clear c31
                        (first | rw [c31b0] | (simp only [i64_w, i32_w]; rw [c31b0]) | skip)
                        replace H := Option.bind_eq_some_iff.mp H
                        obtain ⟨t139, A320, H⟩ := H
                        replace H : ((bits_Mask.f a2).bind fun t140 => (mezzaninelaw01_BitsBack.j3 kj25 a0 a2 a4 t133 t134 x13_25 ((Go.bits .and .u64 t133 t139) != (Go.bits .and .u64 a0 t140)))) = some r := H
                        have A32 := Aside0.mk A320
                        clear A320
                        replace H := Option.bind_eq_some_iff.mp H
                        obtain ⟨t140, A330, H⟩ := H
                        replace H : (mezzaninelaw01_BitsBack.j3 kj25 a0 a2 a4 t133 t134 x13_25 ((Go.bits .and .u64 t133 t139) != (Go.bits .and .u64 a0 t140))) = some r := H
                        have A33 := Aside0.mk A330
                        clear A330
                        have eA33 : t140 = t139 := Option.some.inj (A33.out.symm.trans A32.out)
                        have H' := Aside0.mk H
                        clear H
                        go_wp2_with (first | ((with_reducible refine gate_callee (f := 13) rfl ?_); refine goesL_ (some 68) rfl rfl Try.func13 (by kernel_rfl) rfl #[.int .u64 t133, .int .i64 a2, .int .i64 a3] rfl (by (try simp only [List.map_toArray, List.map_cons, List.map_nil]); first | done | rfl | (simp only [List.length_drop, List.length_take]; rfl)) ?_; (with_reducible refine (bits_Field.calls t133 a2 a3 t137 _ A29.out).mono ?_); rintro e w34 ⟨rfl, hb⟩; refine ⟨_, rfl, ?_⟩; have n0_ := Aside0.mk (below_step (by repeat (first | (with_reducible first | exact HB.out | apply below_alloc | apply pw_below_drewN | apply below_drew1) | exact HB.out)) hb); clear HB; have HB := n0_; clear n0_; (try clear hb); (try clear hb2); (try clear hk); (try clear hi)) | ((with_reducible refine gate_callee (f := 14) rfl ?_); refine goesL_ (some 71) rfl rfl Try.func14 (by kernel_rfl) rfl #[.int .i64 x13_25] rfl (by (try simp only [List.map_toArray, List.map_cons, List.map_nil]); first | done | rfl | (simp only [List.length_drop, List.length_take]; rfl)) ?_; (with_reducible refine (bits_Mask.calls x13_25 t138 _ A30.out).mono ?_); rintro e w' ⟨rfl, ⟨nd, rfl⟩⟩; refine ⟨_, rfl, ?_⟩) | (go_at_call 14; (with_reducible refine (bits_Mask.calls a2 t139 _ A32.out).mono ?_); rintro e w' ⟨rfl, ⟨nd, rfl⟩⟩) | (go_at_call 14; (with_reducible refine (bits_Mask.calls a2 t140 _ A33.out).mono ?_); rintro e w' ⟨rfl, ⟨nd, rfl⟩⟩))
                        go_meet
                        case rel => exact ⟨_, (((Go.bits .and .u64 t133 t139) != (Go.bits .and .u64 a0 t140))), (by first | rfl | (simp; done) | (simp [*]; done)), H', ⟨by have := HJ9.out; have := HJ20.out; have := HJ25.out; first | omega | exact Nat.le_refl _⟩, ⟨by repeat (first | (with_reducible first | exact HB.out | apply below_alloc | apply pw_below_drewN | apply below_drew1) | exact HB.out)⟩⟩
                      · rw [if_neg c31] at H
                        have c31b0 : (t137 == (Go.bits .and .u64 a1 t138)) = false := beq_eq_false_iff_ne.mpr c31
                        have c31b1 : (t137 != (Go.bits .and .u64 a1 t138)) = true := bne_iff_ne.mpr c31
                        (first | rw [c31b0] | (simp only [i64_w, i32_w]; rw [c31b0]) | skip)
                        have H' := Aside0.mk H
                        clear H
                        go_wp2_with (first | ((with_reducible refine gate_callee (f := 13) rfl ?_); refine goesL_ (some 68) rfl rfl Try.func13 (by kernel_rfl) rfl #[.int .u64 t133, .int .i64 a2, .int .i64 a3] rfl (by (try simp only [List.map_toArray, List.map_cons, List.map_nil]); first | done | rfl | (simp only [List.length_drop, List.length_take]; rfl)) ?_; (with_reducible refine (bits_Field.calls t133 a2 a3 t137 _ A29.out).mono ?_); rintro e w35 ⟨rfl, hb⟩; refine ⟨_, rfl, ?_⟩; have n0_ := Aside0.mk (below_step (by repeat (first | (with_reducible first | exact HB.out | apply below_alloc | apply pw_below_drewN | apply below_drew1) | exact HB.out)) hb); clear HB; have HB := n0_; clear n0_; (try clear hb); (try clear hb2); (try clear hk); (try clear hi)) | ((with_reducible refine gate_callee (f := 14) rfl ?_); refine goesL_ (some 71) rfl rfl Try.func14 (by kernel_rfl) rfl #[.int .i64 x13_25] rfl (by (try simp only [List.map_toArray, List.map_cons, List.map_nil]); first | done | rfl | (simp only [List.length_drop, List.length_take]; rfl)) ?_; (with_reducible refine (bits_Mask.calls x13_25 t138 _ A30.out).mono ?_); rintro e w' ⟨rfl, ⟨nd, rfl⟩⟩; refine ⟨_, rfl, ?_⟩))
                        go_meet
                        case rel => exact ⟨_, (true), (by first | rfl | (simp; done) | (simp [*]; done)), H', ⟨by have := HJ9.out; have := HJ20.out; have := HJ25.out; first | omega | exact Nat.le_refl _⟩, ⟨by repeat (first | (with_reducible first | exact HB.out | apply below_alloc | apply pw_below_drewN | apply below_drew1) | exact HB.out)⟩⟩
                    case rest =>
                      clear HC28
                      try clear c1
                      try clear c2
                      try clear p2
                      try clear c3
                      try clear c6
                      try clear p6
                      try clear c7
                      try clear c8
                      try clear c13
                      try clear c14
                      try clear c15
                      try clear c15b0
                      try clear c15b1
                      try clear c17
                      try clear c20
                      try clear c22
                      try clear c22b0
                      try clear c23
                      try clear c23b0
                      try clear c24
                      try clear c25
                      try clear c25b0
                      try clear c25b1
                      try clear c27
                      try clear c27b0
                      try clear c31
                      try clear c31b0
                      try clear c31b1
                      try clear p2
                      try clear p6
                      obtain ⟨kq, x84_27, rfl, HA, HJ27, HB⟩ := hcut
                      cases kq with
                      | zero => exact absurd HA.out (by simp [mezzaninelaw01_BitsBack.j3])
                      | succ kj27 =>
                        have H := HA.out
                        clear HA
                        simp only [mezzaninelaw01_BitsBack.j3] at H
                        by_cases c36 : x84_27 = true
                        · subst c36
                          have H1 : (some false) = some r := by rw [if_pos rfl] at H; exact H
                          clear H
                          have H := H1
                          clear H1
                          obtain rfl := Option.some.inj H
                          go_wp2
                          go_ret
                          exact ⟨by first | rfl | (simp [errW_none, errW_some] <;> rfl) | (simp [*, errW_none, errW_some] <;> rfl), by repeat (first | (with_reducible first | exact HB.out | apply below_alloc | apply pw_below_drewN | apply below_drew1) | exact HB.out)⟩
                        · replace c36 := Bool.eq_false_iff.mpr c36
                          subst c36
                          have H1 : (if (wrap64 (a2 + x13_25)) < 64 then (if 0 ≤ (IntKind.u64.wrap (wrap64 (a2 + x13_25))) then (mezzaninelaw01_BitsBack.j4 kj27 a0 a2 a4 t134 x13_25 ((shr .u64 t133 (IntKind.u64.wrap (wrap64 (a2 + x13_25)))) != (shr .u64 a0 (IntKind.u64.wrap (wrap64 (a2 + x13_25)))))) else (none)) else (mezzaninelaw01_BitsBack.j4 kj27 a0 a2 a4 t134 x13_25 false)) = some r := by rw [if_neg (show ¬ (false = true) by decide)] at H; exact H
                          clear H
                          have H := H1
                          clear H1
                          have HC37 := Aside0.mk H
                          clear H
                          go_upto_region 14 with (fail)
                          go_cut [103] (fun v103 wc => ∃ (kq : Nat) (x103_36 : Bool), v103 = .bool x103_36 ∧ Aside0 (mezzaninelaw01_BitsBack.j4 kq a0 a2 a4 t134 x13_25 x103_36 = some r) ∧ Aside0 (kq ≤ kj27) ∧ Aside0 (Below w.heap.size w wc))
                          case first =>
                            have H := HC37.out
                            clear HC37
                            by_cases c38 : (wrap64 (a2 + x13_25)) < 64
                            · rw [if_pos c38] at H
                              have c38b0 : decide ((wrap64 (a2 + x13_25)) < 64) = true := decide_eq_true c38
                              clear c38
                              (first | rw [c38b0] | (simp only [i64_w, i32_w]; rw [c38b0]) | skip)
                              obtain ⟨ji39, hji39⟩ : ∃ j_ : Int, (IntKind.u64.wrap (wrap64 (a2 + x13_25))) = j_ := ⟨_, rfl⟩
                              replace H : (if 0 ≤ (ji39) then (mezzaninelaw01_BitsBack.j4 kj27 a0 a2 a4 t134 x13_25 ((shr .u64 t133 (ji39)) != (shr .u64 a0 (ji39)))) else (none)) = some r := by first | (rw [hji39] at H; exact H) | (simp only [hji39] at H ⊢; exact H)
                              by_cases c40 : 0 ≤ (ji39)
                              · rw [if_pos c40] at H
                                have c40b0 := eq_true c40
                                have c40b1 : decide (0 ≤ (ji39)) = true := decide_eq_true c40
                                clear c40
                                obtain ⟨ji41, hji41⟩ : ∃ j_ : Int, (shr .u64 t133 (ji39)) = j_ := ⟨_, rfl⟩
                                replace H : (mezzaninelaw01_BitsBack.j4 kj27 a0 a2 a4 t134 x13_25 ((ji41) != (shr .u64 a0 (ji39)))) = some r := by first | (rw [hji41] at H; exact H) | (simp only [hji41] at H ⊢; exact H)
                                have hji41_ : (t133 / 2 ^ min (ji39).toNat 64) = ji41 := hji41
                                have hji41z : (ji39) ≤ 64 → (t133 / 2 ^ (ji39).toNat) = ji41 := shr_small hji41
                                have c42b0 := eq_true (of_decide_eq_true (by first | (with_reducible assumption) | assumption) : 0 ≤ (ji39))
                                obtain ⟨ji43, hji43⟩ : ∃ j_ : Int, (shr .u64 a0 (ji39)) = j_ := ⟨_, rfl⟩
                                replace H : (mezzaninelaw01_BitsBack.j4 kj27 a0 a2 a4 t134 x13_25 ((ji41) != (ji43))) = some r := by first | (rw [hji43] at H; exact H) | (simp only [hji43] at H ⊢; exact H)
                                have hji43_ : (a0 / 2 ^ min (ji39).toNat 64) = ji43 := hji43
                                have hji43z : (ji39) ≤ 64 → (a0 / 2 ^ (ji39).toNat) = ji43 := shr_small hji43
                                have H' := Aside0.mk H
                                clear H
                                go_wp2
                                go_meet
                                case rel => exact ⟨_, (((ji41) != (ji43))), (by first | rfl | (simp; done) | (simp only [← hji41, ← hji43] <;> (first | rfl | simp)) | (simp [*]; done)), H', ⟨by have := HJ9.out; have := HJ20.out; have := HJ25.out; have := HJ27.out; first | omega | exact Nat.le_refl _⟩, ⟨by repeat (first | (with_reducible first | exact HB.out | apply below_alloc | apply pw_below_drewN | apply below_drew1) | exact HB.out)⟩⟩
                              · rw [if_neg c40] at H
                                exact absurd H (by simp)
                            · rw [if_neg c38] at H
                              have c38b0 : decide ((wrap64 (a2 + x13_25)) < 64) = false := decide_eq_false c38
                              clear c38
                              (first | rw [c38b0] | (simp only [i64_w, i32_w]; rw [c38b0]) | skip)
                              have H' := Aside0.mk H
                              clear H
                              go_wp2
                              go_meet
                              case rel => exact ⟨_, (false), (by first | rfl | (simp; done) | (simp [*]; done)), H', ⟨by have := HJ9.out; have := HJ20.out; have := HJ25.out; have := HJ27.out; first | omega | exact Nat.le_refl _⟩, ⟨by repeat (first | (with_reducible first | exact HB.out | apply below_alloc | apply pw_below_drewN | apply below_drew1) | exact HB.out)⟩⟩
                          case rest =>
                            clear HC37
                            try clear c1
                            try clear c2
                            try clear p2
                            try clear c3
                            try clear c4
                            try clear c6
                            try clear p6
                            try clear c7
                            try clear c8
                            try clear c13
                            try clear c14
                            try clear c15
                            try clear c15b0
                            try clear c15b1
                            try clear c17
                            try clear c20
                            try clear c22
                            try clear c22b0
                            try clear c23
                            try clear c23b0
                            try clear c24
                            try clear c25
                            try clear c25b0
                            try clear c25b1
                            try clear c27
                            try clear c27b0
                            try clear c31
                            try clear c31b0
                            try clear c31b1
                            try clear c36
                            try clear c38
                            try clear c38b0
                            try clear c40
                            try clear c40b0
                            try clear c40b1
                            try clear c42
                            try clear c42b0
                            try clear p2
                            try clear p6
                            obtain ⟨kq, x103_36, rfl, HA, HJ36, HB⟩ := hcut
                            cases kq with
                            | zero => exact absurd HA.out (by simp [mezzaninelaw01_BitsBack.j4])
                            | succ kj36 =>
                              have H := HA.out
                              clear HA
                              simp only [mezzaninelaw01_BitsBack.j4] at H
                              by_cases c44 : x103_36 = true
                              · subst c44
                                have H1 : (some false) = some r := by rw [if_pos rfl] at H; exact H
                                clear H
                                have H := H1
                                clear H1
                                obtain rfl := Option.some.inj H
                                go_wp2
                                go_ret
                                exact ⟨by first | rfl | (simp [errW_none, errW_some] <;> rfl) | (simp [*, errW_none, errW_some] <;> rfl), by repeat (first | (with_reducible first | exact HB.out | apply below_alloc | apply pw_below_drewN | apply below_drew1) | exact HB.out)⟩
                              · replace c44 := Bool.eq_false_iff.mpr c44
                                subst c44
                                have H1 : (if a4 < 1 then (mezzaninelaw01_BitsBack.j5 kj36 a0 a2 a4 t134 x13_25 true) else (mezzaninelaw01_BitsBack.j5 kj36 a0 a2 a4 t134 x13_25 (decide (a4 ≥ x13_25)))) = some r := by rw [if_neg (show ¬ (false = true) by decide)] at H; exact H
                                clear H
                                have H := H1
                                clear H1
                                have HC45 := Aside0.mk H
                                clear H
                                go_upto_region 16 with (fail)
                                go_cut [110] (fun v110 wc => ∃ (kq : Nat) (x110_44 : Bool), v110 = .bool x110_44 ∧ Aside0 (mezzaninelaw01_BitsBack.j5 kq a0 a2 a4 t134 x13_25 x110_44 = some r) ∧ Aside0 (kq ≤ kj36) ∧ Aside0 (Below w.heap.size w wc))
                                case first =>
                                  have H := HC45.out
                                  clear HC45
                                  by_cases c46 : a4 < 1
                                  · rw [if_pos c46] at H
                                    have c46b0 : decide (a4 < 1) = true := decide_eq_true c46
                                    clear c46
                                    (first | rw [c46b0] | (simp only [i64_w, i32_w]; rw [c46b0]) | skip)
                                    have H' := Aside0.mk H
                                    clear H
                                    go_wp2
                                    go_meet
                                    case rel => exact ⟨_, (true), (by first | rfl | (simp; done) | (simp [*]; done)), H', ⟨by have := HJ9.out; have := HJ20.out; have := HJ25.out; have := HJ27.out; have := HJ36.out; first | omega | exact Nat.le_refl _⟩, ⟨by repeat (first | (with_reducible first | exact HB.out | apply below_alloc | apply pw_below_drewN | apply below_drew1) | exact HB.out)⟩⟩
                                  · rw [if_neg c46] at H
                                    have c46b0 : decide (a4 < 1) = false := decide_eq_false c46
                                    clear c46
                                    (first | rw [c46b0] | (simp only [i64_w, i32_w]; rw [c46b0]) | skip)
                                    have H' := Aside0.mk H
                                    clear H
                                    go_wp2
                                    go_meet
                                    case rel => exact ⟨_, (decide (a4 ≥ x13_25)), (by first | rfl | (simp; done) | (simp [*]; done)), H', ⟨by have := HJ9.out; have := HJ20.out; have := HJ25.out; have := HJ27.out; have := HJ36.out; first | omega | exact Nat.le_refl _⟩, ⟨by repeat (first | (with_reducible first | exact HB.out | apply below_alloc | apply pw_below_drewN | apply below_drew1) | exact HB.out)⟩⟩
                                case rest =>
                                  clear HC45
                                  try clear c1
                                  try clear c2
                                  try clear p2
                                  try clear c3
                                  try clear c4
                                  try clear c6
                                  try clear p6
                                  try clear c7
                                  try clear c8
                                  try clear c13
                                  try clear c14
                                  try clear c15
                                  try clear c15b0
                                  try clear c15b1
                                  try clear c17
                                  try clear c20
                                  try clear c22
                                  try clear c22b0
                                  try clear c23
                                  try clear c23b0
                                  try clear c24
                                  try clear c25
                                  try clear c25b0
                                  try clear c25b1
                                  try clear c27
                                  try clear c27b0
                                  try clear c31
                                  try clear c31b0
                                  try clear c31b1
                                  try clear c36
                                  try clear c38
                                  try clear c38b0
                                  try clear c40
                                  try clear c40b0
                                  try clear c40b1
                                  try clear c42
                                  try clear c42b0
                                  try clear c44
                                  try clear c46
                                  try clear c46b0
                                  try clear p2
                                  try clear p6
                                  obtain ⟨kq, x110_44, rfl, HA, HJ44, HB⟩ := hcut
                                  cases kq with
                                  | zero => exact absurd HA.out (by simp [mezzaninelaw01_BitsBack.j5])
                                  | succ kj44 =>
                                    have H := HA.out
                                    clear HA
                                    simp only [mezzaninelaw01_BitsBack.j5] at H
                                    by_cases c47 : x110_44 = true
                                    · subst c47
                                      have H1 : (some true) = some r := by rw [if_pos rfl] at H; exact H
                                      clear H
                                      have H := H1
                                      clear H1
                                      obtain rfl := Option.some.inj H
                                      go_wp2
                                      go_ret
                                      exact ⟨by first | rfl | (simp [errW_none, errW_some] <;> rfl) | (simp [*, errW_none, errW_some] <;> rfl), by repeat (first | (with_reducible first | exact HB.out | apply below_alloc | apply pw_below_drewN | apply below_drew1) | exact HB.out)⟩
                                    · replace c47 := Bool.eq_false_iff.mpr c47
                                      subst c47
                                      have H1 : ((bits_Field.f a0 a2 a4).bind fun t141 => ((bits_Field.f a0 (wrap64 (a2 + a4)) (wrap64 (x13_25 - a4))).bind fun t142 => (if 0 ≤ (IntKind.u64.wrap (a4)) then (some ((IntKind.u64.wrap (t141 + (shl .u64 t142 (IntKind.u64.wrap (a4))))) == t134)) else (none)))) = some r := by rw [if_neg (show ¬ (false = true) by decide)] at H; exact H
                                      clear H
                                      have H := H1
                                      clear H1
                                      replace H := Option.bind_eq_some_iff.mp H
                                      obtain ⟨t141, A480, H⟩ := H
                                      replace H : ((bits_Field.f a0 (wrap64 (a2 + a4)) (wrap64 (x13_25 - a4))).bind fun t142 => (if 0 ≤ (IntKind.u64.wrap (a4)) then (some ((IntKind.u64.wrap (t141 + (shl .u64 t142 (IntKind.u64.wrap (a4))))) == t134)) else (none))) = some r := H
                                      have A48 := Aside0.mk A480
                                      clear A480
                                      replace H := Option.bind_eq_some_iff.mp H
                                      obtain ⟨t142, A490, H⟩ := H
                                      replace H : (if 0 ≤ (IntKind.u64.wrap (a4)) then (some ((IntKind.u64.wrap (t141 + (shl .u64 t142 (IntKind.u64.wrap (a4))))) == t134)) else (none)) = some r := H
                                      have A49 := Aside0.mk A490
                                      clear A490
                                      obtain ⟨ji50, hji50⟩ : ∃ j_ : Int, (IntKind.u64.wrap (a4)) = j_ := ⟨_, rfl⟩
                                      replace H : (if 0 ≤ (ji50) then (some ((IntKind.u64.wrap (t141 + (shl .u64 t142 (ji50)))) == t134)) else (none)) = some r := by first | (rw [hji50] at H; exact H) | (simp only [hji50] at H ⊢; exact H)
                                      (try rw [hji50] at A48)
                                      (try rw [hji50] at A49)
                                      by_cases c51 : 0 ≤ (ji50)
                                      · rw [if_pos c51] at H
                                        have c51b0 := eq_true c51
                                        have c51b1 : decide (0 ≤ (ji50)) = true := decide_eq_true c51
                                        clear c51
                                        obtain ⟨ji52, hji52⟩ : ∃ j_ : Int, (shl .u64 t142 (ji50)) = j_ := ⟨_, rfl⟩
                                        replace H : (some ((IntKind.u64.wrap (t141 + (ji52))) == t134)) = some r := by first | (rw [hji52] at H; exact H) | (simp only [hji52] at H ⊢; exact H)
                                        (try rw [hji52] at A48)
                                        (try rw [hji52] at A49)
                                        have hji52_ : (IntKind.u64.wrap (t142 * 2 ^ min (ji50).toNat 64)) = ji52 := hji52
                                        have hji52z : (ji50) ≤ 64 → (IntKind.u64.wrap (t142 * 2 ^ (ji50).toNat)) = ji52 := shl_small hji52
                                        obtain rfl := Option.some.inj H
                                        go_wp2_with (first | ((with_reducible refine gate_callee (f := 13) rfl ?_); refine goesL_ (some 114) rfl rfl Try.func13 (by kernel_rfl) rfl #[.int .u64 a0, .int .i64 a2, .int .i64 a4] rfl (by (try simp only [List.map_toArray, List.map_cons, List.map_nil]); first | done | rfl | (simp only [List.length_drop, List.length_take]; rfl)) ?_; (with_reducible refine (bits_Field.calls a0 a2 a4 t141 _ A48.out).mono ?_); rintro e w53 ⟨rfl, hb⟩; refine ⟨_, rfl, ?_⟩; have n0_ := Aside0.mk (below_step (by repeat (first | (with_reducible first | exact HB.out | apply below_alloc | apply pw_below_drewN | apply below_drew1) | exact HB.out)) hb); clear HB; have HB := n0_; clear n0_; (try clear hb); (try clear hb2); (try clear hk); (try clear hi)) | ((with_reducible refine gate_callee (f := 13) rfl ?_); refine goesL_ (some 122) rfl rfl Try.func13 (by kernel_rfl) rfl #[.int .u64 a0, .int .i64 (wrap64 (a2 + a4)), .int .i64 (wrap64 (x13_25 - a4))] rfl (by (try simp only [List.map_toArray, List.map_cons, List.map_nil]); first | done | rfl | (simp only [List.length_drop, List.length_take]; rfl)) ?_; (with_reducible refine (bits_Field.calls a0 (wrap64 (a2 + a4)) (wrap64 (x13_25 - a4)) t142 _ A49.out).mono ?_); rintro e w54 ⟨rfl, hb⟩; refine ⟨_, rfl, ?_⟩; have n0_ := Aside0.mk (below_step (by repeat (first | (with_reducible first | exact HB.out | apply below_alloc | apply pw_below_drewN | apply below_drew1) | exact HB.out)) hb); clear HB; have HB := n0_; clear n0_; (try clear hb); (try clear hb2); (try clear hk); (try clear hi)))
                                        go_ret
                                        exact ⟨by first | rfl | (simp [errW_none, errW_some] <;> rfl) | (simp only [← hji50, ← hji52]; first | rfl | (simp [errW_none, errW_some] <;> rfl)) | (simp [*, errW_none, errW_some] <;> rfl), by repeat (first | (with_reducible first | exact HB.out | apply below_alloc | apply pw_below_drewN | apply below_drew1) | exact HB.out)⟩
                                      · rw [if_neg c51] at H
                                        exact absurd H (by simp)
  · replace c7 := Bool.eq_false_iff.mpr c7
    subst c7
    have H1 : (some false) = some r := by rw [if_neg (show ¬ (false = true) by decide)] at H; exact H
    clear H
    have H := H1
    clear H1
    obtain rfl := Option.some.inj H
    go_enter Try.func6, Try.ntmps6
    go_wp2_with (first | ((with_reducible refine gate_callee (f := 8) rfl ?_); refine goesL_ (some 14) rfl rfl Try.func8 (by kernel_rfl) rfl #[] rfl (by (try simp only [List.map_toArray, List.map_cons, List.map_nil]); first | done | rfl | (simp only [List.length_drop, List.length_take]; rfl)) ?_; (with_reducible refine (mezzaninelaw01_awake.calls k  false _ A6.out).mono ?_); rintro e w55 ⟨rfl, hb⟩; refine ⟨_, rfl, ?_⟩; have n0_ := Aside0.mk (below_step (by repeat (first | (with_reducible first | exact HB.out | apply below_alloc | apply pw_below_drewN | apply below_drew1) | exact HB.out)) hb); clear HB; have HB := n0_; clear n0_; (try clear hb); (try clear hb2); (try clear hk); (try clear hi)))
    go_ret
    exact ⟨by first | rfl | (simp [errW_none, errW_some] <;> rfl) | (simp [*, errW_none, errW_some] <;> rfl), by repeat (first | (with_reducible first | exact HB.out | apply below_alloc | apply pw_below_drewN | apply below_drew1) | exact HB.out)⟩

/-- THE ONE PURE STATEMENT of mezzaninelaw01_BitsBack: yours. -/
def mezzaninelaw01_BitsBack.Pure : Prop := ∀ (a0 : Int) (a1 : Int) (a2 : Int) (a3 : Int) (a4 : Int), (Lit.int .u64 a0).wf = true → (Lit.int .u64 a1).wf = true → (Lit.int .i64 a2).wf = true → (Lit.int .i64 a3).wf = true → (Lit.int .i64 a4).wf = true → ∃ k, mezzaninelaw01_BitsBack.f k a0 a1 a2 a3 a4 = some true
theorem mezzaninelaw01_BitsBack.walk (P : mezzaninelaw01_BitsBack.Pure) (a0 : Int) (a1 : Int) (a2 : Int) (a3 : Int) (a4 : Int) (w : World) (w0 : (Lit.int .u64 a0).wf = true) (w1 : (Lit.int .u64 a1).wf = true) (w2 : (Lit.int .i64 a2).wf = true) (w3 : (Lit.int .i64 a3).wf = true) (w4 : (Lit.int .i64 a4).wf = true) :
    Calls Try.prog 6 #[.int .u64 a0, .int .u64 a1, .int .i64 a2, .int .i64 a3, .int .i64 a4] w fun e w' => e = .returned (.bool true) ∧ Below w.heap.size w w' := by
  obtain ⟨k, h⟩ := P a0 a1 a2 a3 a4 w0 w1 w2 w3 w4
  refine (mezzaninelaw01_BitsBack.calls k a0 a1 a2 a3 a4 true w h).mono ?_
  rintro e w' ⟨rfl, hd⟩
  exact ⟨rfl, hd⟩

end Go.Proofs.Ytkcgihpnlekfnaa.Q
