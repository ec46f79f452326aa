/- Where the Lean function of a Go function gives a value, the Go call returns that value and changes nothing that was there: for every input. (By a program of this session, and by hand.) -/
import Derived.Test.YtkcgihpnlekfnaaQx0
import Derived.Test.YtkcgihpnlekfnaaQx1
import Derived.Test.YtkcgihpnlekfnaaQx2
namespace Go.Proofs.Ytkcgihpnlekfnaa.Q
open Go.RowKit Go.Proofs.YtkcgihpnlekfnaaW.PrintWords Go.Proofs.YtkcgihpnlekfnaaW.PrintLast Go.Proofs.YtkcgihpnlekfnaaW.PrintMore
attribute [local go_sem] max2_int min2_int max_two min_two max_three min_three max_four min_four   -- for this text's walks alone
set_option linter.unusedVariables false
set_option linter.unusedSimpArgs false

/-! ### mezzaninelaw01_BitsDrawn: function 4 -/
def mezzaninelaw01_BitsDrawn.j0 : Nat → Int → Int → Int → Bool → Option (Bool)
  | 0, _, _, _, _ => none
  | k + 1, x0, x1, x5, x44 => if x44 = true then (some false) else (if x1 = 64 then (some (x5 == x0)) else (if 0 ≤ (IntKind.u64.wrap (wrap64 (x1 - 1))) then (if (wrap64 (x5)) ≥ (shl .i64 (-1) (IntKind.u64.wrap (wrap64 (x1 - 1)))) then (if (wrap64 (x5)) < (shl .i64 1 (IntKind.u64.wrap (wrap64 (x1 - 1)))) then (if 0 ≤ (IntKind.u64.wrap (x1)) then (if (shl .u64 1 (IntKind.u64.wrap (x1))) = 0 then (none) else (some ((Int.tmod (IntKind.u64.wrap ((IntKind.u64.wrap (wrap64 (x5))) - x0)) (shl .u64 1 (IntKind.u64.wrap (x1)))) == 0))) else (none)) else (some false)) else (some false)) else (none)))
def mezzaninelaw01_BitsDrawn.f (k : Nat) (a0 : Int) (a1 : Int) : Option (Bool) := (mezzaninelaw01_awake.f k).bind fun t116 => (if t116 = true then ((bits_Sext.f a0 (wrap64 (1 + (Int.tmod (Go.bits .and .i64 a1 4611686018427387903) 64)))).bind fun t117 => ((bits_Canon.f t117 (wrap64 (1 + (Int.tmod (Go.bits .and .i64 a1 4611686018427387903) 64)))).bind fun t118 => (if t118 = true then ((bits_Sext.f t117 (wrap64 (1 + (Int.tmod (Go.bits .and .i64 a1 4611686018427387903) 64)))).bind fun t119 => (if t119 = t117 then ((bits_Field.f t117 0 (wrap64 (1 + (Int.tmod (Go.bits .and .i64 a1 4611686018427387903) 64)))).bind fun t120 => ((bits_Field.f a0 0 (wrap64 (1 + (Int.tmod (Go.bits .and .i64 a1 4611686018427387903) 64)))).bind fun t121 => (if t120 = t121 then ((bits_Canon.f a0 (wrap64 (1 + (Int.tmod (Go.bits .and .i64 a1 4611686018427387903) 64)))).bind fun t122 => (mezzaninelaw01_BitsDrawn.j0 k a0 (wrap64 (1 + (Int.tmod (Go.bits .and .i64 a1 4611686018427387903) 64))) t117 (t122 != (t117 == a0)))) else (mezzaninelaw01_BitsDrawn.j0 k a0 (wrap64 (1 + (Int.tmod (Go.bits .and .i64 a1 4611686018427387903) 64))) t117 true)))) else (mezzaninelaw01_BitsDrawn.j0 k a0 (wrap64 (1 + (Int.tmod (Go.bits .and .i64 a1 4611686018427387903) 64))) t117 true))) else (mezzaninelaw01_BitsDrawn.j0 k a0 (wrap64 (1 + (Int.tmod (Go.bits .and .i64 a1 4611686018427387903) 64))) t117 true)))) else (some false))
theorem mezzaninelaw01_BitsDrawn.mono_l : ∀ k, (∀ y0 y1 y2 y3, LeO (mezzaninelaw01_BitsDrawn.j0 k y0 y1 y2 y3) (mezzaninelaw01_BitsDrawn.j0 (k + 1) y0 y1 y2 y3))
  | 0 => fun _ _ _ _ r h => by simp [mezzaninelaw01_BitsDrawn.j0] at h
  | k + 1 => by
    have ih0 := mezzaninelaw01_BitsDrawn.mono_l k
    · intro y0 y1 y2 y3
      unfold mezzaninelaw01_BitsDrawn.j0
      repeat' first
      | (with_reducible exact ih0 _ _ _ _)
      | (with_reducible exact mezzaninelaw01_awake.mono _)
      | (with_reducible exact LeO.refl _)
      | (with_reducible exact LeO.none _)
      | (with_reducible refine LeO.ite ?_ ?_)
      | (with_reducible refine LeO.bind ?_ (fun _ => ?_))
      | exact ih0 _ _ _ _
      | exact mezzaninelaw01_awake.mono _
      | exact LeO.none _
      | refine LeO.ite ?_ ?_
      | refine LeO.bind ?_ (fun _ => ?_)
theorem mezzaninelaw01_BitsDrawn.mono : ∀ a0 a1 k, LeO (mezzaninelaw01_BitsDrawn.f k a0 a1) (mezzaninelaw01_BitsDrawn.f (k + 1) a0 a1) := by
  intro a0 a1 k
  have ih0 := mezzaninelaw01_BitsDrawn.mono_l k
  unfold mezzaninelaw01_BitsDrawn.f
  repeat' first
      | (with_reducible exact ih0 _ _ _ _)
      | (with_reducible exact mezzaninelaw01_awake.mono _)
      | (with_reducible exact LeO.refl _)
      | (with_reducible exact LeO.none _)
      | (with_reducible refine LeO.ite ?_ ?_)
      | (with_reducible refine LeO.bind ?_ (fun _ => ?_))
      | exact ih0 _ _ _ _
      | exact mezzaninelaw01_awake.mono _
      | exact LeO.none _
      | refine LeO.ite ?_ ?_
      | refine LeO.bind ?_ (fun _ => ?_)
set_option maxHeartbeats 8000000 in
set_option maxRecDepth 100000 in
theorem mezzaninelaw01_BitsDrawn.calls (k : Nat) (a0 : Int) (a1 : Int) (r : Bool) (w : World) (h : mezzaninelaw01_BitsDrawn.f k a0 a1 = some r) :
    Calls Try.prog 4 #[.int .u64 a0, .int .i64 a1] w fun e w' => e = .returned (.bool r) ∧ Below w.heap.size w w' := by
  have HB := Aside0.mk (Below.refl w.heap.size w)
  have H : ((mezzaninelaw01_awake.f k).bind fun t116 => (if t116 = true then ((bits_Sext.f a0 (wrap64 (1 + (Int.tmod (Go.bits .and .i64 a1 4611686018427387903) 64)))).bind fun t117 => ((bits_Canon.f t117 (wrap64 (1 + (Int.tmod (Go.bits .and .i64 a1 4611686018427387903) 64)))).bind fun t118 => (if t118 = true then ((bits_Sext.f t117 (wrap64 (1 + (Int.tmod (Go.bits .and .i64 a1 4611686018427387903) 64)))).bind fun t119 => (if t119 = t117 then ((bits_Field.f t117 0 (wrap64 (1 + (Int.tmod (Go.bits .and .i64 a1 4611686018427387903) 64)))).bind fun t120 => ((bits_Field.f a0 0 (wrap64 (1 + (Int.tmod (Go.bits .and .i64 a1 4611686018427387903) 64)))).bind fun t121 => (if t120 = t121 then ((bits_Canon.f a0 (wrap64 (1 + (Int.tmod (Go.bits .and .i64 a1 4611686018427387903) 64)))).bind fun t122 => (mezzaninelaw01_BitsDrawn.j0 k a0 (wrap64 (1 + (Int.tmod (Go.bits .and .i64 a1 4611686018427387903) 64))) t117 (t122 != (t117 == a0)))) else (mezzaninelaw01_BitsDrawn.j0 k a0 (wrap64 (1 + (Int.tmod (Go.bits .and .i64 a1 4611686018427387903) 64))) t117 true)))) else (mezzaninelaw01_BitsDrawn.j0 k a0 (wrap64 (1 + (Int.tmod (Go.bits .and .i64 a1 4611686018427387903) 64))) t117 true))) else (mezzaninelaw01_BitsDrawn.j0 k a0 (wrap64 (1 + (Int.tmod (Go.bits .and .i64 a1 4611686018427387903) 64))) t117 true)))) else (some false))) = some r := h
  clear h
  replace H := Option.bind_eq_some_iff.mp H
  obtain ⟨t116, A30, H⟩ := H
  replace H : (if t116 = true then ((bits_Sext.f a0 (wrap64 (1 + (Int.tmod (Go.bits .and .i64 a1 4611686018427387903) 64)))).bind fun t117 => ((bits_Canon.f t117 (wrap64 (1 + (Int.tmod (Go.bits .and .i64 a1 4611686018427387903) 64)))).bind fun t118 => (if t118 = true then ((bits_Sext.f t117 (wrap64 (1 + (Int.tmod (Go.bits .and .i64 a1 4611686018427387903) 64)))).bind fun t119 => (if t119 = t117 then ((bits_Field.f t117 0 (wrap64 (1 + (Int.tmod (Go.bits .and .i64 a1 4611686018427387903) 64)))).bind fun t120 => ((bits_Field.f a0 0 (wrap64 (1 + (Int.tmod (Go.bits .and .i64 a1 4611686018427387903) 64)))).bind fun t121 => (if t120 = t121 then ((bits_Canon.f a0 (wrap64 (1 + (Int.tmod (Go.bits .and .i64 a1 4611686018427387903) 64)))).bind fun t122 => (mezzaninelaw01_BitsDrawn.j0 k a0 (wrap64 (1 + (Int.tmod (Go.bits .and .i64 a1 4611686018427387903) 64))) t117 (t122 != (t117 == a0)))) else (mezzaninelaw01_BitsDrawn.j0 k a0 (wrap64 (1 + (Int.tmod (Go.bits .and .i64 a1 4611686018427387903) 64))) t117 true)))) else (mezzaninelaw01_BitsDrawn.j0 k a0 (wrap64 (1 + (Int.tmod (Go.bits .and .i64 a1 4611686018427387903) 64))) t117 true))) else (mezzaninelaw01_BitsDrawn.j0 k a0 (wrap64 (1 + (Int.tmod (Go.bits .and .i64 a1 4611686018427387903) 64))) t117 true)))) else (some false)) = some r := H
  have A3 := Aside0.mk A30
  clear A30
  by_cases c4 : t116 = true
  · subst c4
    have H1 : ((bits_Sext.f a0 (wrap64 (1 + (Int.tmod (Go.bits .and .i64 a1 4611686018427387903) 64)))).bind fun t117 => ((bits_Canon.f t117 (wrap64 (1 + (Int.tmod (Go.bits .and .i64 a1 4611686018427387903) 64)))).bind fun t118 => (if t118 = true then ((bits_Sext.f t117 (wrap64 (1 + (Int.tmod (Go.bits .and .i64 a1 4611686018427387903) 64)))).bind fun t119 => (if t119 = t117 then ((bits_Field.f t117 0 (wrap64 (1 + (Int.tmod (Go.bits .and .i64 a1 4611686018427387903) 64)))).bind fun t120 => ((bits_Field.f a0 0 (wrap64 (1 + (Int.tmod (Go.bits .and .i64 a1 4611686018427387903) 64)))).bind fun t121 => (if t120 = t121 then ((bits_Canon.f a0 (wrap64 (1 + (Int.tmod (Go.bits .and .i64 a1 4611686018427387903) 64)))).bind fun t122 => (mezzaninelaw01_BitsDrawn.j0 k a0 (wrap64 (1 + (Int.tmod (Go.bits .and .i64 a1 4611686018427387903) 64))) t117 (t122 != (t117 == a0)))) else (mezzaninelaw01_BitsDrawn.j0 k a0 (wrap64 (1 + (Int.tmod (Go.bits .and .i64 a1 4611686018427387903) 64))) t117 true)))) else (mezzaninelaw01_BitsDrawn.j0 k a0 (wrap64 (1 + (Int.tmod (Go.bits .and .i64 a1 4611686018427387903) 64))) t117 true))) else (mezzaninelaw01_BitsDrawn.j0 k a0 (wrap64 (1 + (Int.tmod (Go.bits .and .i64 a1 4611686018427387903) 64))) t117 true)))) = some r := by rw [if_pos rfl] at H; exact H
    clear H
    have H := H1
    clear H1
    replace H := Option.bind_eq_some_iff.mp H
    obtain ⟨t117, A50, H⟩ := H
    replace H : ((bits_Canon.f t117 (wrap64 (1 + (Int.tmod (Go.bits .and .i64 a1 4611686018427387903) 64)))).bind fun t118 => (if t118 = true then ((bits_Sext.f t117 (wrap64 (1 + (Int.tmod (Go.bits .and .i64 a1 4611686018427387903) 64)))).bind fun t119 => (if t119 = t117 then ((bits_Field.f t117 0 (wrap64 (1 + (Int.tmod (Go.bits .and .i64 a1 4611686018427387903) 64)))).bind fun t120 => ((bits_Field.f a0 0 (wrap64 (1 + (Int.tmod (Go.bits .and .i64 a1 4611686018427387903) 64)))).bind fun t121 => (if t120 = t121 then ((bits_Canon.f a0 (wrap64 (1 + (Int.tmod (Go.bits .and .i64 a1 4611686018427387903) 64)))).bind fun t122 => (mezzaninelaw01_BitsDrawn.j0 k a0 (wrap64 (1 + (Int.tmod (Go.bits .and .i64 a1 4611686018427387903) 64))) t117 (t122 != (t117 == a0)))) else (mezzaninelaw01_BitsDrawn.j0 k a0 (wrap64 (1 + (Int.tmod (Go.bits .and .i64 a1 4611686018427387903) 64))) t117 true)))) else (mezzaninelaw01_BitsDrawn.j0 k a0 (wrap64 (1 + (Int.tmod (Go.bits .and .i64 a1 4611686018427387903) 64))) t117 true))) else (mezzaninelaw01_BitsDrawn.j0 k a0 (wrap64 (1 + (Int.tmod (Go.bits .and .i64 a1 4611686018427387903) 64))) t117 true))) = some r := H
    have A5 := Aside0.mk A50
    clear A50
    have HC6 := Aside0.mk H
    clear H
    go_enter Try.func4, Try.ntmps4
    go_upto_region 5 with (first | ((with_reducible refine gate_callee (f := 8) rfl ?_); refine goesL_ (some 7) rfl rfl Try.func8 (by kernel_rfl) rfl #[] rfl (by (try simp only [List.map_toArray, List.map_cons, List.map_nil]); first | done | rfl | (simp only [List.length_drop, List.length_take]; rfl)) ?_; (with_reducible refine (mezzaninelaw01_awake.calls k  true _ A3.out).mono ?_); rintro e w7 ⟨rfl, hb⟩; refine ⟨_, rfl, ?_⟩; have n0_ := Aside0.mk (below_step (by repeat (first | (with_reducible first | exact HB.out | apply below_alloc | apply pw_below_drewN | apply below_drew1) | exact HB.out)) hb); clear HB; have HB := n0_; clear n0_; (try clear hb); (try clear hb2); (try clear hk); (try clear hi)) | ((with_reducible refine gate_callee (f := 9) rfl ?_); refine goesL_ (some 15) rfl rfl Try.func9 (by kernel_rfl) rfl #[.int .u64 a0, .int .i64 (wrap64 (1 + (Int.tmod (Go.bits .and .i64 a1 4611686018427387903) 64)))] rfl (by (try simp only [List.map_toArray, List.map_cons, List.map_nil]); first | done | rfl | (simp only [List.length_drop, List.length_take]; rfl)) ?_; (with_reducible refine (bits_Sext.calls a0 (wrap64 (1 + (Int.tmod (Go.bits .and .i64 a1 4611686018427387903) 64))) t117 _ A5.out).mono ?_); rintro e w' ⟨rfl, ⟨nd, rfl⟩⟩; refine ⟨_, rfl, ?_⟩))
    (try simp only [Act.put, List.setIfInBounds_toArray, List.set_cons_zero, List.set_cons_succ])
    go_cut [44] (fun v44 wc => ∃ (kq : Nat) (x44_5 : Bool), v44 = .bool x44_5 ∧ Aside0 (mezzaninelaw01_BitsDrawn.j0 kq a0 (wrap64 (1 + (Int.tmod (Go.bits .and .i64 a1 4611686018427387903) 64))) t117 x44_5 = some r) ∧ Aside0 (kq ≤ k) ∧ Aside0 (Below w.heap.size w wc))
    case first =>
      have H := HC6.out
      clear HC6
      replace H := Option.bind_eq_some_iff.mp H
      obtain ⟨t118, A80, H⟩ := H
      replace H : (if t118 = true then ((bits_Sext.f t117 (wrap64 (1 + (Int.tmod (Go.bits .and .i64 a1 4611686018427387903) 64)))).bind fun t119 => (if t119 = t117 then ((bits_Field.f t117 0 (wrap64 (1 + (Int.tmod (Go.bits .and .i64 a1 4611686018427387903) 64)))).bind fun t120 => ((bits_Field.f a0 0 (wrap64 (1 + (Int.tmod (Go.bits .and .i64 a1 4611686018427387903) 64)))).bind fun t121 => (if t120 = t121 then ((bits_Canon.f a0 (wrap64 (1 + (Int.tmod (Go.bits .and .i64 a1 4611686018427387903) 64)))).bind fun t122 => (mezzaninelaw01_BitsDrawn.j0 k a0 (wrap64 (1 + (Int.tmod (Go.bits .and .i64 a1 4611686018427387903) 64))) t117 (t122 != (t117 == a0)))) else (mezzaninelaw01_BitsDrawn.j0 k a0 (wrap64 (1 + (Int.tmod (Go.bits .and .i64 a1 4611686018427387903) 64))) t117 true)))) else (mezzaninelaw01_BitsDrawn.j0 k a0 (wrap64 (1 + (Int.tmod (Go.bits .and .i64 a1 4611686018427387903) 64))) t117 true))) else (mezzaninelaw01_BitsDrawn.j0 k a0 (wrap64 (1 + (Int.tmod (Go.bits .and .i64 a1 4611686018427387903) 64))) t117 true)) = some r := H
      have A8 := Aside0.mk A80
      clear A80
      by_cases c9 : t118 = true
      · subst c9
        have H1 : ((bits_Sext.f t117 (wrap64 (1 + (Int.tmod (Go.bits .and .i64 a1 4611686018427387903) 64)))).bind fun t119 => (if t119 = t117 then ((bits_Field.f t117 0 (wrap64 (1 + (Int.tmod (Go.bits .and .i64 a1 4611686018427387903) 64)))).bind fun t120 => ((bits_Field.f a0 0 (wrap64 (1 + (Int.tmod (Go.bits .and .i64 a1 4611686018427387903) 64)))).bind fun t121 => (if t120 = t121 then ((bits_Canon.f a0 (wrap64 (1 + (Int.tmod (Go.bits .and .i64 a1 4611686018427387903) 64)))).bind fun t122 => (mezzaninelaw01_BitsDrawn.j0 k a0 (wrap64 (1 + (Int.tmod (Go.bits .and .i64 a1 4611686018427387903) 64))) t117 (t122 != (t117 == a0)))) else (mezzaninelaw01_BitsDrawn.j0 k a0 (wrap64 (1 + (Int.tmod (Go.bits .and .i64 a1 4611686018427387903) 64))) t117 true)))) else (mezzaninelaw01_BitsDrawn.j0 k a0 (wrap64 (1 + (Int.tmod (Go.bits .and .i64 a1 4611686018427387903) 64))) t117 true))) = some r := by rw [if_pos rfl] at H; exact H
        clear H
        have H := H1
        clear H1
        replace H := Option.bind_eq_some_iff.mp H
        obtain ⟨t119, A100, H⟩ := H
        replace H : (if t119 = t117 then ((bits_Field.f t117 0 (wrap64 (1 + (Int.tmod (Go.bits .and .i64 a1 4611686018427387903) 64)))).bind fun t120 => ((bits_Field.f a0 0 (wrap64 (1 + (Int.tmod (Go.bits .and .i64 a1 4611686018427387903) 64)))).bind fun t121 => (if t120 = t121 then ((bits_Canon.f a0 (wrap64 (1 + (Int.tmod (Go.bits .and .i64 a1 4611686018427387903) 64)))).bind fun t122 => (mezzaninelaw01_BitsDrawn.j0 k a0 (wrap64 (1 + (Int.tmod (Go.bits .and .i64 a1 4611686018427387903) 64))) t117 (t122 != (t117 == a0)))) else (mezzaninelaw01_BitsDrawn.j0 k a0 (wrap64 (1 + (Int.tmod (Go.bits .and .i64 a1 4611686018427387903) 64))) t117 true)))) else (mezzaninelaw01_BitsDrawn.j0 k a0 (wrap64 (1 + (Int.tmod (Go.bits .and .i64 a1 4611686018427387903) 64))) t117 true)) = some r := H
        have A10 := Aside0.mk A100
        clear A100
        by_cases c11 : t119 = t117
        · rw [if_pos c11] at H
          have c11b0 : (t119 == t117) = true := beq_iff_eq.mpr c11
          have c11b1 : (t119 != t117) = false := bne_eq_false_iff_eq.mpr c11
          clear c11
          (first | rw [c11b0] | (simp only [i64_w, i32_w]; rw [c11b0]) | skip)
          replace H := Option.bind_eq_some_iff.mp H
          obtain ⟨t120, A120, H⟩ := H
          replace H : ((bits_Field.f a0 0 (wrap64 (1 + (Int.tmod (Go.bits .and .i64 a1 4611686018427387903) 64)))).bind fun t121 => (if t120 = t121 then ((bits_Canon.f a0 (wrap64 (1 + (Int.tmod (Go.bits .and .i64 a1 4611686018427387903) 64)))).bind fun t122 => (mezzaninelaw01_BitsDrawn.j0 k a0 (wrap64 (1 + (Int.tmod (Go.bits .and .i64 a1 4611686018427387903) 64))) t117 (t122 != (t117 == a0)))) else (mezzaninelaw01_BitsDrawn.j0 k a0 (wrap64 (1 + (Int.tmod (Go.bits .and .i64 a1 4611686018427387903) 64))) t117 true))) = some r := H
          have A12 := Aside0.mk A120
          clear A120
          replace H := Option.bind_eq_some_iff.mp H
          obtain ⟨t121, A130, H⟩ := H
          replace H : (if t120 = t121 then ((bits_Canon.f a0 (wrap64 (1 + (Int.tmod (Go.bits .and .i64 a1 4611686018427387903) 64)))).bind fun t122 => (mezzaninelaw01_BitsDrawn.j0 k a0 (wrap64 (1 + (Int.tmod (Go.bits .and .i64 a1 4611686018427387903) 64))) t117 (t122 != (t117 == a0)))) else (mezzaninelaw01_BitsDrawn.j0 k a0 (wrap64 (1 + (Int.tmod (Go.bits .and .i64 a1 4611686018427387903) 64))) t117 true)) = some r := H
          have A13 := Aside0.mk A130
          clear A130
          by_cases c14 : t120 = t121
          · rw [if_pos c14] at H
            have c14b0 : (t120 == t121) = true := beq_iff_eq.mpr c14
            have c14b1 : (t120 != t121) = false := bne_eq_false_iff_eq.mpr c14
            clear c14
            replace H := Option.bind_eq_some_iff.mp H
            obtain ⟨t122, A150, H⟩ := H
            replace H : (mezzaninelaw01_BitsDrawn.j0 k a0 (wrap64 (1 + (Int.tmod (Go.bits .and .i64 a1 4611686018427387903) 64))) t117 (t122 != (t117 == a0))) = some r := H
            have A15 := Aside0.mk A150
            clear A150
            have H' := Aside0.mk H
            clear H
            go_wp2_with (first | ((with_reducible refine gate_callee (f := 11) rfl ?_); refine goesL_ (some 18) rfl rfl Try.func11 (by kernel_rfl) rfl #[.int .u64 t117, .int .i64 (wrap64 (1 + (Int.tmod (Go.bits .and .i64 a1 4611686018427387903) 64)))] rfl (by (try simp only [List.map_toArray, List.map_cons, List.map_nil]); first | done | rfl | (simp only [List.length_drop, List.length_take]; rfl)) ?_; (with_reducible refine (bits_Canon.calls t117 (wrap64 (1 + (Int.tmod (Go.bits .and .i64 a1 4611686018427387903) 64))) true _ A8.out).mono ?_); rintro e w' ⟨rfl, ⟨nd, rfl⟩⟩; refine ⟨_, rfl, ?_⟩) | (go_at_call 9; (with_reducible refine (bits_Sext.calls t117 (wrap64 (1 + (Int.tmod (Go.bits .and .i64 a1 4611686018427387903) 64))) t119 _ A10.out).mono ?_); rintro e w' ⟨rfl, ⟨nd, rfl⟩⟩) | (go_at_call 13; (with_reducible refine (bits_Field.calls t117 0 (wrap64 (1 + (Int.tmod (Go.bits .and .i64 a1 4611686018427387903) 64))) t120 _ A12.out).mono ?_); rintro e w16 ⟨rfl, hb⟩; have n0_ := Aside0.mk (below_step (by repeat (first | (with_reducible first | exact HB.out | apply below_alloc | apply pw_below_drewN | apply below_drew1) | exact HB.out)) hb); clear HB; have HB := n0_; clear n0_; (try clear hb); (try clear hb2); (try clear hk); (try clear hi)) | (go_at_call 13; (with_reducible refine (bits_Field.calls a0 0 (wrap64 (1 + (Int.tmod (Go.bits .and .i64 a1 4611686018427387903) 64))) t121 _ A13.out).mono ?_); rintro e w17 ⟨rfl, hb⟩; have n0_ := Aside0.mk (below_step (by repeat (first | (with_reducible first | exact HB.out | apply below_alloc | apply pw_below_drewN | apply below_drew1) | exact HB.out)) hb); clear HB; have HB := n0_; clear n0_; (try clear hb); (try clear hb2); (try clear hk); (try clear hi)) | (go_at_call 11; (with_reducible refine (bits_Canon.calls a0 (wrap64 (1 + (Int.tmod (Go.bits .and .i64 a1 4611686018427387903) 64))) t122 _ A15.out).mono ?_); rintro e w' ⟨rfl, ⟨nd, rfl⟩⟩))
            go_meet
            case rel => exact ⟨_, ((t122 != (t117 == a0))), (by first | rfl | (simp; done) | (simp [*]; done)), H', ⟨by first | omega | exact Nat.le_refl _⟩, ⟨by repeat (first | (with_reducible first | exact HB.out | apply below_alloc | apply pw_below_drewN | apply below_drew1) | exact HB.out)⟩⟩
          · rw [if_neg c14] at H
            have c14b0 : (t120 == t121) = false := beq_eq_false_iff_ne.mpr c14
            have c14b1 : (t120 != t121) = true := bne_iff_ne.mpr c14
            have H' := Aside0.mk H
            clear H
            go_wp2_with (first | ((with_reducible refine gate_callee (f := 11) rfl ?_); refine goesL_ (some 18) rfl rfl Try.func11 (by kernel_rfl) rfl #[.int .u64 t117, .int .i64 (wrap64 (1 + (Int.tmod (Go.bits .and .i64 a1 4611686018427387903) 64)))] rfl (by (try simp only [List.map_toArray, List.map_cons, List.map_nil]); first | done | rfl | (simp only [List.length_drop, List.length_take]; rfl)) ?_; (with_reducible refine (bits_Canon.calls t117 (wrap64 (1 + (Int.tmod (Go.bits .and .i64 a1 4611686018427387903) 64))) true _ A8.out).mono ?_); rintro e w' ⟨rfl, ⟨nd, rfl⟩⟩; refine ⟨_, rfl, ?_⟩) | (go_at_call 9; (with_reducible refine (bits_Sext.calls t117 (wrap64 (1 + (Int.tmod (Go.bits .and .i64 a1 4611686018427387903) 64))) t119 _ A10.out).mono ?_); rintro e w' ⟨rfl, ⟨nd, rfl⟩⟩) | (go_at_call 13; (with_reducible refine (bits_Field.calls t117 0 (wrap64 (1 + (Int.tmod (Go.bits .and .i64 a1 4611686018427387903) 64))) t120 _ A12.out).mono ?_); rintro e w18 ⟨rfl, hb⟩; have n0_ := Aside0.mk (below_step (by repeat (first | (with_reducible first | exact HB.out | apply below_alloc | apply pw_below_drewN | apply below_drew1) | exact HB.out)) hb); clear HB; have HB := n0_; clear n0_; (try clear hb); (try clear hb2); (try clear hk); (try clear hi)) | (go_at_call 13; (with_reducible refine (bits_Field.calls a0 0 (wrap64 (1 + (Int.tmod (Go.bits .and .i64 a1 4611686018427387903) 64))) t121 _ A13.out).mono ?_); rintro e w19 ⟨rfl, hb⟩; have n0_ := Aside0.mk (below_step (by repeat (first | (with_reducible first | exact HB.out | apply below_alloc | apply pw_below_drewN | apply below_drew1) | exact HB.out)) hb); clear HB; have HB := n0_; clear n0_; (try clear hb); (try clear hb2); (try clear hk); (try clear hi)))
            go_meet
            case rel => exact ⟨_, (true), (by first | rfl | (simp; done) | (simp [*]; done)), H', ⟨by first | omega | exact Nat.le_refl _⟩, ⟨by repeat (first | (with_reducible first | exact HB.out | apply below_alloc | apply pw_below_drewN | apply below_drew1) | exact HB.out)⟩⟩
        · rw [if_neg c11] at H
          have c11b0 : (t119 == t117) = false := beq_eq_false_iff_ne.mpr c11
          have c11b1 : (t119 != t117) = true := bne_iff_ne.mpr c11
          (first | rw [c11b0] | (simp only [i64_w, i32_w]; rw [c11b0]) | skip)
          have H' := Aside0.mk H
          clear H
          go_wp2_with (first | ((with_reducible refine gate_callee (f := 11) rfl ?_); refine goesL_ (some 18) rfl rfl Try.func11 (by kernel_rfl) rfl #[.int .u64 t117, .int .i64 (wrap64 (1 + (Int.tmod (Go.bits .and .i64 a1 4611686018427387903) 64)))] rfl (by (try simp only [List.map_toArray, List.map_cons, List.map_nil]); first | done | rfl | (simp only [List.length_drop, List.length_take]; rfl)) ?_; (with_reducible refine (bits_Canon.calls t117 (wrap64 (1 + (Int.tmod (Go.bits .and .i64 a1 4611686018427387903) 64))) true _ A8.out).mono ?_); rintro e w' ⟨rfl, ⟨nd, rfl⟩⟩; refine ⟨_, rfl, ?_⟩) | (go_at_call 9; (with_reducible refine (bits_Sext.calls t117 (wrap64 (1 + (Int.tmod (Go.bits .and .i64 a1 4611686018427387903) 64))) t119 _ A10.out).mono ?_); rintro e w' ⟨rfl, ⟨nd, rfl⟩⟩))
          go_meet
          case rel => exact ⟨_, (true), (by first | rfl | (simp; done) | (simp [*]; done)), H', ⟨by first | omega | exact Nat.le_refl _⟩, ⟨by repeat (first | (with_reducible first | exact HB.out | apply below_alloc | apply pw_below_drewN | apply below_drew1) | exact HB.out)⟩⟩
      · replace c9 := Bool.eq_false_iff.mpr c9
        subst c9
        have H1 : (mezzaninelaw01_BitsDrawn.j0 k a0 (wrap64 (1 + (Int.tmod (Go.bits .and .i64 a1 4611686018427387903) 64))) t117 true) = some r := by rw [if_neg (show ¬ (false = true) by decide)] at H; exact H
        clear H
        have H := H1
        clear H1
        have H' := Aside0.mk H
        clear H
        go_wp2_with (first | ((with_reducible refine gate_callee (f := 11) rfl ?_); refine goesL_ (some 18) rfl rfl Try.func11 (by kernel_rfl) rfl #[.int .u64 t117, .int .i64 (wrap64 (1 + (Int.tmod (Go.bits .and .i64 a1 4611686018427387903) 64)))] rfl (by (try simp only [List.map_toArray, List.map_cons, List.map_nil]); first | done | rfl | (simp only [List.length_drop, List.length_take]; rfl)) ?_; (with_reducible refine (bits_Canon.calls t117 (wrap64 (1 + (Int.tmod (Go.bits .and .i64 a1 4611686018427387903) 64))) false _ A8.out).mono ?_); rintro e w' ⟨rfl, ⟨nd, rfl⟩⟩; refine ⟨_, rfl, ?_⟩))
        go_meet
        case rel => exact ⟨_, (true), (by first | rfl | (simp; done) | (simp [*]; done)), H', ⟨by first | omega | exact Nat.le_refl _⟩, ⟨by repeat (first | (with_reducible first | exact HB.out | apply below_alloc | apply pw_below_drewN | apply below_drew1) | exact HB.out)⟩⟩
    case rest =>
      clear HC6
      try clear c1
      try clear p2
      try clear c4
      try clear p6
      try clear c8
      try clear c9
      try clear c11
      try clear c11b0
      try clear c11b1
      try clear c14
      try clear c14b0
      try clear c14b1
      obtain ⟨kq, x44_5, rfl, HA, HJ5, HB⟩ := hcut
      cases kq with
      | zero => exact absurd HA.out (by simp [mezzaninelaw01_BitsDrawn.j0])
      | succ kj5 =>
        have H := HA.out
        clear HA
        simp only [mezzaninelaw01_BitsDrawn.j0] at H
        by_cases c20 : x44_5 = true
        · subst c20
          have H1 : (some false) = some r := by rw [if_pos rfl] at H; exact H
          clear H
          have H := H1
          clear H1
          obtain rfl := Option.some.inj H
          go_wp2
          go_ret
          exact ⟨by first | rfl | (simp [errW_none, errW_some] <;> rfl) | (simp [*, errW_none, errW_some] <;> rfl), by repeat (first | (with_reducible first | exact HB.out | apply below_alloc | apply pw_below_drewN | apply below_drew1) | exact HB.out)⟩
        · replace c20 := Bool.eq_false_iff.mpr c20
          subst c20
          have H1 : (if (wrap64 (1 + (Int.tmod (Go.bits .and .i64 a1 4611686018427387903) 64))) = 64 then (some (t117 == a0)) else (if 0 ≤ (IntKind.u64.wrap (wrap64 ((wrap64 (1 + (Int.tmod (Go.bits .and .i64 a1 4611686018427387903) 64))) - 1))) then (if (wrap64 (t117)) ≥ (shl .i64 (-1) (IntKind.u64.wrap (wrap64 ((wrap64 (1 + (Int.tmod (Go.bits .and .i64 a1 4611686018427387903) 64))) - 1)))) then (if (wrap64 (t117)) < (shl .i64 1 (IntKind.u64.wrap (wrap64 ((wrap64 (1 + (Int.tmod (Go.bits .and .i64 a1 4611686018427387903) 64))) - 1)))) then (if 0 ≤ (IntKind.u64.wrap ((wrap64 (1 + (Int.tmod (Go.bits .and .i64 a1 4611686018427387903) 64))))) then (if (shl .u64 1 (IntKind.u64.wrap ((wrap64 (1 + (Int.tmod (Go.bits .and .i64 a1 4611686018427387903) 64)))))) = 0 then (none) else (some ((Int.tmod (IntKind.u64.wrap ((IntKind.u64.wrap (wrap64 (t117))) - a0)) (shl .u64 1 (IntKind.u64.wrap ((wrap64 (1 + (Int.tmod (Go.bits .and .i64 a1 4611686018427387903) 64))))))) == 0))) else (none)) else (some false)) else (some false)) else (none))) = some r := by rw [if_neg (show ¬ (false = true) by decide)] at H; exact H
          clear H
          have H := H1
          clear H1
          by_cases c21 : (wrap64 (1 + (Int.tmod (Go.bits .and .i64 a1 4611686018427387903) 64))) = 64
          · rw [if_pos c21] at H
            have c21b0 : ((wrap64 (1 + (Int.tmod (Go.bits .and .i64 a1 4611686018427387903) 64))) == 64) = true := beq_iff_eq.mpr c21
            have c21b1 : ((wrap64 (1 + (Int.tmod (Go.bits .and .i64 a1 4611686018427387903) 64))) != 64) = false := bne_eq_false_iff_eq.mpr c21
            clear c21
            obtain rfl := Option.some.inj H
            go_wp2
            go_ret
            exact ⟨by first | rfl | (simp [errW_none, errW_some] <;> rfl) | (simp [*, errW_none, errW_some] <;> rfl), by repeat (first | (with_reducible first | exact HB.out | apply below_alloc | apply pw_below_drewN | apply below_drew1) | exact HB.out)⟩
          · rw [if_neg c21] at H
            have c21b0 : ((wrap64 (1 + (Int.tmod (Go.bits .and .i64 a1 4611686018427387903) 64))) == 64) = false := beq_eq_false_iff_ne.mpr c21
            have c21b1 : ((wrap64 (1 + (Int.tmod (Go.bits .and .i64 a1 4611686018427387903) 64))) != 64) = true := bne_iff_ne.mpr c21
            obtain ⟨ji22, hji22⟩ : ∃ j_ : Int, (IntKind.u64.wrap (wrap64 ((wrap64 (1 + (Int.tmod (Go.bits .and .i64 a1 4611686018427387903) 64))) - 1))) = j_ := ⟨_, rfl⟩
            replace H : (if 0 ≤ (ji22) then (if (wrap64 (t117)) ≥ (shl .i64 (-1) (ji22)) then (if (wrap64 (t117)) < (shl .i64 1 (ji22)) then (if 0 ≤ (IntKind.u64.wrap ((wrap64 (1 + (Int.tmod (Go.bits .and .i64 a1 4611686018427387903) 64))))) then (if (shl .u64 1 (IntKind.u64.wrap ((wrap64 (1 + (Int.tmod (Go.bits .and .i64 a1 4611686018427387903) 64)))))) = 0 then (none) else (some ((Int.tmod (IntKind.u64.wrap ((IntKind.u64.wrap (wrap64 (t117))) - a0)) (shl .u64 1 (IntKind.u64.wrap ((wrap64 (1 + (Int.tmod (Go.bits .and .i64 a1 4611686018427387903) 64))))))) == 0))) else (none)) else (some false)) else (some false)) else (none)) = some r := by first | (rw [hji22] at H; exact H) | (simp only [hji22] at H ⊢; exact H)
            by_cases c23 : 0 ≤ (ji22)
            · rw [if_pos c23] at H
              have c23b0 := eq_true c23
              have c23b1 : decide (0 ≤ (ji22)) = true := decide_eq_true c23
              clear c23
              obtain ⟨ji24, hji24⟩ : ∃ j_ : Int, (shl .i64 (-1) (ji22)) = j_ := ⟨_, rfl⟩
              replace H : (if (wrap64 (t117)) ≥ (ji24) then (if (wrap64 (t117)) < (shl .i64 1 (ji22)) then (if 0 ≤ (IntKind.u64.wrap ((wrap64 (1 + (Int.tmod (Go.bits .and .i64 a1 4611686018427387903) 64))))) then (if (shl .u64 1 (IntKind.u64.wrap ((wrap64 (1 + (Int.tmod (Go.bits .and .i64 a1 4611686018427387903) 64)))))) = 0 then (none) else (some ((Int.tmod (IntKind.u64.wrap ((IntKind.u64.wrap (wrap64 (t117))) - a0)) (shl .u64 1 (IntKind.u64.wrap ((wrap64 (1 + (Int.tmod (Go.bits .and .i64 a1 4611686018427387903) 64))))))) == 0))) else (none)) else (some false)) else (some false)) = some r := by first | (rw [hji24] at H; exact H) | (simp only [hji24] at H ⊢; exact H)
              have hji24_ : (IntKind.i64.wrap ((-1) * 2 ^ min (ji22).toNat 64)) = ji24 := hji24
              have hji24z : (ji22) ≤ 64 → (IntKind.i64.wrap ((-1) * 2 ^ (ji22).toNat)) = ji24 := shl_small hji24
              have hji24A : (wrap64 (-2 ^ min (ji22).toNat 64)) = ji24 := by have h_ := (i64_w _).symm.trans hji24_; rw [Int.neg_mul, Int.one_mul] at h_; exact h_
              have hji24B : (ji22) ≤ 64 → (wrap64 (-2 ^ (ji22).toNat)) = ji24 := fun hle_ => by have h_ := (i64_w _).symm.trans (hji24z hle_); rw [Int.neg_mul, Int.one_mul] at h_; exact h_
              have hji24y : (wrap64 ((-1) * 2 ^ min (ji22).toNat 64)) = ji24 := (i64_w _).symm.trans hji24_
              have hji24x : (ji22) ≤ 64 → (wrap64 ((-1) * 2 ^ (ji22).toNat)) = ji24 := fun h_ => (i64_w _).symm.trans (hji24z h_)
              by_cases c25 : (wrap64 (t117)) ≥ (ji24)
              · rw [if_pos c25] at H
                have c25b0 : decide ((ji24) ≤ (wrap64 (t117))) = true := decide_eq_true c25
                clear c25
                have c26b0 := eq_true (of_decide_eq_true (by first | (with_reducible assumption) | assumption) : 0 ≤ (ji22))
                obtain ⟨ji27, hji27⟩ : ∃ j_ : Int, (shl .i64 1 (ji22)) = j_ := ⟨_, rfl⟩
                replace H : (if (wrap64 (t117)) < (ji27) then (if 0 ≤ (IntKind.u64.wrap ((wrap64 (1 + (Int.tmod (Go.bits .and .i64 a1 4611686018427387903) 64))))) then (if (shl .u64 1 (IntKind.u64.wrap ((wrap64 (1 + (Int.tmod (Go.bits .and .i64 a1 4611686018427387903) 64)))))) = 0 then (none) else (some ((Int.tmod (IntKind.u64.wrap ((IntKind.u64.wrap (wrap64 (t117))) - a0)) (shl .u64 1 (IntKind.u64.wrap ((wrap64 (1 + (Int.tmod (Go.bits .and .i64 a1 4611686018427387903) 64))))))) == 0))) else (none)) else (some false)) = some r := by first | (rw [hji27] at H; exact H) | (simp only [hji27] at H ⊢; exact H)
                have hji27_ : (IntKind.i64.wrap (1 * 2 ^ min (ji22).toNat 64)) = ji27 := hji27
                have hji27z : (ji22) ≤ 64 → (IntKind.i64.wrap (1 * 2 ^ (ji22).toNat)) = ji27 := shl_small hji27
                have hji27u : (IntKind.i64.wrap (2 ^ min (ji22).toNat 64)) = ji27 := by have h_ := hji27_; rw [Int.one_mul] at h_; exact h_
                have hji27v : (ji22) ≤ 64 → (IntKind.i64.wrap (2 ^ (ji22).toNat)) = ji27 := fun hle_ => by have h_ := hji27z hle_; rw [Int.one_mul] at h_; exact h_
                have hji27y : (wrap64 (1 * 2 ^ min (ji22).toNat 64)) = ji27 := (i64_w _).symm.trans hji27_
                have hji27x : (ji22) ≤ 64 → (wrap64 (1 * 2 ^ (ji22).toNat)) = ji27 := fun h_ => (i64_w _).symm.trans (hji27z h_)
                by_cases c28 : (wrap64 (t117)) < (ji27)
                · rw [if_pos c28] at H
                  have c28b0 : decide ((wrap64 (t117)) < (ji27)) = true := decide_eq_true c28
                  clear c28
                  obtain ⟨ji29, hji29⟩ : ∃ j_ : Int, (IntKind.u64.wrap ((wrap64 (1 + (Int.tmod (Go.bits .and .i64 a1 4611686018427387903) 64))))) = j_ := ⟨_, rfl⟩
                  replace H : (if 0 ≤ (ji29) then (if (shl .u64 1 (ji29)) = 0 then (none) else (some ((Int.tmod (IntKind.u64.wrap ((IntKind.u64.wrap (wrap64 (t117))) - a0)) (shl .u64 1 (ji29))) == 0))) else (none)) = some r := by first | (rw [hji29] at H; exact H) | (simp only [hji29] at H ⊢; exact H)
                  by_cases c30 : 0 ≤ (ji29)
                  · rw [if_pos c30] at H
                    have c30b0 := eq_true c30
                    have c30b1 : decide (0 ≤ (ji29)) = true := decide_eq_true c30
                    clear c30
                    obtain ⟨ji31, hji31⟩ : ∃ j_ : Int, (shl .u64 1 (ji29)) = j_ := ⟨_, rfl⟩
                    replace H : (if (ji31) = 0 then (none) else (some ((Int.tmod (IntKind.u64.wrap ((IntKind.u64.wrap (wrap64 (t117))) - a0)) (ji31)) == 0))) = some r := by first | (rw [hji31] at H; exact H) | (simp only [hji31] at H ⊢; exact H)
                    have hji31_ : (IntKind.u64.wrap (1 * 2 ^ min (ji29).toNat 64)) = ji31 := hji31
                    have hji31z : (ji29) ≤ 64 → (IntKind.u64.wrap (1 * 2 ^ (ji29).toNat)) = ji31 := shl_small hji31
                    have hji31u : (IntKind.u64.wrap (2 ^ min (ji29).toNat 64)) = ji31 := by have h_ := hji31_; rw [Int.one_mul] at h_; exact h_
                    have hji31v : (ji29) ≤ 64 → (IntKind.u64.wrap (2 ^ (ji29).toNat)) = ji31 := fun hle_ => by have h_ := hji31z hle_; rw [Int.one_mul] at h_; exact h_
                    by_cases c32 : (ji31) = 0
                    · rw [if_pos c32] at H
                      exact absurd H (by simp)
                    · rw [if_neg c32] at H
                      have c32b0 : ((ji31) == 0) = false := beq_eq_false_iff_ne.mpr c32
                      have c32b1 : ((ji31) != 0) = true := bne_iff_ne.mpr c32
                      obtain rfl := Option.some.inj H
                      go_wp2
                      go_ret
                      exact ⟨by first | rfl | (simp [errW_none, errW_some] <;> rfl) | (simp only [← hji22, ← hji24, ← hji27, ← hji29, ← hji31]; first | rfl | (simp [errW_none, errW_some] <;> rfl)) | (simp [*, errW_none, errW_some] <;> rfl), by repeat (first | (with_reducible first | exact HB.out | apply below_alloc | apply pw_below_drewN | apply below_drew1) | exact HB.out)⟩
                  · rw [if_neg c30] at H
                    exact absurd H (by simp)
                · rw [if_neg c28] at H
                  have c28b0 : decide ((wrap64 (t117)) < (ji27)) = false := decide_eq_false c28
                  clear c28
                  obtain rfl := Option.some.inj H
                  go_wp2
                  go_ret
                  exact ⟨by first | rfl | (simp [errW_none, errW_some] <;> rfl) | (simp only [← hji22, ← hji24, ← hji27]; first | rfl | (simp [errW_none, errW_some] <;> rfl)) | (simp [*, errW_none, errW_some] <;> rfl), by repeat (first | (with_reducible first | exact HB.out | apply below_alloc | apply pw_below_drewN | apply below_drew1) | exact HB.out)⟩
              · rw [if_neg c25] at H
                have c25b0 : decide ((ji24) ≤ (wrap64 (t117))) = false := decide_eq_false c25
                clear c25
                obtain rfl := Option.some.inj H
                go_wp2
                go_ret
                exact ⟨by first | rfl | (simp [errW_none, errW_some] <;> rfl) | (simp only [← hji22, ← hji24]; first | rfl | (simp [errW_none, errW_some] <;> rfl)) | (simp [*, errW_none, errW_some] <;> rfl), by repeat (first | (with_reducible first | exact HB.out | apply below_alloc | apply pw_below_drewN | apply below_drew1) | exact HB.out)⟩
            · rw [if_neg c23] at H
              exact absurd H (by simp)
  · replace c4 := Bool.eq_false_iff.mpr c4
    subst c4
    have H1 : (some false) = some r := by rw [if_neg (show ¬ (false = true) by decide)] at H; exact H
    clear H
    have H := H1
    clear H1
    obtain rfl := Option.some.inj H
    go_enter Try.func4, Try.ntmps4
    go_wp2_with (first | ((with_reducible refine gate_callee (f := 8) rfl ?_); refine goesL_ (some 7) rfl rfl Try.func8 (by kernel_rfl) rfl #[] rfl (by (try simp only [List.map_toArray, List.map_cons, List.map_nil]); first | done | rfl | (simp only [List.length_drop, List.length_take]; rfl)) ?_; (with_reducible refine (mezzaninelaw01_awake.calls k  false _ A3.out).mono ?_); rintro e w33 ⟨rfl, hb⟩; refine ⟨_, rfl, ?_⟩; have n0_ := Aside0.mk (below_step (by repeat (first | (with_reducible first | exact HB.out | apply below_alloc | apply pw_below_drewN | apply below_drew1) | exact HB.out)) hb); clear HB; have HB := n0_; clear n0_; (try clear hb); (try clear hb2); (try clear hk); (try clear hi)))
    go_ret
    exact ⟨by first | rfl | (simp [errW_none, errW_some] <;> rfl) | (simp [*, errW_none, errW_some] <;> rfl), by repeat (first | (with_reducible first | exact HB.out | apply below_alloc | apply pw_below_drewN | apply below_drew1) | exact HB.out)⟩

/-- THE ONE PURE STATEMENT of mezzaninelaw01_BitsDrawn: yours. -/
def mezzaninelaw01_BitsDrawn.Pure : Prop := ∀ (a0 : Int) (a1 : Int), (Lit.int .u64 a0).wf = true → (Lit.int .i64 a1).wf = true → ∃ k, mezzaninelaw01_BitsDrawn.f k a0 a1 = some true
theorem mezzaninelaw01_BitsDrawn.walk (P : mezzaninelaw01_BitsDrawn.Pure) (a0 : Int) (a1 : Int) (w : World) (w0 : (Lit.int .u64 a0).wf = true) (w1 : (Lit.int .i64 a1).wf = true) :
    Calls Try.prog 4 #[.int .u64 a0, .int .i64 a1] w fun e w' => e = .returned (.bool true) ∧ Below w.heap.size w w' := by
  obtain ⟨k, h⟩ := P a0 a1 w0 w1
  refine (mezzaninelaw01_BitsDrawn.calls k a0 a1 true w h).mono ?_
  rintro e w' ⟨rfl, hd⟩
  exact ⟨rfl, hd⟩

/-! ### mezzanineref01_Mask: by hand -/
section
open Go.Proofs.Ytkcgihpnlekfnaa.Bv
def mezzanineref01_Mask.St (a0 : Int) (k i : Nat) : Bool := decide (i < k) && decide ((i : Int) < a0)
def mezzanineref01_Mask.f (a0 : Int) : Option (Int) := some (U (mk a0.toNat))
set_option maxHeartbeats 4000000 in
set_option maxRecDepth 100000 in
theorem mezzanineref01_Mask.calls (a0 : Int) (r : Int) (w : World) (h : mezzanineref01_Mask.f a0 = some r) :
    Calls Try.prog 15 #[.int .i64 a0] w fun e w' => e = .returned (.int .u64 r) ∧ Below w.heap.size w w' := by
  have e : mk a0.toNat = ofB (mezzanineref01_Mask.St a0 64) := by
    refine (ofB_eq fun i hi => ?_).symm
    unfold mezzanineref01_Mask.St
    rw [mk_bit]; simp [hi] <;> omega
  obtain rfl := Option.some.inj h
  rw [e]
  clear h e
  obtain ⟨hz, hi⟩ := zero_of_info mezzanineref01_Split.zero
  have HI := Lib.hid hi
  clear hi
  go_enter Try.func15, Try.ntmps15
  go_wp2
  have hW : (w.alloc (.cells (bArr fun _ => false) 36)).heap[w.heap.size]? = some (.cells (bArr (mezzanineref01_Mask.St a0 0)) 36 (0, 0)) := by
    refine (heap_alloc_last _ _).trans ?_; first | rfl | (congr 2; apply bArr_congr; intro i hi; simp [mezzanineref01_Mask.St])
  have hB : Below w.heap.size w (w.alloc (.cells (bArr fun _ => false) 36)) := (Below.refl _ _).alloc (Nat.le_refl _) _
  generalize w.alloc (.cells (bArr fun _ => false) 36) = W0 at hW hB ⊢
  obtain ⟨g, hg⟩ : ∃ g, g = w.heap.size := ⟨_, rfl⟩
  have hS : w.heap.size ≤ g := by omega
  rw [← hg] at hW ⊢
  clear hg
  go_loopw [4] (fun v4 wr => ∃ k : Nat, k ≤ 64 ∧ v4 = .int .i64 k ∧ wr.heap[g]? = some (.cells (bArr (mezzanineref01_Mask.St a0 k)) 36 (0, 0)) ∧ Below w.heap.size w wr) (fun v4 _ => 64 - (intOf v4).toNat)
  case atStart => exact ⟨0, by omega, rfl, hW, hB⟩
  case round =>
    clear hW hB
    obtain ⟨k, hk, rfl, hW, hB⟩ := hrel
    by_cases hlt : k < 64
    · have c2 := blk_cell (k := k) hW (bArr_get _ k hlt)
      have f2 := blk_free (k := k) hW
      have hW2 := blk_set (k := k) (decide ((k : Int) < a0)) hW
      have hB2 := hB.setCell (p := ⟨g, k, none⟩) hS (.bool (decide ((k : Int) < a0)))
      have HW2 := Lib.hid hW2
      have HB2 := Lib.hid hB2
      clear hW hB hW2 hB2
      obtain ⟨b, hb⟩ : ∃ b, b = decide ((k : Int) < a0) := ⟨_, rfl⟩
      rw [← hb] at HW2 HB2
      go_wp2_with (fail)
      all_goals (try rw [← hb])
      all_goals go_roundw
      all_goals first
        | (case rel =>
            refine ⟨k + 1, by omega, by go_num, ?_, HB2.out⟩
            rw [HW2.out]; congr 2; apply bArr_congr; intro i hi
            unfold mezzanineref01_Mask.St
            by_cases h : i = k
            · subst h; rw [if_pos rfl, hb]; simp
            · rw [if_neg h]; congr 1; apply decide_eq_decide.2; omega)
        | (case measure => first | (simp [intOf]; done) | (simp [intOf]; omega))
    · obtain rfl : k = 64 := by omega
      have HB2 := Lib.hid hB
      clear hB
      have HW2 := Lib.hid hW
      clear hW
      go_wp2_with (refine wpList_load_row rfl 36 _ rfl g rfl 36 _ (0, 0) _ HW2.out Try.underlying36 rfl (by rw [bArr_size]; exact HI.out) ?_)
      refine (mezzanineref01_Join.calls _ _).mono ?_
      rintro e3 w3 ⟨rfl, hb3⟩
      go_wp2
      go_ret
      exact ⟨rfl, below_then HB2.out (below_size HB2.out) hb3⟩
end

/-! ### mezzanineref01_in: function 25 -/
def mezzanineref01_in.f (a0 : Int) (a1 : Int) (a2 : Int) : Option (Bool) := if a1 ≥ 0 then (if a1 < 64 then (if a0 ≥ a1 then (some (decide ((wrap64 (a0 - a1)) < a2))) else (some false)) else (some false)) else (some false)
set_option maxHeartbeats 8000000 in
set_option maxRecDepth 100000 in
theorem mezzanineref01_in.calls (a0 : Int) (a1 : Int) (a2 : Int) (r : Bool) (w : World) (h : mezzanineref01_in.f a0 a1 a2 = some r) :
    Calls Try.prog 25 #[.int .i64 a0, .int .i64 a1, .int .i64 a2] w fun e w' => e = .returned (.bool r) ∧ Drawn0 w w' := by
  have H : (if a1 ≥ 0 then (if a1 < 64 then (if a0 ≥ a1 then (some (decide ((wrap64 (a0 - a1)) < a2))) else (some false)) else (some false)) else (some false)) = some r := h
  clear h
  by_cases c4 : a1 ≥ 0
  · rw [if_pos c4] at H
    have c4b0 : decide (0 ≤ a1) = true := decide_eq_true c4
    clear c4
    by_cases c5 : a1 < 64
    · rw [if_pos c5] at H
      have c5b0 : decide (a1 < 64) = true := decide_eq_true c5
      clear c5
      by_cases c6 : a0 ≥ a1
      · rw [if_pos c6] at H
        have c6b0 : decide (a1 ≤ a0) = true := decide_eq_true c6
        clear c6
        obtain rfl := Option.some.inj H
        go_enter Try.func25, Try.ntmps25
        go_wp2
        go_ret
        exact ⟨by first | rfl | (simp; done) | (simp [*]; done), by repeat (first | exact Drawn0.refl _ | apply Drawn0.step)⟩
      · rw [if_neg c6] at H
        have c6b0 : decide (a1 ≤ a0) = false := decide_eq_false c6
        clear c6
        obtain rfl := Option.some.inj H
        go_enter Try.func25, Try.ntmps25
        go_wp2
        go_ret
        exact ⟨by first | rfl | (simp; done) | (simp [*]; done), by repeat (first | exact Drawn0.refl _ | apply Drawn0.step)⟩
    · rw [if_neg c5] at H
      have c5b0 : decide (a1 < 64) = false := decide_eq_false c5
      clear c5
      obtain rfl := Option.some.inj H
      go_enter Try.func25, Try.ntmps25
      go_wp2
      go_ret
      exact ⟨by first | rfl | (simp; done) | (simp [*]; done), by repeat (first | exact Drawn0.refl _ | apply Drawn0.step)⟩
  · rw [if_neg c4] at H
    have c4b0 : decide (0 ≤ a1) = false := decide_eq_false c4
    clear c4
    obtain rfl := Option.some.inj H
    go_enter Try.func25, Try.ntmps25
    go_wp2
    go_ret
    exact ⟨by first | rfl | (simp; done) | (simp [*]; done), by repeat (first | exact Drawn0.refl _ | apply Drawn0.step)⟩

end Go.Proofs.Ytkcgihpnlekfnaa.Q
