/- Where the Lean function of a Go function gives a value, the Go call returns that value and changes nothing that was there: for every input. (By a program of this session, and by hand.) -/
import Derived.Test.YtkcgihpnlekfnaaDoorQx0
import Derived.Test.YtkcgihpnlekfnaaDoorQx1
import Derived.Test.YtkcgihpnlekfnaaDoorQx2
import Derived.Test.YtkcgihpnlekfnaaDoorQx3
import Derived.Test.YtkcgihpnlekfnaaDoorQx4
namespace Go.Proofs.YtkcgihpnlekfnaaDoor.Q
open Go.RowKit Go.Proofs.YtkcgihpnlekfnaaDoorW.PrintWords Go.Proofs.YtkcgihpnlekfnaaDoorW.PrintLast Go.Proofs.YtkcgihpnlekfnaaDoorW.PrintMore
attribute [local go_sem] max2_int min2_int max_two min_two max_three min_three max_four min_four   -- for this text's walks alone
set_option linter.unusedVariables false
set_option linter.unusedSimpArgs false

/-! ### mezzaninelaw01_BitsKnown: function 5 -/
mutual
def mezzaninelaw01_BitsKnown.j0 : Nat → Bool → Option (Bool)
  | 0, _ => none
  | k + 1, x44 => if x44 = true then (some false) else ((bits_Mask.f 3).bind fun t150 => (if t150 = 7 then ((bits_Mask.f 0).bind fun t151 => (if t151 = 0 then ((bits_Mask.f 99).bind fun t152 => (if t152 = 18446744073709551615 then ((bits_Field.f 43981 60 9).bind fun t153 => (if t153 = 0 then ((bits_Field.f 1 64 1).bind fun t154 => (if t154 = 0 then ((bits_Put.f 43981 4 8 274).bind fun t155 => (if t155 = 41261 then ((bits_Put.f 0 63 5 3).bind fun t156 => (if t156 = 9223372036854775808 then ((bits_Put.f 7 (-1) 3 0).bind fun t157 => (mezzaninelaw01_BitsKnown.j1 k (t157 != 7))) else (mezzaninelaw01_BitsKnown.j1 k true))) else (mezzaninelaw01_BitsKnown.j1 k true))) else (mezzaninelaw01_BitsKnown.j1 k true))) else (mezzaninelaw01_BitsKnown.j1 k true))) else (mezzaninelaw01_BitsKnown.j1 k true))) else (mezzaninelaw01_BitsKnown.j1 k true))) else (mezzaninelaw01_BitsKnown.j1 k true)))
def mezzaninelaw01_BitsKnown.j1 : Nat → Bool → Option (Bool)
  | 0, _ => none
  | k + 1, x74 => if x74 = true then (some false) else ((mezzaninelaw01_awake.f k).bind fun t158 => (if t158 = true then ((bits_Sext.f 127 8).bind fun t159 => (if t159 = 127 then ((bits_Sext.f 3 0).bind fun t160 => (if t160 = 0 then ((bits_Sext.f 5 64).bind fun t161 => (if t161 = 5 then ((bits_Canon.f 18446744073709551488 8).bind fun t162 => (if t162 = true then ((bits_Canon.f 128 8).bind fun t163 => (if t163 = true then (some false) else ((bits_Canon.f 127 8).bind fun t164 => (if t164 = true then ((bits_Canon.f 1 0).bind fun t165 => (if t165 = true then (some false) else ((bits_Bit_uint8.f 128 7).bind fun t166 => (if t166 = true then ((bits_Bit_uint8.f 128 8).bind fun t167 => (if t167 = true then (some false) else ((bits_Of.f k (([0, 3, 64] : List Int))).bind fun t171 => (if t171 = 9 then ((bits_Ones.f k 9).bind fun t172 => ((mezzanineref01_Same.f k t172 (([0, 3] : List Int))).bind fun t178 => (some t178))) else (some false))))) else (some false))))) else (some false))))) else (some false))) else (some false))) else (some false))) else (some false))) else (some false)))
end
def mezzaninelaw01_BitsKnown.f (k : Nat)  : Option (Bool) := (bits_Up.f 5 4).bind fun bt142 => ((bits_Up.f 0 4096).bind fun bt144 => ((bits_Up.f 1 0).bind fun bt146 => ((bits_Up.f 18446744073709551615 2).bind fun bt148 => (if bt142.1 = 8 then (if bt142.2 = true then (if bt144.1 = 0 then (if bt144.2 = true then (if bt146.2 = true then (mezzaninelaw01_BitsKnown.j0 k true) else (mezzaninelaw01_BitsKnown.j0 k bt148.2)) else (mezzaninelaw01_BitsKnown.j0 k true)) else (mezzaninelaw01_BitsKnown.j0 k true)) else (mezzaninelaw01_BitsKnown.j0 k true)) else (mezzaninelaw01_BitsKnown.j0 k true)))))
theorem mezzaninelaw01_BitsKnown.mono_l : ∀ k, (∀ y0, LeO (mezzaninelaw01_BitsKnown.j0 k y0) (mezzaninelaw01_BitsKnown.j0 (k + 1) y0)) ∧ (∀ y0, LeO (mezzaninelaw01_BitsKnown.j1 k y0) (mezzaninelaw01_BitsKnown.j1 (k + 1) y0))
  | 0 => ⟨fun _ r h => by simp [mezzaninelaw01_BitsKnown.j0] at h, fun _ r h => by simp [mezzaninelaw01_BitsKnown.j1] at h⟩
  | k + 1 => by
    obtain ⟨ih0, ih1⟩ := mezzaninelaw01_BitsKnown.mono_l k
    refine ⟨?_, ?_⟩
    · intro y0
      unfold mezzaninelaw01_BitsKnown.j0
      repeat' first
      | (with_reducible exact ih0 _)
      | (with_reducible exact ih1 _)
      | (with_reducible exact bits_Of.mono _ _)
      | (with_reducible exact bits_Ones.mono _ _)
      | (with_reducible exact mezzaninelaw01_awake.mono _)
      | (with_reducible exact mezzanineref01_Same.mono _ _ _)
      | (with_reducible exact LeO.refl _)
      | (with_reducible exact LeO.none _)
      | (with_reducible refine LeO.ite ?_ ?_)
      | (with_reducible refine LeO.bind ?_ (fun _ => ?_))
      | exact ih0 _
      | exact ih1 _
      | exact bits_Of.mono _ _
      | exact bits_Ones.mono _ _
      | exact mezzaninelaw01_awake.mono _
      | exact mezzanineref01_Same.mono _ _ _
      | exact LeO.none _
      | refine LeO.ite ?_ ?_
      | refine LeO.bind ?_ (fun _ => ?_)
    · intro y0
      unfold mezzaninelaw01_BitsKnown.j1
      repeat' first
      | (with_reducible exact ih0 _)
      | (with_reducible exact ih1 _)
      | (with_reducible exact bits_Of.mono _ _)
      | (with_reducible exact bits_Ones.mono _ _)
      | (with_reducible exact mezzaninelaw01_awake.mono _)
      | (with_reducible exact mezzanineref01_Same.mono _ _ _)
      | (with_reducible exact LeO.refl _)
      | (with_reducible exact LeO.none _)
      | (with_reducible refine LeO.ite ?_ ?_)
      | (with_reducible refine LeO.bind ?_ (fun _ => ?_))
      | exact ih0 _
      | exact ih1 _
      | exact bits_Of.mono _ _
      | exact bits_Ones.mono _ _
      | exact mezzaninelaw01_awake.mono _
      | exact mezzanineref01_Same.mono _ _ _
      | exact LeO.none _
      | refine LeO.ite ?_ ?_
      | refine LeO.bind ?_ (fun _ => ?_)
theorem mezzaninelaw01_BitsKnown.mono : ∀ k, LeO (mezzaninelaw01_BitsKnown.f k ) (mezzaninelaw01_BitsKnown.f (k + 1) ) := by
  intro  k
  obtain ⟨ih0, ih1⟩ := mezzaninelaw01_BitsKnown.mono_l k
  unfold mezzaninelaw01_BitsKnown.f
  repeat' first
      | (with_reducible exact ih0 _)
      | (with_reducible exact ih1 _)
      | (with_reducible exact bits_Of.mono _ _)
      | (with_reducible exact bits_Ones.mono _ _)
      | (with_reducible exact mezzaninelaw01_awake.mono _)
      | (with_reducible exact mezzanineref01_Same.mono _ _ _)
      | (with_reducible exact LeO.refl _)
      | (with_reducible exact LeO.none _)
      | (with_reducible refine LeO.ite ?_ ?_)
      | (with_reducible refine LeO.bind ?_ (fun _ => ?_))
      | exact ih0 _
      | exact ih1 _
      | exact bits_Of.mono _ _
      | exact bits_Ones.mono _ _
      | exact mezzaninelaw01_awake.mono _
      | exact mezzanineref01_Same.mono _ _ _
      | exact LeO.none _
      | refine LeO.ite ?_ ?_
      | refine LeO.bind ?_ (fun _ => ?_)
set_option maxHeartbeats 8000000 in
set_option maxRecDepth 100000 in
theorem mezzaninelaw01_BitsKnown.calls (k : Nat)  (r : Bool) (w : World) (ht : r = true) (h : mezzaninelaw01_BitsKnown.f k  = some r) (hT : Tab w) :
    Calls Tryd.prog 5 #[] w fun e w' => e = .returned (.bool r) ∧ Below w.heap.size w w' := by
  have HB := Aside0.mk (Below.refl w.heap.size w)
  have HT := Aside0.mk ht
  clear ht
  have H : ((bits_Up.f 5 4).bind fun bt142 => ((bits_Up.f 0 4096).bind fun bt144 => ((bits_Up.f 1 0).bind fun bt146 => ((bits_Up.f 18446744073709551615 2).bind fun bt148 => (if bt142.1 = 8 then (if bt142.2 = true then (if bt144.1 = 0 then (if bt144.2 = true then (if bt146.2 = true then (mezzaninelaw01_BitsKnown.j0 k true) else (mezzaninelaw01_BitsKnown.j0 k bt148.2)) else (mezzaninelaw01_BitsKnown.j0 k true)) else (mezzaninelaw01_BitsKnown.j0 k true)) else (mezzaninelaw01_BitsKnown.j0 k true)) else (mezzaninelaw01_BitsKnown.j0 k true)))))) = some r := h
  clear h
  replace H := Option.bind_eq_some_iff.mp H
  obtain ⟨⟨t142, t143⟩, A10, H⟩ := H
  replace H : ((bits_Up.f 0 4096).bind fun bt144 => ((bits_Up.f 1 0).bind fun bt146 => ((bits_Up.f 18446744073709551615 2).bind fun bt148 => (if t142 = 8 then (if t143 = true then (if bt144.1 = 0 then (if bt144.2 = true then (if bt146.2 = true then (mezzaninelaw01_BitsKnown.j0 k true) else (mezzaninelaw01_BitsKnown.j0 k bt148.2)) else (mezzaninelaw01_BitsKnown.j0 k true)) else (mezzaninelaw01_BitsKnown.j0 k true)) else (mezzaninelaw01_BitsKnown.j0 k true)) else (mezzaninelaw01_BitsKnown.j0 k true))))) = some r := H
  have A1 := Aside0.mk A10
  clear A10
  replace H := Option.bind_eq_some_iff.mp H
  obtain ⟨⟨t144, t145⟩, A20, H⟩ := H
  replace H : ((bits_Up.f 1 0).bind fun bt146 => ((bits_Up.f 18446744073709551615 2).bind fun bt148 => (if t142 = 8 then (if t143 = true then (if t144 = 0 then (if t145 = true then (if bt146.2 = true then (mezzaninelaw01_BitsKnown.j0 k true) else (mezzaninelaw01_BitsKnown.j0 k bt148.2)) else (mezzaninelaw01_BitsKnown.j0 k true)) else (mezzaninelaw01_BitsKnown.j0 k true)) else (mezzaninelaw01_BitsKnown.j0 k true)) else (mezzaninelaw01_BitsKnown.j0 k true)))) = some r := H
  have A2 := Aside0.mk A20
  clear A20
  replace H := Option.bind_eq_some_iff.mp H
  obtain ⟨⟨t146, t147⟩, A30, H⟩ := H
  replace H : ((bits_Up.f 18446744073709551615 2).bind fun bt148 => (if t142 = 8 then (if t143 = true then (if t144 = 0 then (if t145 = true then (if t147 = true then (mezzaninelaw01_BitsKnown.j0 k true) else (mezzaninelaw01_BitsKnown.j0 k bt148.2)) else (mezzaninelaw01_BitsKnown.j0 k true)) else (mezzaninelaw01_BitsKnown.j0 k true)) else (mezzaninelaw01_BitsKnown.j0 k true)) else (mezzaninelaw01_BitsKnown.j0 k true))) = some r := H
  have A3 := Aside0.mk A30
  clear A30
  replace H := Option.bind_eq_some_iff.mp H
  obtain ⟨⟨t148, t149⟩, A40, H⟩ := H
  replace H : (if t142 = 8 then (if t143 = true then (if t144 = 0 then (if t145 = true then (if t147 = true then (mezzaninelaw01_BitsKnown.j0 k true) else (mezzaninelaw01_BitsKnown.j0 k t149)) else (mezzaninelaw01_BitsKnown.j0 k true)) else (mezzaninelaw01_BitsKnown.j0 k true)) else (mezzaninelaw01_BitsKnown.j0 k true)) else (mezzaninelaw01_BitsKnown.j0 k true)) = some r := H
  have A4 := Aside0.mk A40
  clear A40
  have HC5 := Aside0.mk H
  clear H
  go_enter Tryd.func5, Tryd.ntmps5
  go_upto_region 5 with (first | ((with_reducible refine gate_callee (f := 17) rfl ?_); refine goesL_ (some 10) rfl rfl Tryd.func17 (by kernel_rfl) rfl #[.int .u64 5, .int .u64 4] rfl (by (try simp only [List.map_toArray, List.map_cons, List.map_nil]); first | done | rfl | (simp only [List.length_drop, List.length_take]; rfl)) ?_; (with_reducible refine (bits_Up.calls 5 4 t142 t143 _ A1.out).mono ?_); rintro e w' ⟨rfl, ⟨nd, rfl⟩⟩; refine ⟨_, rfl, ?_⟩) | ((with_reducible refine gate_callee (f := 17) rfl ?_); refine goesL_ (some 14) rfl rfl Tryd.func17 (by kernel_rfl) rfl #[.int .u64 0, .int .u64 4096] rfl (by (try simp only [List.map_toArray, List.map_cons, List.map_nil]); first | done | rfl | (simp only [List.length_drop, List.length_take]; rfl)) ?_; (with_reducible refine (bits_Up.calls 0 4096 t144 t145 _ A2.out).mono ?_); rintro e w' ⟨rfl, ⟨nd, rfl⟩⟩; refine ⟨_, rfl, ?_⟩) | ((with_reducible refine gate_callee (f := 17) rfl ?_); refine goesL_ (some 18) rfl rfl Tryd.func17 (by kernel_rfl) rfl #[.int .u64 1, .int .u64 0] rfl (by (try simp only [List.map_toArray, List.map_cons, List.map_nil]); first | done | rfl | (simp only [List.length_drop, List.length_take]; rfl)) ?_; (with_reducible refine (bits_Up.calls 1 0 t146 t147 _ A3.out).mono ?_); rintro e w' ⟨rfl, ⟨nd, rfl⟩⟩; refine ⟨_, rfl, ?_⟩) | ((with_reducible refine gate_callee (f := 17) rfl ?_); refine goesL_ (some 22) rfl rfl Tryd.func17 (by kernel_rfl) rfl #[.int .u64 18446744073709551615, .int .u64 2] rfl (by (try simp only [List.map_toArray, List.map_cons, List.map_nil]); first | done | rfl | (simp only [List.length_drop, List.length_take]; rfl)) ?_; (with_reducible refine (bits_Up.calls 18446744073709551615 2 t148 t149 _ A4.out).mono ?_); rintro e w' ⟨rfl, ⟨nd, rfl⟩⟩; refine ⟨_, rfl, ?_⟩))
  (try simp only [Act.put, List.setIfInBounds_toArray, List.set_cons_zero, List.set_cons_succ])
  go_cut [44] (fun v44 wc => ∃ (kq : Nat) (x44_4 : Bool), v44 = .bool x44_4 ∧ Aside0 (mezzaninelaw01_BitsKnown.j0 kq x44_4 = some r) ∧ Aside0 (kq ≤ k) ∧ Aside0 (Below w.heap.size w wc))
  case first =>
    have H := HC5.out
    clear HC5
    by_cases c6 : t142 = 8
    · rw [if_pos c6] at H
      have c6b0 : (t142 == 8) = true := beq_iff_eq.mpr c6
      have c6b1 : (t142 != 8) = false := bne_eq_false_iff_eq.mpr c6
      clear c6
      (first | rw [c6b0] | (simp only [i64_w, i32_w]; rw [c6b0]) | skip)
      by_cases c7 : t143 = true
      · subst c7
        have H1 : (if t144 = 0 then (if t145 = true then (if t147 = true then (mezzaninelaw01_BitsKnown.j0 k true) else (mezzaninelaw01_BitsKnown.j0 k t149)) else (mezzaninelaw01_BitsKnown.j0 k true)) else (mezzaninelaw01_BitsKnown.j0 k true)) = some r := by rw [if_pos rfl] at H; exact H
        clear H
        have H := H1
        clear H1
        by_cases c8 : t144 = 0
        · rw [if_pos c8] at H
          have c8b0 : (t144 == 0) = true := beq_iff_eq.mpr c8
          have c8b1 : (t144 != 0) = false := bne_eq_false_iff_eq.mpr c8
          clear c8
          by_cases c9 : t145 = true
          · subst c9
            have H1 : (if t147 = true then (mezzaninelaw01_BitsKnown.j0 k true) else (mezzaninelaw01_BitsKnown.j0 k t149)) = some r := by rw [if_pos rfl] at H; exact H
            clear H
            have H := H1
            clear H1
            by_cases c10 : t147 = true
            · subst c10
              have H1 : (mezzaninelaw01_BitsKnown.j0 k true) = some r := by rw [if_pos rfl] at H; exact H
              clear H
              have H := H1
              clear H1
              exact absurd H (by rw [HT.out]; cases k <;> simp [mezzaninelaw01_BitsKnown.j0])
            · replace c10 := Bool.eq_false_iff.mpr c10
              subst c10
              have H1 : (mezzaninelaw01_BitsKnown.j0 k t149) = some r := by rw [if_neg (show ¬ (false = true) by decide)] at H; exact H
              clear H
              have H := H1
              clear H1
              have H' := Aside0.mk H
              clear H
              go_wp2
              go_meet
              case rel => exact ⟨_, (t149), (by first | rfl | (simp; done) | (simp [*]; done)), H', ⟨by first | omega | exact Nat.le_refl _⟩, ⟨by repeat (first | (with_reducible first | exact HB.out | apply below_alloc | apply pw_below_drewN | apply below_drew1) | exact HB.out)⟩⟩
          · replace c9 := Bool.eq_false_iff.mpr c9
            subst c9
            have H1 : (mezzaninelaw01_BitsKnown.j0 k true) = some r := by rw [if_neg (show ¬ (false = true) by decide)] at H; exact H
            clear H
            have H := H1
            clear H1
            exact absurd H (by rw [HT.out]; cases k <;> simp [mezzaninelaw01_BitsKnown.j0])
        · rw [if_neg c8] at H
          have c8b0 : (t144 == 0) = false := beq_eq_false_iff_ne.mpr c8
          have c8b1 : (t144 != 0) = true := bne_iff_ne.mpr c8
          exact absurd H (by rw [HT.out]; cases k <;> simp [mezzaninelaw01_BitsKnown.j0])
      · replace c7 := Bool.eq_false_iff.mpr c7
        subst c7
        have H1 : (mezzaninelaw01_BitsKnown.j0 k true) = some r := by rw [if_neg (show ¬ (false = true) by decide)] at H; exact H
        clear H
        have H := H1
        clear H1
        exact absurd H (by rw [HT.out]; cases k <;> simp [mezzaninelaw01_BitsKnown.j0])
    · rw [if_neg c6] at H
      have c6b0 : (t142 == 8) = false := beq_eq_false_iff_ne.mpr c6
      have c6b1 : (t142 != 8) = true := bne_iff_ne.mpr c6
      (first | rw [c6b0] | (simp only [i64_w, i32_w]; rw [c6b0]) | skip)
      exact absurd H (by rw [HT.out]; cases k <;> simp [mezzaninelaw01_BitsKnown.j0])
  case rest =>
    clear HC5
    try clear c1
    try clear p2
    try clear c5
    try clear c6
    try clear c6b0
    try clear c6b1
    try clear c7
    try clear c8
    try clear c8b0
    try clear c8b1
    try clear c9
    try clear c10
    obtain ⟨kq, x44_4, rfl, HA, HJ4, HB⟩ := hcut
    cases kq with
    | zero => exact absurd HA.out (by simp [mezzaninelaw01_BitsKnown.j0])
    | succ kj4 =>
      have H := HA.out
      clear HA
      simp only [mezzaninelaw01_BitsKnown.j0] at H
      by_cases c11 : x44_4 = true
      · subst c11
        have H1 : (some false) = some r := by rw [if_pos rfl] at H; exact H
        clear H
        have H := H1
        clear H1
        exact absurd (Option.some.inj H) (by rw [HT.out]; decide)
      · replace c11 := Bool.eq_false_iff.mpr c11
        subst c11
        have H1 : ((bits_Mask.f 3).bind fun t150 => (if t150 = 7 then ((bits_Mask.f 0).bind fun t151 => (if t151 = 0 then ((bits_Mask.f 99).bind fun t152 => (if t152 = 18446744073709551615 then ((bits_Field.f 43981 60 9).bind fun t153 => (if t153 = 0 then ((bits_Field.f 1 64 1).bind fun t154 => (if t154 = 0 then ((bits_Put.f 43981 4 8 274).bind fun t155 => (if t155 = 41261 then ((bits_Put.f 0 63 5 3).bind fun t156 => (if t156 = 9223372036854775808 then ((bits_Put.f 7 (-1) 3 0).bind fun t157 => (mezzaninelaw01_BitsKnown.j1 kj4 (t157 != 7))) else (mezzaninelaw01_BitsKnown.j1 kj4 true))) else (mezzaninelaw01_BitsKnown.j1 kj4 true))) else (mezzaninelaw01_BitsKnown.j1 kj4 true))) else (mezzaninelaw01_BitsKnown.j1 kj4 true))) else (mezzaninelaw01_BitsKnown.j1 kj4 true))) else (mezzaninelaw01_BitsKnown.j1 kj4 true))) else (mezzaninelaw01_BitsKnown.j1 kj4 true))) = some r := by rw [if_neg (show ¬ (false = true) by decide)] at H; exact H
        clear H
        have H := H1
        clear H1
        have HC12 := Aside0.mk H
        clear H
        go_upto_region 7 with (fail)
        go_cut [74] (fun v74 wc => ∃ (kq : Nat) (x74_11 : Bool), v74 = .bool x74_11 ∧ Aside0 (mezzaninelaw01_BitsKnown.j1 kq x74_11 = some r) ∧ Aside0 (kq ≤ kj4) ∧ Aside0 (Below w.heap.size w wc))
        case first =>
          have H := HC12.out
          clear HC12
          replace H := Option.bind_eq_some_iff.mp H
          obtain ⟨t150, A130, H⟩ := H
          replace H : (if t150 = 7 then ((bits_Mask.f 0).bind fun t151 => (if t151 = 0 then ((bits_Mask.f 99).bind fun t152 => (if t152 = 18446744073709551615 then ((bits_Field.f 43981 60 9).bind fun t153 => (if t153 = 0 then ((bits_Field.f 1 64 1).bind fun t154 => (if t154 = 0 then ((bits_Put.f 43981 4 8 274).bind fun t155 => (if t155 = 41261 then ((bits_Put.f 0 63 5 3).bind fun t156 => (if t156 = 9223372036854775808 then ((bits_Put.f 7 (-1) 3 0).bind fun t157 => (mezzaninelaw01_BitsKnown.j1 kj4 (t157 != 7))) else (mezzaninelaw01_BitsKnown.j1 kj4 true))) else (mezzaninelaw01_BitsKnown.j1 kj4 true))) else (mezzaninelaw01_BitsKnown.j1 kj4 true))) else (mezzaninelaw01_BitsKnown.j1 kj4 true))) else (mezzaninelaw01_BitsKnown.j1 kj4 true))) else (mezzaninelaw01_BitsKnown.j1 kj4 true))) else (mezzaninelaw01_BitsKnown.j1 kj4 true)) = some r := H
          have A13 := Aside0.mk A130
          clear A130
          by_cases c14 : t150 = 7
          · rw [if_pos c14] at H
            have c14b0 : (t150 == 7) = true := beq_iff_eq.mpr c14
            have c14b1 : (t150 != 7) = false := bne_eq_false_iff_eq.mpr c14
            clear c14
            (first | rw [c14b0] | (simp only [i64_w, i32_w]; rw [c14b0]) | skip)
            replace H := Option.bind_eq_some_iff.mp H
            obtain ⟨t151, A150, H⟩ := H
            replace H : (if t151 = 0 then ((bits_Mask.f 99).bind fun t152 => (if t152 = 18446744073709551615 then ((bits_Field.f 43981 60 9).bind fun t153 => (if t153 = 0 then ((bits_Field.f 1 64 1).bind fun t154 => (if t154 = 0 then ((bits_Put.f 43981 4 8 274).bind fun t155 => (if t155 = 41261 then ((bits_Put.f 0 63 5 3).bind fun t156 => (if t156 = 9223372036854775808 then ((bits_Put.f 7 (-1) 3 0).bind fun t157 => (mezzaninelaw01_BitsKnown.j1 kj4 (t157 != 7))) else (mezzaninelaw01_BitsKnown.j1 kj4 true))) else (mezzaninelaw01_BitsKnown.j1 kj4 true))) else (mezzaninelaw01_BitsKnown.j1 kj4 true))) else (mezzaninelaw01_BitsKnown.j1 kj4 true))) else (mezzaninelaw01_BitsKnown.j1 kj4 true))) else (mezzaninelaw01_BitsKnown.j1 kj4 true)) = some r := H
            have A15 := Aside0.mk A150
            clear A150
            by_cases c16 : t151 = 0
            · rw [if_pos c16] at H
              have c16b0 : (t151 == 0) = true := beq_iff_eq.mpr c16
              have c16b1 : (t151 != 0) = false := bne_eq_false_iff_eq.mpr c16
              clear c16
              replace H := Option.bind_eq_some_iff.mp H
              obtain ⟨t152, A170, H⟩ := H
              replace H : (if t152 = 18446744073709551615 then ((bits_Field.f 43981 60 9).bind fun t153 => (if t153 = 0 then ((bits_Field.f 1 64 1).bind fun t154 => (if t154 = 0 then ((bits_Put.f 43981 4 8 274).bind fun t155 => (if t155 = 41261 then ((bits_Put.f 0 63 5 3).bind fun t156 => (if t156 = 9223372036854775808 then ((bits_Put.f 7 (-1) 3 0).bind fun t157 => (mezzaninelaw01_BitsKnown.j1 kj4 (t157 != 7))) else (mezzaninelaw01_BitsKnown.j1 kj4 true))) else (mezzaninelaw01_BitsKnown.j1 kj4 true))) else (mezzaninelaw01_BitsKnown.j1 kj4 true))) else (mezzaninelaw01_BitsKnown.j1 kj4 true))) else (mezzaninelaw01_BitsKnown.j1 kj4 true)) = some r := H
              have A17 := Aside0.mk A170
              clear A170
              by_cases c18 : t152 = 18446744073709551615
              · rw [if_pos c18] at H
                have c18b0 : (t152 == 18446744073709551615) = true := beq_iff_eq.mpr c18
                have c18b1 : (t152 != 18446744073709551615) = false := bne_eq_false_iff_eq.mpr c18
                clear c18
                replace H := Option.bind_eq_some_iff.mp H
                obtain ⟨t153, A190, H⟩ := H
                replace H : (if t153 = 0 then ((bits_Field.f 1 64 1).bind fun t154 => (if t154 = 0 then ((bits_Put.f 43981 4 8 274).bind fun t155 => (if t155 = 41261 then ((bits_Put.f 0 63 5 3).bind fun t156 => (if t156 = 9223372036854775808 then ((bits_Put.f 7 (-1) 3 0).bind fun t157 => (mezzaninelaw01_BitsKnown.j1 kj4 (t157 != 7))) else (mezzaninelaw01_BitsKnown.j1 kj4 true))) else (mezzaninelaw01_BitsKnown.j1 kj4 true))) else (mezzaninelaw01_BitsKnown.j1 kj4 true))) else (mezzaninelaw01_BitsKnown.j1 kj4 true)) = some r := H
                have A19 := Aside0.mk A190
                clear A190
                by_cases c20 : t153 = 0
                · rw [if_pos c20] at H
                  have c20b0 : (t153 == 0) = true := beq_iff_eq.mpr c20
                  have c20b1 : (t153 != 0) = false := bne_eq_false_iff_eq.mpr c20
                  clear c20
                  replace H := Option.bind_eq_some_iff.mp H
                  obtain ⟨t154, A210, H⟩ := H
                  replace H : (if t154 = 0 then ((bits_Put.f 43981 4 8 274).bind fun t155 => (if t155 = 41261 then ((bits_Put.f 0 63 5 3).bind fun t156 => (if t156 = 9223372036854775808 then ((bits_Put.f 7 (-1) 3 0).bind fun t157 => (mezzaninelaw01_BitsKnown.j1 kj4 (t157 != 7))) else (mezzaninelaw01_BitsKnown.j1 kj4 true))) else (mezzaninelaw01_BitsKnown.j1 kj4 true))) else (mezzaninelaw01_BitsKnown.j1 kj4 true)) = some r := H
                  have A21 := Aside0.mk A210
                  clear A210
                  by_cases c22 : t154 = 0
                  · rw [if_pos c22] at H
                    have c22b0 : (t154 == 0) = true := beq_iff_eq.mpr c22
                    have c22b1 : (t154 != 0) = false := bne_eq_false_iff_eq.mpr c22
                    clear c22
                    replace H := Option.bind_eq_some_iff.mp H
                    obtain ⟨t155, A230, H⟩ := H
                    replace H : (if t155 = 41261 then ((bits_Put.f 0 63 5 3).bind fun t156 => (if t156 = 9223372036854775808 then ((bits_Put.f 7 (-1) 3 0).bind fun t157 => (mezzaninelaw01_BitsKnown.j1 kj4 (t157 != 7))) else (mezzaninelaw01_BitsKnown.j1 kj4 true))) else (mezzaninelaw01_BitsKnown.j1 kj4 true)) = some r := H
                    have A23 := Aside0.mk A230
                    clear A230
                    by_cases c24 : t155 = 41261
                    · rw [if_pos c24] at H
                      have c24b0 : (t155 == 41261) = true := beq_iff_eq.mpr c24
                      have c24b1 : (t155 != 41261) = false := bne_eq_false_iff_eq.mpr c24
                      clear c24
                      replace H := Option.bind_eq_some_iff.mp H
                      obtain ⟨t156, A250, H⟩ := H
                      replace H : (if t156 = 9223372036854775808 then ((bits_Put.f 7 (-1) 3 0).bind fun t157 => (mezzaninelaw01_BitsKnown.j1 kj4 (t157 != 7))) else (mezzaninelaw01_BitsKnown.j1 kj4 true)) = some r := H
                      have A25 := Aside0.mk A250
                      clear A250
                      by_cases c26 : t156 = 9223372036854775808
                      · rw [if_pos c26] at H
                        have c26b0 : (t156 == 9223372036854775808) = true := beq_iff_eq.mpr c26
                        have c26b1 : (t156 != 9223372036854775808) = false := bne_eq_false_iff_eq.mpr c26
                        clear c26
                        replace H := Option.bind_eq_some_iff.mp H
                        obtain ⟨t157, A270, H⟩ := H
                        replace H : (mezzaninelaw01_BitsKnown.j1 kj4 (t157 != 7)) = some r := H
                        have A27 := Aside0.mk A270
                        clear A270
                        have H' := Aside0.mk H
                        clear H
                        go_wp2_with (first | ((with_reducible refine gate_callee (f := 18) rfl ?_); refine goesL_ (some 45) rfl rfl Tryd.func18 (by kernel_rfl) rfl #[.int .i64 3] rfl (by (try simp only [List.map_toArray, List.map_cons, List.map_nil]); first | done | rfl | (simp only [List.length_drop, List.length_take]; rfl)) ?_; (with_reducible refine (bits_Mask.calls 3 t150 _ A13.out).mono ?_); rintro e w' ⟨rfl, ⟨nd, rfl⟩⟩; refine ⟨_, rfl, ?_⟩) | (go_at_call 18; (with_reducible refine (bits_Mask.calls 0 t151 _ A15.out).mono ?_); rintro e w' ⟨rfl, ⟨nd, rfl⟩⟩) | (go_at_call 18; (with_reducible refine (bits_Mask.calls 99 t152 _ A17.out).mono ?_); rintro e w' ⟨rfl, ⟨nd, rfl⟩⟩) | (go_at_call 19; (with_reducible refine (bits_Field.calls 43981 60 9 t153 _ A19.out).mono ?_); rintro e w28 ⟨rfl, hb⟩; have n0_ := Aside0.mk (below_step (by repeat (first | (with_reducible first | exact HB.out | apply below_alloc | apply pw_below_drewN | apply below_drew1) | exact HB.out)) hb); clear HB; have HB := n0_; clear n0_; (try clear hb); (try clear hb2); (try clear hk); (try clear hi)) | (go_at_call 19; (with_reducible refine (bits_Field.calls 1 64 1 t154 _ A21.out).mono ?_); rintro e w29 ⟨rfl, hb⟩; have n0_ := Aside0.mk (below_step (by repeat (first | (with_reducible first | exact HB.out | apply below_alloc | apply pw_below_drewN | apply below_drew1) | exact HB.out)) hb); clear HB; have HB := n0_; clear n0_; (try clear hb); (try clear hb2); (try clear hk); (try clear hi)) | (go_at_call 20; (with_reducible refine (bits_Put.calls 43981 4 8 274 t155 _ A23.out).mono ?_); rintro e w30 ⟨rfl, hb⟩; have n0_ := Aside0.mk (below_step (by repeat (first | (with_reducible first | exact HB.out | apply below_alloc | apply pw_below_drewN | apply below_drew1) | exact HB.out)) hb); clear HB; have HB := n0_; clear n0_; (try clear hb); (try clear hb2); (try clear hk); (try clear hi)) | (go_at_call 20; (with_reducible refine (bits_Put.calls 0 63 5 3 t156 _ A25.out).mono ?_); rintro e w31 ⟨rfl, hb⟩; have n0_ := Aside0.mk (below_step (by repeat (first | (with_reducible first | exact HB.out | apply below_alloc | apply pw_below_drewN | apply below_drew1) | exact HB.out)) hb); clear HB; have HB := n0_; clear n0_; (try clear hb); (try clear hb2); (try clear hk); (try clear hi)) | (go_at_call 20; (with_reducible refine (bits_Put.calls 7 (-1) 3 0 t157 _ A27.out).mono ?_); rintro e w32 ⟨rfl, hb⟩; have n0_ := Aside0.mk (below_step (by repeat (first | (with_reducible first | exact HB.out | apply below_alloc | apply pw_below_drewN | apply below_drew1) | exact HB.out)) hb); clear HB; have HB := n0_; clear n0_; (try clear hb); (try clear hb2); (try clear hk); (try clear hi)))
                        go_meet
                        case rel => exact ⟨_, ((t157 != 7)), (by first | rfl | (simp; done) | (simp [*]; done)), H', ⟨by have := HJ4.out; first | omega | exact Nat.le_refl _⟩, ⟨by repeat (first | (with_reducible first | exact HB.out | apply below_alloc | apply pw_below_drewN | apply below_drew1) | exact HB.out)⟩⟩
                      · rw [if_neg c26] at H
                        have c26b0 : (t156 == 9223372036854775808) = false := beq_eq_false_iff_ne.mpr c26
                        have c26b1 : (t156 != 9223372036854775808) = true := bne_iff_ne.mpr c26
                        exact absurd H (by rw [HT.out]; cases kj4 <;> simp [mezzaninelaw01_BitsKnown.j1])
                    · rw [if_neg c24] at H
                      have c24b0 : (t155 == 41261) = false := beq_eq_false_iff_ne.mpr c24
                      have c24b1 : (t155 != 41261) = true := bne_iff_ne.mpr c24
                      exact absurd H (by rw [HT.out]; cases kj4 <;> simp [mezzaninelaw01_BitsKnown.j1])
                  · rw [if_neg c22] at H
                    have c22b0 : (t154 == 0) = false := beq_eq_false_iff_ne.mpr c22
                    have c22b1 : (t154 != 0) = true := bne_iff_ne.mpr c22
                    exact absurd H (by rw [HT.out]; cases kj4 <;> simp [mezzaninelaw01_BitsKnown.j1])
                · rw [if_neg c20] at H
                  have c20b0 : (t153 == 0) = false := beq_eq_false_iff_ne.mpr c20
                  have c20b1 : (t153 != 0) = true := bne_iff_ne.mpr c20
                  exact absurd H (by rw [HT.out]; cases kj4 <;> simp [mezzaninelaw01_BitsKnown.j1])
              · rw [if_neg c18] at H
                have c18b0 : (t152 == 18446744073709551615) = false := beq_eq_false_iff_ne.mpr c18
                have c18b1 : (t152 != 18446744073709551615) = true := bne_iff_ne.mpr c18
                exact absurd H (by rw [HT.out]; cases kj4 <;> simp [mezzaninelaw01_BitsKnown.j1])
            · rw [if_neg c16] at H
              have c16b0 : (t151 == 0) = false := beq_eq_false_iff_ne.mpr c16
              have c16b1 : (t151 != 0) = true := bne_iff_ne.mpr c16
              exact absurd H (by rw [HT.out]; cases kj4 <;> simp [mezzaninelaw01_BitsKnown.j1])
          · rw [if_neg c14] at H
            have c14b0 : (t150 == 7) = false := beq_eq_false_iff_ne.mpr c14
            have c14b1 : (t150 != 7) = true := bne_iff_ne.mpr c14
            (first | rw [c14b0] | (simp only [i64_w, i32_w]; rw [c14b0]) | skip)
            exact absurd H (by rw [HT.out]; cases kj4 <;> simp [mezzaninelaw01_BitsKnown.j1])
        case rest =>
          clear HC12
          try clear c1
          try clear c2
          try clear p2
          try clear c5
          try clear c6
          try clear c6b0
          try clear c6b1
          try clear c7
          try clear c8
          try clear c8b0
          try clear c8b1
          try clear c9
          try clear c10
          try clear c11
          try clear c14
          try clear c14b0
          try clear c14b1
          try clear c16
          try clear c16b0
          try clear c16b1
          try clear c17
          try clear c18
          try clear c18b0
          try clear c18b1
          try clear c20
          try clear c20b0
          try clear c20b1
          try clear c22
          try clear c22b0
          try clear c22b1
          try clear c24
          try clear c24b0
          try clear c24b1
          try clear c26
          try clear c26b0
          try clear c26b1
          try clear p2
          obtain ⟨kq, x74_11, rfl, HA, HJ11, HB⟩ := hcut
          cases kq with
          | zero => exact absurd HA.out (by simp [mezzaninelaw01_BitsKnown.j1])
          | succ kj11 =>
            have H := HA.out
            clear HA
            simp only [mezzaninelaw01_BitsKnown.j1] at H
            by_cases c33 : x74_11 = true
            · subst c33
              have H1 : (some false) = some r := by rw [if_pos rfl] at H; exact H
              clear H
              have H := H1
              clear H1
              exact absurd (Option.some.inj H) (by rw [HT.out]; decide)
            · replace c33 := Bool.eq_false_iff.mpr c33
              subst c33
              have H1 : ((mezzaninelaw01_awake.f kj11).bind fun t158 => (if t158 = true then ((bits_Sext.f 127 8).bind fun t159 => (if t159 = 127 then ((bits_Sext.f 3 0).bind fun t160 => (if t160 = 0 then ((bits_Sext.f 5 64).bind fun t161 => (if t161 = 5 then ((bits_Canon.f 18446744073709551488 8).bind fun t162 => (if t162 = true then ((bits_Canon.f 128 8).bind fun t163 => (if t163 = true then (some false) else ((bits_Canon.f 127 8).bind fun t164 => (if t164 = true then ((bits_Canon.f 1 0).bind fun t165 => (if t165 = true then (some false) else ((bits_Bit_uint8.f 128 7).bind fun t166 => (if t166 = true then ((bits_Bit_uint8.f 128 8).bind fun t167 => (if t167 = true then (some false) else ((bits_Of.f kj11 (([0, 3, 64] : List Int))).bind fun t171 => (if t171 = 9 then ((bits_Ones.f kj11 9).bind fun t172 => ((mezzanineref01_Same.f kj11 t172 (([0, 3] : List Int))).bind fun t178 => (some t178))) else (some false))))) else (some false))))) else (some false))))) else (some false))) else (some false))) else (some false))) else (some false))) else (some false))) = some r := by rw [if_neg (show ¬ (false = true) by decide)] at H; exact H
              clear H
              have H := H1
              clear H1
              replace H := Option.bind_eq_some_iff.mp H
              obtain ⟨t158, A340, H⟩ := H
              replace H : (if t158 = true then ((bits_Sext.f 127 8).bind fun t159 => (if t159 = 127 then ((bits_Sext.f 3 0).bind fun t160 => (if t160 = 0 then ((bits_Sext.f 5 64).bind fun t161 => (if t161 = 5 then ((bits_Canon.f 18446744073709551488 8).bind fun t162 => (if t162 = true then ((bits_Canon.f 128 8).bind fun t163 => (if t163 = true then (some false) else ((bits_Canon.f 127 8).bind fun t164 => (if t164 = true then ((bits_Canon.f 1 0).bind fun t165 => (if t165 = true then (some false) else ((bits_Bit_uint8.f 128 7).bind fun t166 => (if t166 = true then ((bits_Bit_uint8.f 128 8).bind fun t167 => (if t167 = true then (some false) else ((bits_Of.f kj11 (([0, 3, 64] : List Int))).bind fun t171 => (if t171 = 9 then ((bits_Ones.f kj11 9).bind fun t172 => ((mezzanineref01_Same.f kj11 t172 (([0, 3] : List Int))).bind fun t178 => (some t178))) else (some false))))) else (some false))))) else (some false))))) else (some false))) else (some false))) else (some false))) else (some false))) else (some false)) = some r := H
              have A34 := Aside0.mk A340
              clear A340
              by_cases c35 : t158 = true
              · subst c35
                have H1 : ((bits_Sext.f 127 8).bind fun t159 => (if t159 = 127 then ((bits_Sext.f 3 0).bind fun t160 => (if t160 = 0 then ((bits_Sext.f 5 64).bind fun t161 => (if t161 = 5 then ((bits_Canon.f 18446744073709551488 8).bind fun t162 => (if t162 = true then ((bits_Canon.f 128 8).bind fun t163 => (if t163 = true then (some false) else ((bits_Canon.f 127 8).bind fun t164 => (if t164 = true then ((bits_Canon.f 1 0).bind fun t165 => (if t165 = true then (some false) else ((bits_Bit_uint8.f 128 7).bind fun t166 => (if t166 = true then ((bits_Bit_uint8.f 128 8).bind fun t167 => (if t167 = true then (some false) else ((bits_Of.f kj11 (([0, 3, 64] : List Int))).bind fun t171 => (if t171 = 9 then ((bits_Ones.f kj11 9).bind fun t172 => ((mezzanineref01_Same.f kj11 t172 (([0, 3] : List Int))).bind fun t178 => (some t178))) else (some false))))) else (some false))))) else (some false))))) else (some false))) else (some false))) else (some false))) else (some false))) = some r := by rw [if_pos rfl] at H; exact H
                clear H
                have H := H1
                clear H1
                replace H := Option.bind_eq_some_iff.mp H
                obtain ⟨t159, A360, H⟩ := H
                replace H : (if t159 = 127 then ((bits_Sext.f 3 0).bind fun t160 => (if t160 = 0 then ((bits_Sext.f 5 64).bind fun t161 => (if t161 = 5 then ((bits_Canon.f 18446744073709551488 8).bind fun t162 => (if t162 = true then ((bits_Canon.f 128 8).bind fun t163 => (if t163 = true then (some false) else ((bits_Canon.f 127 8).bind fun t164 => (if t164 = true then ((bits_Canon.f 1 0).bind fun t165 => (if t165 = true then (some false) else ((bits_Bit_uint8.f 128 7).bind fun t166 => (if t166 = true then ((bits_Bit_uint8.f 128 8).bind fun t167 => (if t167 = true then (some false) else ((bits_Of.f kj11 (([0, 3, 64] : List Int))).bind fun t171 => (if t171 = 9 then ((bits_Ones.f kj11 9).bind fun t172 => ((mezzanineref01_Same.f kj11 t172 (([0, 3] : List Int))).bind fun t178 => (some t178))) else (some false))))) else (some false))))) else (some false))))) else (some false))) else (some false))) else (some false))) else (some false)) = some r := H
                have A36 := Aside0.mk A360
                clear A360
                by_cases c37 : t159 = 127
                · rw [if_pos c37] at H
                  have c37b0 : (t159 == 127) = true := beq_iff_eq.mpr c37
                  have c37b1 : (t159 != 127) = false := bne_eq_false_iff_eq.mpr c37
                  clear c37
                  replace H := Option.bind_eq_some_iff.mp H
                  obtain ⟨t160, A380, H⟩ := H
                  replace H : (if t160 = 0 then ((bits_Sext.f 5 64).bind fun t161 => (if t161 = 5 then ((bits_Canon.f 18446744073709551488 8).bind fun t162 => (if t162 = true then ((bits_Canon.f 128 8).bind fun t163 => (if t163 = true then (some false) else ((bits_Canon.f 127 8).bind fun t164 => (if t164 = true then ((bits_Canon.f 1 0).bind fun t165 => (if t165 = true then (some false) else ((bits_Bit_uint8.f 128 7).bind fun t166 => (if t166 = true then ((bits_Bit_uint8.f 128 8).bind fun t167 => (if t167 = true then (some false) else ((bits_Of.f kj11 (([0, 3, 64] : List Int))).bind fun t171 => (if t171 = 9 then ((bits_Ones.f kj11 9).bind fun t172 => ((mezzanineref01_Same.f kj11 t172 (([0, 3] : List Int))).bind fun t178 => (some t178))) else (some false))))) else (some false))))) else (some false))))) else (some false))) else (some false))) else (some false)) = some r := H
                  have A38 := Aside0.mk A380
                  clear A380
                  by_cases c39 : t160 = 0
                  · rw [if_pos c39] at H
                    have c39b0 : (t160 == 0) = true := beq_iff_eq.mpr c39
                    have c39b1 : (t160 != 0) = false := bne_eq_false_iff_eq.mpr c39
                    clear c39
                    replace H := Option.bind_eq_some_iff.mp H
                    obtain ⟨t161, A400, H⟩ := H
                    replace H : (if t161 = 5 then ((bits_Canon.f 18446744073709551488 8).bind fun t162 => (if t162 = true then ((bits_Canon.f 128 8).bind fun t163 => (if t163 = true then (some false) else ((bits_Canon.f 127 8).bind fun t164 => (if t164 = true then ((bits_Canon.f 1 0).bind fun t165 => (if t165 = true then (some false) else ((bits_Bit_uint8.f 128 7).bind fun t166 => (if t166 = true then ((bits_Bit_uint8.f 128 8).bind fun t167 => (if t167 = true then (some false) else ((bits_Of.f kj11 (([0, 3, 64] : List Int))).bind fun t171 => (if t171 = 9 then ((bits_Ones.f kj11 9).bind fun t172 => ((mezzanineref01_Same.f kj11 t172 (([0, 3] : List Int))).bind fun t178 => (some t178))) else (some false))))) else (some false))))) else (some false))))) else (some false))) else (some false)) = some r := H
                    have A40 := Aside0.mk A400
                    clear A400
                    by_cases c41 : t161 = 5
                    · rw [if_pos c41] at H
                      have c41b0 : (t161 == 5) = true := beq_iff_eq.mpr c41
                      have c41b1 : (t161 != 5) = false := bne_eq_false_iff_eq.mpr c41
                      clear c41
                      replace H := Option.bind_eq_some_iff.mp H
                      obtain ⟨t162, A420, H⟩ := H
                      replace H : (if t162 = true then ((bits_Canon.f 128 8).bind fun t163 => (if t163 = true then (some false) else ((bits_Canon.f 127 8).bind fun t164 => (if t164 = true then ((bits_Canon.f 1 0).bind fun t165 => (if t165 = true then (some false) else ((bits_Bit_uint8.f 128 7).bind fun t166 => (if t166 = true then ((bits_Bit_uint8.f 128 8).bind fun t167 => (if t167 = true then (some false) else ((bits_Of.f kj11 (([0, 3, 64] : List Int))).bind fun t171 => (if t171 = 9 then ((bits_Ones.f kj11 9).bind fun t172 => ((mezzanineref01_Same.f kj11 t172 (([0, 3] : List Int))).bind fun t178 => (some t178))) else (some false))))) else (some false))))) else (some false))))) else (some false)) = some r := H
                      have A42 := Aside0.mk A420
                      clear A420
                      by_cases c43 : t162 = true
                      · subst c43
                        have H1 : ((bits_Canon.f 128 8).bind fun t163 => (if t163 = true then (some false) else ((bits_Canon.f 127 8).bind fun t164 => (if t164 = true then ((bits_Canon.f 1 0).bind fun t165 => (if t165 = true then (some false) else ((bits_Bit_uint8.f 128 7).bind fun t166 => (if t166 = true then ((bits_Bit_uint8.f 128 8).bind fun t167 => (if t167 = true then (some false) else ((bits_Of.f kj11 (([0, 3, 64] : List Int))).bind fun t171 => (if t171 = 9 then ((bits_Ones.f kj11 9).bind fun t172 => ((mezzanineref01_Same.f kj11 t172 (([0, 3] : List Int))).bind fun t178 => (some t178))) else (some false))))) else (some false))))) else (some false))))) = some r := by rw [if_pos rfl] at H; exact H
                        clear H
                        have H := H1
                        clear H1
                        replace H := Option.bind_eq_some_iff.mp H
                        obtain ⟨t163, A440, H⟩ := H
                        replace H : (if t163 = true then (some false) else ((bits_Canon.f 127 8).bind fun t164 => (if t164 = true then ((bits_Canon.f 1 0).bind fun t165 => (if t165 = true then (some false) else ((bits_Bit_uint8.f 128 7).bind fun t166 => (if t166 = true then ((bits_Bit_uint8.f 128 8).bind fun t167 => (if t167 = true then (some false) else ((bits_Of.f kj11 (([0, 3, 64] : List Int))).bind fun t171 => (if t171 = 9 then ((bits_Ones.f kj11 9).bind fun t172 => ((mezzanineref01_Same.f kj11 t172 (([0, 3] : List Int))).bind fun t178 => (some t178))) else (some false))))) else (some false))))) else (some false)))) = some r := H
                        have A44 := Aside0.mk A440
                        clear A440
                        by_cases c45 : t163 = true
                        · subst c45
                          have H1 : (some false) = some r := by rw [if_pos rfl] at H; exact H
                          clear H
                          have H := H1
                          clear H1
                          exact absurd (Option.some.inj H) (by rw [HT.out]; decide)
                        · replace c45 := Bool.eq_false_iff.mpr c45
                          subst c45
                          have H1 : ((bits_Canon.f 127 8).bind fun t164 => (if t164 = true then ((bits_Canon.f 1 0).bind fun t165 => (if t165 = true then (some false) else ((bits_Bit_uint8.f 128 7).bind fun t166 => (if t166 = true then ((bits_Bit_uint8.f 128 8).bind fun t167 => (if t167 = true then (some false) else ((bits_Of.f kj11 (([0, 3, 64] : List Int))).bind fun t171 => (if t171 = 9 then ((bits_Ones.f kj11 9).bind fun t172 => ((mezzanineref01_Same.f kj11 t172 (([0, 3] : List Int))).bind fun t178 => (some t178))) else (some false))))) else (some false))))) else (some false))) = some r := by rw [if_neg (show ¬ (false = true) by decide)] at H; exact H
                          clear H
                          have H := H1
                          clear H1
                          replace H := Option.bind_eq_some_iff.mp H
                          obtain ⟨t164, A460, H⟩ := H
                          replace H : (if t164 = true then ((bits_Canon.f 1 0).bind fun t165 => (if t165 = true then (some false) else ((bits_Bit_uint8.f 128 7).bind fun t166 => (if t166 = true then ((bits_Bit_uint8.f 128 8).bind fun t167 => (if t167 = true then (some false) else ((bits_Of.f kj11 (([0, 3, 64] : List Int))).bind fun t171 => (if t171 = 9 then ((bits_Ones.f kj11 9).bind fun t172 => ((mezzanineref01_Same.f kj11 t172 (([0, 3] : List Int))).bind fun t178 => (some t178))) else (some false))))) else (some false))))) else (some false)) = some r := H
                          have A46 := Aside0.mk A460
                          clear A460
                          by_cases c47 : t164 = true
                          · subst c47
                            have H1 : ((bits_Canon.f 1 0).bind fun t165 => (if t165 = true then (some false) else ((bits_Bit_uint8.f 128 7).bind fun t166 => (if t166 = true then ((bits_Bit_uint8.f 128 8).bind fun t167 => (if t167 = true then (some false) else ((bits_Of.f kj11 (([0, 3, 64] : List Int))).bind fun t171 => (if t171 = 9 then ((bits_Ones.f kj11 9).bind fun t172 => ((mezzanineref01_Same.f kj11 t172 (([0, 3] : List Int))).bind fun t178 => (some t178))) else (some false))))) else (some false))))) = some r := by rw [if_pos rfl] at H; exact H
                            clear H
                            have H := H1
                            clear H1
                            replace H := Option.bind_eq_some_iff.mp H
                            obtain ⟨t165, A480, H⟩ := H
                            replace H : (if t165 = true then (some false) else ((bits_Bit_uint8.f 128 7).bind fun t166 => (if t166 = true then ((bits_Bit_uint8.f 128 8).bind fun t167 => (if t167 = true then (some false) else ((bits_Of.f kj11 (([0, 3, 64] : List Int))).bind fun t171 => (if t171 = 9 then ((bits_Ones.f kj11 9).bind fun t172 => ((mezzanineref01_Same.f kj11 t172 (([0, 3] : List Int))).bind fun t178 => (some t178))) else (some false))))) else (some false)))) = some r := H
                            have A48 := Aside0.mk A480
                            clear A480
                            by_cases c49 : t165 = true
                            · subst c49
                              have H1 : (some false) = some r := by rw [if_pos rfl] at H; exact H
                              clear H
                              have H := H1
                              clear H1
                              exact absurd (Option.some.inj H) (by rw [HT.out]; decide)
                            · replace c49 := Bool.eq_false_iff.mpr c49
                              subst c49
                              have H1 : ((bits_Bit_uint8.f 128 7).bind fun t166 => (if t166 = true then ((bits_Bit_uint8.f 128 8).bind fun t167 => (if t167 = true then (some false) else ((bits_Of.f kj11 (([0, 3, 64] : List Int))).bind fun t171 => (if t171 = 9 then ((bits_Ones.f kj11 9).bind fun t172 => ((mezzanineref01_Same.f kj11 t172 (([0, 3] : List Int))).bind fun t178 => (some t178))) else (some false))))) else (some false))) = some r := by rw [if_neg (show ¬ (false = true) by decide)] at H; exact H
                              clear H
                              have H := H1
                              clear H1
                              replace H := Option.bind_eq_some_iff.mp H
                              obtain ⟨t166, A500, H⟩ := H
                              replace H : (if t166 = true then ((bits_Bit_uint8.f 128 8).bind fun t167 => (if t167 = true then (some false) else ((bits_Of.f kj11 (([0, 3, 64] : List Int))).bind fun t171 => (if t171 = 9 then ((bits_Ones.f kj11 9).bind fun t172 => ((mezzanineref01_Same.f kj11 t172 (([0, 3] : List Int))).bind fun t178 => (some t178))) else (some false))))) else (some false)) = some r := H
                              have A50 := Aside0.mk A500
                              clear A500
                              by_cases c51 : t166 = true
                              · subst c51
                                have H1 : ((bits_Bit_uint8.f 128 8).bind fun t167 => (if t167 = true then (some false) else ((bits_Of.f kj11 (([0, 3, 64] : List Int))).bind fun t171 => (if t171 = 9 then ((bits_Ones.f kj11 9).bind fun t172 => ((mezzanineref01_Same.f kj11 t172 (([0, 3] : List Int))).bind fun t178 => (some t178))) else (some false))))) = some r := by rw [if_pos rfl] at H; exact H
                                clear H
                                have H := H1
                                clear H1
                                replace H := Option.bind_eq_some_iff.mp H
                                obtain ⟨t167, A520, H⟩ := H
                                replace H : (if t167 = true then (some false) else ((bits_Of.f kj11 (([0, 3, 64] : List Int))).bind fun t171 => (if t171 = 9 then ((bits_Ones.f kj11 9).bind fun t172 => ((mezzanineref01_Same.f kj11 t172 (([0, 3] : List Int))).bind fun t178 => (some t178))) else (some false)))) = some r := H
                                have A52 := Aside0.mk A520
                                clear A520
                                by_cases c53 : t167 = true
                                · subst c53
                                  have H1 : (some false) = some r := by rw [if_pos rfl] at H; exact H
                                  clear H
                                  have H := H1
                                  clear H1
                                  exact absurd (Option.some.inj H) (by rw [HT.out]; decide)
                                · replace c53 := Bool.eq_false_iff.mpr c53
                                  subst c53
                                  have H1 : ((bits_Of.f kj11 (([0, 3, 64] : List Int))).bind fun t171 => (if t171 = 9 then ((bits_Ones.f kj11 9).bind fun t172 => ((mezzanineref01_Same.f kj11 t172 (([0, 3] : List Int))).bind fun t178 => (some t178))) else (some false))) = some r := by rw [if_neg (show ¬ (false = true) by decide)] at H; exact H
                                  clear H
                                  have H := H1
                                  clear H1
                                  obtain ⟨y168, hy168⟩ : ∃ y_ : List Int, y_ = (([0, 3, 64] : List Int)) := ⟨_, rfl⟩
                                  replace H : ((bits_Of.f kj11 y168).bind fun t171 => (if t171 = 9 then ((bits_Ones.f kj11 9).bind fun t172 => ((mezzanineref01_Same.f kj11 t172 (([0, 3] : List Int))).bind fun t178 => (some t178))) else (some false))) = some r := by first | (rw [hy168]; with_reducible exact H) | (have H2_ := (Option.bind_some _ _).symm.trans H; rw [hy168]; with_reducible exact H2_) | (have H2_ := (Option.bind_some _ _).symm.trans H; with_reducible exact H2_) | with_reducible exact H | (rw [hy168]; exact H) | exact H
                                  have Ny168 := Aside0.mk hy168
                                  clear hy168
                                  replace H := Option.bind_eq_some_iff.mp H
                                  obtain ⟨t171, A540, H⟩ := H
                                  replace H : (if t171 = 9 then ((bits_Ones.f kj11 9).bind fun t172 => ((mezzanineref01_Same.f kj11 t172 (([0, 3] : List Int))).bind fun t178 => (some t178))) else (some false)) = some r := H
                                  have A54 := Aside0.mk A540
                                  clear A540
                                  by_cases c55 : t171 = 9
                                  · rw [if_pos c55] at H
                                    have c55b0 : (t171 == 9) = true := beq_iff_eq.mpr c55
                                    have c55b1 : (t171 != 9) = false := bne_eq_false_iff_eq.mpr c55
                                    clear c55
                                    replace H := Option.bind_eq_some_iff.mp H
                                    obtain ⟨t172, A560, H⟩ := H
                                    replace H : ((mezzanineref01_Same.f kj11 t172 (([0, 3] : List Int))).bind fun t178 => (some t178)) = some r := H
                                    have A56 := Aside0.mk A560
                                    clear A560
                                    obtain ⟨y175, hy175⟩ : ∃ y_ : List Int, y_ = (([0, 3] : List Int)) := ⟨_, rfl⟩
                                    replace H : ((mezzanineref01_Same.f kj11 t172 y175).bind fun t178 => (some t178)) = some r := by first | (rw [hy175]; with_reducible exact H) | (have H2_ := (Option.bind_some _ _).symm.trans H; rw [hy175]; with_reducible exact H2_) | (have H2_ := (Option.bind_some _ _).symm.trans H; with_reducible exact H2_) | with_reducible exact H | (rw [hy175]; exact H) | exact H
                                    have Ny175 := Aside0.mk hy175
                                    clear hy175
                                    replace H := Option.bind_eq_some_iff.mp H
                                    obtain ⟨t178, A570, H⟩ := H
                                    replace H : (some t178) = some r := H
                                    have A57 := Aside0.mk A570
                                    clear A570
                                    obtain rfl := Option.some.inj H
                                    go_wp2_with (first | ((with_reducible refine gate_callee (f := 6) rfl ?_); refine goesL_ (some 75) rfl rfl Tryd.func6 (by kernel_rfl) rfl #[] rfl (by (try simp only [List.map_toArray, List.map_cons, List.map_nil]); first | done | rfl | (simp only [List.length_drop, List.length_take]; rfl)) ?_; (with_reducible refine (mezzaninelaw01_awake.calls kj11  true _ A34.out).mono ?_); rintro e w58 ⟨rfl, hb⟩; refine ⟨_, rfl, ?_⟩; have n0_ := Aside0.mk (below_step (by repeat (first | (with_reducible first | exact HB.out | apply below_alloc | apply pw_below_drewN | apply below_drew1) | exact HB.out)) hb); clear HB; have HB := n0_; clear n0_; (try clear hb); (try clear hb2); (try clear hk); (try clear hi)) | (go_at_call 21; (with_reducible refine (bits_Sext.calls 127 8 t159 _ A36.out).mono ?_); rintro e w' ⟨rfl, ⟨nd, rfl⟩⟩) | (go_at_call 21; (with_reducible refine (bits_Sext.calls 3 0 t160 _ A38.out).mono ?_); rintro e w' ⟨rfl, ⟨nd, rfl⟩⟩) | (go_at_call 21; (with_reducible refine (bits_Sext.calls 5 64 t161 _ A40.out).mono ?_); rintro e w' ⟨rfl, ⟨nd, rfl⟩⟩) | (go_at_call 22; (with_reducible refine (bits_Canon.calls 18446744073709551488 8 true _ A42.out).mono ?_); rintro e w' ⟨rfl, ⟨nd, rfl⟩⟩) | (go_at_call 22; (with_reducible refine (bits_Canon.calls 128 8 false _ A44.out).mono ?_); rintro e w' ⟨rfl, ⟨nd, rfl⟩⟩) | (go_at_call 22; (with_reducible refine (bits_Canon.calls 127 8 true _ A46.out).mono ?_); rintro e w' ⟨rfl, ⟨nd, rfl⟩⟩) | (go_at_call 22; (with_reducible refine (bits_Canon.calls 1 0 false _ A48.out).mono ?_); rintro e w' ⟨rfl, ⟨nd, rfl⟩⟩) | (go_at_call 11; (with_reducible refine (bits_Bit_uint8.calls 128 7 true _ A50.out).mono ?_); rintro e w' ⟨rfl, ⟨nd, rfl⟩⟩) | (go_at_call 11; (with_reducible refine (bits_Bit_uint8.calls 128 8 false _ A52.out).mono ?_); rintro e w' ⟨rfl, ⟨nd, rfl⟩⟩) | ((with_reducible refine gate_dst (N := 110) rfl ?_); (try (refine gate_guard (by rfl) ?_; dsimp only)); refine Kd.R_lit (Kd.int .i64) _ 3 ?hg (N := 110) ?hd (xs := ([0, 3, 64] : List Int)) (inner := [.int .i64 0, .int .i64 3, .int .i64 64]) (ok := fun _ => True) (okp := fun _ => True) ?hr ?hp (fun _ hk => hk) trivial (Below.refl _ _) (Nat.le_refl _) (by simp) ?_; (case hd => rfl); (case hg => rfl); (case hr => first | (go_simp; done) | (go_simp; rfl)); (case hp => exact (Reps.one (show Kd.M (Kd.int .i64) _ _ _ 0 [.int .i64 0] from rfl) (Reps.one (show Kd.M (Kd.int .i64) _ _ _ 3 [.int .i64 3] from rfl) (Reps.one (show Kd.M (Kd.int .i64) _ _ _ 64 [.int .i64 64] from rfl) (Reps.none _ _))))); intro v169 w59 ho60 hb hg_ hnew_; clear hg_ hnew_; (first | rw [← Ny168.out] at ho60 | (simp only [Int.reduceToNat] at ho60; rw [← Ny168.out] at ho60)); have n0_ := Aside0.mk (Kd.R_lower ho60 (below_size (by repeat (first | (with_reducible first | exact HB.out | apply below_alloc | apply pw_below_drewN | apply below_drew1) | exact HB.out)))); have n1_ := Aside0.mk (below_step (by repeat (first | (with_reducible first | exact HB.out | apply below_alloc | apply pw_below_drewN | apply below_drew1) | exact HB.out)) hb); clear HB; have HO170 := n0_; have HB := n1_; clear n0_ n1_; clear hb ho60; obtain ⟨Ao61, co61, eo61⟩ := Kd.R_slice HO170.out; subst eo61) | (go_at_call 12; (with_reducible refine (bits_Of.calls kj11 _ _ y168 t171 _ ?side1 ?side2 A54.out).mono ?_); (case side1 => repeat (first | exact (Kd.R_reads' HO170.out).2.2 | (with_reducible refine Kd.C_alloc ?_ _) | (with_reducible refine Kd.C_drewN ?_ _) | (with_reducible refine Kd.C_drew ?_))); (case side2 => exact (Kd.R_reads' HO170.out).2.1); rintro e w' ⟨rfl, ⟨nd, rfl⟩⟩) | (go_at_call 13; (with_reducible refine (bits_Ones.calls kj11 9 t172 _ A56.out (Tab.from hT (by repeat (first | (with_reducible first | exact HB.out | exact Below.refl _ _ | apply below_alloc | apply pw_below_drewN | apply below_drew1) | exact HB.out)))).mono ?_); rintro e w62 ⟨v173, rfl, ho0, hb⟩; have n0_ := Aside0.mk (Kd.R_elder' (by (with_reducible repeat (first | apply Kd.R_alloc | apply Kd.R_drewN | apply Kd.R_drew)); exact HO170.out) (Kd.R_base ho0) hb); have n1_ := Aside0.mk (Kd.R_lower (Kd.R_new' ho0 (Kd.R_lt (by (with_reducible repeat (first | apply Kd.R_alloc | apply Kd.R_drewN | apply Kd.R_drew)); exact HO170.out))) (below_size (by repeat (first | (with_reducible first | exact HB.out | apply below_alloc | apply pw_below_drewN | apply below_drew1) | exact HB.out)))); have n2_ := Aside0.mk (below_step (by repeat (first | (with_reducible first | exact HB.out | apply below_alloc | apply pw_below_drewN | apply below_drew1) | exact HB.out)) hb); clear HO170; clear HB; have HO170 := n0_; have HO174 := n1_; have HB := n2_; clear n0_ n1_ n2_; (try clear hb); (try clear hb2); (try clear hk); (try clear hi); (try clear ho0)) | ((with_reducible refine gate_dst (N := 116) rfl ?_); (try (refine gate_guard (by rfl) ?_; dsimp only)); refine Kd.R_lit (Kd.int .i64) _ 3 ?hg (N := 116) ?hd (xs := ([0, 3] : List Int)) (inner := [.int .i64 0, .int .i64 3]) (ok := fun _ => True) (okp := fun _ => True) ?hr ?hp (fun _ hk => hk) trivial (Below.refl _ _) (Nat.le_refl _) (by simp) ?_; (case hd => rfl); (case hg => rfl); (case hr => first | (go_simp; done) | (go_simp; rfl)); (case hp => exact (Reps.one (show Kd.M (Kd.int .i64) _ _ _ 0 [.int .i64 0] from rfl) (Reps.one (show Kd.M (Kd.int .i64) _ _ _ 3 [.int .i64 3] from rfl) (Reps.none _ _)))); intro v176 w63 ho64 hb hg_ hnew_; clear hg_ hnew_; (first | rw [← Ny175.out] at ho64 | (simp only [Int.reduceToNat] at ho64; rw [← Ny175.out] at ho64)); have n0_ := Aside0.mk (Kd.R_elder' (by (with_reducible repeat (first | apply Kd.R_alloc | apply Kd.R_drewN | apply Kd.R_drew)); exact HO170.out) (Kd.R_base ho64) hb); have n1_ := Aside0.mk (Kd.R_elder' (by (with_reducible repeat (first | apply Kd.R_alloc | apply Kd.R_drewN | apply Kd.R_drew)); exact HO174.out) (Kd.R_base ho64) hb); have n2_ := Aside0.mk (Kd.R_lower (Kd.R_new' (Kd.R_new' ho64 (Kd.R_lt (by (with_reducible repeat (first | apply Kd.R_alloc | apply Kd.R_drewN | apply Kd.R_drew)); exact HO170.out))) (Kd.R_lt (by (with_reducible repeat (first | apply Kd.R_alloc | apply Kd.R_drewN | apply Kd.R_drew)); exact HO174.out))) (below_size (by repeat (first | (with_reducible first | exact HB.out | apply below_alloc | apply pw_below_drewN | apply below_drew1) | exact HB.out)))); have n3_ := Aside0.mk (below_step (by repeat (first | (with_reducible first | exact HB.out | apply below_alloc | apply pw_below_drewN | apply below_drew1) | exact HB.out)) hb); clear HO170; clear HO174; clear HB; have HO170 := n0_; have HO174 := n1_; have HO177 := n2_; have HB := n3_; clear n0_ n1_ n2_ n3_; clear hb ho64; obtain ⟨Ao65, co65, eo65⟩ := Kd.R_slice HO174.out; subst eo65; obtain ⟨Ao66, co66, eo66⟩ := Kd.R_slice HO177.out; subst eo66) | (go_at_call 14; (with_reducible refine (mezzanineref01_Same.calls kj11 _ _ t172 _ _ y175 t178 _ ?side1 ?side2 ?side3 ?side4 A57.out).mono ?_); (case side1 => repeat (first | exact (Kd.R_reads' HO174.out).2.2 | (with_reducible refine Kd.C_alloc ?_ _) | (with_reducible refine Kd.C_drewN ?_ _) | (with_reducible refine Kd.C_drew ?_))); (case side2 => exact (Kd.R_reads' HO174.out).2.1); (case side3 => repeat (first | exact (Kd.R_reads' HO177.out).2.2 | (with_reducible refine Kd.C_alloc ?_ _) | (with_reducible refine Kd.C_drewN ?_ _) | (with_reducible refine Kd.C_drew ?_))); (case side4 => exact (Kd.R_reads' HO177.out).2.1); rintro e w' ⟨rfl, ⟨nd, rfl⟩⟩))
                                    go_ret
                                    exact ⟨by first | rfl | (simp [errW_none, errW_some] <;> rfl) | (simp [*, errW_none, errW_some] <;> rfl), by repeat (first | (with_reducible first | exact HB.out | apply below_alloc | apply pw_below_drewN | apply below_drew1) | exact HB.out)⟩
                                  · rw [if_neg c55] at H
                                    have c55b0 : (t171 == 9) = false := beq_eq_false_iff_ne.mpr c55
                                    have c55b1 : (t171 != 9) = true := bne_iff_ne.mpr c55
                                    exact absurd (Option.some.inj H) (by rw [HT.out]; decide)
                              · replace c51 := Bool.eq_false_iff.mpr c51
                                subst c51
                                have H1 : (some false) = some r := by rw [if_neg (show ¬ (false = true) by decide)] at H; exact H
                                clear H
                                have H := H1
                                clear H1
                                exact absurd (Option.some.inj H) (by rw [HT.out]; decide)
                          · replace c47 := Bool.eq_false_iff.mpr c47
                            subst c47
                            have H1 : (some false) = some r := by rw [if_neg (show ¬ (false = true) by decide)] at H; exact H
                            clear H
                            have H := H1
                            clear H1
                            exact absurd (Option.some.inj H) (by rw [HT.out]; decide)
                      · replace c43 := Bool.eq_false_iff.mpr c43
                        subst c43
                        have H1 : (some false) = some r := by rw [if_neg (show ¬ (false = true) by decide)] at H; exact H
                        clear H
                        have H := H1
                        clear H1
                        exact absurd (Option.some.inj H) (by rw [HT.out]; decide)
                    · rw [if_neg c41] at H
                      have c41b0 : (t161 == 5) = false := beq_eq_false_iff_ne.mpr c41
                      have c41b1 : (t161 != 5) = true := bne_iff_ne.mpr c41
                      exact absurd (Option.some.inj H) (by rw [HT.out]; decide)
                  · rw [if_neg c39] at H
                    have c39b0 : (t160 == 0) = false := beq_eq_false_iff_ne.mpr c39
                    have c39b1 : (t160 != 0) = true := bne_iff_ne.mpr c39
                    exact absurd (Option.some.inj H) (by rw [HT.out]; decide)
                · rw [if_neg c37] at H
                  have c37b0 : (t159 == 127) = false := beq_eq_false_iff_ne.mpr c37
                  have c37b1 : (t159 != 127) = true := bne_iff_ne.mpr c37
                  exact absurd (Option.some.inj H) (by rw [HT.out]; decide)
              · replace c35 := Bool.eq_false_iff.mpr c35
                subst c35
                have H1 : (some false) = some r := by rw [if_neg (show ¬ (false = true) by decide)] at H; exact H
                clear H
                have H := H1
                clear H1
                exact absurd (Option.some.inj H) (by rw [HT.out]; decide)

/-- THE ONE PURE STATEMENT of mezzaninelaw01_BitsKnown: yours. -/
def mezzaninelaw01_BitsKnown.Pure : Prop := ∃ k, mezzaninelaw01_BitsKnown.f k  = some true
theorem mezzaninelaw01_BitsKnown.walk (P : mezzaninelaw01_BitsKnown.Pure)  (w : World)  (hT : Tab w) :
    Calls Tryd.prog 5 #[] w fun e w' => e = .returned (.bool true) ∧ Below w.heap.size w w' := by
  obtain ⟨k, h⟩ := P  
  refine (mezzaninelaw01_BitsKnown.calls k  true w rfl h (Tab.from hT (by repeat (first | (with_reducible first | exact HB.out | exact Below.refl _ _ | apply below_alloc | apply pw_below_drewN | apply below_drew1) | exact HB.out)))).mono ?_
  rintro e w' ⟨rfl, hd⟩
  exact ⟨rfl, hd⟩

end Go.Proofs.YtkcgihpnlekfnaaDoor.Q
