/- Where the Lean function of a Go function gives a value, the Go call returns that value and changes nothing that was there: for every input. (By a program of this session, and by hand.) -/
import Derived.Test.YtlopmcakfalkpaaDoorQx0
import Derived.Test.YtlopmcakfalkpaaDoorQx1
namespace Go.Proofs.YtlopmcakfalkpaaDoor.Q
open Go.RowKit Go.Proofs.YtlopmcakfalkpaaDoorW.PrintWords Go.Proofs.YtlopmcakfalkpaaDoorW.PrintLast Go.Proofs.YtlopmcakfalkpaaDoorW.PrintMore
attribute [local go_sem] max2_int min2_int max_two min_two max_three min_three max_four min_four   -- for this text's walks alone
set_option linter.unusedVariables false
set_option linter.unusedSimpArgs false

/-! ### mezzanineref12_Put: function 35 -/
def mezzanineref12_Put.l0 : Nat → Int → Int → Int → Int → Option (Int)
  | 0, _, _, _, _ => none
  | k + 1, x1, x2, x7, x8 => if x8 < 64 then ((mezzanineref12_bit.f x1 x8).bind fun t136 => (if t136 = true then (if 0 ≤ x8 then ((mezzanineref12_bit.f x2 x8).bind fun t137 => (if t137 = true then (mezzanineref12_Put.l0 k x1 x2 (Go.bits .or .u64 (Go.bits .andNot .u64 x7 (shl .u64 1 x8)) (shl .u64 1 x8)) (IntKind.u64.wrap (x8 + 1))) else (mezzanineref12_Put.l0 k x1 x2 (Go.bits .andNot .u64 x7 (shl .u64 1 x8)) (IntKind.u64.wrap (x8 + 1))))) else (none)) else (mezzanineref12_Put.l0 k x1 x2 x7 (IntKind.u64.wrap (x8 + 1))))) else (some x7)
def mezzanineref12_Put.f (k : Nat) (a0 : Int) (a1 : Int) (a2 : Int) : Option (Int) := mezzanineref12_Put.l0 k a1 a2 a0 0
theorem mezzanineref12_Put.mono_l : ∀ k, (∀ y0 y1 y2 y3, LeO (mezzanineref12_Put.l0 k y0 y1 y2 y3) (mezzanineref12_Put.l0 (k + 1) y0 y1 y2 y3))
  | 0 => fun _ _ _ _ r h => by simp [mezzanineref12_Put.l0] at h
  | k + 1 => by
    have ih0 := mezzanineref12_Put.mono_l k
    · intro y0 y1 y2 y3
      unfold mezzanineref12_Put.l0
      repeat' first
      | (with_reducible exact ih0 _ _ _ _)
      | (with_reducible exact LeO.refl _)
      | (with_reducible exact LeO.none _)
      | (with_reducible refine LeO.ite ?_ ?_)
      | (with_reducible refine LeO.bind ?_ (fun _ => ?_))
      | exact ih0 _ _ _ _
      | exact LeO.none _
      | refine LeO.ite ?_ ?_
      | refine LeO.bind ?_ (fun _ => ?_)
theorem mezzanineref12_Put.mono : ∀ a0 a1 a2 k, LeO (mezzanineref12_Put.f k a0 a1 a2) (mezzanineref12_Put.f (k + 1) a0 a1 a2) := by
  intro a0 a1 a2 k
  have ih0 := mezzanineref12_Put.mono_l k
  unfold mezzanineref12_Put.f
  repeat' first
      | (with_reducible exact ih0 _ _ _ _)
      | (with_reducible exact LeO.refl _)
      | (with_reducible exact LeO.none _)
      | (with_reducible refine LeO.ite ?_ ?_)
      | (with_reducible refine LeO.bind ?_ (fun _ => ?_))
      | exact ih0 _ _ _ _
      | exact LeO.none _
      | refine LeO.ite ?_ ?_
      | refine LeO.bind ?_ (fun _ => ?_)
set_option maxHeartbeats 8000000 in
set_option maxRecDepth 100000 in
theorem mezzanineref12_Put.calls (k : Nat) (a0 : Int) (a1 : Int) (a2 : Int) (r : Int) (w : World) (h : mezzanineref12_Put.f k a0 a1 a2 = some r) :
    Calls Tryd.prog 35 #[.int .u64 a0, .int .u64 a1, .int .u64 a2] w fun e w' => e = .returned (.int .u64 r) ∧ Drawn0 w w' := by
  have H : (mezzanineref12_Put.l0 k a1 a2 a0 0) = some r := h
  clear h
  have H' := Aside0.mk H
  clear H
  go_enter Tryd.func35, Tryd.ntmps35
  go_wp2
  go_loopg [7, 8] k (fun kq v7 v8 w' => ∃ (x7_1 : Int) (x8_1 : Int), v7 = .int .u64 x7_1 ∧ v8 = .int .u64 x8_1 ∧ Aside0 (mezzanineref12_Put.l0 kq a1 a2 x7_1 x8_1 = some r) ∧ Aside0 (kq ≤ k) ∧ Drawn0 w w')
  case atStart => exact ⟨(a0), (0), (by first | rfl | (simp; done) | (simp [*]; done)), (by first | rfl | (simp; done) | (simp [*]; done)), H', ⟨Nat.le_refl _⟩, by repeat (first | exact Drawn0.refl _ | apply Drawn0.step)⟩
  case round =>
    clear H'
    try clear p2
    try clear c3
    obtain ⟨x7_1, x8_1, rfl, rfl, HA, HK1, ⟨m1, rfl⟩⟩ := hrel
    cases gk with
    | zero => exact absurd HA.out (by simp [mezzanineref12_Put.l0])
    | succ k1 =>
      have H := HA.out
      clear HA
      simp only [mezzanineref12_Put.l0] at H
      by_cases c4 : x8_1 < 64
      · rw [if_pos c4] at H
        have c4b0 : decide (x8_1 < 64) = true := decide_eq_true c4
        clear c4
        replace H := Option.bind_eq_some_iff.mp H
        obtain ⟨t136, A50, H⟩ := H
        replace H : (if t136 = true then (if 0 ≤ x8_1 then ((mezzanineref12_bit.f a2 x8_1).bind fun t137 => (if t137 = true then (mezzanineref12_Put.l0 k1 a1 a2 (Go.bits .or .u64 (Go.bits .andNot .u64 x7_1 (shl .u64 1 x8_1)) (shl .u64 1 x8_1)) (IntKind.u64.wrap (x8_1 + 1))) else (mezzanineref12_Put.l0 k1 a1 a2 (Go.bits .andNot .u64 x7_1 (shl .u64 1 x8_1)) (IntKind.u64.wrap (x8_1 + 1))))) else (none)) else (mezzanineref12_Put.l0 k1 a1 a2 x7_1 (IntKind.u64.wrap (x8_1 + 1)))) = some r := H
        have A5 := Aside0.mk A50
        clear A50
        by_cases c6 : t136 = true
        · subst c6
          have H1 : (if 0 ≤ x8_1 then ((mezzanineref12_bit.f a2 x8_1).bind fun t137 => (if t137 = true then (mezzanineref12_Put.l0 k1 a1 a2 (Go.bits .or .u64 (Go.bits .andNot .u64 x7_1 (shl .u64 1 x8_1)) (shl .u64 1 x8_1)) (IntKind.u64.wrap (x8_1 + 1))) else (mezzanineref12_Put.l0 k1 a1 a2 (Go.bits .andNot .u64 x7_1 (shl .u64 1 x8_1)) (IntKind.u64.wrap (x8_1 + 1))))) else (none)) = some r := by rw [if_pos rfl] at H; exact H
          clear H
          have H := H1
          clear H1
          by_cases c7 : 0 ≤ x8_1
          · rw [if_pos c7] at H
            have c7b0 := eq_true c7
            have c7b1 : decide (0 ≤ x8_1) = true := decide_eq_true c7
            clear c7
            obtain ⟨ji8, hji8⟩ : ∃ j_ : Int, (shl .u64 1 x8_1) = j_ := ⟨_, rfl⟩
            replace H : ((mezzanineref12_bit.f a2 x8_1).bind fun t137 => (if t137 = true then (mezzanineref12_Put.l0 k1 a1 a2 (Go.bits .or .u64 (Go.bits .andNot .u64 x7_1 (ji8)) (ji8)) (IntKind.u64.wrap (x8_1 + 1))) else (mezzanineref12_Put.l0 k1 a1 a2 (Go.bits .andNot .u64 x7_1 (ji8)) (IntKind.u64.wrap (x8_1 + 1))))) = some r := by first | (rw [hji8] at H; exact H) | (simp only [hji8] at H ⊢; exact H)
            (try rw [hji8] at A5)
            have hji8_ : (IntKind.u64.wrap (1 * 2 ^ min x8_1.toNat 64)) = ji8 := hji8
            have hji8z : x8_1 ≤ 64 → (IntKind.u64.wrap (1 * 2 ^ x8_1.toNat)) = ji8 := shl_small hji8
            have hji8u : (IntKind.u64.wrap (2 ^ min x8_1.toNat 64)) = ji8 := by have h_ := hji8_; rw [Int.one_mul] at h_; exact h_
            have hji8v : x8_1 ≤ 64 → (IntKind.u64.wrap (2 ^ x8_1.toNat)) = ji8 := fun hle_ => by have h_ := hji8z hle_; rw [Int.one_mul] at h_; exact h_
            replace H := Option.bind_eq_some_iff.mp H
            obtain ⟨t137, A90, H⟩ := H
            replace H : (if t137 = true then (mezzanineref12_Put.l0 k1 a1 a2 (Go.bits .or .u64 (Go.bits .andNot .u64 x7_1 (ji8)) (ji8)) (IntKind.u64.wrap (x8_1 + 1))) else (mezzanineref12_Put.l0 k1 a1 a2 (Go.bits .andNot .u64 x7_1 (ji8)) (IntKind.u64.wrap (x8_1 + 1)))) = some r := H
            have A9 := Aside0.mk A90
            clear A90
            by_cases c10 : t137 = true
            · subst c10
              have H1 : (mezzanineref12_Put.l0 k1 a1 a2 (Go.bits .or .u64 (Go.bits .andNot .u64 x7_1 (ji8)) (ji8)) (IntKind.u64.wrap (x8_1 + 1))) = some r := by rw [if_pos rfl] at H; exact H
              clear H
              have H := H1
              clear H1
              have c11b0 := eq_true (of_decide_eq_true (by first | (with_reducible assumption) | assumption) : 0 ≤ x8_1)
              have H' := Aside0.mk H
              clear H
              go_wp2_with (first | ((with_reducible refine gate_callee (f := 26) rfl ?_); refine goesL_ (some 16) rfl rfl Tryd.func26 (by kernel_rfl) rfl #[.int .u64 a1, .int .u64 x8_1] rfl (by (try simp only [List.map_toArray, List.map_cons, List.map_nil]); first | done | rfl | (simp only [List.length_drop, List.length_take]; rfl)) ?_; (with_reducible refine (mezzanineref12_bit.calls a1 x8_1 true _ A5.out).mono ?_); rintro e w' ⟨rfl, ⟨nd, rfl⟩⟩; refine ⟨_, rfl, ?_⟩) | ((with_reducible refine gate_callee (f := 26) rfl ?_); refine goesL_ (some 23) rfl rfl Tryd.func26 (by kernel_rfl) rfl #[.int .u64 a2, .int .u64 x8_1] rfl (by (try simp only [List.map_toArray, List.map_cons, List.map_nil]); first | done | rfl | (simp only [List.length_drop, List.length_take]; rfl)) ?_; (with_reducible refine (mezzanineref12_bit.calls a2 x8_1 true _ A9.out).mono ?_); rintro e w' ⟨rfl, ⟨nd, rfl⟩⟩; refine ⟨_, rfl, ?_⟩))
              go_roundg k1
              case measure => have := HK1.out; omega
              case rel => exact ⟨(Go.bits .or .u64 (Go.bits .andNot .u64 x7_1 (ji8)) (ji8)), (IntKind.u64.wrap (x8_1 + 1)), (by first | rfl | (simp; done) | (simp only [← hji8] <;> (first | rfl | simp)) | (simp [*]; done)), (by first | rfl | (simp; done) | (simp [*]; done)), H', ⟨by have := HK1.out; omega⟩, by repeat (first | exact Drawn0.refl _ | apply Drawn0.step)⟩
            · replace c10 := Bool.eq_false_iff.mpr c10
              subst c10
              have H1 : (mezzanineref12_Put.l0 k1 a1 a2 (Go.bits .andNot .u64 x7_1 (ji8)) (IntKind.u64.wrap (x8_1 + 1))) = some r := by rw [if_neg (show ¬ (false = true) by decide)] at H; exact H
              clear H
              have H := H1
              clear H1
              have H' := Aside0.mk H
              clear H
              go_wp2_with (first | ((with_reducible refine gate_callee (f := 26) rfl ?_); refine goesL_ (some 16) rfl rfl Tryd.func26 (by kernel_rfl) rfl #[.int .u64 a1, .int .u64 x8_1] rfl (by (try simp only [List.map_toArray, List.map_cons, List.map_nil]); first | done | rfl | (simp only [List.length_drop, List.length_take]; rfl)) ?_; (with_reducible refine (mezzanineref12_bit.calls a1 x8_1 true _ A5.out).mono ?_); rintro e w' ⟨rfl, ⟨nd, rfl⟩⟩; refine ⟨_, rfl, ?_⟩) | ((with_reducible refine gate_callee (f := 26) rfl ?_); refine goesL_ (some 23) rfl rfl Tryd.func26 (by kernel_rfl) rfl #[.int .u64 a2, .int .u64 x8_1] rfl (by (try simp only [List.map_toArray, List.map_cons, List.map_nil]); first | done | rfl | (simp only [List.length_drop, List.length_take]; rfl)) ?_; (with_reducible refine (mezzanineref12_bit.calls a2 x8_1 false _ A9.out).mono ?_); rintro e w' ⟨rfl, ⟨nd, rfl⟩⟩; refine ⟨_, rfl, ?_⟩))
              go_roundg k1
              case measure => have := HK1.out; omega
              case rel => exact ⟨(Go.bits .andNot .u64 x7_1 (ji8)), (IntKind.u64.wrap (x8_1 + 1)), (by first | rfl | (simp; done) | (simp only [← hji8] <;> (first | rfl | simp)) | (simp [*]; done)), (by first | rfl | (simp; done) | (simp [*]; done)), H', ⟨by have := HK1.out; omega⟩, by repeat (first | exact Drawn0.refl _ | apply Drawn0.step)⟩
          · rw [if_neg c7] at H
            exact absurd H (by simp)
        · replace c6 := Bool.eq_false_iff.mpr c6
          subst c6
          have H1 : (mezzanineref12_Put.l0 k1 a1 a2 x7_1 (IntKind.u64.wrap (x8_1 + 1))) = some r := by rw [if_neg (show ¬ (false = true) by decide)] at H; exact H
          clear H
          have H := H1
          clear H1
          have H' := Aside0.mk H
          clear H
          go_wp2_with (first | ((with_reducible refine gate_callee (f := 26) rfl ?_); refine goesL_ (some 16) rfl rfl Tryd.func26 (by kernel_rfl) rfl #[.int .u64 a1, .int .u64 x8_1] rfl (by (try simp only [List.map_toArray, List.map_cons, List.map_nil]); first | done | rfl | (simp only [List.length_drop, List.length_take]; rfl)) ?_; (with_reducible refine (mezzanineref12_bit.calls a1 x8_1 false _ A5.out).mono ?_); rintro e w' ⟨rfl, ⟨nd, rfl⟩⟩; refine ⟨_, rfl, ?_⟩))
          go_roundg k1
          case measure => have := HK1.out; omega
          case rel => exact ⟨(x7_1), (IntKind.u64.wrap (x8_1 + 1)), (by first | rfl | (simp; done) | (simp [*]; done)), (by first | rfl | (simp; done) | (simp [*]; done)), H', ⟨by have := HK1.out; omega⟩, by repeat (first | exact Drawn0.refl _ | apply Drawn0.step)⟩
      · rw [if_neg c4] at H
        have c4b0 : decide (x8_1 < 64) = false := decide_eq_false c4
        clear c4
        obtain rfl := Option.some.inj H
        go_wp2
        go_ret
        exact ⟨by first | rfl | (simp; done) | (simp [*]; done), by repeat (first | exact Drawn0.refl _ | apply Drawn0.step)⟩

/-! ### mezzanineref12_but: function 36 -/
def mezzanineref12_but.f (a0 : Int) : Option (Int) := some (Go.bits .xor .u64 IntKind.u64.max a0)
set_option maxHeartbeats 8000000 in
set_option maxRecDepth 100000 in
theorem mezzanineref12_but.calls (a0 : Int) (r : Int) (w : World) (h : mezzanineref12_but.f a0 = some r) :
    Calls Tryd.prog 36 #[.int .u64 a0] w fun e w' => e = .returned (.int .u64 r) ∧ Drawn0 w w' := by
  have H : (some (Go.bits .xor .u64 IntKind.u64.max a0)) = some r := h
  clear h
  obtain rfl := Option.some.inj H
  go_enter Tryd.func36, Tryd.ntmps36
  go_wp2
  go_ret
  exact ⟨by first | rfl | (simp; done) | (simp [*]; done), by repeat (first | exact Drawn0.refl _ | apply Drawn0.step)⟩

/-! ### mezzanineref12_mode: function 37 -/
def mezzanineref12_mode.f (a0 : Int) : Option (Bool) := if (a0 / 1152921504606846976) = 0 then (some true) else (some ((a0 / 1152921504606846976) == 8))
set_option maxHeartbeats 8000000 in
set_option maxRecDepth 100000 in
theorem mezzanineref12_mode.calls (a0 : Int) (r : Bool) (w : World) (h : mezzanineref12_mode.f a0 = some r) :
    Calls Tryd.prog 37 #[.int .u64 a0] w fun e w' => e = .returned (.bool r) ∧ Drawn0 w w' := by
  have H : (if (a0 / 1152921504606846976) = 0 then (some true) else (some ((a0 / 1152921504606846976) == 8))) = some r := h
  clear h
  by_cases c2 : (a0 / 1152921504606846976) = 0
  · rw [if_pos c2] at H
    have c2b0 : ((a0 / 1152921504606846976) == 0) = true := beq_iff_eq.mpr c2
    have c2b1 : ((a0 / 1152921504606846976) != 0) = false := bne_eq_false_iff_eq.mpr c2
    clear c2
    obtain rfl := Option.some.inj H
    go_enter Tryd.func37, Tryd.ntmps37
    go_wp2
    go_ret
    exact ⟨by first | rfl | (simp; done) | (simp [*]; done), by repeat (first | exact Drawn0.refl _ | apply Drawn0.step)⟩
  · rw [if_neg c2] at H
    have c2b0 : ((a0 / 1152921504606846976) == 0) = false := beq_eq_false_iff_ne.mpr c2
    have c2b1 : ((a0 / 1152921504606846976) != 0) = true := bne_iff_ne.mpr c2
    obtain rfl := Option.some.inj H
    go_enter Tryd.func37, Tryd.ntmps37
    go_wp2
    go_ret
    exact ⟨by first | rfl | (simp; done) | (simp [*]; done), by repeat (first | exact Drawn0.refl _ | apply Drawn0.step)⟩

-- NOT PRINTED: function 20 (mezzanineref12_Write)

-- NOT PRINTED: function 5 (mezzaninelaw12_CsrWrites)

/-! ### mezzanineref12_table: function 38 -/
def mezzanineref12_table.f (a0 : Int) (a1 : Int) : Option (Int) := (mezzanineref12_mode.f a0).bind fun t186 => (if t186 = true then (some (Go.bits .and .u64 a0 a1)) else (some 0))
set_option maxHeartbeats 8000000 in
set_option maxRecDepth 100000 in
theorem mezzanineref12_table.calls (a0 : Int) (a1 : Int) (r : Int) (w : World) (h : mezzanineref12_table.f a0 a1 = some r) :
    Calls Tryd.prog 38 #[.int .u64 a0, .int .u64 a1] w fun e w' => e = .returned (.int .u64 r) ∧ Drawn0 w w' := by
  have H : ((mezzanineref12_mode.f a0).bind fun t186 => (if t186 = true then (some (Go.bits .and .u64 a0 a1)) else (some 0))) = some r := h
  clear h
  replace H := Option.bind_eq_some_iff.mp H
  obtain ⟨t186, A30, H⟩ := H
  replace H : (if t186 = true then (some (Go.bits .and .u64 a0 a1)) else (some 0)) = some r := H
  have A3 := Aside0.mk A30
  clear A30
  by_cases c4 : t186 = true
  · subst c4
    have H1 : (some (Go.bits .and .u64 a0 a1)) = some r := by rw [if_pos rfl] at H; exact H
    clear H
    have H := H1
    clear H1
    obtain rfl := Option.some.inj H
    go_enter Tryd.func38, Tryd.ntmps38
    go_wp2_with (first | ((with_reducible refine gate_callee (f := 37) rfl ?_); refine goesL_ (some 6) rfl rfl Tryd.func37 (by kernel_rfl) rfl #[.int .u64 a0] rfl (by (try simp only [List.map_toArray, List.map_cons, List.map_nil]); first | done | rfl | (simp only [List.length_drop, List.length_take]; rfl)) ?_; (with_reducible refine (mezzanineref12_mode.calls a0 true _ A3.out).mono ?_); rintro e w' ⟨rfl, ⟨nd, rfl⟩⟩; refine ⟨_, rfl, ?_⟩))
    go_ret
    exact ⟨by first | rfl | (simp; done) | (simp [*]; done), by repeat (first | exact Drawn0.refl _ | apply Drawn0.step)⟩
  · replace c4 := Bool.eq_false_iff.mpr c4
    subst c4
    have H1 : (some 0) = some r := by rw [if_neg (show ¬ (false = true) by decide)] at H; exact H
    clear H
    have H := H1
    clear H1
    obtain rfl := Option.some.inj H
    go_enter Tryd.func38, Tryd.ntmps38
    go_wp2_with (first | ((with_reducible refine gate_callee (f := 37) rfl ?_); refine goesL_ (some 6) rfl rfl Tryd.func37 (by kernel_rfl) rfl #[.int .u64 a0] rfl (by (try simp only [List.map_toArray, List.map_cons, List.map_nil]); first | done | rfl | (simp only [List.length_drop, List.length_take]; rfl)) ?_; (with_reducible refine (mezzanineref12_mode.calls a0 false _ A3.out).mono ?_); rintro e w' ⟨rfl, ⟨nd, rfl⟩⟩; refine ⟨_, rfl, ?_⟩))
    go_ret
    exact ⟨by first | rfl | (simp; done) | (simp [*]; done), by repeat (first | exact Drawn0.refl _ | apply Drawn0.step)⟩

-- NOT PRINTED: function 21 (mezzanineref12_Fix)

-- NOT PRINTED: function 23 (mezzanineref12_Legal)

-- NOT PRINTED: function 6 (mezzaninelaw12_CsrFixes)

-- NOT PRINTED: function 7 (mezzaninelaw12_CsrLegals)

-- NOT PRINTED: function 8 (mezzaninelaw12_CsrViews)

-- NOT PRINTED: function 9 (mezzaninelaw12_CsrAgain)

-- NOT PRINTED: function 10 (mezzaninelaw12_CsrGuest)

end Go.Proofs.YtlopmcakfalkpaaDoor.Q
