/- Where the Lean function of a Go function gives a value, the Go call returns that value and changes nothing that was there: for every input. (By a program of this session, and by hand.) -/
import Derived.Test.YtpbodidpcbodaaaDoorQx0
namespace Go.Proofs.YtpbodidpcbodaaaDoor.Q
open Go.RowKit Go.Proofs.YtpbodidpcbodaaaDoorW.PrintWords Go.Proofs.YtpbodidpcbodaaaDoorW.PrintLast Go.Proofs.YtpbodidpcbodaaaDoorW.PrintMore
attribute [local go_sem] max2_int min2_int max_two min_two max_three min_three max_four min_four   -- for this text's walks alone
set_option linter.unusedVariables false
set_option linter.unusedSimpArgs false

/-! ### csr_tables: function 29 -/
def csr_tables.f (a0 : Int) : Option (Bool) := if a0 = 384 then (some true) else (if a0 = 640 then (some true) else (some (a0 == 1664)))
set_option maxHeartbeats 8000000 in
set_option maxRecDepth 100000 in
theorem csr_tables.calls (a0 : Int) (r : Bool) (w : World) (h : csr_tables.f a0 = some r) :
    Calls Tryd.prog 29 #[.int .i64 a0] w fun e w' => e = .returned (.bool r) ∧ Drawn0 w w' := by
  have H : (if a0 = 384 then (some true) else (if a0 = 640 then (some true) else (some (a0 == 1664)))) = some r := h
  clear h
  by_cases c2 : a0 = 384
  · rw [if_pos c2] at H
    have c2b0 : (a0 == 384) = true := beq_iff_eq.mpr c2
    have c2b1 : (a0 != 384) = false := bne_eq_false_iff_eq.mpr c2
    clear c2
    obtain rfl := Option.some.inj H
    go_enter Tryd.func29, Tryd.ntmps29
    go_wp2
    go_ret
    exact ⟨by first | rfl | (simp; done) | (simp [*]; done), by repeat (first | exact Drawn0.refl _ | apply Drawn0.step)⟩
  · rw [if_neg c2] at H
    have c2b0 : (a0 == 384) = false := beq_eq_false_iff_ne.mpr c2
    have c2b1 : (a0 != 384) = true := bne_iff_ne.mpr c2
    by_cases c3 : a0 = 640
    · rw [if_pos c3] at H
      have c3b0 : (a0 == 640) = true := beq_iff_eq.mpr c3
      have c3b1 : (a0 != 640) = false := bne_eq_false_iff_eq.mpr c3
      clear c3
      obtain rfl := Option.some.inj H
      go_enter Tryd.func29, Tryd.ntmps29
      go_wp2
      go_ret
      exact ⟨by first | rfl | (simp; done) | (simp [*]; done), by repeat (first | exact Drawn0.refl _ | apply Drawn0.step)⟩
    · rw [if_neg c3] at H
      have c3b0 : (a0 == 640) = false := beq_eq_false_iff_ne.mpr c3
      have c3b1 : (a0 != 640) = true := bne_iff_ne.mpr c3
      obtain rfl := Option.some.inj H
      go_enter Tryd.func29, Tryd.ntmps29
      go_wp2
      go_ret
      exact ⟨by first | rfl | (simp; done) | (simp [*]; done), by repeat (first | exact Drawn0.refl _ | apply Drawn0.step)⟩

/-! ### csr_mode: function 30 -/
def csr_mode.f (a0 : Int) : Option (Bool) := if (a0 / 1152921504606846976) = 0 then (some true) else (some ((a0 / 1152921504606846976) == 8))
set_option maxHeartbeats 8000000 in
set_option maxRecDepth 100000 in
theorem csr_mode.calls (a0 : Int) (r : Bool) (w : World) (h : csr_mode.f a0 = some r) :
    Calls Tryd.prog 30 #[.int .u64 a0] w fun e w' => e = .returned (.bool r) ∧ Drawn0 w w' := by
  have H : (if (a0 / 1152921504606846976) = 0 then (some true) else (some ((a0 / 1152921504606846976) == 8))) = some r := h
  clear h
  by_cases c2 : (a0 / 1152921504606846976) = 0
  · rw [if_pos c2] at H
    have c2b0 : ((a0 / 1152921504606846976) == 0) = true := beq_iff_eq.mpr c2
    have c2b1 : ((a0 / 1152921504606846976) != 0) = false := bne_eq_false_iff_eq.mpr c2
    clear c2
    obtain rfl := Option.some.inj H
    go_enter Tryd.func30, Tryd.ntmps30
    go_wp2
    go_ret
    exact ⟨by first | rfl | (simp; done) | (simp [*]; done), by repeat (first | exact Drawn0.refl _ | apply Drawn0.step)⟩
  · rw [if_neg c2] at H
    have c2b0 : ((a0 / 1152921504606846976) == 0) = false := beq_eq_false_iff_ne.mpr c2
    have c2b1 : ((a0 / 1152921504606846976) != 0) = true := bne_iff_ne.mpr c2
    obtain rfl := Option.some.inj H
    go_enter Tryd.func30, Tryd.ntmps30
    go_wp2
    go_ret
    exact ⟨by first | rfl | (simp; done) | (simp [*]; done), by repeat (first | exact Drawn0.refl _ | apply Drawn0.step)⟩

-- NOT PRINTED: function 17 (csr_Fix)

-- NOT PRINTED: function 8 (mezzaninelaw13_wakes)

-- NOT PRINTED: function 12 (irq_Wakes)

-- NOT PRINTED: function 6 (mezzaninelaw13_IrqAsked)

-- NOT PRINTED: function 4 (mezzaninelaw13_IrqFewer)

-- NOT PRINTED: function 3 (mezzaninelaw13_IrqGuests)

/-! ### mezzanineref12_bit: function 31 -/
def mezzanineref12_bit.f (a0 : Int) (a1 : Int) : Option (Bool) := if 0 ≤ a1 then (some ((Go.bits .and .u64 (shr .u64 a0 a1) 1) == 1)) else (none)
set_option maxHeartbeats 8000000 in
set_option maxRecDepth 100000 in
theorem mezzanineref12_bit.calls (a0 : Int) (a1 : Int) (r : Bool) (w : World) (h : mezzanineref12_bit.f a0 a1 = some r) :
    Calls Tryd.prog 31 #[.int .u64 a0, .int .u64 a1] w fun e w' => e = .returned (.bool r) ∧ Drawn0 w w' := by
  have H : (if 0 ≤ a1 then (some ((Go.bits .and .u64 (shr .u64 a0 a1) 1) == 1)) else (none)) = some r := h
  clear h
  by_cases c3 : 0 ≤ a1
  · rw [if_pos c3] at H
    have c3b0 := eq_true c3
    have c3b1 : decide (0 ≤ a1) = true := decide_eq_true c3
    clear c3
    obtain ⟨ji4, hji4⟩ : ∃ j_ : Int, (shr .u64 a0 a1) = j_ := ⟨_, rfl⟩
    replace H : (some ((Go.bits .and .u64 (ji4) 1) == 1)) = some r := by first | (rw [hji4] at H; exact H) | (simp only [hji4] at H ⊢; exact H)
    have hji4_ : (a0 / 2 ^ min a1.toNat 64) = ji4 := hji4
    have hji4z : a1 ≤ 64 → (a0 / 2 ^ a1.toNat) = ji4 := shr_small hji4
    obtain rfl := Option.some.inj H
    go_enter Tryd.func31, Tryd.ntmps31
    go_wp2
    go_ret
    exact ⟨by first | rfl | (simp; done) | (simp only [← hji4] <;> (first | rfl | simp)) | (simp [*]; done), by repeat (first | exact Drawn0.refl _ | apply Drawn0.step)⟩
  · rw [if_neg c3] at H
    exact absurd H (by simp)

end Go.Proofs.YtpbodidpcbodaaaDoor.Q
