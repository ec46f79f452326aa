/- Where the Lean function of a Go function gives a value, the Go call returns that value and changes nothing that was there: for every input. (By a program of this session, and by hand.) -/
import Derived.Test.YtbmmafebekehdaaDoorQx0
import Derived.Test.YtbmmafebekehdaaDoorQx1
import Derived.Test.YtbmmafebekehdaaDoorQx4
import Derived.Test.YtbmmafebekehdaaDoorQx5
namespace Go.Proofs.YtbmmafebekehdaaDoor.Q
open Go.RowKit Go.Proofs.YtbmmafebekehdaaDoorW.PrintWords Go.Proofs.YtbmmafebekehdaaDoorW.PrintLast Go.Proofs.YtbmmafebekehdaaDoorW.PrintMore
attribute [local go_sem] max2_int min2_int max_two min_two max_three min_three max_four min_four   -- for this text's walks alone
set_option linter.unusedVariables false
set_option linter.unusedSimpArgs false

/-! ### mezzanineref11_Number: function 14 -/
def mezzanineref11_Number.l0 : Nat → ByteArray → Int → Option (Int)
  | 0, _, _ => none
  | k + 1, x0, x3 => if x3 < 4096 then (if x0.toList = ([] : List UInt8) then (mezzanineref11_Number.l0 k x0 (wrap64 (x3 + 1))) else ((mezzanineref11_Name.f x3).bind fun t106 => (if t106.toList = x0.toList then (some x3) else (mezzanineref11_Number.l0 k x0 (wrap64 (x3 + 1)))))) else (some (-1))
def mezzanineref11_Number.f (k : Nat) (a0 : ByteArray) : Option (Int) := mezzanineref11_Number.l0 k a0 0
theorem mezzanineref11_Number.mono_l : ∀ k, (∀ y0 y1, LeO (mezzanineref11_Number.l0 k y0 y1) (mezzanineref11_Number.l0 (k + 1) y0 y1))
  | 0 => fun _ _ r h => by simp [mezzanineref11_Number.l0] at h
  | k + 1 => by
    have ih0 := mezzanineref11_Number.mono_l k
    · intro y0 y1
      unfold mezzanineref11_Number.l0
      repeat' first
      | (with_reducible exact ih0 _ _)
      | (with_reducible exact LeO.refl _)
      | (with_reducible exact LeO.none _)
      | (with_reducible refine LeO.ite ?_ ?_)
      | (with_reducible refine LeO.bind ?_ (fun _ => ?_))
      | exact ih0 _ _
      | exact LeO.none _
      | refine LeO.ite ?_ ?_
      | refine LeO.bind ?_ (fun _ => ?_)
theorem mezzanineref11_Number.mono : ∀ a0 k, LeO (mezzanineref11_Number.f k a0) (mezzanineref11_Number.f (k + 1) a0) := by
  intro a0 k
  have ih0 := mezzanineref11_Number.mono_l k
  unfold mezzanineref11_Number.f
  repeat' first
      | (with_reducible exact ih0 _ _)
      | (with_reducible exact LeO.refl _)
      | (with_reducible exact LeO.none _)
      | (with_reducible refine LeO.ite ?_ ?_)
      | (with_reducible refine LeO.bind ?_ (fun _ => ?_))
      | exact ih0 _ _
      | exact LeO.none _
      | refine LeO.ite ?_ ?_
      | refine LeO.bind ?_ (fun _ => ?_)
set_option maxHeartbeats 8000000 in
set_option maxRecDepth 100000 in
theorem mezzanineref11_Number.calls (k : Nat) (a0 : ByteArray) (r : Int) (w : World) (h : mezzanineref11_Number.f k a0 = some r) :
    Calls Tryd.prog 14 #[.string a0] w fun e w' => e = .returned (.int .i64 r) ∧ Drawn0 w w' := by
  have H : (mezzanineref11_Number.l0 k a0 0) = some r := h
  clear h
  have H' := Aside0.mk H
  clear H
  go_enter Tryd.func14, Tryd.ntmps14
  go_wp2
  go_loopg [3] k (fun kq v3 w' => ∃ (x3_1 : Int), v3 = .int .i64 x3_1 ∧ Aside0 (mezzanineref11_Number.l0 kq a0 x3_1 = some r) ∧ Aside0 (kq ≤ k) ∧ Drawn0 w w')
  case atStart => exact ⟨(0), (by first | rfl | (simp; done) | (simp [*]; done)), H', ⟨Nat.le_refl _⟩, by repeat (first | exact Drawn0.refl _ | apply Drawn0.step)⟩
  case round =>
    clear H'
    try clear c1
    obtain ⟨x3_1, rfl, HA, HK1, ⟨m1, rfl⟩⟩ := hrel
    cases gk with
    | zero => exact absurd HA.out (by simp [mezzanineref11_Number.l0])
    | succ k1 =>
      have H := HA.out
      clear HA
      simp only [mezzanineref11_Number.l0] at H
      by_cases c2 : x3_1 < 4096
      · rw [if_pos c2] at H
        have c2b0 : decide (x3_1 < 4096) = true := decide_eq_true c2
        clear c2
        by_cases c3 : a0.toList = ([] : List UInt8)
        · rw [if_pos c3] at H
          have c3b0 : (a0.toList == ([] : List UInt8)) = true := beq_iff_eq.mpr c3
          (try (have e_c3b0 : a0.toList.isEmpty = true := by { have ha0 : (a0.toList != ([] : List UInt8)) = (!a0.toList.isEmpty) := by { cases a0.toList <;> rfl }; have ka0 : (a0.toList == ([] : List UInt8)) = a0.toList.isEmpty := by { cases a0.toList <;> rfl }; have hh := c3b0; simp only [ha0, ka0] at hh; exact hh }))
          have c3b1 : (a0.toList != ([] : List UInt8)) = false := bne_eq_false_iff_eq.mpr c3
          (try (have e_c3b1 : (!a0.toList.isEmpty) = false := by { have ha0 : (a0.toList != ([] : List UInt8)) = (!a0.toList.isEmpty) := by { cases a0.toList <;> rfl }; have ka0 : (a0.toList == ([] : List UInt8)) = a0.toList.isEmpty := by { cases a0.toList <;> rfl }; have hh := c3b1; simp only [ha0, ka0] at hh; exact hh }))
          clear c3
          have H' := Aside0.mk H
          clear H
          go_wp2
          go_roundg k1
          case measure => have := HK1.out; omega
          case rel => exact ⟨(wrap64 (x3_1 + 1)), (by first | rfl | (simp; done) | (simp [*]; done)), H', ⟨by have := HK1.out; omega⟩, by repeat (first | exact Drawn0.refl _ | apply Drawn0.step)⟩
        · rw [if_neg c3] at H
          have c3b0 : (a0.toList == ([] : List UInt8)) = false := beq_eq_false_iff_ne.mpr c3
          (try (have e_c3b0 : a0.toList.isEmpty = false := by { have ha0 : (a0.toList != ([] : List UInt8)) = (!a0.toList.isEmpty) := by { cases a0.toList <;> rfl }; have ka0 : (a0.toList == ([] : List UInt8)) = a0.toList.isEmpty := by { cases a0.toList <;> rfl }; have hh := c3b0; simp only [ha0, ka0] at hh; exact hh }))
          have c3b1 : (a0.toList != ([] : List UInt8)) = true := bne_iff_ne.mpr c3
          (try (have e_c3b1 : (!a0.toList.isEmpty) = true := by { have ha0 : (a0.toList != ([] : List UInt8)) = (!a0.toList.isEmpty) := by { cases a0.toList <;> rfl }; have ka0 : (a0.toList == ([] : List UInt8)) = a0.toList.isEmpty := by { cases a0.toList <;> rfl }; have hh := c3b1; simp only [ha0, ka0] at hh; exact hh }))
          replace H := Option.bind_eq_some_iff.mp H
          obtain ⟨t106, A40, H⟩ := H
          replace H : (if t106.toList = a0.toList then (some x3_1) else (mezzanineref11_Number.l0 k1 a0 (wrap64 (x3_1 + 1)))) = some r := H
          have A4 := Aside0.mk A40
          clear A40
          by_cases c5 : t106.toList = a0.toList
          · rw [if_pos c5] at H
            have c5b0 : (t106.toList == a0.toList) = true := beq_iff_eq.mpr c5
            have c5b1 : (t106.toList != a0.toList) = false := bne_eq_false_iff_eq.mpr c5
            clear c5
            obtain rfl := Option.some.inj H
            go_wp2_with (first | (go_at_call 11; (with_reducible refine (mezzanineref11_Name.calls x3_1 t106 _ A4.out).mono ?_); rintro e w' ⟨rfl, ⟨nd, rfl⟩⟩))
            go_ret
            exact ⟨by first | rfl | (simp; done) | (simp [*]; done), by repeat (first | exact Drawn0.refl _ | apply Drawn0.step)⟩
          · rw [if_neg c5] at H
            have c5b0 : (t106.toList == a0.toList) = false := beq_eq_false_iff_ne.mpr c5
            have c5b1 : (t106.toList != a0.toList) = true := bne_iff_ne.mpr c5
            have H' := Aside0.mk H
            clear H
            go_wp2_with (first | (go_at_call 11; (with_reducible refine (mezzanineref11_Name.calls x3_1 t106 _ A4.out).mono ?_); rintro e w' ⟨rfl, ⟨nd, rfl⟩⟩))
            go_roundg k1
            case measure => have := HK1.out; omega
            case rel => exact ⟨(wrap64 (x3_1 + 1)), (by first | rfl | (simp; done) | (simp [*]; done)), H', ⟨by have := HK1.out; omega⟩, by repeat (first | exact Drawn0.refl _ | apply Drawn0.step)⟩
      · rw [if_neg c2] at H
        have c2b0 : decide (x3_1 < 4096) = false := decide_eq_false c2
        clear c2
        obtain rfl := Option.some.inj H
        go_wp2
        go_ret
        exact ⟨by first | rfl | (simp; done) | (simp [*]; done), by repeat (first | exact Drawn0.refl _ | apply Drawn0.step)⟩

end Go.Proofs.YtbmmafebekehdaaDoor.Q
