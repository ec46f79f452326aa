/- Where the Lean function of a Go function gives a value, the Go call returns that value and changes nothing that was there: for every input. (By a program of this session, and by hand.) -/
import Derived.Test.YtbmmafebekehdaaDoorQx0
namespace Go.Proofs.YtbmmafebekehdaaDoor.Q
open Go.RowKit Go.Proofs.YtbmmafebekehdaaDoorW.PrintWords Go.Proofs.YtbmmafebekehdaaDoorW.PrintLast Go.Proofs.YtbmmafebekehdaaDoorW.PrintMore
attribute [local go_sem] max2_int min2_int max_two min_two max_three min_three max_four min_four   -- for this text's walks alone
set_option linter.unusedVariables false
set_option linter.unusedSimpArgs false

/-! ### mezzanineref11_Name: function 11 -/
def mezzanineref11_Name.f (a0 : Int) : Option (ByteArray) := if a0 = 256 then (some (⟨#[115, 115, 116, 97, 116, 117, 115]⟩ : ByteArray)) else (if a0 = 260 then (some (⟨#[115, 105, 101]⟩ : ByteArray)) else (if a0 = 261 then (some (⟨#[115, 116, 118, 101, 99]⟩ : ByteArray)) else (if a0 = 262 then (some (⟨#[115, 99, 111, 117, 110, 116, 101, 114, 101, 110]⟩ : ByteArray)) else (if a0 = 320 then (some (⟨#[115, 115, 99, 114, 97, 116, 99, 104]⟩ : ByteArray)) else (if a0 = 321 then (some (⟨#[115, 101, 112, 99]⟩ : ByteArray)) else (if a0 = 322 then (some (⟨#[115, 99, 97, 117, 115, 101]⟩ : ByteArray)) else (if a0 = 323 then (some (⟨#[115, 116, 118, 97, 108]⟩ : ByteArray)) else (if a0 = 324 then (some (⟨#[115, 105, 112]⟩ : ByteArray)) else (if a0 = 384 then (some (⟨#[115, 97, 116, 112]⟩ : ByteArray)) else (if a0 = 512 then (some (⟨#[118, 115, 115, 116, 97, 116, 117, 115]⟩ : ByteArray)) else (if a0 = 516 then (some (⟨#[118, 115, 105, 101]⟩ : ByteArray)) else (if a0 = 517 then (some (⟨#[118, 115, 116, 118, 101, 99]⟩ : ByteArray)) else (if a0 = 576 then (some (⟨#[118, 115, 115, 99, 114, 97, 116, 99, 104]⟩ : ByteArray)) else (if a0 = 577 then (some (⟨#[118, 115, 101, 112, 99]⟩ : ByteArray)) else (if a0 = 578 then (some (⟨#[118, 115, 99, 97, 117, 115, 101]⟩ : ByteArray)) else (if a0 = 579 then (some (⟨#[118, 115, 116, 118, 97, 108]⟩ : ByteArray)) else (if a0 = 580 then (some (⟨#[118, 115, 105, 112]⟩ : ByteArray)) else (if a0 = 640 then (some (⟨#[118, 115, 97, 116, 112]⟩ : ByteArray)) else (if a0 = 768 then (some (⟨#[109, 115, 116, 97, 116, 117, 115]⟩ : ByteArray)) else (if a0 = 769 then (some (⟨#[109, 105, 115, 97]⟩ : ByteArray)) else (if a0 = 770 then (some (⟨#[109, 101, 100, 101, 108, 101, 103]⟩ : ByteArray)) else (if a0 = 771 then (some (⟨#[109, 105, 100, 101, 108, 101, 103]⟩ : ByteArray)) else (if a0 = 772 then (some (⟨#[109, 105, 101]⟩ : ByteArray)) else (if a0 = 773 then (some (⟨#[109, 116, 118, 101, 99]⟩ : ByteArray)) else (if a0 = 774 then (some (⟨#[109, 99, 111, 117, 110, 116, 101, 114, 101, 110]⟩ : ByteArray)) else (if a0 = 832 then (some (⟨#[109, 115, 99, 114, 97, 116, 99, 104]⟩ : ByteArray)) else (if a0 = 833 then (some (⟨#[109, 101, 112, 99]⟩ : ByteArray)) else (if a0 = 834 then (some (⟨#[109, 99, 97, 117, 115, 101]⟩ : ByteArray)) else (if a0 = 835 then (some (⟨#[109, 116, 118, 97, 108]⟩ : ByteArray)) else (if a0 = 836 then (some (⟨#[109, 105, 112]⟩ : ByteArray)) else (if a0 = 842 then (some (⟨#[109, 116, 105, 110, 115, 116]⟩ : ByteArray)) else (if a0 = 843 then (some (⟨#[109, 116, 118, 97, 108, 50]⟩ : ByteArray)) else (if a0 = 1536 then (some (⟨#[104, 115, 116, 97, 116, 117, 115]⟩ : ByteArray)) else (if a0 = 1538 then (some (⟨#[104, 101, 100, 101, 108, 101, 103]⟩ : ByteArray)) else (if a0 = 1539 then (some (⟨#[104, 105, 100, 101, 108, 101, 103]⟩ : ByteArray)) else (if a0 = 1540 then (some (⟨#[104, 105, 101]⟩ : ByteArray)) else (if a0 = 1541 then (some (⟨#[104, 116, 105, 109, 101, 100, 101, 108, 116, 97]⟩ : ByteArray)) else (if a0 = 1542 then (some (⟨#[104, 99, 111, 117, 110, 116, 101, 114, 101, 110]⟩ : ByteArray)) else (if a0 = 1543 then (some (⟨#[104, 103, 101, 105, 101]⟩ : ByteArray)) else (if a0 = 1603 then (some (⟨#[104, 116, 118, 97, 108]⟩ : ByteArray)) else (if a0 = 1604 then (some (⟨#[104, 105, 112]⟩ : ByteArray)) else (if a0 = 1605 then (some (⟨#[104, 118, 105, 112]⟩ : ByteArray)) else (if a0 = 1610 then (some (⟨#[104, 116, 105, 110, 115, 116]⟩ : ByteArray)) else (if a0 = 1664 then (some (⟨#[104, 103, 97, 116, 112]⟩ : ByteArray)) else (if a0 = 2816 then (some (⟨#[109, 99, 121, 99, 108, 101]⟩ : ByteArray)) else (if a0 = 2818 then (some (⟨#[109, 105, 110, 115, 116, 114, 101, 116]⟩ : ByteArray)) else (if a0 = 3072 then (some (⟨#[99, 121, 99, 108, 101]⟩ : ByteArray)) else (if a0 = 3073 then (some (⟨#[116, 105, 109, 101]⟩ : ByteArray)) else (if a0 = 3074 then (some (⟨#[105, 110, 115, 116, 114, 101, 116]⟩ : ByteArray)) else (if a0 = 3602 then (some (⟨#[104, 103, 101, 105, 112]⟩ : ByteArray)) else (if a0 = 3857 then (some (⟨#[109, 118, 101, 110, 100, 111, 114, 105, 100]⟩ : ByteArray)) else (if a0 = 3858 then (some (⟨#[109, 97, 114, 99, 104, 105, 100]⟩ : ByteArray)) else (if a0 = 3859 then (some (⟨#[109, 105, 109, 112, 105, 100]⟩ : ByteArray)) else (if a0 = 3860 then (some (⟨#[109, 104, 97, 114, 116, 105, 100]⟩ : ByteArray)) else (if a0 = 3861 then (some (⟨#[109, 99, 111, 110, 102, 105, 103, 112, 116, 114]⟩ : ByteArray)) else (some (⟨#[]⟩ : ByteArray)))))))))))))))))))))))))))))))))))))))))))))))))))))))))
set_option maxHeartbeats 8000000 in
set_option maxRecDepth 100000 in
theorem mezzanineref11_Name.calls (a0 : Int) (r : ByteArray) (w : World) (h : mezzanineref11_Name.f a0 = some r) :
    Calls Tryd.prog 11 #[.int .i64 a0] w fun e w' => e = .returned (.string r) ∧ Drawn0 w w' := by
  have H : (if a0 = 256 then (some (⟨#[115, 115, 116, 97, 116, 117, 115]⟩ : ByteArray)) else (if a0 = 260 then (some (⟨#[115, 105, 101]⟩ : ByteArray)) else (if a0 = 261 then (some (⟨#[115, 116, 118, 101, 99]⟩ : ByteArray)) else (if a0 = 262 then (some (⟨#[115, 99, 111, 117, 110, 116, 101, 114, 101, 110]⟩ : ByteArray)) else (if a0 = 320 then (some (⟨#[115, 115, 99, 114, 97, 116, 99, 104]⟩ : ByteArray)) else (if a0 = 321 then (some (⟨#[115, 101, 112, 99]⟩ : ByteArray)) else (if a0 = 322 then (some (⟨#[115, 99, 97, 117, 115, 101]⟩ : ByteArray)) else (if a0 = 323 then (some (⟨#[115, 116, 118, 97, 108]⟩ : ByteArray)) else (if a0 = 324 then (some (⟨#[115, 105, 112]⟩ : ByteArray)) else (if a0 = 384 then (some (⟨#[115, 97, 116, 112]⟩ : ByteArray)) else (if a0 = 512 then (some (⟨#[118, 115, 115, 116, 97, 116, 117, 115]⟩ : ByteArray)) else (if a0 = 516 then (some (⟨#[118, 115, 105, 101]⟩ : ByteArray)) else (if a0 = 517 then (some (⟨#[118, 115, 116, 118, 101, 99]⟩ : ByteArray)) else (if a0 = 576 then (some (⟨#[118, 115, 115, 99, 114, 97, 116, 99, 104]⟩ : ByteArray)) else (if a0 = 577 then (some (⟨#[118, 115, 101, 112, 99]⟩ : ByteArray)) else (if a0 = 578 then (some (⟨#[118, 115, 99, 97, 117, 115, 101]⟩ : ByteArray)) else (if a0 = 579 then (some (⟨#[118, 115, 116, 118, 97, 108]⟩ : ByteArray)) else (if a0 = 580 then (some (⟨#[118, 115, 105, 112]⟩ : ByteArray)) else (if a0 = 640 then (some (⟨#[118, 115, 97, 116, 112]⟩ : ByteArray)) else (if a0 = 768 then (some (⟨#[109, 115, 116, 97, 116, 117, 115]⟩ : ByteArray)) else (if a0 = 769 then (some (⟨#[109, 105, 115, 97]⟩ : ByteArray)) else (if a0 = 770 then (some (⟨#[109, 101, 100, 101, 108, 101, 103]⟩ : ByteArray)) else (if a0 = 771 then (some (⟨#[109, 105, 100, 101, 108, 101, 103]⟩ : ByteArray)) else (if a0 = 772 then (some (⟨#[109, 105, 101]⟩ : ByteArray)) else (if a0 = 773 then (some (⟨#[109, 116, 118, 101, 99]⟩ : ByteArray)) else (if a0 = 774 then (some (⟨#[109, 99, 111, 117, 110, 116, 101, 114, 101, 110]⟩ : ByteArray)) else (if a0 = 832 then (some (⟨#[109, 115, 99, 114, 97, 116, 99, 104]⟩ : ByteArray)) else (if a0 = 833 then (some (⟨#[109, 101, 112, 99]⟩ : ByteArray)) else (if a0 = 834 then (some (⟨#[109, 99, 97, 117, 115, 101]⟩ : ByteArray)) else (if a0 = 835 then (some (⟨#[109, 116, 118, 97, 108]⟩ : ByteArray)) else (if a0 = 836 then (some (⟨#[109, 105, 112]⟩ : ByteArray)) else (if a0 = 842 then (some (⟨#[109, 116, 105, 110, 115, 116]⟩ : ByteArray)) else (if a0 = 843 then (some (⟨#[109, 116, 118, 97, 108, 50]⟩ : ByteArray)) else (if a0 = 1536 then (some (⟨#[104, 115, 116, 97, 116, 117, 115]⟩ : ByteArray)) else (if a0 = 1538 then (some (⟨#[104, 101, 100, 101, 108, 101, 103]⟩ : ByteArray)) else (if a0 = 1539 then (some (⟨#[104, 105, 100, 101, 108, 101, 103]⟩ : ByteArray)) else (if a0 = 1540 then (some (⟨#[104, 105, 101]⟩ : ByteArray)) else (if a0 = 1541 then (some (⟨#[104, 116, 105, 109, 101, 100, 101, 108, 116, 97]⟩ : ByteArray)) else (if a0 = 1542 then (some (⟨#[104, 99, 111, 117, 110, 116, 101, 114, 101, 110]⟩ : ByteArray)) else (if a0 = 1543 then (some (⟨#[104, 103, 101, 105, 101]⟩ : ByteArray)) else (if a0 = 1603 then (some (⟨#[104, 116, 118, 97, 108]⟩ : ByteArray)) else (if a0 = 1604 then (some (⟨#[104, 105, 112]⟩ : ByteArray)) else (if a0 = 1605 then (some (⟨#[104, 118, 105, 112]⟩ : ByteArray)) else (if a0 = 1610 then (some (⟨#[104, 116, 105, 110, 115, 116]⟩ : ByteArray)) else (if a0 = 1664 then (some (⟨#[104, 103, 97, 116, 112]⟩ : ByteArray)) else (if a0 = 2816 then (some (⟨#[109, 99, 121, 99, 108, 101]⟩ : ByteArray)) else (if a0 = 2818 then (some (⟨#[109, 105, 110, 115, 116, 114, 101, 116]⟩ : ByteArray)) else (if a0 = 3072 then (some (⟨#[99, 121, 99, 108, 101]⟩ : ByteArray)) else (if a0 = 3073 then (some (⟨#[116, 105, 109, 101]⟩ : ByteArray)) else (if a0 = 3074 then (some (⟨#[105, 110, 115, 116, 114, 101, 116]⟩ : ByteArray)) else (if a0 = 3602 then (some (⟨#[104, 103, 101, 105, 112]⟩ : ByteArray)) else (if a0 = 3857 then (some (⟨#[109, 118, 101, 110, 100, 111, 114, 105, 100]⟩ : ByteArray)) else (if a0 = 3858 then (some (⟨#[109, 97, 114, 99, 104, 105, 100]⟩ : ByteArray)) else (if a0 = 3859 then (some (⟨#[109, 105, 109, 112, 105, 100]⟩ : ByteArray)) else (if a0 = 3860 then (some (⟨#[109, 104, 97, 114, 116, 105, 100]⟩ : ByteArray)) else (if a0 = 3861 then (some (⟨#[109, 99, 111, 110, 102, 105, 103, 112, 116, 114]⟩ : ByteArray)) else (some (⟨#[]⟩ : ByteArray)))))))))))))))))))))))))))))))))))))))))))))))))))))))))) = some r := h
  clear h
  by_cases c2 : a0 = 256
  · rw [if_pos c2] at H
    have c2b0 : (a0 == 256) = true := beq_iff_eq.mpr c2
    have c2b1 : (a0 != 256) = false := bne_eq_false_iff_eq.mpr c2
    clear c2
    obtain rfl := Option.some.inj H
    go_enter Tryd.func11, Tryd.ntmps11
    go_wp2
    go_ret
    exact ⟨by first | rfl | (simp; done) | (simp [*]; done), by repeat (first | exact Drawn0.refl _ | apply Drawn0.step)⟩
  · rw [if_neg c2] at H
    have c2b0 : (a0 == 256) = false := beq_eq_false_iff_ne.mpr c2
    have c2b1 : (a0 != 256) = true := bne_iff_ne.mpr c2
    by_cases c3 : a0 = 260
    · rw [if_pos c3] at H
      have c3b0 : (a0 == 260) = true := beq_iff_eq.mpr c3
      have c3b1 : (a0 != 260) = false := bne_eq_false_iff_eq.mpr c3
      clear c3
      obtain rfl := Option.some.inj H
      go_enter Tryd.func11, Tryd.ntmps11
      go_wp2
      go_ret
      exact ⟨by first | rfl | (simp; done) | (simp [*]; done), by repeat (first | exact Drawn0.refl _ | apply Drawn0.step)⟩
    · rw [if_neg c3] at H
      have c3b0 : (a0 == 260) = false := beq_eq_false_iff_ne.mpr c3
      have c3b1 : (a0 != 260) = true := bne_iff_ne.mpr c3
      by_cases c4 : a0 = 261
      · rw [if_pos c4] at H
        have c4b0 : (a0 == 261) = true := beq_iff_eq.mpr c4
        have c4b1 : (a0 != 261) = false := bne_eq_false_iff_eq.mpr c4
        clear c4
        obtain rfl := Option.some.inj H
        go_enter Tryd.func11, Tryd.ntmps11
        go_wp2
        go_ret
        exact ⟨by first | rfl | (simp; done) | (simp [*]; done), by repeat (first | exact Drawn0.refl _ | apply Drawn0.step)⟩
      · rw [if_neg c4] at H
        have c4b0 : (a0 == 261) = false := beq_eq_false_iff_ne.mpr c4
        have c4b1 : (a0 != 261) = true := bne_iff_ne.mpr c4
        by_cases c5 : a0 = 262
        · rw [if_pos c5] at H
          have c5b0 : (a0 == 262) = true := beq_iff_eq.mpr c5
          have c5b1 : (a0 != 262) = false := bne_eq_false_iff_eq.mpr c5
          clear c5
          obtain rfl := Option.some.inj H
          go_enter Tryd.func11, Tryd.ntmps11
          go_wp2
          go_ret
          exact ⟨by first | rfl | (simp; done) | (simp [*]; done), by repeat (first | exact Drawn0.refl _ | apply Drawn0.step)⟩
        · rw [if_neg c5] at H
          have c5b0 : (a0 == 262) = false := beq_eq_false_iff_ne.mpr c5
          have c5b1 : (a0 != 262) = true := bne_iff_ne.mpr c5
          by_cases c6 : a0 = 320
          · rw [if_pos c6] at H
            have c6b0 : (a0 == 320) = true := beq_iff_eq.mpr c6
            have c6b1 : (a0 != 320) = false := bne_eq_false_iff_eq.mpr c6
            clear c6
            obtain rfl := Option.some.inj H
            go_enter Tryd.func11, Tryd.ntmps11
            go_wp2
            go_ret
            exact ⟨by first | rfl | (simp; done) | (simp [*]; done), by repeat (first | exact Drawn0.refl _ | apply Drawn0.step)⟩
          · rw [if_neg c6] at H
            have c6b0 : (a0 == 320) = false := beq_eq_false_iff_ne.mpr c6
            have c6b1 : (a0 != 320) = true := bne_iff_ne.mpr c6
            by_cases c7 : a0 = 321
            · rw [if_pos c7] at H
              have c7b0 : (a0 == 321) = true := beq_iff_eq.mpr c7
              have c7b1 : (a0 != 321) = false := bne_eq_false_iff_eq.mpr c7
              clear c7
              obtain rfl := Option.some.inj H
              go_enter Tryd.func11, Tryd.ntmps11
              go_wp2
              go_ret
              exact ⟨by first | rfl | (simp; done) | (simp [*]; done), by repeat (first | exact Drawn0.refl _ | apply Drawn0.step)⟩
            · rw [if_neg c7] at H
              have c7b0 : (a0 == 321) = false := beq_eq_false_iff_ne.mpr c7
              have c7b1 : (a0 != 321) = true := bne_iff_ne.mpr c7
              by_cases c8 : a0 = 322
              · rw [if_pos c8] at H
                have c8b0 : (a0 == 322) = true := beq_iff_eq.mpr c8
                have c8b1 : (a0 != 322) = false := bne_eq_false_iff_eq.mpr c8
                clear c8
                obtain rfl := Option.some.inj H
                go_enter Tryd.func11, Tryd.ntmps11
                go_wp2
                go_ret
                exact ⟨by first | rfl | (simp; done) | (simp [*]; done), by repeat (first | exact Drawn0.refl _ | apply Drawn0.step)⟩
              · rw [if_neg c8] at H
                have c8b0 : (a0 == 322) = false := beq_eq_false_iff_ne.mpr c8
                have c8b1 : (a0 != 322) = true := bne_iff_ne.mpr c8
                by_cases c9 : a0 = 323
                · rw [if_pos c9] at H
                  have c9b0 : (a0 == 323) = true := beq_iff_eq.mpr c9
                  have c9b1 : (a0 != 323) = false := bne_eq_false_iff_eq.mpr c9
                  clear c9
                  obtain rfl := Option.some.inj H
                  go_enter Tryd.func11, Tryd.ntmps11
                  go_wp2
                  go_ret
                  exact ⟨by first | rfl | (simp; done) | (simp [*]; done), by repeat (first | exact Drawn0.refl _ | apply Drawn0.step)⟩
                · rw [if_neg c9] at H
                  have c9b0 : (a0 == 323) = false := beq_eq_false_iff_ne.mpr c9
                  have c9b1 : (a0 != 323) = true := bne_iff_ne.mpr c9
                  by_cases c10 : a0 = 324
                  · rw [if_pos c10] at H
                    have c10b0 : (a0 == 324) = true := beq_iff_eq.mpr c10
                    have c10b1 : (a0 != 324) = false := bne_eq_false_iff_eq.mpr c10
                    clear c10
                    obtain rfl := Option.some.inj H
                    go_enter Tryd.func11, Tryd.ntmps11
                    go_wp2
                    go_ret
                    exact ⟨by first | rfl | (simp; done) | (simp [*]; done), by repeat (first | exact Drawn0.refl _ | apply Drawn0.step)⟩
                  · rw [if_neg c10] at H
                    have c10b0 : (a0 == 324) = false := beq_eq_false_iff_ne.mpr c10
                    have c10b1 : (a0 != 324) = true := bne_iff_ne.mpr c10
                    by_cases c11 : a0 = 384
                    · rw [if_pos c11] at H
                      have c11b0 : (a0 == 384) = true := beq_iff_eq.mpr c11
                      have c11b1 : (a0 != 384) = false := bne_eq_false_iff_eq.mpr c11
                      clear c11
                      obtain rfl := Option.some.inj H
                      go_enter Tryd.func11, Tryd.ntmps11
                      go_wp2
                      go_ret
                      exact ⟨by first | rfl | (simp; done) | (simp [*]; done), by repeat (first | exact Drawn0.refl _ | apply Drawn0.step)⟩
                    · rw [if_neg c11] at H
                      have c11b0 : (a0 == 384) = false := beq_eq_false_iff_ne.mpr c11
                      have c11b1 : (a0 != 384) = true := bne_iff_ne.mpr c11
                      by_cases c12 : a0 = 512
                      · rw [if_pos c12] at H
                        have c12b0 : (a0 == 512) = true := beq_iff_eq.mpr c12
                        have c12b1 : (a0 != 512) = false := bne_eq_false_iff_eq.mpr c12
                        clear c12
                        obtain rfl := Option.some.inj H
                        go_enter Tryd.func11, Tryd.ntmps11
                        go_wp2
                        go_ret
                        exact ⟨by first | rfl | (simp; done) | (simp [*]; done), by repeat (first | exact Drawn0.refl _ | apply Drawn0.step)⟩
                      · rw [if_neg c12] at H
                        have c12b0 : (a0 == 512) = false := beq_eq_false_iff_ne.mpr c12
                        have c12b1 : (a0 != 512) = true := bne_iff_ne.mpr c12
                        by_cases c13 : a0 = 516
                        · rw [if_pos c13] at H
                          have c13b0 : (a0 == 516) = true := beq_iff_eq.mpr c13
                          have c13b1 : (a0 != 516) = false := bne_eq_false_iff_eq.mpr c13
                          clear c13
                          obtain rfl := Option.some.inj H
                          go_enter Tryd.func11, Tryd.ntmps11
                          go_wp2
                          go_ret
                          exact ⟨by first | rfl | (simp; done) | (simp [*]; done), by repeat (first | exact Drawn0.refl _ | apply Drawn0.step)⟩
                        · rw [if_neg c13] at H
                          have c13b0 : (a0 == 516) = false := beq_eq_false_iff_ne.mpr c13
                          have c13b1 : (a0 != 516) = true := bne_iff_ne.mpr c13
                          by_cases c14 : a0 = 517
                          · rw [if_pos c14] at H
                            have c14b0 : (a0 == 517) = true := beq_iff_eq.mpr c14
                            have c14b1 : (a0 != 517) = false := bne_eq_false_iff_eq.mpr c14
                            clear c14
                            obtain rfl := Option.some.inj H
                            go_enter Tryd.func11, Tryd.ntmps11
                            go_wp2
                            go_ret
                            exact ⟨by first | rfl | (simp; done) | (simp [*]; done), by repeat (first | exact Drawn0.refl _ | apply Drawn0.step)⟩
                          · rw [if_neg c14] at H
                            have c14b0 : (a0 == 517) = false := beq_eq_false_iff_ne.mpr c14
                            have c14b1 : (a0 != 517) = true := bne_iff_ne.mpr c14
                            by_cases c15 : a0 = 576
                            · rw [if_pos c15] at H
                              have c15b0 : (a0 == 576) = true := beq_iff_eq.mpr c15
                              have c15b1 : (a0 != 576) = false := bne_eq_false_iff_eq.mpr c15
                              clear c15
                              obtain rfl := Option.some.inj H
                              go_enter Tryd.func11, Tryd.ntmps11
                              go_wp2
                              go_ret
                              exact ⟨by first | rfl | (simp; done) | (simp [*]; done), by repeat (first | exact Drawn0.refl _ | apply Drawn0.step)⟩
                            · rw [if_neg c15] at H
                              have c15b0 : (a0 == 576) = false := beq_eq_false_iff_ne.mpr c15
                              have c15b1 : (a0 != 576) = true := bne_iff_ne.mpr c15
                              by_cases c16 : a0 = 577
                              · rw [if_pos c16] at H
                                have c16b0 : (a0 == 577) = true := beq_iff_eq.mpr c16
                                have c16b1 : (a0 != 577) = false := bne_eq_false_iff_eq.mpr c16
                                clear c16
                                obtain rfl := Option.some.inj H
                                go_enter Tryd.func11, Tryd.ntmps11
                                go_wp2
                                go_ret
                                exact ⟨by first | rfl | (simp; done) | (simp [*]; done), by repeat (first | exact Drawn0.refl _ | apply Drawn0.step)⟩
                              · rw [if_neg c16] at H
                                have c16b0 : (a0 == 577) = false := beq_eq_false_iff_ne.mpr c16
                                have c16b1 : (a0 != 577) = true := bne_iff_ne.mpr c16
                                by_cases c17 : a0 = 578
                                · rw [if_pos c17] at H
                                  have c17b0 : (a0 == 578) = true := beq_iff_eq.mpr c17
                                  have c17b1 : (a0 != 578) = false := bne_eq_false_iff_eq.mpr c17
                                  clear c17
                                  obtain rfl := Option.some.inj H
                                  go_enter Tryd.func11, Tryd.ntmps11
                                  go_wp2
                                  go_ret
                                  exact ⟨by first | rfl | (simp; done) | (simp [*]; done), by repeat (first | exact Drawn0.refl _ | apply Drawn0.step)⟩
                                · rw [if_neg c17] at H
                                  have c17b0 : (a0 == 578) = false := beq_eq_false_iff_ne.mpr c17
                                  have c17b1 : (a0 != 578) = true := bne_iff_ne.mpr c17
                                  by_cases c18 : a0 = 579
                                  · rw [if_pos c18] at H
                                    have c18b0 : (a0 == 579) = true := beq_iff_eq.mpr c18
                                    have c18b1 : (a0 != 579) = false := bne_eq_false_iff_eq.mpr c18
                                    clear c18
                                    obtain rfl := Option.some.inj H
                                    go_enter Tryd.func11, Tryd.ntmps11
                                    go_wp2
                                    go_ret
                                    exact ⟨by first | rfl | (simp; done) | (simp [*]; done), by repeat (first | exact Drawn0.refl _ | apply Drawn0.step)⟩
                                  · rw [if_neg c18] at H
                                    have c18b0 : (a0 == 579) = false := beq_eq_false_iff_ne.mpr c18
                                    have c18b1 : (a0 != 579) = true := bne_iff_ne.mpr c18
                                    by_cases c19 : a0 = 580
                                    · rw [if_pos c19] at H
                                      have c19b0 : (a0 == 580) = true := beq_iff_eq.mpr c19
                                      have c19b1 : (a0 != 580) = false := bne_eq_false_iff_eq.mpr c19
                                      clear c19
                                      obtain rfl := Option.some.inj H
                                      go_enter Tryd.func11, Tryd.ntmps11
                                      go_wp2
                                      go_ret
                                      exact ⟨by first | rfl | (simp; done) | (simp [*]; done), by repeat (first | exact Drawn0.refl _ | apply Drawn0.step)⟩
                                    · rw [if_neg c19] at H
                                      have c19b0 : (a0 == 580) = false := beq_eq_false_iff_ne.mpr c19
                                      have c19b1 : (a0 != 580) = true := bne_iff_ne.mpr c19
                                      by_cases c20 : a0 = 640
                                      · rw [if_pos c20] at H
                                        have c20b0 : (a0 == 640) = true := beq_iff_eq.mpr c20
                                        have c20b1 : (a0 != 640) = false := bne_eq_false_iff_eq.mpr c20
                                        clear c20
                                        obtain rfl := Option.some.inj H
                                        go_enter Tryd.func11, Tryd.ntmps11
                                        go_wp2
                                        go_ret
                                        exact ⟨by first | rfl | (simp; done) | (simp [*]; done), by repeat (first | exact Drawn0.refl _ | apply Drawn0.step)⟩
                                      · rw [if_neg c20] at H
                                        have c20b0 : (a0 == 640) = false := beq_eq_false_iff_ne.mpr c20
                                        have c20b1 : (a0 != 640) = true := bne_iff_ne.mpr c20
                                        by_cases c21 : a0 = 768
                                        · rw [if_pos c21] at H
                                          have c21b0 : (a0 == 768) = true := beq_iff_eq.mpr c21
                                          have c21b1 : (a0 != 768) = false := bne_eq_false_iff_eq.mpr c21
                                          clear c21
                                          obtain rfl := Option.some.inj H
                                          go_enter Tryd.func11, Tryd.ntmps11
                                          go_wp2
                                          go_ret
                                          exact ⟨by first | rfl | (simp; done) | (simp [*]; done), by repeat (first | exact Drawn0.refl _ | apply Drawn0.step)⟩
                                        · rw [if_neg c21] at H
                                          have c21b0 : (a0 == 768) = false := beq_eq_false_iff_ne.mpr c21
                                          have c21b1 : (a0 != 768) = true := bne_iff_ne.mpr c21
                                          by_cases c22 : a0 = 769
                                          · rw [if_pos c22] at H
                                            have c22b0 : (a0 == 769) = true := beq_iff_eq.mpr c22
                                            have c22b1 : (a0 != 769) = false := bne_eq_false_iff_eq.mpr c22
                                            clear c22
                                            obtain rfl := Option.some.inj H
                                            go_enter Tryd.func11, Tryd.ntmps11
                                            go_wp2
                                            go_ret
                                            exact ⟨by first | rfl | (simp; done) | (simp [*]; done), by repeat (first | exact Drawn0.refl _ | apply Drawn0.step)⟩
                                          · rw [if_neg c22] at H
                                            have c22b0 : (a0 == 769) = false := beq_eq_false_iff_ne.mpr c22
                                            have c22b1 : (a0 != 769) = true := bne_iff_ne.mpr c22
                                            by_cases c23 : a0 = 770
                                            · rw [if_pos c23] at H
                                              have c23b0 : (a0 == 770) = true := beq_iff_eq.mpr c23
                                              have c23b1 : (a0 != 770) = false := bne_eq_false_iff_eq.mpr c23
                                              clear c23
                                              obtain rfl := Option.some.inj H
                                              go_enter Tryd.func11, Tryd.ntmps11
                                              go_wp2
                                              go_ret
                                              exact ⟨by first | rfl | (simp; done) | (simp [*]; done), by repeat (first | exact Drawn0.refl _ | apply Drawn0.step)⟩
                                            · rw [if_neg c23] at H
                                              have c23b0 : (a0 == 770) = false := beq_eq_false_iff_ne.mpr c23
                                              have c23b1 : (a0 != 770) = true := bne_iff_ne.mpr c23
                                              by_cases c24 : a0 = 771
                                              · rw [if_pos c24] at H
                                                have c24b0 : (a0 == 771) = true := beq_iff_eq.mpr c24
                                                have c24b1 : (a0 != 771) = false := bne_eq_false_iff_eq.mpr c24
                                                clear c24
                                                obtain rfl := Option.some.inj H
                                                go_enter Tryd.func11, Tryd.ntmps11
                                                go_wp2
                                                go_ret
                                                exact ⟨by first | rfl | (simp; done) | (simp [*]; done), by repeat (first | exact Drawn0.refl _ | apply Drawn0.step)⟩
                                              · rw [if_neg c24] at H
                                                have c24b0 : (a0 == 771) = false := beq_eq_false_iff_ne.mpr c24
                                                have c24b1 : (a0 != 771) = true := bne_iff_ne.mpr c24
                                                by_cases c25 : a0 = 772
                                                · rw [if_pos c25] at H
                                                  have c25b0 : (a0 == 772) = true := beq_iff_eq.mpr c25
                                                  have c25b1 : (a0 != 772) = false := bne_eq_false_iff_eq.mpr c25
                                                  clear c25
                                                  obtain rfl := Option.some.inj H
                                                  go_enter Tryd.func11, Tryd.ntmps11
                                                  go_wp2
                                                  go_ret
                                                  exact ⟨by first | rfl | (simp; done) | (simp [*]; done), by repeat (first | exact Drawn0.refl _ | apply Drawn0.step)⟩
                                                · rw [if_neg c25] at H
                                                  have c25b0 : (a0 == 772) = false := beq_eq_false_iff_ne.mpr c25
                                                  have c25b1 : (a0 != 772) = true := bne_iff_ne.mpr c25
                                                  by_cases c26 : a0 = 773
                                                  · rw [if_pos c26] at H
                                                    have c26b0 : (a0 == 773) = true := beq_iff_eq.mpr c26
                                                    have c26b1 : (a0 != 773) = false := bne_eq_false_iff_eq.mpr c26
                                                    clear c26
                                                    obtain rfl := Option.some.inj H
                                                    go_enter Tryd.func11, Tryd.ntmps11
                                                    go_wp2
                                                    go_ret
                                                    exact ⟨by first | rfl | (simp; done) | (simp [*]; done), by repeat (first | exact Drawn0.refl _ | apply Drawn0.step)⟩
                                                  · rw [if_neg c26] at H
                                                    have c26b0 : (a0 == 773) = false := beq_eq_false_iff_ne.mpr c26
                                                    have c26b1 : (a0 != 773) = true := bne_iff_ne.mpr c26
                                                    by_cases c27 : a0 = 774
                                                    · rw [if_pos c27] at H
                                                      have c27b0 : (a0 == 774) = true := beq_iff_eq.mpr c27
                                                      have c27b1 : (a0 != 774) = false := bne_eq_false_iff_eq.mpr c27
                                                      clear c27
                                                      obtain rfl := Option.some.inj H
                                                      go_enter Tryd.func11, Tryd.ntmps11
                                                      go_wp2
                                                      go_ret
                                                      exact ⟨by first | rfl | (simp; done) | (simp [*]; done), by repeat (first | exact Drawn0.refl _ | apply Drawn0.step)⟩
                                                    · rw [if_neg c27] at H
                                                      have c27b0 : (a0 == 774) = false := beq_eq_false_iff_ne.mpr c27
                                                      have c27b1 : (a0 != 774) = true := bne_iff_ne.mpr c27
                                                      by_cases c28 : a0 = 832
                                                      · rw [if_pos c28] at H
                                                        have c28b0 : (a0 == 832) = true := beq_iff_eq.mpr c28
                                                        have c28b1 : (a0 != 832) = false := bne_eq_false_iff_eq.mpr c28
                                                        clear c28
                                                        obtain rfl := Option.some.inj H
                                                        go_enter Tryd.func11, Tryd.ntmps11
                                                        go_wp2
                                                        go_ret
                                                        exact ⟨by first | rfl | (simp; done) | (simp [*]; done), by repeat (first | exact Drawn0.refl _ | apply Drawn0.step)⟩
                                                      · rw [if_neg c28] at H
                                                        have c28b0 : (a0 == 832) = false := beq_eq_false_iff_ne.mpr c28
                                                        have c28b1 : (a0 != 832) = true := bne_iff_ne.mpr c28
                                                        by_cases c29 : a0 = 833
                                                        · rw [if_pos c29] at H
                                                          have c29b0 : (a0 == 833) = true := beq_iff_eq.mpr c29
                                                          have c29b1 : (a0 != 833) = false := bne_eq_false_iff_eq.mpr c29
                                                          clear c29
                                                          obtain rfl := Option.some.inj H
                                                          go_enter Tryd.func11, Tryd.ntmps11
                                                          go_wp2
                                                          go_ret
                                                          exact ⟨by first | rfl | (simp; done) | (simp [*]; done), by repeat (first | exact Drawn0.refl _ | apply Drawn0.step)⟩
                                                        · rw [if_neg c29] at H
                                                          have c29b0 : (a0 == 833) = false := beq_eq_false_iff_ne.mpr c29
                                                          have c29b1 : (a0 != 833) = true := bne_iff_ne.mpr c29
                                                          by_cases c30 : a0 = 834
                                                          · rw [if_pos c30] at H
                                                            have c30b0 : (a0 == 834) = true := beq_iff_eq.mpr c30
                                                            have c30b1 : (a0 != 834) = false := bne_eq_false_iff_eq.mpr c30
                                                            clear c30
                                                            obtain rfl := Option.some.inj H
                                                            go_enter Tryd.func11, Tryd.ntmps11
                                                            go_wp2
                                                            go_ret
                                                            exact ⟨by first | rfl | (simp; done) | (simp [*]; done), by repeat (first | exact Drawn0.refl _ | apply Drawn0.step)⟩
                                                          · rw [if_neg c30] at H
                                                            have c30b0 : (a0 == 834) = false := beq_eq_false_iff_ne.mpr c30
                                                            have c30b1 : (a0 != 834) = true := bne_iff_ne.mpr c30
                                                            by_cases c31 : a0 = 835
                                                            · rw [if_pos c31] at H
                                                              have c31b0 : (a0 == 835) = true := beq_iff_eq.mpr c31
                                                              have c31b1 : (a0 != 835) = false := bne_eq_false_iff_eq.mpr c31
                                                              clear c31
                                                              obtain rfl := Option.some.inj H
                                                              go_enter Tryd.func11, Tryd.ntmps11
                                                              go_wp2
                                                              go_ret
                                                              exact ⟨by first | rfl | (simp; done) | (simp [*]; done), by repeat (first | exact Drawn0.refl _ | apply Drawn0.step)⟩
                                                            · rw [if_neg c31] at H
                                                              have c31b0 : (a0 == 835) = false := beq_eq_false_iff_ne.mpr c31
                                                              have c31b1 : (a0 != 835) = true := bne_iff_ne.mpr c31
                                                              by_cases c32 : a0 = 836
                                                              · rw [if_pos c32] at H
                                                                have c32b0 : (a0 == 836) = true := beq_iff_eq.mpr c32
                                                                have c32b1 : (a0 != 836) = false := bne_eq_false_iff_eq.mpr c32
                                                                clear c32
                                                                obtain rfl := Option.some.inj H
                                                                go_enter Tryd.func11, Tryd.ntmps11
                                                                go_wp2
                                                                go_ret
                                                                exact ⟨by first | rfl | (simp; done) | (simp [*]; done), by repeat (first | exact Drawn0.refl _ | apply Drawn0.step)⟩
                                                              · rw [if_neg c32] at H
                                                                have c32b0 : (a0 == 836) = false := beq_eq_false_iff_ne.mpr c32
                                                                have c32b1 : (a0 != 836) = true := bne_iff_ne.mpr c32
                                                                by_cases c33 : a0 = 842
                                                                · rw [if_pos c33] at H
                                                                  have c33b0 : (a0 == 842) = true := beq_iff_eq.mpr c33
                                                                  have c33b1 : (a0 != 842) = false := bne_eq_false_iff_eq.mpr c33
                                                                  clear c33
                                                                  obtain rfl := Option.some.inj H
                                                                  go_enter Tryd.func11, Tryd.ntmps11
                                                                  go_wp2
                                                                  go_ret
                                                                  exact ⟨by first | rfl | (simp; done) | (simp [*]; done), by repeat (first | exact Drawn0.refl _ | apply Drawn0.step)⟩
                                                                · rw [if_neg c33] at H
                                                                  have c33b0 : (a0 == 842) = false := beq_eq_false_iff_ne.mpr c33
                                                                  have c33b1 : (a0 != 842) = true := bne_iff_ne.mpr c33
                                                                  by_cases c34 : a0 = 843
                                                                  · rw [if_pos c34] at H
                                                                    have c34b0 : (a0 == 843) = true := beq_iff_eq.mpr c34
                                                                    have c34b1 : (a0 != 843) = false := bne_eq_false_iff_eq.mpr c34
                                                                    clear c34
                                                                    obtain rfl := Option.some.inj H
                                                                    go_enter Tryd.func11, Tryd.ntmps11
                                                                    go_wp2
                                                                    go_ret
                                                                    exact ⟨by first | rfl | (simp; done) | (simp [*]; done), by repeat (first | exact Drawn0.refl _ | apply Drawn0.step)⟩
                                                                  · rw [if_neg c34] at H
                                                                    have c34b0 : (a0 == 843) = false := beq_eq_false_iff_ne.mpr c34
                                                                    have c34b1 : (a0 != 843) = true := bne_iff_ne.mpr c34
                                                                    by_cases c35 : a0 = 1536
                                                                    · rw [if_pos c35] at H
                                                                      have c35b0 : (a0 == 1536) = true := beq_iff_eq.mpr c35
                                                                      have c35b1 : (a0 != 1536) = false := bne_eq_false_iff_eq.mpr c35
                                                                      clear c35
                                                                      obtain rfl := Option.some.inj H
                                                                      go_enter Tryd.func11, Tryd.ntmps11
                                                                      go_wp2
                                                                      go_ret
                                                                      exact ⟨by first | rfl | (simp; done) | (simp [*]; done), by repeat (first | exact Drawn0.refl _ | apply Drawn0.step)⟩
                                                                    · rw [if_neg c35] at H
                                                                      have c35b0 : (a0 == 1536) = false := beq_eq_false_iff_ne.mpr c35
                                                                      have c35b1 : (a0 != 1536) = true := bne_iff_ne.mpr c35
                                                                      by_cases c36 : a0 = 1538
                                                                      · rw [if_pos c36] at H
                                                                        have c36b0 : (a0 == 1538) = true := beq_iff_eq.mpr c36
                                                                        have c36b1 : (a0 != 1538) = false := bne_eq_false_iff_eq.mpr c36
                                                                        clear c36
                                                                        obtain rfl := Option.some.inj H
                                                                        go_enter Tryd.func11, Tryd.ntmps11
                                                                        go_wp2
                                                                        go_ret
                                                                        exact ⟨by first | rfl | (simp; done) | (simp [*]; done), by repeat (first | exact Drawn0.refl _ | apply Drawn0.step)⟩
                                                                      · rw [if_neg c36] at H
                                                                        have c36b0 : (a0 == 1538) = false := beq_eq_false_iff_ne.mpr c36
                                                                        have c36b1 : (a0 != 1538) = true := bne_iff_ne.mpr c36
                                                                        by_cases c37 : a0 = 1539
                                                                        · rw [if_pos c37] at H
                                                                          have c37b0 : (a0 == 1539) = true := beq_iff_eq.mpr c37
                                                                          have c37b1 : (a0 != 1539) = false := bne_eq_false_iff_eq.mpr c37
                                                                          clear c37
                                                                          obtain rfl := Option.some.inj H
                                                                          go_enter Tryd.func11, Tryd.ntmps11
                                                                          go_wp2
                                                                          go_ret
                                                                          exact ⟨by first | rfl | (simp; done) | (simp [*]; done), by repeat (first | exact Drawn0.refl _ | apply Drawn0.step)⟩
                                                                        · rw [if_neg c37] at H
                                                                          have c37b0 : (a0 == 1539) = false := beq_eq_false_iff_ne.mpr c37
                                                                          have c37b1 : (a0 != 1539) = true := bne_iff_ne.mpr c37
                                                                          by_cases c38 : a0 = 1540
                                                                          · rw [if_pos c38] at H
                                                                            have c38b0 : (a0 == 1540) = true := beq_iff_eq.mpr c38
                                                                            have c38b1 : (a0 != 1540) = false := bne_eq_false_iff_eq.mpr c38
                                                                            clear c38
                                                                            obtain rfl := Option.some.inj H
                                                                            go_enter Tryd.func11, Tryd.ntmps11
                                                                            go_wp2
                                                                            go_ret
                                                                            exact ⟨by first | rfl | (simp; done) | (simp [*]; done), by repeat (first | exact Drawn0.refl _ | apply Drawn0.step)⟩
                                                                          · rw [if_neg c38] at H
                                                                            have c38b0 : (a0 == 1540) = false := beq_eq_false_iff_ne.mpr c38
                                                                            have c38b1 : (a0 != 1540) = true := bne_iff_ne.mpr c38
                                                                            by_cases c39 : a0 = 1541
                                                                            · rw [if_pos c39] at H
                                                                              have c39b0 : (a0 == 1541) = true := beq_iff_eq.mpr c39
                                                                              have c39b1 : (a0 != 1541) = false := bne_eq_false_iff_eq.mpr c39
                                                                              clear c39
                                                                              obtain rfl := Option.some.inj H
                                                                              go_enter Tryd.func11, Tryd.ntmps11
                                                                              go_wp2
                                                                              go_ret
                                                                              exact ⟨by first | rfl | (simp; done) | (simp [*]; done), by repeat (first | exact Drawn0.refl _ | apply Drawn0.step)⟩
                                                                            · rw [if_neg c39] at H
                                                                              have c39b0 : (a0 == 1541) = false := beq_eq_false_iff_ne.mpr c39
                                                                              have c39b1 : (a0 != 1541) = true := bne_iff_ne.mpr c39
                                                                              by_cases c40 : a0 = 1542
                                                                              · rw [if_pos c40] at H
                                                                                have c40b0 : (a0 == 1542) = true := beq_iff_eq.mpr c40
                                                                                have c40b1 : (a0 != 1542) = false := bne_eq_false_iff_eq.mpr c40
                                                                                clear c40
                                                                                obtain rfl := Option.some.inj H
                                                                                go_enter Tryd.func11, Tryd.ntmps11
                                                                                go_wp2
                                                                                go_ret
                                                                                exact ⟨by first | rfl | (simp; done) | (simp [*]; done), by repeat (first | exact Drawn0.refl _ | apply Drawn0.step)⟩
                                                                              · rw [if_neg c40] at H
                                                                                have c40b0 : (a0 == 1542) = false := beq_eq_false_iff_ne.mpr c40
                                                                                have c40b1 : (a0 != 1542) = true := bne_iff_ne.mpr c40
                                                                                by_cases c41 : a0 = 1543
                                                                                · rw [if_pos c41] at H
                                                                                  have c41b0 : (a0 == 1543) = true := beq_iff_eq.mpr c41
                                                                                  have c41b1 : (a0 != 1543) = false := bne_eq_false_iff_eq.mpr c41
                                                                                  clear c41
                                                                                  obtain rfl := Option.some.inj H
                                                                                  go_enter Tryd.func11, Tryd.ntmps11
                                                                                  go_wp2
                                                                                  go_ret
                                                                                  exact ⟨by first | rfl | (simp; done) | (simp [*]; done), by repeat (first | exact Drawn0.refl _ | apply Drawn0.step)⟩
                                                                                · rw [if_neg c41] at H
                                                                                  have c41b0 : (a0 == 1543) = false := beq_eq_false_iff_ne.mpr c41
                                                                                  have c41b1 : (a0 != 1543) = true := bne_iff_ne.mpr c41
                                                                                  by_cases c42 : a0 = 1603
                                                                                  · rw [if_pos c42] at H
                                                                                    have c42b0 : (a0 == 1603) = true := beq_iff_eq.mpr c42
                                                                                    have c42b1 : (a0 != 1603) = false := bne_eq_false_iff_eq.mpr c42
                                                                                    clear c42
                                                                                    obtain rfl := Option.some.inj H
                                                                                    go_enter Tryd.func11, Tryd.ntmps11
                                                                                    go_wp2
                                                                                    go_ret
                                                                                    exact ⟨by first | rfl | (simp; done) | (simp [*]; done), by repeat (first | exact Drawn0.refl _ | apply Drawn0.step)⟩
                                                                                  · rw [if_neg c42] at H
                                                                                    have c42b0 : (a0 == 1603) = false := beq_eq_false_iff_ne.mpr c42
                                                                                    have c42b1 : (a0 != 1603) = true := bne_iff_ne.mpr c42
                                                                                    by_cases c43 : a0 = 1604
                                                                                    · rw [if_pos c43] at H
                                                                                      have c43b0 : (a0 == 1604) = true := beq_iff_eq.mpr c43
                                                                                      have c43b1 : (a0 != 1604) = false := bne_eq_false_iff_eq.mpr c43
                                                                                      clear c43
                                                                                      obtain rfl := Option.some.inj H
                                                                                      go_enter Tryd.func11, Tryd.ntmps11
                                                                                      go_wp2
                                                                                      go_ret
                                                                                      exact ⟨by first | rfl | (simp; done) | (simp [*]; done), by repeat (first | exact Drawn0.refl _ | apply Drawn0.step)⟩
                                                                                    · rw [if_neg c43] at H
                                                                                      have c43b0 : (a0 == 1604) = false := beq_eq_false_iff_ne.mpr c43
                                                                                      have c43b1 : (a0 != 1604) = true := bne_iff_ne.mpr c43
                                                                                      by_cases c44 : a0 = 1605
                                                                                      · rw [if_pos c44] at H
                                                                                        have c44b0 : (a0 == 1605) = true := beq_iff_eq.mpr c44
                                                                                        have c44b1 : (a0 != 1605) = false := bne_eq_false_iff_eq.mpr c44
                                                                                        clear c44
                                                                                        obtain rfl := Option.some.inj H
                                                                                        go_enter Tryd.func11, Tryd.ntmps11
                                                                                        go_wp2
                                                                                        go_ret
                                                                                        exact ⟨by first | rfl | (simp; done) | (simp [*]; done), by repeat (first | exact Drawn0.refl _ | apply Drawn0.step)⟩
                                                                                      · rw [if_neg c44] at H
                                                                                        have c44b0 : (a0 == 1605) = false := beq_eq_false_iff_ne.mpr c44
                                                                                        have c44b1 : (a0 != 1605) = true := bne_iff_ne.mpr c44
                                                                                        by_cases c45 : a0 = 1610
                                                                                        · rw [if_pos c45] at H
                                                                                          have c45b0 : (a0 == 1610) = true := beq_iff_eq.mpr c45
                                                                                          have c45b1 : (a0 != 1610) = false := bne_eq_false_iff_eq.mpr c45
                                                                                          clear c45
                                                                                          obtain rfl := Option.some.inj H
                                                                                          go_enter Tryd.func11, Tryd.ntmps11
                                                                                          go_wp2
                                                                                          go_ret
                                                                                          exact ⟨by first | rfl | (simp; done) | (simp [*]; done), by repeat (first | exact Drawn0.refl _ | apply Drawn0.step)⟩
                                                                                        · rw [if_neg c45] at H
                                                                                          have c45b0 : (a0 == 1610) = false := beq_eq_false_iff_ne.mpr c45
                                                                                          have c45b1 : (a0 != 1610) = true := bne_iff_ne.mpr c45
                                                                                          by_cases c46 : a0 = 1664
                                                                                          · rw [if_pos c46] at H
                                                                                            have c46b0 : (a0 == 1664) = true := beq_iff_eq.mpr c46
                                                                                            have c46b1 : (a0 != 1664) = false := bne_eq_false_iff_eq.mpr c46
                                                                                            clear c46
                                                                                            obtain rfl := Option.some.inj H
                                                                                            go_enter Tryd.func11, Tryd.ntmps11
                                                                                            go_wp2
                                                                                            go_ret
                                                                                            exact ⟨by first | rfl | (simp; done) | (simp [*]; done), by repeat (first | exact Drawn0.refl _ | apply Drawn0.step)⟩
                                                                                          · rw [if_neg c46] at H
                                                                                            have c46b0 : (a0 == 1664) = false := beq_eq_false_iff_ne.mpr c46
                                                                                            have c46b1 : (a0 != 1664) = true := bne_iff_ne.mpr c46
                                                                                            by_cases c47 : a0 = 2816
                                                                                            · rw [if_pos c47] at H
                                                                                              have c47b0 : (a0 == 2816) = true := beq_iff_eq.mpr c47
                                                                                              have c47b1 : (a0 != 2816) = false := bne_eq_false_iff_eq.mpr c47
                                                                                              clear c47
                                                                                              obtain rfl := Option.some.inj H
                                                                                              go_enter Tryd.func11, Tryd.ntmps11
                                                                                              go_wp2
                                                                                              go_ret
                                                                                              exact ⟨by first | rfl | (simp; done) | (simp [*]; done), by repeat (first | exact Drawn0.refl _ | apply Drawn0.step)⟩
                                                                                            · rw [if_neg c47] at H
                                                                                              have c47b0 : (a0 == 2816) = false := beq_eq_false_iff_ne.mpr c47
                                                                                              have c47b1 : (a0 != 2816) = true := bne_iff_ne.mpr c47
                                                                                              by_cases c48 : a0 = 2818
                                                                                              · rw [if_pos c48] at H
                                                                                                have c48b0 : (a0 == 2818) = true := beq_iff_eq.mpr c48
                                                                                                have c48b1 : (a0 != 2818) = false := bne_eq_false_iff_eq.mpr c48
                                                                                                clear c48
                                                                                                obtain rfl := Option.some.inj H
                                                                                                go_enter Tryd.func11, Tryd.ntmps11
                                                                                                go_wp2
                                                                                                go_ret
                                                                                                exact ⟨by first | rfl | (simp; done) | (simp [*]; done), by repeat (first | exact Drawn0.refl _ | apply Drawn0.step)⟩
                                                                                              · rw [if_neg c48] at H
                                                                                                have c48b0 : (a0 == 2818) = false := beq_eq_false_iff_ne.mpr c48
                                                                                                have c48b1 : (a0 != 2818) = true := bne_iff_ne.mpr c48
                                                                                                by_cases c49 : a0 = 3072
                                                                                                · rw [if_pos c49] at H
                                                                                                  have c49b0 : (a0 == 3072) = true := beq_iff_eq.mpr c49
                                                                                                  have c49b1 : (a0 != 3072) = false := bne_eq_false_iff_eq.mpr c49
                                                                                                  clear c49
                                                                                                  obtain rfl := Option.some.inj H
                                                                                                  go_enter Tryd.func11, Tryd.ntmps11
                                                                                                  go_wp2
                                                                                                  go_ret
                                                                                                  exact ⟨by first | rfl | (simp; done) | (simp [*]; done), by repeat (first | exact Drawn0.refl _ | apply Drawn0.step)⟩
                                                                                                · rw [if_neg c49] at H
                                                                                                  have c49b0 : (a0 == 3072) = false := beq_eq_false_iff_ne.mpr c49
                                                                                                  have c49b1 : (a0 != 3072) = true := bne_iff_ne.mpr c49
                                                                                                  by_cases c50 : a0 = 3073
                                                                                                  · rw [if_pos c50] at H
                                                                                                    have c50b0 : (a0 == 3073) = true := beq_iff_eq.mpr c50
                                                                                                    have c50b1 : (a0 != 3073) = false := bne_eq_false_iff_eq.mpr c50
                                                                                                    clear c50
                                                                                                    obtain rfl := Option.some.inj H
                                                                                                    go_enter Tryd.func11, Tryd.ntmps11
                                                                                                    go_wp2
                                                                                                    go_ret
                                                                                                    exact ⟨by first | rfl | (simp; done) | (simp [*]; done), by repeat (first | exact Drawn0.refl _ | apply Drawn0.step)⟩
                                                                                                  · rw [if_neg c50] at H
                                                                                                    have c50b0 : (a0 == 3073) = false := beq_eq_false_iff_ne.mpr c50
                                                                                                    have c50b1 : (a0 != 3073) = true := bne_iff_ne.mpr c50
                                                                                                    by_cases c51 : a0 = 3074
                                                                                                    · rw [if_pos c51] at H
                                                                                                      have c51b0 : (a0 == 3074) = true := beq_iff_eq.mpr c51
                                                                                                      have c51b1 : (a0 != 3074) = false := bne_eq_false_iff_eq.mpr c51
                                                                                                      clear c51
                                                                                                      obtain rfl := Option.some.inj H
                                                                                                      go_enter Tryd.func11, Tryd.ntmps11
                                                                                                      go_wp2
                                                                                                      go_ret
                                                                                                      exact ⟨by first | rfl | (simp; done) | (simp [*]; done), by repeat (first | exact Drawn0.refl _ | apply Drawn0.step)⟩
                                                                                                    · rw [if_neg c51] at H
                                                                                                      have c51b0 : (a0 == 3074) = false := beq_eq_false_iff_ne.mpr c51
                                                                                                      have c51b1 : (a0 != 3074) = true := bne_iff_ne.mpr c51
                                                                                                      by_cases c52 : a0 = 3602
                                                                                                      · rw [if_pos c52] at H
                                                                                                        have c52b0 : (a0 == 3602) = true := beq_iff_eq.mpr c52
                                                                                                        have c52b1 : (a0 != 3602) = false := bne_eq_false_iff_eq.mpr c52
                                                                                                        clear c52
                                                                                                        obtain rfl := Option.some.inj H
                                                                                                        go_enter Tryd.func11, Tryd.ntmps11
                                                                                                        go_wp2
                                                                                                        go_ret
                                                                                                        exact ⟨by first | rfl | (simp; done) | (simp [*]; done), by repeat (first | exact Drawn0.refl _ | apply Drawn0.step)⟩
                                                                                                      · rw [if_neg c52] at H
                                                                                                        have c52b0 : (a0 == 3602) = false := beq_eq_false_iff_ne.mpr c52
                                                                                                        have c52b1 : (a0 != 3602) = true := bne_iff_ne.mpr c52
                                                                                                        by_cases c53 : a0 = 3857
                                                                                                        · rw [if_pos c53] at H
                                                                                                          have c53b0 : (a0 == 3857) = true := beq_iff_eq.mpr c53
                                                                                                          have c53b1 : (a0 != 3857) = false := bne_eq_false_iff_eq.mpr c53
                                                                                                          clear c53
                                                                                                          obtain rfl := Option.some.inj H
                                                                                                          go_enter Tryd.func11, Tryd.ntmps11
                                                                                                          go_wp2
                                                                                                          go_ret
                                                                                                          exact ⟨by first | rfl | (simp; done) | (simp [*]; done), by repeat (first | exact Drawn0.refl _ | apply Drawn0.step)⟩
                                                                                                        · rw [if_neg c53] at H
                                                                                                          have c53b0 : (a0 == 3857) = false := beq_eq_false_iff_ne.mpr c53
                                                                                                          have c53b1 : (a0 != 3857) = true := bne_iff_ne.mpr c53
                                                                                                          by_cases c54 : a0 = 3858
                                                                                                          · rw [if_pos c54] at H
                                                                                                            have c54b0 : (a0 == 3858) = true := beq_iff_eq.mpr c54
                                                                                                            have c54b1 : (a0 != 3858) = false := bne_eq_false_iff_eq.mpr c54
                                                                                                            clear c54
                                                                                                            obtain rfl := Option.some.inj H
                                                                                                            go_enter Tryd.func11, Tryd.ntmps11
                                                                                                            go_wp2
                                                                                                            go_ret
                                                                                                            exact ⟨by first | rfl | (simp; done) | (simp [*]; done), by repeat (first | exact Drawn0.refl _ | apply Drawn0.step)⟩
                                                                                                          · rw [if_neg c54] at H
                                                                                                            have c54b0 : (a0 == 3858) = false := beq_eq_false_iff_ne.mpr c54
                                                                                                            have c54b1 : (a0 != 3858) = true := bne_iff_ne.mpr c54
                                                                                                            by_cases c55 : a0 = 3859
                                                                                                            · rw [if_pos c55] at H
                                                                                                              have c55b0 : (a0 == 3859) = true := beq_iff_eq.mpr c55
                                                                                                              have c55b1 : (a0 != 3859) = false := bne_eq_false_iff_eq.mpr c55
                                                                                                              clear c55
                                                                                                              obtain rfl := Option.some.inj H
                                                                                                              go_enter Tryd.func11, Tryd.ntmps11
                                                                                                              go_wp2
                                                                                                              go_ret
                                                                                                              exact ⟨by first | rfl | (simp; done) | (simp [*]; done), by repeat (first | exact Drawn0.refl _ | apply Drawn0.step)⟩
                                                                                                            · rw [if_neg c55] at H
                                                                                                              have c55b0 : (a0 == 3859) = false := beq_eq_false_iff_ne.mpr c55
                                                                                                              have c55b1 : (a0 != 3859) = true := bne_iff_ne.mpr c55
                                                                                                              by_cases c56 : a0 = 3860
                                                                                                              · rw [if_pos c56] at H
                                                                                                                have c56b0 : (a0 == 3860) = true := beq_iff_eq.mpr c56
                                                                                                                have c56b1 : (a0 != 3860) = false := bne_eq_false_iff_eq.mpr c56
                                                                                                                clear c56
                                                                                                                obtain rfl := Option.some.inj H
                                                                                                                go_enter Tryd.func11, Tryd.ntmps11
                                                                                                                go_wp2
                                                                                                                go_ret
                                                                                                                exact ⟨by first | rfl | (simp; done) | (simp [*]; done), by repeat (first | exact Drawn0.refl _ | apply Drawn0.step)⟩
                                                                                                              · rw [if_neg c56] at H
                                                                                                                have c56b0 : (a0 == 3860) = false := beq_eq_false_iff_ne.mpr c56
                                                                                                                have c56b1 : (a0 != 3860) = true := bne_iff_ne.mpr c56
                                                                                                                by_cases c57 : a0 = 3861
                                                                                                                · rw [if_pos c57] at H
                                                                                                                  have c57b0 : (a0 == 3861) = true := beq_iff_eq.mpr c57
                                                                                                                  have c57b1 : (a0 != 3861) = false := bne_eq_false_iff_eq.mpr c57
                                                                                                                  clear c57
                                                                                                                  obtain rfl := Option.some.inj H
                                                                                                                  go_enter Tryd.func11, Tryd.ntmps11
                                                                                                                  go_wp2
                                                                                                                  go_ret
                                                                                                                  exact ⟨by first | rfl | (simp; done) | (simp [*]; done), by repeat (first | exact Drawn0.refl _ | apply Drawn0.step)⟩
                                                                                                                · rw [if_neg c57] at H
                                                                                                                  have c57b0 : (a0 == 3861) = false := beq_eq_false_iff_ne.mpr c57
                                                                                                                  have c57b1 : (a0 != 3861) = true := bne_iff_ne.mpr c57
                                                                                                                  obtain rfl := Option.some.inj H
                                                                                                                  go_enter Tryd.func11, Tryd.ntmps11
                                                                                                                  go_wp2
                                                                                                                  go_ret
                                                                                                                  exact ⟨by first | rfl | (simp; done) | (simp [*]; done), by repeat (first | exact Drawn0.refl _ | apply Drawn0.step)⟩

end Go.Proofs.YtbmmafebekehdaaDoor.Q
