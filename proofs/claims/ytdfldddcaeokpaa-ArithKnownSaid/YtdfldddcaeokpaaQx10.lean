/- Where the Lean function of a Go function gives a value, the Go call returns that value and changes nothing that was there: for every input. (By a program of this session, and by hand.) -/
import Derived.Test.YtdfldddcaeokpaaQx0
import Derived.Test.YtdfldddcaeokpaaQx1
import Derived.Test.YtdfldddcaeokpaaQx4
import Derived.Test.YtdfldddcaeokpaaQx5
import Derived.Test.YtdfldddcaeokpaaQx6
import Derived.Test.YtdfldddcaeokpaaQx9
namespace Go.Proofs.Ytdfldddcaeokpaa.Q
open Go.RowKit Go.Proofs.YtdfldddcaeokpaaW.PrintWords Go.Proofs.YtdfldddcaeokpaaW.PrintLast Go.Proofs.YtdfldddcaeokpaaW.PrintMore
attribute [local go_sem] max2_int min2_int max_two min_two max_three min_three max_four min_four   -- for this text's walks alone
set_option linter.unusedVariables false
set_option linter.unusedSimpArgs false

/-! ### mezzaninelaw02_ArithKnown: function 8 -/
mutual
def mezzaninelaw02_ArithKnown.j0 : Nat → Bool → Option (Bool)
  | 0, _ => none
  | k + 1, x42 => if x42 = true then (some false) else ((arith_Divu.f 18446744073709551615 2).bind fun t226 => (if t226 = 9223372036854775807 then ((arith_Remu.f 18446744073709551615 10).bind fun t227 => (if t227 = 5 then ((arith_Divu.f 1 0).bind fun t228 => (if t228 = 18446744073709551615 then ((arith_Remu.f 1 0).bind fun t229 => (if t229 = 1 then ((arith_Mulw.f 2147483648 3).bind fun t230 => (if t230 = 18446744071562067968 then ((arith_Divw.f 2147483648 18446744073709551615).bind fun t231 => (if t231 = 18446744071562067968 then ((arith_Remw.f 2147483648 18446744073709551615).bind fun t232 => (if t232 = 0 then ((arith_Divuw.f 4294967295 1).bind fun t233 => (if t233 = 18446744073709551615 then ((arith_Remuw.f 2147483648 0).bind fun t234 => (mezzaninelaw02_ArithKnown.j1 k (t234 != 18446744071562067968))) else (mezzaninelaw02_ArithKnown.j1 k true))) else (mezzaninelaw02_ArithKnown.j1 k true))) else (mezzaninelaw02_ArithKnown.j1 k true))) else (mezzaninelaw02_ArithKnown.j1 k true))) else (mezzaninelaw02_ArithKnown.j1 k true))) else (mezzaninelaw02_ArithKnown.j1 k true))) else (mezzaninelaw02_ArithKnown.j1 k true))) else (mezzaninelaw02_ArithKnown.j1 k true)))
def mezzaninelaw02_ArithKnown.j1 : Nat → Bool → Option (Bool)
  | 0, _ => none
  | k + 1, x76 => if x76 = true then (some false) else ((arith_Do.f 0 false 18446744073709551615 3).bind fun bt235 => ((arith_Do.f 1 true 1 1).bind fun bt237 => ((arith_Do.f 8 false 1 1).bind fun bt239 => ((arith_Do.f (-1) false 1 1).bind fun bt241 => ((mezzaninelaw02_awake.f).bind fun t243 => (if t243 = true then (if bt235.1 = 18446744073709551613 then (if bt235.2 = 0 then (if bt237.2 = 1 then (if bt239.2 = 1 then (some (bt241.2 == 1)) else (some false)) else (some false)) else (some false)) else (some false)) else (some false)))))))
end
def mezzaninelaw02_ArithKnown.f (k : Nat)  : Option (Bool) := (arith_Mulh.f 18446744073709551615 18446744073709551615).bind fun t217 => (if t217 = 0 then ((arith_Mulhsu.f 18446744073709551615 18446744073709551615).bind fun t218 => (if t218 = 18446744073709551615 then ((arith_Mulh.f 9223372036854775808 9223372036854775808).bind fun t219 => (if t219 = 4611686018427387904 then ((arith_Mulhu.f 9223372036854775808 2).bind fun t220 => (if t220 = 1 then ((arith_Rem.f 9223372036854775808 18446744073709551615).bind fun t221 => (if t221 = 0 then ((arith_Div.f 7 0).bind fun t222 => (if t222 = 18446744073709551615 then ((arith_Rem.f 7 0).bind fun t223 => (if t223 = 7 then ((arith_Div.f 18446744073709551609 2).bind fun t224 => (if t224 = 18446744073709551613 then ((arith_Rem.f 18446744073709551609 2).bind fun t225 => (mezzaninelaw02_ArithKnown.j0 k (t225 != 18446744073709551615))) else (mezzaninelaw02_ArithKnown.j0 k true))) else (mezzaninelaw02_ArithKnown.j0 k true))) else (mezzaninelaw02_ArithKnown.j0 k true))) else (mezzaninelaw02_ArithKnown.j0 k true))) else (mezzaninelaw02_ArithKnown.j0 k true))) else (mezzaninelaw02_ArithKnown.j0 k true))) else (mezzaninelaw02_ArithKnown.j0 k true))) else (mezzaninelaw02_ArithKnown.j0 k true))
theorem mezzaninelaw02_ArithKnown.mono_l : ∀ k, (∀ y0, LeO (mezzaninelaw02_ArithKnown.j0 k y0) (mezzaninelaw02_ArithKnown.j0 (k + 1) y0)) ∧ (∀ y0, LeO (mezzaninelaw02_ArithKnown.j1 k y0) (mezzaninelaw02_ArithKnown.j1 (k + 1) y0))
  | 0 => ⟨fun _ r h => by simp [mezzaninelaw02_ArithKnown.j0] at h, fun _ r h => by simp [mezzaninelaw02_ArithKnown.j1] at h⟩
  | k + 1 => by
    obtain ⟨ih0, ih1⟩ := mezzaninelaw02_ArithKnown.mono_l k
    refine ⟨?_, ?_⟩
    · intro y0
      unfold mezzaninelaw02_ArithKnown.j0
      repeat' first
      | (with_reducible exact ih0 _)
      | (with_reducible exact ih1 _)
      | (with_reducible exact LeO.refl _)
      | (with_reducible exact LeO.none _)
      | (with_reducible refine LeO.ite ?_ ?_)
      | (with_reducible refine LeO.bind ?_ (fun _ => ?_))
      | exact ih0 _
      | exact ih1 _
      | exact LeO.none _
      | refine LeO.ite ?_ ?_
      | refine LeO.bind ?_ (fun _ => ?_)
    · intro y0
      unfold mezzaninelaw02_ArithKnown.j1
      repeat' first
      | (with_reducible exact ih0 _)
      | (with_reducible exact ih1 _)
      | (with_reducible exact LeO.refl _)
      | (with_reducible exact LeO.none _)
      | (with_reducible refine LeO.ite ?_ ?_)
      | (with_reducible refine LeO.bind ?_ (fun _ => ?_))
      | exact ih0 _
      | exact ih1 _
      | exact LeO.none _
      | refine LeO.ite ?_ ?_
      | refine LeO.bind ?_ (fun _ => ?_)
theorem mezzaninelaw02_ArithKnown.mono : ∀ k, LeO (mezzaninelaw02_ArithKnown.f k ) (mezzaninelaw02_ArithKnown.f (k + 1) ) := by
  intro  k
  obtain ⟨ih0, ih1⟩ := mezzaninelaw02_ArithKnown.mono_l k
  unfold mezzaninelaw02_ArithKnown.f
  repeat' first
      | (with_reducible exact ih0 _)
      | (with_reducible exact ih1 _)
      | (with_reducible exact LeO.refl _)
      | (with_reducible exact LeO.none _)
      | (with_reducible refine LeO.ite ?_ ?_)
      | (with_reducible refine LeO.bind ?_ (fun _ => ?_))
      | exact ih0 _
      | exact ih1 _
      | exact LeO.none _
      | refine LeO.ite ?_ ?_
      | refine LeO.bind ?_ (fun _ => ?_)
set_option maxHeartbeats 8000000 in
set_option maxRecDepth 100000 in
theorem mezzaninelaw02_ArithKnown.calls (k : Nat)  (r : Bool) (w : World) (h : mezzaninelaw02_ArithKnown.f k  = some r) :
    Calls Try.prog 8 #[] w fun e w' => e = .returned (.bool r) ∧ Below w.heap.size w w' := by
  have HB := Aside0.mk (Below.refl w.heap.size w)
  have H : ((arith_Mulh.f 18446744073709551615 18446744073709551615).bind fun t217 => (if t217 = 0 then ((arith_Mulhsu.f 18446744073709551615 18446744073709551615).bind fun t218 => (if t218 = 18446744073709551615 then ((arith_Mulh.f 9223372036854775808 9223372036854775808).bind fun t219 => (if t219 = 4611686018427387904 then ((arith_Mulhu.f 9223372036854775808 2).bind fun t220 => (if t220 = 1 then ((arith_Rem.f 9223372036854775808 18446744073709551615).bind fun t221 => (if t221 = 0 then ((arith_Div.f 7 0).bind fun t222 => (if t222 = 18446744073709551615 then ((arith_Rem.f 7 0).bind fun t223 => (if t223 = 7 then ((arith_Div.f 18446744073709551609 2).bind fun t224 => (if t224 = 18446744073709551613 then ((arith_Rem.f 18446744073709551609 2).bind fun t225 => (mezzaninelaw02_ArithKnown.j0 k (t225 != 18446744073709551615))) else (mezzaninelaw02_ArithKnown.j0 k true))) else (mezzaninelaw02_ArithKnown.j0 k true))) else (mezzaninelaw02_ArithKnown.j0 k true))) else (mezzaninelaw02_ArithKnown.j0 k true))) else (mezzaninelaw02_ArithKnown.j0 k true))) else (mezzaninelaw02_ArithKnown.j0 k true))) else (mezzaninelaw02_ArithKnown.j0 k true))) else (mezzaninelaw02_ArithKnown.j0 k true))) = some r := h
  clear h
  have HC1 := Aside0.mk H
  clear H
  go_enter Try.func8, Try.ntmps8
  go_upto_region 1 with (fail)
  go_cut [42] (fun v42 wc => ∃ (kq : Nat) (x42_0 : Bool), v42 = .bool x42_0 ∧ Aside0 (mezzaninelaw02_ArithKnown.j0 kq x42_0 = some r) ∧ Aside0 (kq ≤ k) ∧ Aside0 (Below w.heap.size w wc))
  case first =>
    have H := HC1.out
    clear HC1
    replace H := Option.bind_eq_some_iff.mp H
    obtain ⟨t217, A20, H⟩ := H
    replace H : (if t217 = 0 then ((arith_Mulhsu.f 18446744073709551615 18446744073709551615).bind fun t218 => (if t218 = 18446744073709551615 then ((arith_Mulh.f 9223372036854775808 9223372036854775808).bind fun t219 => (if t219 = 4611686018427387904 then ((arith_Mulhu.f 9223372036854775808 2).bind fun t220 => (if t220 = 1 then ((arith_Rem.f 9223372036854775808 18446744073709551615).bind fun t221 => (if t221 = 0 then ((arith_Div.f 7 0).bind fun t222 => (if t222 = 18446744073709551615 then ((arith_Rem.f 7 0).bind fun t223 => (if t223 = 7 then ((arith_Div.f 18446744073709551609 2).bind fun t224 => (if t224 = 18446744073709551613 then ((arith_Rem.f 18446744073709551609 2).bind fun t225 => (mezzaninelaw02_ArithKnown.j0 k (t225 != 18446744073709551615))) else (mezzaninelaw02_ArithKnown.j0 k true))) else (mezzaninelaw02_ArithKnown.j0 k true))) else (mezzaninelaw02_ArithKnown.j0 k true))) else (mezzaninelaw02_ArithKnown.j0 k true))) else (mezzaninelaw02_ArithKnown.j0 k true))) else (mezzaninelaw02_ArithKnown.j0 k true))) else (mezzaninelaw02_ArithKnown.j0 k true))) else (mezzaninelaw02_ArithKnown.j0 k true)) = some r := H
    have A2 := Aside0.mk A20
    clear A20
    by_cases c3 : t217 = 0
    · rw [if_pos c3] at H
      have c3b0 : (t217 == 0) = true := beq_iff_eq.mpr c3
      have c3b1 : (t217 != 0) = false := bne_eq_false_iff_eq.mpr c3
      clear c3
      (first | rw [c3b0] | (simp only [i64_w, i32_w]; rw [c3b0]) | skip)
      replace H := Option.bind_eq_some_iff.mp H
      obtain ⟨t218, A40, H⟩ := H
      replace H : (if t218 = 18446744073709551615 then ((arith_Mulh.f 9223372036854775808 9223372036854775808).bind fun t219 => (if t219 = 4611686018427387904 then ((arith_Mulhu.f 9223372036854775808 2).bind fun t220 => (if t220 = 1 then ((arith_Rem.f 9223372036854775808 18446744073709551615).bind fun t221 => (if t221 = 0 then ((arith_Div.f 7 0).bind fun t222 => (if t222 = 18446744073709551615 then ((arith_Rem.f 7 0).bind fun t223 => (if t223 = 7 then ((arith_Div.f 18446744073709551609 2).bind fun t224 => (if t224 = 18446744073709551613 then ((arith_Rem.f 18446744073709551609 2).bind fun t225 => (mezzaninelaw02_ArithKnown.j0 k (t225 != 18446744073709551615))) else (mezzaninelaw02_ArithKnown.j0 k true))) else (mezzaninelaw02_ArithKnown.j0 k true))) else (mezzaninelaw02_ArithKnown.j0 k true))) else (mezzaninelaw02_ArithKnown.j0 k true))) else (mezzaninelaw02_ArithKnown.j0 k true))) else (mezzaninelaw02_ArithKnown.j0 k true))) else (mezzaninelaw02_ArithKnown.j0 k true)) = some r := H
      have A4 := Aside0.mk A40
      clear A40
      by_cases c5 : t218 = 18446744073709551615
      · rw [if_pos c5] at H
        have c5b0 : (t218 == 18446744073709551615) = true := beq_iff_eq.mpr c5
        have c5b1 : (t218 != 18446744073709551615) = false := bne_eq_false_iff_eq.mpr c5
        clear c5
        replace H := Option.bind_eq_some_iff.mp H
        obtain ⟨t219, A60, H⟩ := H
        replace H : (if t219 = 4611686018427387904 then ((arith_Mulhu.f 9223372036854775808 2).bind fun t220 => (if t220 = 1 then ((arith_Rem.f 9223372036854775808 18446744073709551615).bind fun t221 => (if t221 = 0 then ((arith_Div.f 7 0).bind fun t222 => (if t222 = 18446744073709551615 then ((arith_Rem.f 7 0).bind fun t223 => (if t223 = 7 then ((arith_Div.f 18446744073709551609 2).bind fun t224 => (if t224 = 18446744073709551613 then ((arith_Rem.f 18446744073709551609 2).bind fun t225 => (mezzaninelaw02_ArithKnown.j0 k (t225 != 18446744073709551615))) else (mezzaninelaw02_ArithKnown.j0 k true))) else (mezzaninelaw02_ArithKnown.j0 k true))) else (mezzaninelaw02_ArithKnown.j0 k true))) else (mezzaninelaw02_ArithKnown.j0 k true))) else (mezzaninelaw02_ArithKnown.j0 k true))) else (mezzaninelaw02_ArithKnown.j0 k true)) = some r := H
        have A6 := Aside0.mk A60
        clear A60
        by_cases c7 : t219 = 4611686018427387904
        · rw [if_pos c7] at H
          have c7b0 : (t219 == 4611686018427387904) = true := beq_iff_eq.mpr c7
          have c7b1 : (t219 != 4611686018427387904) = false := bne_eq_false_iff_eq.mpr c7
          clear c7
          replace H := Option.bind_eq_some_iff.mp H
          obtain ⟨t220, A80, H⟩ := H
          replace H : (if t220 = 1 then ((arith_Rem.f 9223372036854775808 18446744073709551615).bind fun t221 => (if t221 = 0 then ((arith_Div.f 7 0).bind fun t222 => (if t222 = 18446744073709551615 then ((arith_Rem.f 7 0).bind fun t223 => (if t223 = 7 then ((arith_Div.f 18446744073709551609 2).bind fun t224 => (if t224 = 18446744073709551613 then ((arith_Rem.f 18446744073709551609 2).bind fun t225 => (mezzaninelaw02_ArithKnown.j0 k (t225 != 18446744073709551615))) else (mezzaninelaw02_ArithKnown.j0 k true))) else (mezzaninelaw02_ArithKnown.j0 k true))) else (mezzaninelaw02_ArithKnown.j0 k true))) else (mezzaninelaw02_ArithKnown.j0 k true))) else (mezzaninelaw02_ArithKnown.j0 k true)) = some r := H
          have A8 := Aside0.mk A80
          clear A80
          by_cases c9 : t220 = 1
          · rw [if_pos c9] at H
            have c9b0 : (t220 == 1) = true := beq_iff_eq.mpr c9
            have c9b1 : (t220 != 1) = false := bne_eq_false_iff_eq.mpr c9
            clear c9
            replace H := Option.bind_eq_some_iff.mp H
            obtain ⟨t221, A100, H⟩ := H
            replace H : (if t221 = 0 then ((arith_Div.f 7 0).bind fun t222 => (if t222 = 18446744073709551615 then ((arith_Rem.f 7 0).bind fun t223 => (if t223 = 7 then ((arith_Div.f 18446744073709551609 2).bind fun t224 => (if t224 = 18446744073709551613 then ((arith_Rem.f 18446744073709551609 2).bind fun t225 => (mezzaninelaw02_ArithKnown.j0 k (t225 != 18446744073709551615))) else (mezzaninelaw02_ArithKnown.j0 k true))) else (mezzaninelaw02_ArithKnown.j0 k true))) else (mezzaninelaw02_ArithKnown.j0 k true))) else (mezzaninelaw02_ArithKnown.j0 k true)) = some r := H
            have A10 := Aside0.mk A100
            clear A100
            by_cases c11 : t221 = 0
            · rw [if_pos c11] at H
              have c11b0 : (t221 == 0) = true := beq_iff_eq.mpr c11
              have c11b1 : (t221 != 0) = false := bne_eq_false_iff_eq.mpr c11
              clear c11
              replace H := Option.bind_eq_some_iff.mp H
              obtain ⟨t222, A120, H⟩ := H
              replace H : (if t222 = 18446744073709551615 then ((arith_Rem.f 7 0).bind fun t223 => (if t223 = 7 then ((arith_Div.f 18446744073709551609 2).bind fun t224 => (if t224 = 18446744073709551613 then ((arith_Rem.f 18446744073709551609 2).bind fun t225 => (mezzaninelaw02_ArithKnown.j0 k (t225 != 18446744073709551615))) else (mezzaninelaw02_ArithKnown.j0 k true))) else (mezzaninelaw02_ArithKnown.j0 k true))) else (mezzaninelaw02_ArithKnown.j0 k true)) = some r := H
              have A12 := Aside0.mk A120
              clear A120
              by_cases c13 : t222 = 18446744073709551615
              · rw [if_pos c13] at H
                have c13b0 : (t222 == 18446744073709551615) = true := beq_iff_eq.mpr c13
                have c13b1 : (t222 != 18446744073709551615) = false := bne_eq_false_iff_eq.mpr c13
                clear c13
                replace H := Option.bind_eq_some_iff.mp H
                obtain ⟨t223, A140, H⟩ := H
                replace H : (if t223 = 7 then ((arith_Div.f 18446744073709551609 2).bind fun t224 => (if t224 = 18446744073709551613 then ((arith_Rem.f 18446744073709551609 2).bind fun t225 => (mezzaninelaw02_ArithKnown.j0 k (t225 != 18446744073709551615))) else (mezzaninelaw02_ArithKnown.j0 k true))) else (mezzaninelaw02_ArithKnown.j0 k true)) = some r := H
                have A14 := Aside0.mk A140
                clear A140
                by_cases c15 : t223 = 7
                · rw [if_pos c15] at H
                  have c15b0 : (t223 == 7) = true := beq_iff_eq.mpr c15
                  have c15b1 : (t223 != 7) = false := bne_eq_false_iff_eq.mpr c15
                  clear c15
                  replace H := Option.bind_eq_some_iff.mp H
                  obtain ⟨t224, A160, H⟩ := H
                  replace H : (if t224 = 18446744073709551613 then ((arith_Rem.f 18446744073709551609 2).bind fun t225 => (mezzaninelaw02_ArithKnown.j0 k (t225 != 18446744073709551615))) else (mezzaninelaw02_ArithKnown.j0 k true)) = some r := H
                  have A16 := Aside0.mk A160
                  clear A160
                  by_cases c17 : t224 = 18446744073709551613
                  · rw [if_pos c17] at H
                    have c17b0 : (t224 == 18446744073709551613) = true := beq_iff_eq.mpr c17
                    have c17b1 : (t224 != 18446744073709551613) = false := bne_eq_false_iff_eq.mpr c17
                    clear c17
                    replace H := Option.bind_eq_some_iff.mp H
                    obtain ⟨t225, A180, H⟩ := H
                    replace H : (mezzaninelaw02_ArithKnown.j0 k (t225 != 18446744073709551615)) = some r := H
                    have A18 := Aside0.mk A180
                    clear A180
                    have H' := Aside0.mk H
                    clear H
                    go_wp2_with (first | ((with_reducible refine gate_callee (f := 14) rfl ?_); refine goesL_ (some 9) rfl rfl Try.func14 (by kernel_rfl) rfl #[.int .u64 18446744073709551615, .int .u64 18446744073709551615] rfl (by (try simp only [List.map_toArray, List.map_cons, List.map_nil]); first | done | rfl | (simp only [List.length_drop, List.length_take]; rfl)) ?_; (with_reducible refine (arith_Mulh.calls 18446744073709551615 18446744073709551615 t217 _ A2.out).mono ?_); rintro e w' ⟨rfl, ⟨nd, rfl⟩⟩; refine ⟨_, rfl, ?_⟩) | (go_at_call 13; (with_reducible refine (arith_Mulhsu.calls 18446744073709551615 18446744073709551615 t218 _ A4.out).mono ?_); rintro e w' ⟨rfl, ⟨nd, rfl⟩⟩) | (go_at_call 14; (with_reducible refine (arith_Mulh.calls 9223372036854775808 9223372036854775808 t219 _ A6.out).mono ?_); rintro e w' ⟨rfl, ⟨nd, rfl⟩⟩) | (go_at_call 12; (with_reducible refine (arith_Mulhu.calls 9223372036854775808 2 t220 _ A8.out).mono ?_); rintro e w' ⟨rfl, ⟨nd, rfl⟩⟩) | (go_at_call 24; (with_reducible refine (arith_Rem.calls 9223372036854775808 18446744073709551615 t221 _ A10.out).mono ?_); rintro e w' ⟨rfl, ⟨nd, rfl⟩⟩) | (go_at_call 20; (with_reducible refine (arith_Div.calls 7 0 t222 _ A12.out).mono ?_); rintro e w' ⟨rfl, ⟨nd, rfl⟩⟩) | (go_at_call 24; (with_reducible refine (arith_Rem.calls 7 0 t223 _ A14.out).mono ?_); rintro e w' ⟨rfl, ⟨nd, rfl⟩⟩) | (go_at_call 20; (with_reducible refine (arith_Div.calls 18446744073709551609 2 t224 _ A16.out).mono ?_); rintro e w' ⟨rfl, ⟨nd, rfl⟩⟩) | (go_at_call 24; (with_reducible refine (arith_Rem.calls 18446744073709551609 2 t225 _ A18.out).mono ?_); rintro e w' ⟨rfl, ⟨nd, rfl⟩⟩))
                    go_meet
                    case rel => exact ⟨_, ((t225 != 18446744073709551615)), (by first | rfl | (simp; done) | (simp [*]; done)), H', ⟨by first | omega | exact Nat.le_refl _⟩, ⟨by repeat (first | (with_reducible first | exact HB.out | apply below_alloc | apply pw_below_drewN | apply below_drew1) | exact HB.out)⟩⟩
                  · rw [if_neg c17] at H
                    have c17b0 : (t224 == 18446744073709551613) = false := beq_eq_false_iff_ne.mpr c17
                    have c17b1 : (t224 != 18446744073709551613) = true := bne_iff_ne.mpr c17
                    have H' := Aside0.mk H
                    clear H
                    go_wp2_with (first | ((with_reducible refine gate_callee (f := 14) rfl ?_); refine goesL_ (some 9) rfl rfl Try.func14 (by kernel_rfl) rfl #[.int .u64 18446744073709551615, .int .u64 18446744073709551615] rfl (by (try simp only [List.map_toArray, List.map_cons, List.map_nil]); first | done | rfl | (simp only [List.length_drop, List.length_take]; rfl)) ?_; (with_reducible refine (arith_Mulh.calls 18446744073709551615 18446744073709551615 t217 _ A2.out).mono ?_); rintro e w' ⟨rfl, ⟨nd, rfl⟩⟩; refine ⟨_, rfl, ?_⟩) | (go_at_call 13; (with_reducible refine (arith_Mulhsu.calls 18446744073709551615 18446744073709551615 t218 _ A4.out).mono ?_); rintro e w' ⟨rfl, ⟨nd, rfl⟩⟩) | (go_at_call 14; (with_reducible refine (arith_Mulh.calls 9223372036854775808 9223372036854775808 t219 _ A6.out).mono ?_); rintro e w' ⟨rfl, ⟨nd, rfl⟩⟩) | (go_at_call 12; (with_reducible refine (arith_Mulhu.calls 9223372036854775808 2 t220 _ A8.out).mono ?_); rintro e w' ⟨rfl, ⟨nd, rfl⟩⟩) | (go_at_call 24; (with_reducible refine (arith_Rem.calls 9223372036854775808 18446744073709551615 t221 _ A10.out).mono ?_); rintro e w' ⟨rfl, ⟨nd, rfl⟩⟩) | (go_at_call 20; (with_reducible refine (arith_Div.calls 7 0 t222 _ A12.out).mono ?_); rintro e w' ⟨rfl, ⟨nd, rfl⟩⟩) | (go_at_call 24; (with_reducible refine (arith_Rem.calls 7 0 t223 _ A14.out).mono ?_); rintro e w' ⟨rfl, ⟨nd, rfl⟩⟩) | (go_at_call 20; (with_reducible refine (arith_Div.calls 18446744073709551609 2 t224 _ A16.out).mono ?_); rintro e w' ⟨rfl, ⟨nd, rfl⟩⟩))
                    go_meet
                    case rel => exact ⟨_, (true), (by first | rfl | (simp; done) | (simp [*]; done)), H', ⟨by first | omega | exact Nat.le_refl _⟩, ⟨by repeat (first | (with_reducible first | exact HB.out | apply below_alloc | apply pw_below_drewN | apply below_drew1) | exact HB.out)⟩⟩
                · rw [if_neg c15] at H
                  have c15b0 : (t223 == 7) = false := beq_eq_false_iff_ne.mpr c15
                  have c15b1 : (t223 != 7) = true := bne_iff_ne.mpr c15
                  have H' := Aside0.mk H
                  clear H
                  go_wp2_with (first | ((with_reducible refine gate_callee (f := 14) rfl ?_); refine goesL_ (some 9) rfl rfl Try.func14 (by kernel_rfl) rfl #[.int .u64 18446744073709551615, .int .u64 18446744073709551615] rfl (by (try simp only [List.map_toArray, List.map_cons, List.map_nil]); first | done | rfl | (simp only [List.length_drop, List.length_take]; rfl)) ?_; (with_reducible refine (arith_Mulh.calls 18446744073709551615 18446744073709551615 t217 _ A2.out).mono ?_); rintro e w' ⟨rfl, ⟨nd, rfl⟩⟩; refine ⟨_, rfl, ?_⟩) | (go_at_call 13; (with_reducible refine (arith_Mulhsu.calls 18446744073709551615 18446744073709551615 t218 _ A4.out).mono ?_); rintro e w' ⟨rfl, ⟨nd, rfl⟩⟩) | (go_at_call 14; (with_reducible refine (arith_Mulh.calls 9223372036854775808 9223372036854775808 t219 _ A6.out).mono ?_); rintro e w' ⟨rfl, ⟨nd, rfl⟩⟩) | (go_at_call 12; (with_reducible refine (arith_Mulhu.calls 9223372036854775808 2 t220 _ A8.out).mono ?_); rintro e w' ⟨rfl, ⟨nd, rfl⟩⟩) | (go_at_call 24; (with_reducible refine (arith_Rem.calls 9223372036854775808 18446744073709551615 t221 _ A10.out).mono ?_); rintro e w' ⟨rfl, ⟨nd, rfl⟩⟩) | (go_at_call 20; (with_reducible refine (arith_Div.calls 7 0 t222 _ A12.out).mono ?_); rintro e w' ⟨rfl, ⟨nd, rfl⟩⟩) | (go_at_call 24; (with_reducible refine (arith_Rem.calls 7 0 t223 _ A14.out).mono ?_); rintro e w' ⟨rfl, ⟨nd, rfl⟩⟩))
                  go_meet
                  case rel => exact ⟨_, (true), (by first | rfl | (simp; done) | (simp [*]; done)), H', ⟨by first | omega | exact Nat.le_refl _⟩, ⟨by repeat (first | (with_reducible first | exact HB.out | apply below_alloc | apply pw_below_drewN | apply below_drew1) | exact HB.out)⟩⟩
              · rw [if_neg c13] at H
                have c13b0 : (t222 == 18446744073709551615) = false := beq_eq_false_iff_ne.mpr c13
                have c13b1 : (t222 != 18446744073709551615) = true := bne_iff_ne.mpr c13
                have H' := Aside0.mk H
                clear H
                go_wp2_with (first | ((with_reducible refine gate_callee (f := 14) rfl ?_); refine goesL_ (some 9) rfl rfl Try.func14 (by kernel_rfl) rfl #[.int .u64 18446744073709551615, .int .u64 18446744073709551615] rfl (by (try simp only [List.map_toArray, List.map_cons, List.map_nil]); first | done | rfl | (simp only [List.length_drop, List.length_take]; rfl)) ?_; (with_reducible refine (arith_Mulh.calls 18446744073709551615 18446744073709551615 t217 _ A2.out).mono ?_); rintro e w' ⟨rfl, ⟨nd, rfl⟩⟩; refine ⟨_, rfl, ?_⟩) | (go_at_call 13; (with_reducible refine (arith_Mulhsu.calls 18446744073709551615 18446744073709551615 t218 _ A4.out).mono ?_); rintro e w' ⟨rfl, ⟨nd, rfl⟩⟩) | (go_at_call 14; (with_reducible refine (arith_Mulh.calls 9223372036854775808 9223372036854775808 t219 _ A6.out).mono ?_); rintro e w' ⟨rfl, ⟨nd, rfl⟩⟩) | (go_at_call 12; (with_reducible refine (arith_Mulhu.calls 9223372036854775808 2 t220 _ A8.out).mono ?_); rintro e w' ⟨rfl, ⟨nd, rfl⟩⟩) | (go_at_call 24; (with_reducible refine (arith_Rem.calls 9223372036854775808 18446744073709551615 t221 _ A10.out).mono ?_); rintro e w' ⟨rfl, ⟨nd, rfl⟩⟩) | (go_at_call 20; (with_reducible refine (arith_Div.calls 7 0 t222 _ A12.out).mono ?_); rintro e w' ⟨rfl, ⟨nd, rfl⟩⟩))
                go_meet
                case rel => exact ⟨_, (true), (by first | rfl | (simp; done) | (simp [*]; done)), H', ⟨by first | omega | exact Nat.le_refl _⟩, ⟨by repeat (first | (with_reducible first | exact HB.out | apply below_alloc | apply pw_below_drewN | apply below_drew1) | exact HB.out)⟩⟩
            · rw [if_neg c11] at H
              have c11b0 : (t221 == 0) = false := beq_eq_false_iff_ne.mpr c11
              have c11b1 : (t221 != 0) = true := bne_iff_ne.mpr c11
              have H' := Aside0.mk H
              clear H
              go_wp2_with (first | ((with_reducible refine gate_callee (f := 14) rfl ?_); refine goesL_ (some 9) rfl rfl Try.func14 (by kernel_rfl) rfl #[.int .u64 18446744073709551615, .int .u64 18446744073709551615] rfl (by (try simp only [List.map_toArray, List.map_cons, List.map_nil]); first | done | rfl | (simp only [List.length_drop, List.length_take]; rfl)) ?_; (with_reducible refine (arith_Mulh.calls 18446744073709551615 18446744073709551615 t217 _ A2.out).mono ?_); rintro e w' ⟨rfl, ⟨nd, rfl⟩⟩; refine ⟨_, rfl, ?_⟩) | (go_at_call 13; (with_reducible refine (arith_Mulhsu.calls 18446744073709551615 18446744073709551615 t218 _ A4.out).mono ?_); rintro e w' ⟨rfl, ⟨nd, rfl⟩⟩) | (go_at_call 14; (with_reducible refine (arith_Mulh.calls 9223372036854775808 9223372036854775808 t219 _ A6.out).mono ?_); rintro e w' ⟨rfl, ⟨nd, rfl⟩⟩) | (go_at_call 12; (with_reducible refine (arith_Mulhu.calls 9223372036854775808 2 t220 _ A8.out).mono ?_); rintro e w' ⟨rfl, ⟨nd, rfl⟩⟩) | (go_at_call 24; (with_reducible refine (arith_Rem.calls 9223372036854775808 18446744073709551615 t221 _ A10.out).mono ?_); rintro e w' ⟨rfl, ⟨nd, rfl⟩⟩))
              go_meet
              case rel => exact ⟨_, (true), (by first | rfl | (simp; done) | (simp [*]; done)), H', ⟨by first | omega | exact Nat.le_refl _⟩, ⟨by repeat (first | (with_reducible first | exact HB.out | apply below_alloc | apply pw_below_drewN | apply below_drew1) | exact HB.out)⟩⟩
          · rw [if_neg c9] at H
            have c9b0 : (t220 == 1) = false := beq_eq_false_iff_ne.mpr c9
            have c9b1 : (t220 != 1) = true := bne_iff_ne.mpr c9
            have H' := Aside0.mk H
            clear H
            go_wp2_with (first | ((with_reducible refine gate_callee (f := 14) rfl ?_); refine goesL_ (some 9) rfl rfl Try.func14 (by kernel_rfl) rfl #[.int .u64 18446744073709551615, .int .u64 18446744073709551615] rfl (by (try simp only [List.map_toArray, List.map_cons, List.map_nil]); first | done | rfl | (simp only [List.length_drop, List.length_take]; rfl)) ?_; (with_reducible refine (arith_Mulh.calls 18446744073709551615 18446744073709551615 t217 _ A2.out).mono ?_); rintro e w' ⟨rfl, ⟨nd, rfl⟩⟩; refine ⟨_, rfl, ?_⟩) | (go_at_call 13; (with_reducible refine (arith_Mulhsu.calls 18446744073709551615 18446744073709551615 t218 _ A4.out).mono ?_); rintro e w' ⟨rfl, ⟨nd, rfl⟩⟩) | (go_at_call 14; (with_reducible refine (arith_Mulh.calls 9223372036854775808 9223372036854775808 t219 _ A6.out).mono ?_); rintro e w' ⟨rfl, ⟨nd, rfl⟩⟩) | (go_at_call 12; (with_reducible refine (arith_Mulhu.calls 9223372036854775808 2 t220 _ A8.out).mono ?_); rintro e w' ⟨rfl, ⟨nd, rfl⟩⟩))
            go_meet
            case rel => exact ⟨_, (true), (by first | rfl | (simp; done) | (simp [*]; done)), H', ⟨by first | omega | exact Nat.le_refl _⟩, ⟨by repeat (first | (with_reducible first | exact HB.out | apply below_alloc | apply pw_below_drewN | apply below_drew1) | exact HB.out)⟩⟩
        · rw [if_neg c7] at H
          have c7b0 : (t219 == 4611686018427387904) = false := beq_eq_false_iff_ne.mpr c7
          have c7b1 : (t219 != 4611686018427387904) = true := bne_iff_ne.mpr c7
          have H' := Aside0.mk H
          clear H
          go_wp2_with (first | ((with_reducible refine gate_callee (f := 14) rfl ?_); refine goesL_ (some 9) rfl rfl Try.func14 (by kernel_rfl) rfl #[.int .u64 18446744073709551615, .int .u64 18446744073709551615] rfl (by (try simp only [List.map_toArray, List.map_cons, List.map_nil]); first | done | rfl | (simp only [List.length_drop, List.length_take]; rfl)) ?_; (with_reducible refine (arith_Mulh.calls 18446744073709551615 18446744073709551615 t217 _ A2.out).mono ?_); rintro e w' ⟨rfl, ⟨nd, rfl⟩⟩; refine ⟨_, rfl, ?_⟩) | (go_at_call 13; (with_reducible refine (arith_Mulhsu.calls 18446744073709551615 18446744073709551615 t218 _ A4.out).mono ?_); rintro e w' ⟨rfl, ⟨nd, rfl⟩⟩) | (go_at_call 14; (with_reducible refine (arith_Mulh.calls 9223372036854775808 9223372036854775808 t219 _ A6.out).mono ?_); rintro e w' ⟨rfl, ⟨nd, rfl⟩⟩))
          go_meet
          case rel => exact ⟨_, (true), (by first | rfl | (simp; done) | (simp [*]; done)), H', ⟨by first | omega | exact Nat.le_refl _⟩, ⟨by repeat (first | (with_reducible first | exact HB.out | apply below_alloc | apply pw_below_drewN | apply below_drew1) | exact HB.out)⟩⟩
      · rw [if_neg c5] at H
        have c5b0 : (t218 == 18446744073709551615) = false := beq_eq_false_iff_ne.mpr c5
        have c5b1 : (t218 != 18446744073709551615) = true := bne_iff_ne.mpr c5
        have H' := Aside0.mk H
        clear H
        go_wp2_with (first | ((with_reducible refine gate_callee (f := 14) rfl ?_); refine goesL_ (some 9) rfl rfl Try.func14 (by kernel_rfl) rfl #[.int .u64 18446744073709551615, .int .u64 18446744073709551615] rfl (by (try simp only [List.map_toArray, List.map_cons, List.map_nil]); first | done | rfl | (simp only [List.length_drop, List.length_take]; rfl)) ?_; (with_reducible refine (arith_Mulh.calls 18446744073709551615 18446744073709551615 t217 _ A2.out).mono ?_); rintro e w' ⟨rfl, ⟨nd, rfl⟩⟩; refine ⟨_, rfl, ?_⟩) | (go_at_call 13; (with_reducible refine (arith_Mulhsu.calls 18446744073709551615 18446744073709551615 t218 _ A4.out).mono ?_); rintro e w' ⟨rfl, ⟨nd, rfl⟩⟩))
        go_meet
        case rel => exact ⟨_, (true), (by first | rfl | (simp; done) | (simp [*]; done)), H', ⟨by first | omega | exact Nat.le_refl _⟩, ⟨by repeat (first | (with_reducible first | exact HB.out | apply below_alloc | apply pw_below_drewN | apply below_drew1) | exact HB.out)⟩⟩
    · rw [if_neg c3] at H
      have c3b0 : (t217 == 0) = false := beq_eq_false_iff_ne.mpr c3
      have c3b1 : (t217 != 0) = true := bne_iff_ne.mpr c3
      (first | rw [c3b0] | (simp only [i64_w, i32_w]; rw [c3b0]) | skip)
      have H' := Aside0.mk H
      clear H
      go_wp2_with (first | ((with_reducible refine gate_callee (f := 14) rfl ?_); refine goesL_ (some 9) rfl rfl Try.func14 (by kernel_rfl) rfl #[.int .u64 18446744073709551615, .int .u64 18446744073709551615] rfl (by (try simp only [List.map_toArray, List.map_cons, List.map_nil]); first | done | rfl | (simp only [List.length_drop, List.length_take]; rfl)) ?_; (with_reducible refine (arith_Mulh.calls 18446744073709551615 18446744073709551615 t217 _ A2.out).mono ?_); rintro e w' ⟨rfl, ⟨nd, rfl⟩⟩; refine ⟨_, rfl, ?_⟩))
      go_meet
      case rel => exact ⟨_, (true), (by first | rfl | (simp; done) | (simp [*]; done)), H', ⟨by first | omega | exact Nat.le_refl _⟩, ⟨by repeat (first | (with_reducible first | exact HB.out | apply below_alloc | apply pw_below_drewN | apply below_drew1) | exact HB.out)⟩⟩
  case rest =>
    clear HC1
    try clear c1
    try clear p2
    try clear c3
    try clear c3b0
    try clear c3b1
    try clear c5
    try clear c5b0
    try clear c5b1
    try clear c7
    try clear c7b0
    try clear c7b1
    try clear c8
    try clear c9
    try clear c9b0
    try clear c9b1
    try clear c11
    try clear c11b0
    try clear c11b1
    try clear c13
    try clear c13b0
    try clear c13b1
    try clear c14
    try clear c15
    try clear c15b0
    try clear c15b1
    try clear c17
    try clear c17b0
    try clear c17b1
    obtain ⟨kq, x42_0, rfl, HA, HJ0, HB⟩ := hcut
    cases kq with
    | zero => exact absurd HA.out (by simp [mezzaninelaw02_ArithKnown.j0])
    | succ kj0 =>
      have H := HA.out
      clear HA
      simp only [mezzaninelaw02_ArithKnown.j0] at H
      by_cases c19 : x42_0 = true
      · subst c19
        have H1 : (some false) = some r := by rw [if_pos rfl] at H; exact H
        clear H
        have H := H1
        clear H1
        obtain rfl := Option.some.inj H
        go_wp2
        go_ret
        exact ⟨by first | rfl | (simp [errW_none, errW_some] <;> rfl) | (simp [*, errW_none, errW_some] <;> rfl), by repeat (first | (with_reducible first | exact HB.out | apply below_alloc | apply pw_below_drewN | apply below_drew1) | exact HB.out)⟩
      · replace c19 := Bool.eq_false_iff.mpr c19
        subst c19
        have H1 : ((arith_Divu.f 18446744073709551615 2).bind fun t226 => (if t226 = 9223372036854775807 then ((arith_Remu.f 18446744073709551615 10).bind fun t227 => (if t227 = 5 then ((arith_Divu.f 1 0).bind fun t228 => (if t228 = 18446744073709551615 then ((arith_Remu.f 1 0).bind fun t229 => (if t229 = 1 then ((arith_Mulw.f 2147483648 3).bind fun t230 => (if t230 = 18446744071562067968 then ((arith_Divw.f 2147483648 18446744073709551615).bind fun t231 => (if t231 = 18446744071562067968 then ((arith_Remw.f 2147483648 18446744073709551615).bind fun t232 => (if t232 = 0 then ((arith_Divuw.f 4294967295 1).bind fun t233 => (if t233 = 18446744073709551615 then ((arith_Remuw.f 2147483648 0).bind fun t234 => (mezzaninelaw02_ArithKnown.j1 kj0 (t234 != 18446744071562067968))) else (mezzaninelaw02_ArithKnown.j1 kj0 true))) else (mezzaninelaw02_ArithKnown.j1 kj0 true))) else (mezzaninelaw02_ArithKnown.j1 kj0 true))) else (mezzaninelaw02_ArithKnown.j1 kj0 true))) else (mezzaninelaw02_ArithKnown.j1 kj0 true))) else (mezzaninelaw02_ArithKnown.j1 kj0 true))) else (mezzaninelaw02_ArithKnown.j1 kj0 true))) else (mezzaninelaw02_ArithKnown.j1 kj0 true))) = some r := by rw [if_neg (show ¬ (false = true) by decide)] at H; exact H
        clear H
        have H := H1
        clear H1
        have HC20 := Aside0.mk H
        clear H
        go_upto_region 3 with (fail)
        go_cut [76] (fun v76 wc => ∃ (kq : Nat) (x76_19 : Bool), v76 = .bool x76_19 ∧ Aside0 (mezzaninelaw02_ArithKnown.j1 kq x76_19 = some r) ∧ Aside0 (kq ≤ kj0) ∧ Aside0 (Below w.heap.size w wc))
        case first =>
          have H := HC20.out
          clear HC20
          replace H := Option.bind_eq_some_iff.mp H
          obtain ⟨t226, A210, H⟩ := H
          replace H : (if t226 = 9223372036854775807 then ((arith_Remu.f 18446744073709551615 10).bind fun t227 => (if t227 = 5 then ((arith_Divu.f 1 0).bind fun t228 => (if t228 = 18446744073709551615 then ((arith_Remu.f 1 0).bind fun t229 => (if t229 = 1 then ((arith_Mulw.f 2147483648 3).bind fun t230 => (if t230 = 18446744071562067968 then ((arith_Divw.f 2147483648 18446744073709551615).bind fun t231 => (if t231 = 18446744071562067968 then ((arith_Remw.f 2147483648 18446744073709551615).bind fun t232 => (if t232 = 0 then ((arith_Divuw.f 4294967295 1).bind fun t233 => (if t233 = 18446744073709551615 then ((arith_Remuw.f 2147483648 0).bind fun t234 => (mezzaninelaw02_ArithKnown.j1 kj0 (t234 != 18446744071562067968))) else (mezzaninelaw02_ArithKnown.j1 kj0 true))) else (mezzaninelaw02_ArithKnown.j1 kj0 true))) else (mezzaninelaw02_ArithKnown.j1 kj0 true))) else (mezzaninelaw02_ArithKnown.j1 kj0 true))) else (mezzaninelaw02_ArithKnown.j1 kj0 true))) else (mezzaninelaw02_ArithKnown.j1 kj0 true))) else (mezzaninelaw02_ArithKnown.j1 kj0 true))) else (mezzaninelaw02_ArithKnown.j1 kj0 true)) = some r := H
          have A21 := Aside0.mk A210
          clear A210
          by_cases c22 : t226 = 9223372036854775807
          · rw [if_pos c22] at H
            have c22b0 : (t226 == 9223372036854775807) = true := beq_iff_eq.mpr c22
            have c22b1 : (t226 != 9223372036854775807) = false := bne_eq_false_iff_eq.mpr c22
            clear c22
            (first | rw [c22b0] | (simp only [i64_w, i32_w]; rw [c22b0]) | skip)
            replace H := Option.bind_eq_some_iff.mp H
            obtain ⟨t227, A230, H⟩ := H
            replace H : (if t227 = 5 then ((arith_Divu.f 1 0).bind fun t228 => (if t228 = 18446744073709551615 then ((arith_Remu.f 1 0).bind fun t229 => (if t229 = 1 then ((arith_Mulw.f 2147483648 3).bind fun t230 => (if t230 = 18446744071562067968 then ((arith_Divw.f 2147483648 18446744073709551615).bind fun t231 => (if t231 = 18446744071562067968 then ((arith_Remw.f 2147483648 18446744073709551615).bind fun t232 => (if t232 = 0 then ((arith_Divuw.f 4294967295 1).bind fun t233 => (if t233 = 18446744073709551615 then ((arith_Remuw.f 2147483648 0).bind fun t234 => (mezzaninelaw02_ArithKnown.j1 kj0 (t234 != 18446744071562067968))) else (mezzaninelaw02_ArithKnown.j1 kj0 true))) else (mezzaninelaw02_ArithKnown.j1 kj0 true))) else (mezzaninelaw02_ArithKnown.j1 kj0 true))) else (mezzaninelaw02_ArithKnown.j1 kj0 true))) else (mezzaninelaw02_ArithKnown.j1 kj0 true))) else (mezzaninelaw02_ArithKnown.j1 kj0 true))) else (mezzaninelaw02_ArithKnown.j1 kj0 true)) = some r := H
            have A23 := Aside0.mk A230
            clear A230
            by_cases c24 : t227 = 5
            · rw [if_pos c24] at H
              have c24b0 : (t227 == 5) = true := beq_iff_eq.mpr c24
              have c24b1 : (t227 != 5) = false := bne_eq_false_iff_eq.mpr c24
              clear c24
              replace H := Option.bind_eq_some_iff.mp H
              obtain ⟨t228, A250, H⟩ := H
              replace H : (if t228 = 18446744073709551615 then ((arith_Remu.f 1 0).bind fun t229 => (if t229 = 1 then ((arith_Mulw.f 2147483648 3).bind fun t230 => (if t230 = 18446744071562067968 then ((arith_Divw.f 2147483648 18446744073709551615).bind fun t231 => (if t231 = 18446744071562067968 then ((arith_Remw.f 2147483648 18446744073709551615).bind fun t232 => (if t232 = 0 then ((arith_Divuw.f 4294967295 1).bind fun t233 => (if t233 = 18446744073709551615 then ((arith_Remuw.f 2147483648 0).bind fun t234 => (mezzaninelaw02_ArithKnown.j1 kj0 (t234 != 18446744071562067968))) else (mezzaninelaw02_ArithKnown.j1 kj0 true))) else (mezzaninelaw02_ArithKnown.j1 kj0 true))) else (mezzaninelaw02_ArithKnown.j1 kj0 true))) else (mezzaninelaw02_ArithKnown.j1 kj0 true))) else (mezzaninelaw02_ArithKnown.j1 kj0 true))) else (mezzaninelaw02_ArithKnown.j1 kj0 true)) = some r := H
              have A25 := Aside0.mk A250
              clear A250
              by_cases c26 : t228 = 18446744073709551615
              · rw [if_pos c26] at H
                have c26b0 : (t228 == 18446744073709551615) = true := beq_iff_eq.mpr c26
                have c26b1 : (t228 != 18446744073709551615) = false := bne_eq_false_iff_eq.mpr c26
                clear c26
                replace H := Option.bind_eq_some_iff.mp H
                obtain ⟨t229, A270, H⟩ := H
                replace H : (if t229 = 1 then ((arith_Mulw.f 2147483648 3).bind fun t230 => (if t230 = 18446744071562067968 then ((arith_Divw.f 2147483648 18446744073709551615).bind fun t231 => (if t231 = 18446744071562067968 then ((arith_Remw.f 2147483648 18446744073709551615).bind fun t232 => (if t232 = 0 then ((arith_Divuw.f 4294967295 1).bind fun t233 => (if t233 = 18446744073709551615 then ((arith_Remuw.f 2147483648 0).bind fun t234 => (mezzaninelaw02_ArithKnown.j1 kj0 (t234 != 18446744071562067968))) else (mezzaninelaw02_ArithKnown.j1 kj0 true))) else (mezzaninelaw02_ArithKnown.j1 kj0 true))) else (mezzaninelaw02_ArithKnown.j1 kj0 true))) else (mezzaninelaw02_ArithKnown.j1 kj0 true))) else (mezzaninelaw02_ArithKnown.j1 kj0 true)) = some r := H
                have A27 := Aside0.mk A270
                clear A270
                by_cases c28 : t229 = 1
                · rw [if_pos c28] at H
                  have c28b0 : (t229 == 1) = true := beq_iff_eq.mpr c28
                  have c28b1 : (t229 != 1) = false := bne_eq_false_iff_eq.mpr c28
                  clear c28
                  replace H := Option.bind_eq_some_iff.mp H
                  obtain ⟨t230, A290, H⟩ := H
                  replace H : (if t230 = 18446744071562067968 then ((arith_Divw.f 2147483648 18446744073709551615).bind fun t231 => (if t231 = 18446744071562067968 then ((arith_Remw.f 2147483648 18446744073709551615).bind fun t232 => (if t232 = 0 then ((arith_Divuw.f 4294967295 1).bind fun t233 => (if t233 = 18446744073709551615 then ((arith_Remuw.f 2147483648 0).bind fun t234 => (mezzaninelaw02_ArithKnown.j1 kj0 (t234 != 18446744071562067968))) else (mezzaninelaw02_ArithKnown.j1 kj0 true))) else (mezzaninelaw02_ArithKnown.j1 kj0 true))) else (mezzaninelaw02_ArithKnown.j1 kj0 true))) else (mezzaninelaw02_ArithKnown.j1 kj0 true)) = some r := H
                  have A29 := Aside0.mk A290
                  clear A290
                  by_cases c30 : t230 = 18446744071562067968
                  · rw [if_pos c30] at H
                    have c30b0 : (t230 == 18446744071562067968) = true := beq_iff_eq.mpr c30
                    have c30b1 : (t230 != 18446744071562067968) = false := bne_eq_false_iff_eq.mpr c30
                    clear c30
                    replace H := Option.bind_eq_some_iff.mp H
                    obtain ⟨t231, A310, H⟩ := H
                    replace H : (if t231 = 18446744071562067968 then ((arith_Remw.f 2147483648 18446744073709551615).bind fun t232 => (if t232 = 0 then ((arith_Divuw.f 4294967295 1).bind fun t233 => (if t233 = 18446744073709551615 then ((arith_Remuw.f 2147483648 0).bind fun t234 => (mezzaninelaw02_ArithKnown.j1 kj0 (t234 != 18446744071562067968))) else (mezzaninelaw02_ArithKnown.j1 kj0 true))) else (mezzaninelaw02_ArithKnown.j1 kj0 true))) else (mezzaninelaw02_ArithKnown.j1 kj0 true)) = some r := H
                    have A31 := Aside0.mk A310
                    clear A310
                    by_cases c32 : t231 = 18446744071562067968
                    · rw [if_pos c32] at H
                      have c32b0 : (t231 == 18446744071562067968) = true := beq_iff_eq.mpr c32
                      have c32b1 : (t231 != 18446744071562067968) = false := bne_eq_false_iff_eq.mpr c32
                      clear c32
                      replace H := Option.bind_eq_some_iff.mp H
                      obtain ⟨t232, A330, H⟩ := H
                      replace H : (if t232 = 0 then ((arith_Divuw.f 4294967295 1).bind fun t233 => (if t233 = 18446744073709551615 then ((arith_Remuw.f 2147483648 0).bind fun t234 => (mezzaninelaw02_ArithKnown.j1 kj0 (t234 != 18446744071562067968))) else (mezzaninelaw02_ArithKnown.j1 kj0 true))) else (mezzaninelaw02_ArithKnown.j1 kj0 true)) = some r := H
                      have A33 := Aside0.mk A330
                      clear A330
                      by_cases c34 : t232 = 0
                      · rw [if_pos c34] at H
                        have c34b0 : (t232 == 0) = true := beq_iff_eq.mpr c34
                        have c34b1 : (t232 != 0) = false := bne_eq_false_iff_eq.mpr c34
                        clear c34
                        replace H := Option.bind_eq_some_iff.mp H
                        obtain ⟨t233, A350, H⟩ := H
                        replace H : (if t233 = 18446744073709551615 then ((arith_Remuw.f 2147483648 0).bind fun t234 => (mezzaninelaw02_ArithKnown.j1 kj0 (t234 != 18446744071562067968))) else (mezzaninelaw02_ArithKnown.j1 kj0 true)) = some r := H
                        have A35 := Aside0.mk A350
                        clear A350
                        by_cases c36 : t233 = 18446744073709551615
                        · rw [if_pos c36] at H
                          have c36b0 : (t233 == 18446744073709551615) = true := beq_iff_eq.mpr c36
                          have c36b1 : (t233 != 18446744073709551615) = false := bne_eq_false_iff_eq.mpr c36
                          clear c36
                          replace H := Option.bind_eq_some_iff.mp H
                          obtain ⟨t234, A370, H⟩ := H
                          replace H : (mezzaninelaw02_ArithKnown.j1 kj0 (t234 != 18446744071562067968)) = some r := H
                          have A37 := Aside0.mk A370
                          clear A370
                          have H' := Aside0.mk H
                          clear H
                          go_wp2_with (first | ((with_reducible refine gate_callee (f := 22) rfl ?_); refine goesL_ (some 43) rfl rfl Try.func22 (by kernel_rfl) rfl #[.int .u64 18446744073709551615, .int .u64 2] rfl (by (try simp only [List.map_toArray, List.map_cons, List.map_nil]); first | done | rfl | (simp only [List.length_drop, List.length_take]; rfl)) ?_; (with_reducible refine (arith_Divu.calls 18446744073709551615 2 t226 _ A21.out).mono ?_); rintro e w' ⟨rfl, ⟨nd, rfl⟩⟩; refine ⟨_, rfl, ?_⟩) | (go_at_call 26; (with_reducible refine (arith_Remu.calls 18446744073709551615 10 t227 _ A23.out).mono ?_); rintro e w' ⟨rfl, ⟨nd, rfl⟩⟩) | (go_at_call 22; (with_reducible refine (arith_Divu.calls 1 0 t228 _ A25.out).mono ?_); rintro e w' ⟨rfl, ⟨nd, rfl⟩⟩) | (go_at_call 26; (with_reducible refine (arith_Remu.calls 1 0 t229 _ A27.out).mono ?_); rintro e w' ⟨rfl, ⟨nd, rfl⟩⟩) | (go_at_call 18; (with_reducible refine (arith_Mulw.calls 2147483648 3 t230 _ A29.out).mono ?_); rintro e w' ⟨rfl, ⟨nd, rfl⟩⟩) | (go_at_call 28; (with_reducible refine (arith_Divw.calls 2147483648 18446744073709551615 t231 _ A31.out).mono ?_); rintro e w' ⟨rfl, ⟨nd, rfl⟩⟩) | (go_at_call 32; (with_reducible refine (arith_Remw.calls 2147483648 18446744073709551615 t232 _ A33.out).mono ?_); rintro e w' ⟨rfl, ⟨nd, rfl⟩⟩) | (go_at_call 30; (with_reducible refine (arith_Divuw.calls 4294967295 1 t233 _ A35.out).mono ?_); rintro e w' ⟨rfl, ⟨nd, rfl⟩⟩) | (go_at_call 34; (with_reducible refine (arith_Remuw.calls 2147483648 0 t234 _ A37.out).mono ?_); rintro e w' ⟨rfl, ⟨nd, rfl⟩⟩))
                          go_meet
                          case rel => exact ⟨_, ((t234 != 18446744071562067968)), (by first | rfl | (simp; done) | (simp [*]; done)), H', ⟨by have := HJ0.out; first | omega | exact Nat.le_refl _⟩, ⟨by repeat (first | (with_reducible first | exact HB.out | apply below_alloc | apply pw_below_drewN | apply below_drew1) | exact HB.out)⟩⟩
                        · rw [if_neg c36] at H
                          have c36b0 : (t233 == 18446744073709551615) = false := beq_eq_false_iff_ne.mpr c36
                          have c36b1 : (t233 != 18446744073709551615) = true := bne_iff_ne.mpr c36
                          have H' := Aside0.mk H
                          clear H
                          go_wp2_with (first | ((with_reducible refine gate_callee (f := 22) rfl ?_); refine goesL_ (some 43) rfl rfl Try.func22 (by kernel_rfl) rfl #[.int .u64 18446744073709551615, .int .u64 2] rfl (by (try simp only [List.map_toArray, List.map_cons, List.map_nil]); first | done | rfl | (simp only [List.length_drop, List.length_take]; rfl)) ?_; (with_reducible refine (arith_Divu.calls 18446744073709551615 2 t226 _ A21.out).mono ?_); rintro e w' ⟨rfl, ⟨nd, rfl⟩⟩; refine ⟨_, rfl, ?_⟩) | (go_at_call 26; (with_reducible refine (arith_Remu.calls 18446744073709551615 10 t227 _ A23.out).mono ?_); rintro e w' ⟨rfl, ⟨nd, rfl⟩⟩) | (go_at_call 22; (with_reducible refine (arith_Divu.calls 1 0 t228 _ A25.out).mono ?_); rintro e w' ⟨rfl, ⟨nd, rfl⟩⟩) | (go_at_call 26; (with_reducible refine (arith_Remu.calls 1 0 t229 _ A27.out).mono ?_); rintro e w' ⟨rfl, ⟨nd, rfl⟩⟩) | (go_at_call 18; (with_reducible refine (arith_Mulw.calls 2147483648 3 t230 _ A29.out).mono ?_); rintro e w' ⟨rfl, ⟨nd, rfl⟩⟩) | (go_at_call 28; (with_reducible refine (arith_Divw.calls 2147483648 18446744073709551615 t231 _ A31.out).mono ?_); rintro e w' ⟨rfl, ⟨nd, rfl⟩⟩) | (go_at_call 32; (with_reducible refine (arith_Remw.calls 2147483648 18446744073709551615 t232 _ A33.out).mono ?_); rintro e w' ⟨rfl, ⟨nd, rfl⟩⟩) | (go_at_call 30; (with_reducible refine (arith_Divuw.calls 4294967295 1 t233 _ A35.out).mono ?_); rintro e w' ⟨rfl, ⟨nd, rfl⟩⟩))
                          go_meet
                          case rel => exact ⟨_, (true), (by first | rfl | (simp; done) | (simp [*]; done)), H', ⟨by have := HJ0.out; first | omega | exact Nat.le_refl _⟩, ⟨by repeat (first | (with_reducible first | exact HB.out | apply below_alloc | apply pw_below_drewN | apply below_drew1) | exact HB.out)⟩⟩
                      · rw [if_neg c34] at H
                        have c34b0 : (t232 == 0) = false := beq_eq_false_iff_ne.mpr c34
                        have c34b1 : (t232 != 0) = true := bne_iff_ne.mpr c34
                        have H' := Aside0.mk H
                        clear H
                        go_wp2_with (first | ((with_reducible refine gate_callee (f := 22) rfl ?_); refine goesL_ (some 43) rfl rfl Try.func22 (by kernel_rfl) rfl #[.int .u64 18446744073709551615, .int .u64 2] rfl (by (try simp only [List.map_toArray, List.map_cons, List.map_nil]); first | done | rfl | (simp only [List.length_drop, List.length_take]; rfl)) ?_; (with_reducible refine (arith_Divu.calls 18446744073709551615 2 t226 _ A21.out).mono ?_); rintro e w' ⟨rfl, ⟨nd, rfl⟩⟩; refine ⟨_, rfl, ?_⟩) | (go_at_call 26; (with_reducible refine (arith_Remu.calls 18446744073709551615 10 t227 _ A23.out).mono ?_); rintro e w' ⟨rfl, ⟨nd, rfl⟩⟩) | (go_at_call 22; (with_reducible refine (arith_Divu.calls 1 0 t228 _ A25.out).mono ?_); rintro e w' ⟨rfl, ⟨nd, rfl⟩⟩) | (go_at_call 26; (with_reducible refine (arith_Remu.calls 1 0 t229 _ A27.out).mono ?_); rintro e w' ⟨rfl, ⟨nd, rfl⟩⟩) | (go_at_call 18; (with_reducible refine (arith_Mulw.calls 2147483648 3 t230 _ A29.out).mono ?_); rintro e w' ⟨rfl, ⟨nd, rfl⟩⟩) | (go_at_call 28; (with_reducible refine (arith_Divw.calls 2147483648 18446744073709551615 t231 _ A31.out).mono ?_); rintro e w' ⟨rfl, ⟨nd, rfl⟩⟩) | (go_at_call 32; (with_reducible refine (arith_Remw.calls 2147483648 18446744073709551615 t232 _ A33.out).mono ?_); rintro e w' ⟨rfl, ⟨nd, rfl⟩⟩))
                        go_meet
                        case rel => exact ⟨_, (true), (by first | rfl | (simp; done) | (simp [*]; done)), H', ⟨by have := HJ0.out; first | omega | exact Nat.le_refl _⟩, ⟨by repeat (first | (with_reducible first | exact HB.out | apply below_alloc | apply pw_below_drewN | apply below_drew1) | exact HB.out)⟩⟩
                    · rw [if_neg c32] at H
                      have c32b0 : (t231 == 18446744071562067968) = false := beq_eq_false_iff_ne.mpr c32
                      have c32b1 : (t231 != 18446744071562067968) = true := bne_iff_ne.mpr c32
                      have H' := Aside0.mk H
                      clear H
                      go_wp2_with (first | ((with_reducible refine gate_callee (f := 22) rfl ?_); refine goesL_ (some 43) rfl rfl Try.func22 (by kernel_rfl) rfl #[.int .u64 18446744073709551615, .int .u64 2] rfl (by (try simp only [List.map_toArray, List.map_cons, List.map_nil]); first | done | rfl | (simp only [List.length_drop, List.length_take]; rfl)) ?_; (with_reducible refine (arith_Divu.calls 18446744073709551615 2 t226 _ A21.out).mono ?_); rintro e w' ⟨rfl, ⟨nd, rfl⟩⟩; refine ⟨_, rfl, ?_⟩) | (go_at_call 26; (with_reducible refine (arith_Remu.calls 18446744073709551615 10 t227 _ A23.out).mono ?_); rintro e w' ⟨rfl, ⟨nd, rfl⟩⟩) | (go_at_call 22; (with_reducible refine (arith_Divu.calls 1 0 t228 _ A25.out).mono ?_); rintro e w' ⟨rfl, ⟨nd, rfl⟩⟩) | (go_at_call 26; (with_reducible refine (arith_Remu.calls 1 0 t229 _ A27.out).mono ?_); rintro e w' ⟨rfl, ⟨nd, rfl⟩⟩) | (go_at_call 18; (with_reducible refine (arith_Mulw.calls 2147483648 3 t230 _ A29.out).mono ?_); rintro e w' ⟨rfl, ⟨nd, rfl⟩⟩) | (go_at_call 28; (with_reducible refine (arith_Divw.calls 2147483648 18446744073709551615 t231 _ A31.out).mono ?_); rintro e w' ⟨rfl, ⟨nd, rfl⟩⟩))
                      go_meet
                      case rel => exact ⟨_, (true), (by first | rfl | (simp; done) | (simp [*]; done)), H', ⟨by have := HJ0.out; first | omega | exact Nat.le_refl _⟩, ⟨by repeat (first | (with_reducible first | exact HB.out | apply below_alloc | apply pw_below_drewN | apply below_drew1) | exact HB.out)⟩⟩
                  · rw [if_neg c30] at H
                    have c30b0 : (t230 == 18446744071562067968) = false := beq_eq_false_iff_ne.mpr c30
                    have c30b1 : (t230 != 18446744071562067968) = true := bne_iff_ne.mpr c30
                    have H' := Aside0.mk H
                    clear H
                    go_wp2_with (first | ((with_reducible refine gate_callee (f := 22) rfl ?_); refine goesL_ (some 43) rfl rfl Try.func22 (by kernel_rfl) rfl #[.int .u64 18446744073709551615, .int .u64 2] rfl (by (try simp only [List.map_toArray, List.map_cons, List.map_nil]); first | done | rfl | (simp only [List.length_drop, List.length_take]; rfl)) ?_; (with_reducible refine (arith_Divu.calls 18446744073709551615 2 t226 _ A21.out).mono ?_); rintro e w' ⟨rfl, ⟨nd, rfl⟩⟩; refine ⟨_, rfl, ?_⟩) | (go_at_call 26; (with_reducible refine (arith_Remu.calls 18446744073709551615 10 t227 _ A23.out).mono ?_); rintro e w' ⟨rfl, ⟨nd, rfl⟩⟩) | (go_at_call 22; (with_reducible refine (arith_Divu.calls 1 0 t228 _ A25.out).mono ?_); rintro e w' ⟨rfl, ⟨nd, rfl⟩⟩) | (go_at_call 26; (with_reducible refine (arith_Remu.calls 1 0 t229 _ A27.out).mono ?_); rintro e w' ⟨rfl, ⟨nd, rfl⟩⟩) | (go_at_call 18; (with_reducible refine (arith_Mulw.calls 2147483648 3 t230 _ A29.out).mono ?_); rintro e w' ⟨rfl, ⟨nd, rfl⟩⟩))
                    go_meet
                    case rel => exact ⟨_, (true), (by first | rfl | (simp; done) | (simp [*]; done)), H', ⟨by have := HJ0.out; first | omega | exact Nat.le_refl _⟩, ⟨by repeat (first | (with_reducible first | exact HB.out | apply below_alloc | apply pw_below_drewN | apply below_drew1) | exact HB.out)⟩⟩
                · rw [if_neg c28] at H
                  have c28b0 : (t229 == 1) = false := beq_eq_false_iff_ne.mpr c28
                  have c28b1 : (t229 != 1) = true := bne_iff_ne.mpr c28
                  have H' := Aside0.mk H
                  clear H
                  go_wp2_with (first | ((with_reducible refine gate_callee (f := 22) rfl ?_); refine goesL_ (some 43) rfl rfl Try.func22 (by kernel_rfl) rfl #[.int .u64 18446744073709551615, .int .u64 2] rfl (by (try simp only [List.map_toArray, List.map_cons, List.map_nil]); first | done | rfl | (simp only [List.length_drop, List.length_take]; rfl)) ?_; (with_reducible refine (arith_Divu.calls 18446744073709551615 2 t226 _ A21.out).mono ?_); rintro e w' ⟨rfl, ⟨nd, rfl⟩⟩; refine ⟨_, rfl, ?_⟩) | (go_at_call 26; (with_reducible refine (arith_Remu.calls 18446744073709551615 10 t227 _ A23.out).mono ?_); rintro e w' ⟨rfl, ⟨nd, rfl⟩⟩) | (go_at_call 22; (with_reducible refine (arith_Divu.calls 1 0 t228 _ A25.out).mono ?_); rintro e w' ⟨rfl, ⟨nd, rfl⟩⟩) | (go_at_call 26; (with_reducible refine (arith_Remu.calls 1 0 t229 _ A27.out).mono ?_); rintro e w' ⟨rfl, ⟨nd, rfl⟩⟩))
                  go_meet
                  case rel => exact ⟨_, (true), (by first | rfl | (simp; done) | (simp [*]; done)), H', ⟨by have := HJ0.out; first | omega | exact Nat.le_refl _⟩, ⟨by repeat (first | (with_reducible first | exact HB.out | apply below_alloc | apply pw_below_drewN | apply below_drew1) | exact HB.out)⟩⟩
              · rw [if_neg c26] at H
                have c26b0 : (t228 == 18446744073709551615) = false := beq_eq_false_iff_ne.mpr c26
                have c26b1 : (t228 != 18446744073709551615) = true := bne_iff_ne.mpr c26
                have H' := Aside0.mk H
                clear H
                go_wp2_with (first | ((with_reducible refine gate_callee (f := 22) rfl ?_); refine goesL_ (some 43) rfl rfl Try.func22 (by kernel_rfl) rfl #[.int .u64 18446744073709551615, .int .u64 2] rfl (by (try simp only [List.map_toArray, List.map_cons, List.map_nil]); first | done | rfl | (simp only [List.length_drop, List.length_take]; rfl)) ?_; (with_reducible refine (arith_Divu.calls 18446744073709551615 2 t226 _ A21.out).mono ?_); rintro e w' ⟨rfl, ⟨nd, rfl⟩⟩; refine ⟨_, rfl, ?_⟩) | (go_at_call 26; (with_reducible refine (arith_Remu.calls 18446744073709551615 10 t227 _ A23.out).mono ?_); rintro e w' ⟨rfl, ⟨nd, rfl⟩⟩) | (go_at_call 22; (with_reducible refine (arith_Divu.calls 1 0 t228 _ A25.out).mono ?_); rintro e w' ⟨rfl, ⟨nd, rfl⟩⟩))
                go_meet
                case rel => exact ⟨_, (true), (by first | rfl | (simp; done) | (simp [*]; done)), H', ⟨by have := HJ0.out; first | omega | exact Nat.le_refl _⟩, ⟨by repeat (first | (with_reducible first | exact HB.out | apply below_alloc | apply pw_below_drewN | apply below_drew1) | exact HB.out)⟩⟩
            · rw [if_neg c24] at H
              have c24b0 : (t227 == 5) = false := beq_eq_false_iff_ne.mpr c24
              have c24b1 : (t227 != 5) = true := bne_iff_ne.mpr c24
              have H' := Aside0.mk H
              clear H
              go_wp2_with (first | ((with_reducible refine gate_callee (f := 22) rfl ?_); refine goesL_ (some 43) rfl rfl Try.func22 (by kernel_rfl) rfl #[.int .u64 18446744073709551615, .int .u64 2] rfl (by (try simp only [List.map_toArray, List.map_cons, List.map_nil]); first | done | rfl | (simp only [List.length_drop, List.length_take]; rfl)) ?_; (with_reducible refine (arith_Divu.calls 18446744073709551615 2 t226 _ A21.out).mono ?_); rintro e w' ⟨rfl, ⟨nd, rfl⟩⟩; refine ⟨_, rfl, ?_⟩) | (go_at_call 26; (with_reducible refine (arith_Remu.calls 18446744073709551615 10 t227 _ A23.out).mono ?_); rintro e w' ⟨rfl, ⟨nd, rfl⟩⟩))
              go_meet
              case rel => exact ⟨_, (true), (by first | rfl | (simp; done) | (simp [*]; done)), H', ⟨by have := HJ0.out; first | omega | exact Nat.le_refl _⟩, ⟨by repeat (first | (with_reducible first | exact HB.out | apply below_alloc | apply pw_below_drewN | apply below_drew1) | exact HB.out)⟩⟩
          · rw [if_neg c22] at H
            have c22b0 : (t226 == 9223372036854775807) = false := beq_eq_false_iff_ne.mpr c22
            have c22b1 : (t226 != 9223372036854775807) = true := bne_iff_ne.mpr c22
            (first | rw [c22b0] | (simp only [i64_w, i32_w]; rw [c22b0]) | skip)
            have H' := Aside0.mk H
            clear H
            go_wp2_with (first | ((with_reducible refine gate_callee (f := 22) rfl ?_); refine goesL_ (some 43) rfl rfl Try.func22 (by kernel_rfl) rfl #[.int .u64 18446744073709551615, .int .u64 2] rfl (by (try simp only [List.map_toArray, List.map_cons, List.map_nil]); first | done | rfl | (simp only [List.length_drop, List.length_take]; rfl)) ?_; (with_reducible refine (arith_Divu.calls 18446744073709551615 2 t226 _ A21.out).mono ?_); rintro e w' ⟨rfl, ⟨nd, rfl⟩⟩; refine ⟨_, rfl, ?_⟩))
            go_meet
            case rel => exact ⟨_, (true), (by first | rfl | (simp; done) | (simp [*]; done)), H', ⟨by have := HJ0.out; first | omega | exact Nat.le_refl _⟩, ⟨by repeat (first | (with_reducible first | exact HB.out | apply below_alloc | apply pw_below_drewN | apply below_drew1) | exact HB.out)⟩⟩
        case rest =>
          clear HC20
          try clear c1
          try clear c2
          try clear p2
          try clear c3
          try clear c3b0
          try clear c3b1
          try clear c5
          try clear c5b0
          try clear c5b1
          try clear c7
          try clear c7b0
          try clear c7b1
          try clear c8
          try clear c9
          try clear c9b0
          try clear c9b1
          try clear c11
          try clear c11b0
          try clear c11b1
          try clear c13
          try clear c13b0
          try clear c13b1
          try clear c14
          try clear c15
          try clear c15b0
          try clear c15b1
          try clear c17
          try clear c17b0
          try clear c17b1
          try clear c19
          try clear c22
          try clear c22b0
          try clear c22b1
          try clear c24
          try clear c24b0
          try clear c24b1
          try clear c26
          try clear c26b0
          try clear c26b1
          try clear c28
          try clear c28b0
          try clear c28b1
          try clear c30
          try clear c30b0
          try clear c30b1
          try clear c32
          try clear c32b0
          try clear c32b1
          try clear c34
          try clear c34b0
          try clear c34b1
          try clear c36
          try clear c36b0
          try clear c36b1
          try clear p2
          obtain ⟨kq, x76_19, rfl, HA, HJ19, HB⟩ := hcut
          cases kq with
          | zero => exact absurd HA.out (by simp [mezzaninelaw02_ArithKnown.j1])
          | succ kj19 =>
            have H := HA.out
            clear HA
            simp only [mezzaninelaw02_ArithKnown.j1] at H
            by_cases c38 : x76_19 = true
            · subst c38
              have H1 : (some false) = some r := by rw [if_pos rfl] at H; exact H
              clear H
              have H := H1
              clear H1
              obtain rfl := Option.some.inj H
              go_wp2
              go_ret
              exact ⟨by first | rfl | (simp [errW_none, errW_some] <;> rfl) | (simp [*, errW_none, errW_some] <;> rfl), by repeat (first | (with_reducible first | exact HB.out | apply below_alloc | apply pw_below_drewN | apply below_drew1) | exact HB.out)⟩
            · replace c38 := Bool.eq_false_iff.mpr c38
              subst c38
              have H1 : ((arith_Do.f 0 false 18446744073709551615 3).bind fun bt235 => ((arith_Do.f 1 true 1 1).bind fun bt237 => ((arith_Do.f 8 false 1 1).bind fun bt239 => ((arith_Do.f (-1) false 1 1).bind fun bt241 => ((mezzaninelaw02_awake.f).bind fun t243 => (if t243 = true then (if bt235.1 = 18446744073709551613 then (if bt235.2 = 0 then (if bt237.2 = 1 then (if bt239.2 = 1 then (some (bt241.2 == 1)) else (some false)) else (some false)) else (some false)) else (some false)) else (some false))))))) = some r := by rw [if_neg (show ¬ (false = true) by decide)] at H; exact H
              clear H
              have H := H1
              clear H1
              replace H := Option.bind_eq_some_iff.mp H
              obtain ⟨⟨t235, t236⟩, A390, H⟩ := H
              replace H : ((arith_Do.f 1 true 1 1).bind fun bt237 => ((arith_Do.f 8 false 1 1).bind fun bt239 => ((arith_Do.f (-1) false 1 1).bind fun bt241 => ((mezzaninelaw02_awake.f).bind fun t243 => (if t243 = true then (if t235 = 18446744073709551613 then (if t236 = 0 then (if bt237.2 = 1 then (if bt239.2 = 1 then (some (bt241.2 == 1)) else (some false)) else (some false)) else (some false)) else (some false)) else (some false)))))) = some r := H
              have A39 := Aside0.mk A390
              clear A390
              replace H := Option.bind_eq_some_iff.mp H
              obtain ⟨⟨t237, t238⟩, A400, H⟩ := H
              replace H : ((arith_Do.f 8 false 1 1).bind fun bt239 => ((arith_Do.f (-1) false 1 1).bind fun bt241 => ((mezzaninelaw02_awake.f).bind fun t243 => (if t243 = true then (if t235 = 18446744073709551613 then (if t236 = 0 then (if t238 = 1 then (if bt239.2 = 1 then (some (bt241.2 == 1)) else (some false)) else (some false)) else (some false)) else (some false)) else (some false))))) = some r := H
              have A40 := Aside0.mk A400
              clear A400
              replace H := Option.bind_eq_some_iff.mp H
              obtain ⟨⟨t239, t240⟩, A410, H⟩ := H
              replace H : ((arith_Do.f (-1) false 1 1).bind fun bt241 => ((mezzaninelaw02_awake.f).bind fun t243 => (if t243 = true then (if t235 = 18446744073709551613 then (if t236 = 0 then (if t238 = 1 then (if t240 = 1 then (some (bt241.2 == 1)) else (some false)) else (some false)) else (some false)) else (some false)) else (some false)))) = some r := H
              have A41 := Aside0.mk A410
              clear A410
              replace H := Option.bind_eq_some_iff.mp H
              obtain ⟨⟨t241, t242⟩, A420, H⟩ := H
              replace H : ((mezzaninelaw02_awake.f).bind fun t243 => (if t243 = true then (if t235 = 18446744073709551613 then (if t236 = 0 then (if t238 = 1 then (if t240 = 1 then (some (t242 == 1)) else (some false)) else (some false)) else (some false)) else (some false)) else (some false))) = some r := H
              have A42 := Aside0.mk A420
              clear A420
              replace H := Option.bind_eq_some_iff.mp H
              obtain ⟨t243, A430, H⟩ := H
              replace H : (if t243 = true then (if t235 = 18446744073709551613 then (if t236 = 0 then (if t238 = 1 then (if t240 = 1 then (some (t242 == 1)) else (some false)) else (some false)) else (some false)) else (some false)) else (some false)) = some r := H
              have A43 := Aside0.mk A430
              clear A430
              by_cases c44 : t243 = true
              · subst c44
                have H1 : (if t235 = 18446744073709551613 then (if t236 = 0 then (if t238 = 1 then (if t240 = 1 then (some (t242 == 1)) else (some false)) else (some false)) else (some false)) else (some false)) = some r := by rw [if_pos rfl] at H; exact H
                clear H
                have H := H1
                clear H1
                by_cases c45 : t235 = 18446744073709551613
                · rw [if_pos c45] at H
                  have c45b0 : (t235 == 18446744073709551613) = true := beq_iff_eq.mpr c45
                  have c45b1 : (t235 != 18446744073709551613) = false := bne_eq_false_iff_eq.mpr c45
                  clear c45
                  by_cases c46 : t236 = 0
                  · rw [if_pos c46] at H
                    have c46b0 : (t236 == 0) = true := beq_iff_eq.mpr c46
                    have c46b1 : (t236 != 0) = false := bne_eq_false_iff_eq.mpr c46
                    clear c46
                    by_cases c47 : t238 = 1
                    · rw [if_pos c47] at H
                      have c47b0 : (t238 == 1) = true := beq_iff_eq.mpr c47
                      have c47b1 : (t238 != 1) = false := bne_eq_false_iff_eq.mpr c47
                      clear c47
                      by_cases c48 : t240 = 1
                      · rw [if_pos c48] at H
                        have c48b0 : (t240 == 1) = true := beq_iff_eq.mpr c48
                        have c48b1 : (t240 != 1) = false := bne_eq_false_iff_eq.mpr c48
                        clear c48
                        obtain rfl := Option.some.inj H
                        go_wp2_with (first | ((with_reducible refine gate_callee (f := 36) rfl ?_); refine goesL_ (some 78) rfl rfl Try.func36 (by kernel_rfl) rfl #[.int .i64 0, .bool false, .int .u64 18446744073709551615, .int .u64 3] rfl (by (try simp only [List.map_toArray, List.map_cons, List.map_nil]); first | done | rfl | (simp only [List.length_drop, List.length_take]; rfl)) ?_; (with_reducible refine (arith_Do.calls 0 false 18446744073709551615 3 t235 t236 _ A39.out).mono ?_); rintro e w49 ⟨rfl, hb⟩; refine ⟨_, rfl, ?_⟩; have n0_ := Aside0.mk (below_step (by repeat (first | (with_reducible first | exact HB.out | apply below_alloc | apply pw_below_drewN | apply below_drew1) | exact HB.out)) hb); clear HB; have HB := n0_; clear n0_; (try clear hb); (try clear hb2); (try clear hk); (try clear hi)) | ((with_reducible refine gate_callee (f := 36) rfl ?_); refine goesL_ (some 82) rfl rfl Try.func36 (by kernel_rfl) rfl #[.int .i64 1, .bool true, .int .u64 1, .int .u64 1] rfl (by (try simp only [List.map_toArray, List.map_cons, List.map_nil]); first | done | rfl | (simp only [List.length_drop, List.length_take]; rfl)) ?_; (with_reducible refine (arith_Do.calls 1 true 1 1 t237 t238 _ A40.out).mono ?_); rintro e w50 ⟨rfl, hb⟩; refine ⟨_, rfl, ?_⟩; have n0_ := Aside0.mk (below_step (by repeat (first | (with_reducible first | exact HB.out | apply below_alloc | apply pw_below_drewN | apply below_drew1) | exact HB.out)) hb); clear HB; have HB := n0_; clear n0_; (try clear hb); (try clear hb2); (try clear hk); (try clear hi)) | ((with_reducible refine gate_callee (f := 36) rfl ?_); refine goesL_ (some 86) rfl rfl Try.func36 (by kernel_rfl) rfl #[.int .i64 8, .bool false, .int .u64 1, .int .u64 1] rfl (by (try simp only [List.map_toArray, List.map_cons, List.map_nil]); first | done | rfl | (simp only [List.length_drop, List.length_take]; rfl)) ?_; (with_reducible refine (arith_Do.calls 8 false 1 1 t239 t240 _ A41.out).mono ?_); rintro e w51 ⟨rfl, hb⟩; refine ⟨_, rfl, ?_⟩; have n0_ := Aside0.mk (below_step (by repeat (first | (with_reducible first | exact HB.out | apply below_alloc | apply pw_below_drewN | apply below_drew1) | exact HB.out)) hb); clear HB; have HB := n0_; clear n0_; (try clear hb); (try clear hb2); (try clear hk); (try clear hi)) | ((with_reducible refine gate_callee (f := 36) rfl ?_); refine goesL_ (some 90) rfl rfl Try.func36 (by kernel_rfl) rfl #[.int .i64 (-1), .bool false, .int .u64 1, .int .u64 1] rfl (by (try simp only [List.map_toArray, List.map_cons, List.map_nil]); first | done | rfl | (simp only [List.length_drop, List.length_take]; rfl)) ?_; (with_reducible refine (arith_Do.calls (-1) false 1 1 t241 t242 _ A42.out).mono ?_); rintro e w52 ⟨rfl, hb⟩; refine ⟨_, rfl, ?_⟩; have n0_ := Aside0.mk (below_step (by repeat (first | (with_reducible first | exact HB.out | apply below_alloc | apply pw_below_drewN | apply below_drew1) | exact HB.out)) hb); clear HB; have HB := n0_; clear n0_; (try clear hb); (try clear hb2); (try clear hk); (try clear hi)) | (go_at_call 11; (with_reducible refine (mezzaninelaw02_awake.calls  true _ A43.out).mono ?_); rintro e w' ⟨rfl, ⟨nd, rfl⟩⟩))
                        go_ret
                        exact ⟨by first | rfl | (simp [errW_none, errW_some] <;> rfl) | (simp [*, errW_none, errW_some] <;> rfl), by repeat (first | (with_reducible first | exact HB.out | apply below_alloc | apply pw_below_drewN | apply below_drew1) | exact HB.out)⟩
                      · rw [if_neg c48] at H
                        have c48b0 : (t240 == 1) = false := beq_eq_false_iff_ne.mpr c48
                        have c48b1 : (t240 != 1) = true := bne_iff_ne.mpr c48
                        obtain rfl := Option.some.inj H
                        go_wp2_with (first | ((with_reducible refine gate_callee (f := 36) rfl ?_); refine goesL_ (some 78) rfl rfl Try.func36 (by kernel_rfl) rfl #[.int .i64 0, .bool false, .int .u64 18446744073709551615, .int .u64 3] rfl (by (try simp only [List.map_toArray, List.map_cons, List.map_nil]); first | done | rfl | (simp only [List.length_drop, List.length_take]; rfl)) ?_; (with_reducible refine (arith_Do.calls 0 false 18446744073709551615 3 t235 t236 _ A39.out).mono ?_); rintro e w53 ⟨rfl, hb⟩; refine ⟨_, rfl, ?_⟩; have n0_ := Aside0.mk (below_step (by repeat (first | (with_reducible first | exact HB.out | apply below_alloc | apply pw_below_drewN | apply below_drew1) | exact HB.out)) hb); clear HB; have HB := n0_; clear n0_; (try clear hb); (try clear hb2); (try clear hk); (try clear hi)) | ((with_reducible refine gate_callee (f := 36) rfl ?_); refine goesL_ (some 82) rfl rfl Try.func36 (by kernel_rfl) rfl #[.int .i64 1, .bool true, .int .u64 1, .int .u64 1] rfl (by (try simp only [List.map_toArray, List.map_cons, List.map_nil]); first | done | rfl | (simp only [List.length_drop, List.length_take]; rfl)) ?_; (with_reducible refine (arith_Do.calls 1 true 1 1 t237 t238 _ A40.out).mono ?_); rintro e w54 ⟨rfl, hb⟩; refine ⟨_, rfl, ?_⟩; have n0_ := Aside0.mk (below_step (by repeat (first | (with_reducible first | exact HB.out | apply below_alloc | apply pw_below_drewN | apply below_drew1) | exact HB.out)) hb); clear HB; have HB := n0_; clear n0_; (try clear hb); (try clear hb2); (try clear hk); (try clear hi)) | ((with_reducible refine gate_callee (f := 36) rfl ?_); refine goesL_ (some 86) rfl rfl Try.func36 (by kernel_rfl) rfl #[.int .i64 8, .bool false, .int .u64 1, .int .u64 1] rfl (by (try simp only [List.map_toArray, List.map_cons, List.map_nil]); first | done | rfl | (simp only [List.length_drop, List.length_take]; rfl)) ?_; (with_reducible refine (arith_Do.calls 8 false 1 1 t239 t240 _ A41.out).mono ?_); rintro e w55 ⟨rfl, hb⟩; refine ⟨_, rfl, ?_⟩; have n0_ := Aside0.mk (below_step (by repeat (first | (with_reducible first | exact HB.out | apply below_alloc | apply pw_below_drewN | apply below_drew1) | exact HB.out)) hb); clear HB; have HB := n0_; clear n0_; (try clear hb); (try clear hb2); (try clear hk); (try clear hi)) | ((with_reducible refine gate_callee (f := 36) rfl ?_); refine goesL_ (some 90) rfl rfl Try.func36 (by kernel_rfl) rfl #[.int .i64 (-1), .bool false, .int .u64 1, .int .u64 1] rfl (by (try simp only [List.map_toArray, List.map_cons, List.map_nil]); first | done | rfl | (simp only [List.length_drop, List.length_take]; rfl)) ?_; (with_reducible refine (arith_Do.calls (-1) false 1 1 t241 t242 _ A42.out).mono ?_); rintro e w56 ⟨rfl, hb⟩; refine ⟨_, rfl, ?_⟩; have n0_ := Aside0.mk (below_step (by repeat (first | (with_reducible first | exact HB.out | apply below_alloc | apply pw_below_drewN | apply below_drew1) | exact HB.out)) hb); clear HB; have HB := n0_; clear n0_; (try clear hb); (try clear hb2); (try clear hk); (try clear hi)) | (go_at_call 11; (with_reducible refine (mezzaninelaw02_awake.calls  true _ A43.out).mono ?_); rintro e w' ⟨rfl, ⟨nd, rfl⟩⟩))
                        go_ret
                        exact ⟨by first | rfl | (simp [errW_none, errW_some] <;> rfl) | (simp [*, errW_none, errW_some] <;> rfl), by repeat (first | (with_reducible first | exact HB.out | apply below_alloc | apply pw_below_drewN | apply below_drew1) | exact HB.out)⟩
                    · rw [if_neg c47] at H
                      have c47b0 : (t238 == 1) = false := beq_eq_false_iff_ne.mpr c47
                      have c47b1 : (t238 != 1) = true := bne_iff_ne.mpr c47
                      obtain rfl := Option.some.inj H
                      go_wp2_with (first | ((with_reducible refine gate_callee (f := 36) rfl ?_); refine goesL_ (some 78) rfl rfl Try.func36 (by kernel_rfl) rfl #[.int .i64 0, .bool false, .int .u64 18446744073709551615, .int .u64 3] rfl (by (try simp only [List.map_toArray, List.map_cons, List.map_nil]); first | done | rfl | (simp only [List.length_drop, List.length_take]; rfl)) ?_; (with_reducible refine (arith_Do.calls 0 false 18446744073709551615 3 t235 t236 _ A39.out).mono ?_); rintro e w57 ⟨rfl, hb⟩; refine ⟨_, rfl, ?_⟩; have n0_ := Aside0.mk (below_step (by repeat (first | (with_reducible first | exact HB.out | apply below_alloc | apply pw_below_drewN | apply below_drew1) | exact HB.out)) hb); clear HB; have HB := n0_; clear n0_; (try clear hb); (try clear hb2); (try clear hk); (try clear hi)) | ((with_reducible refine gate_callee (f := 36) rfl ?_); refine goesL_ (some 82) rfl rfl Try.func36 (by kernel_rfl) rfl #[.int .i64 1, .bool true, .int .u64 1, .int .u64 1] rfl (by (try simp only [List.map_toArray, List.map_cons, List.map_nil]); first | done | rfl | (simp only [List.length_drop, List.length_take]; rfl)) ?_; (with_reducible refine (arith_Do.calls 1 true 1 1 t237 t238 _ A40.out).mono ?_); rintro e w58 ⟨rfl, hb⟩; refine ⟨_, rfl, ?_⟩; have n0_ := Aside0.mk (below_step (by repeat (first | (with_reducible first | exact HB.out | apply below_alloc | apply pw_below_drewN | apply below_drew1) | exact HB.out)) hb); clear HB; have HB := n0_; clear n0_; (try clear hb); (try clear hb2); (try clear hk); (try clear hi)) | ((with_reducible refine gate_callee (f := 36) rfl ?_); refine goesL_ (some 86) rfl rfl Try.func36 (by kernel_rfl) rfl #[.int .i64 8, .bool false, .int .u64 1, .int .u64 1] rfl (by (try simp only [List.map_toArray, List.map_cons, List.map_nil]); first | done | rfl | (simp only [List.length_drop, List.length_take]; rfl)) ?_; (with_reducible refine (arith_Do.calls 8 false 1 1 t239 t240 _ A41.out).mono ?_); rintro e w59 ⟨rfl, hb⟩; refine ⟨_, rfl, ?_⟩; have n0_ := Aside0.mk (below_step (by repeat (first | (with_reducible first | exact HB.out | apply below_alloc | apply pw_below_drewN | apply below_drew1) | exact HB.out)) hb); clear HB; have HB := n0_; clear n0_; (try clear hb); (try clear hb2); (try clear hk); (try clear hi)) | ((with_reducible refine gate_callee (f := 36) rfl ?_); refine goesL_ (some 90) rfl rfl Try.func36 (by kernel_rfl) rfl #[.int .i64 (-1), .bool false, .int .u64 1, .int .u64 1] rfl (by (try simp only [List.map_toArray, List.map_cons, List.map_nil]); first | done | rfl | (simp only [List.length_drop, List.length_take]; rfl)) ?_; (with_reducible refine (arith_Do.calls (-1) false 1 1 t241 t242 _ A42.out).mono ?_); rintro e w60 ⟨rfl, hb⟩; refine ⟨_, rfl, ?_⟩; have n0_ := Aside0.mk (below_step (by repeat (first | (with_reducible first | exact HB.out | apply below_alloc | apply pw_below_drewN | apply below_drew1) | exact HB.out)) hb); clear HB; have HB := n0_; clear n0_; (try clear hb); (try clear hb2); (try clear hk); (try clear hi)) | (go_at_call 11; (with_reducible refine (mezzaninelaw02_awake.calls  true _ A43.out).mono ?_); rintro e w' ⟨rfl, ⟨nd, rfl⟩⟩))
                      go_ret
                      exact ⟨by first | rfl | (simp [errW_none, errW_some] <;> rfl) | (simp [*, errW_none, errW_some] <;> rfl), by repeat (first | (with_reducible first | exact HB.out | apply below_alloc | apply pw_below_drewN | apply below_drew1) | exact HB.out)⟩
                  · rw [if_neg c46] at H
                    have c46b0 : (t236 == 0) = false := beq_eq_false_iff_ne.mpr c46
                    have c46b1 : (t236 != 0) = true := bne_iff_ne.mpr c46
                    obtain rfl := Option.some.inj H
                    go_wp2_with (first | ((with_reducible refine gate_callee (f := 36) rfl ?_); refine goesL_ (some 78) rfl rfl Try.func36 (by kernel_rfl) rfl #[.int .i64 0, .bool false, .int .u64 18446744073709551615, .int .u64 3] rfl (by (try simp only [List.map_toArray, List.map_cons, List.map_nil]); first | done | rfl | (simp only [List.length_drop, List.length_take]; rfl)) ?_; (with_reducible refine (arith_Do.calls 0 false 18446744073709551615 3 t235 t236 _ A39.out).mono ?_); rintro e w61 ⟨rfl, hb⟩; refine ⟨_, rfl, ?_⟩; have n0_ := Aside0.mk (below_step (by repeat (first | (with_reducible first | exact HB.out | apply below_alloc | apply pw_below_drewN | apply below_drew1) | exact HB.out)) hb); clear HB; have HB := n0_; clear n0_; (try clear hb); (try clear hb2); (try clear hk); (try clear hi)) | ((with_reducible refine gate_callee (f := 36) rfl ?_); refine goesL_ (some 82) rfl rfl Try.func36 (by kernel_rfl) rfl #[.int .i64 1, .bool true, .int .u64 1, .int .u64 1] rfl (by (try simp only [List.map_toArray, List.map_cons, List.map_nil]); first | done | rfl | (simp only [List.length_drop, List.length_take]; rfl)) ?_; (with_reducible refine (arith_Do.calls 1 true 1 1 t237 t238 _ A40.out).mono ?_); rintro e w62 ⟨rfl, hb⟩; refine ⟨_, rfl, ?_⟩; have n0_ := Aside0.mk (below_step (by repeat (first | (with_reducible first | exact HB.out | apply below_alloc | apply pw_below_drewN | apply below_drew1) | exact HB.out)) hb); clear HB; have HB := n0_; clear n0_; (try clear hb); (try clear hb2); (try clear hk); (try clear hi)) | ((with_reducible refine gate_callee (f := 36) rfl ?_); refine goesL_ (some 86) rfl rfl Try.func36 (by kernel_rfl) rfl #[.int .i64 8, .bool false, .int .u64 1, .int .u64 1] rfl (by (try simp only [List.map_toArray, List.map_cons, List.map_nil]); first | done | rfl | (simp only [List.length_drop, List.length_take]; rfl)) ?_; (with_reducible refine (arith_Do.calls 8 false 1 1 t239 t240 _ A41.out).mono ?_); rintro e w63 ⟨rfl, hb⟩; refine ⟨_, rfl, ?_⟩; have n0_ := Aside0.mk (below_step (by repeat (first | (with_reducible first | exact HB.out | apply below_alloc | apply pw_below_drewN | apply below_drew1) | exact HB.out)) hb); clear HB; have HB := n0_; clear n0_; (try clear hb); (try clear hb2); (try clear hk); (try clear hi)) | ((with_reducible refine gate_callee (f := 36) rfl ?_); refine goesL_ (some 90) rfl rfl Try.func36 (by kernel_rfl) rfl #[.int .i64 (-1), .bool false, .int .u64 1, .int .u64 1] rfl (by (try simp only [List.map_toArray, List.map_cons, List.map_nil]); first | done | rfl | (simp only [List.length_drop, List.length_take]; rfl)) ?_; (with_reducible refine (arith_Do.calls (-1) false 1 1 t241 t242 _ A42.out).mono ?_); rintro e w64 ⟨rfl, hb⟩; refine ⟨_, rfl, ?_⟩; have n0_ := Aside0.mk (below_step (by repeat (first | (with_reducible first | exact HB.out | apply below_alloc | apply pw_below_drewN | apply below_drew1) | exact HB.out)) hb); clear HB; have HB := n0_; clear n0_; (try clear hb); (try clear hb2); (try clear hk); (try clear hi)) | (go_at_call 11; (with_reducible refine (mezzaninelaw02_awake.calls  true _ A43.out).mono ?_); rintro e w' ⟨rfl, ⟨nd, rfl⟩⟩))
                    go_ret
                    exact ⟨by first | rfl | (simp [errW_none, errW_some] <;> rfl) | (simp [*, errW_none, errW_some] <;> rfl), by repeat (first | (with_reducible first | exact HB.out | apply below_alloc | apply pw_below_drewN | apply below_drew1) | exact HB.out)⟩
                · rw [if_neg c45] at H
                  have c45b0 : (t235 == 18446744073709551613) = false := beq_eq_false_iff_ne.mpr c45
                  have c45b1 : (t235 != 18446744073709551613) = true := bne_iff_ne.mpr c45
                  obtain rfl := Option.some.inj H
                  go_wp2_with (first | ((with_reducible refine gate_callee (f := 36) rfl ?_); refine goesL_ (some 78) rfl rfl Try.func36 (by kernel_rfl) rfl #[.int .i64 0, .bool false, .int .u64 18446744073709551615, .int .u64 3] rfl (by (try simp only [List.map_toArray, List.map_cons, List.map_nil]); first | done | rfl | (simp only [List.length_drop, List.length_take]; rfl)) ?_; (with_reducible refine (arith_Do.calls 0 false 18446744073709551615 3 t235 t236 _ A39.out).mono ?_); rintro e w65 ⟨rfl, hb⟩; refine ⟨_, rfl, ?_⟩; have n0_ := Aside0.mk (below_step (by repeat (first | (with_reducible first | exact HB.out | apply below_alloc | apply pw_below_drewN | apply below_drew1) | exact HB.out)) hb); clear HB; have HB := n0_; clear n0_; (try clear hb); (try clear hb2); (try clear hk); (try clear hi)) | ((with_reducible refine gate_callee (f := 36) rfl ?_); refine goesL_ (some 82) rfl rfl Try.func36 (by kernel_rfl) rfl #[.int .i64 1, .bool true, .int .u64 1, .int .u64 1] rfl (by (try simp only [List.map_toArray, List.map_cons, List.map_nil]); first | done | rfl | (simp only [List.length_drop, List.length_take]; rfl)) ?_; (with_reducible refine (arith_Do.calls 1 true 1 1 t237 t238 _ A40.out).mono ?_); rintro e w66 ⟨rfl, hb⟩; refine ⟨_, rfl, ?_⟩; have n0_ := Aside0.mk (below_step (by repeat (first | (with_reducible first | exact HB.out | apply below_alloc | apply pw_below_drewN | apply below_drew1) | exact HB.out)) hb); clear HB; have HB := n0_; clear n0_; (try clear hb); (try clear hb2); (try clear hk); (try clear hi)) | ((with_reducible refine gate_callee (f := 36) rfl ?_); refine goesL_ (some 86) rfl rfl Try.func36 (by kernel_rfl) rfl #[.int .i64 8, .bool false, .int .u64 1, .int .u64 1] rfl (by (try simp only [List.map_toArray, List.map_cons, List.map_nil]); first | done | rfl | (simp only [List.length_drop, List.length_take]; rfl)) ?_; (with_reducible refine (arith_Do.calls 8 false 1 1 t239 t240 _ A41.out).mono ?_); rintro e w67 ⟨rfl, hb⟩; refine ⟨_, rfl, ?_⟩; have n0_ := Aside0.mk (below_step (by repeat (first | (with_reducible first | exact HB.out | apply below_alloc | apply pw_below_drewN | apply below_drew1) | exact HB.out)) hb); clear HB; have HB := n0_; clear n0_; (try clear hb); (try clear hb2); (try clear hk); (try clear hi)) | ((with_reducible refine gate_callee (f := 36) rfl ?_); refine goesL_ (some 90) rfl rfl Try.func36 (by kernel_rfl) rfl #[.int .i64 (-1), .bool false, .int .u64 1, .int .u64 1] rfl (by (try simp only [List.map_toArray, List.map_cons, List.map_nil]); first | done | rfl | (simp only [List.length_drop, List.length_take]; rfl)) ?_; (with_reducible refine (arith_Do.calls (-1) false 1 1 t241 t242 _ A42.out).mono ?_); rintro e w68 ⟨rfl, hb⟩; refine ⟨_, rfl, ?_⟩; have n0_ := Aside0.mk (below_step (by repeat (first | (with_reducible first | exact HB.out | apply below_alloc | apply pw_below_drewN | apply below_drew1) | exact HB.out)) hb); clear HB; have HB := n0_; clear n0_; (try clear hb); (try clear hb2); (try clear hk); (try clear hi)) | (go_at_call 11; (with_reducible refine (mezzaninelaw02_awake.calls  true _ A43.out).mono ?_); rintro e w' ⟨rfl, ⟨nd, rfl⟩⟩))
                  go_ret
                  exact ⟨by first | rfl | (simp [errW_none, errW_some] <;> rfl) | (simp [*, errW_none, errW_some] <;> rfl), by repeat (first | (with_reducible first | exact HB.out | apply below_alloc | apply pw_below_drewN | apply below_drew1) | exact HB.out)⟩
              · replace c44 := Bool.eq_false_iff.mpr c44
                subst c44
                have H1 : (some false) = some r := by rw [if_neg (show ¬ (false = true) by decide)] at H; exact H
                clear H
                have H := H1
                clear H1
                obtain rfl := Option.some.inj H
                go_wp2_with (first | ((with_reducible refine gate_callee (f := 36) rfl ?_); refine goesL_ (some 78) rfl rfl Try.func36 (by kernel_rfl) rfl #[.int .i64 0, .bool false, .int .u64 18446744073709551615, .int .u64 3] rfl (by (try simp only [List.map_toArray, List.map_cons, List.map_nil]); first | done | rfl | (simp only [List.length_drop, List.length_take]; rfl)) ?_; (with_reducible refine (arith_Do.calls 0 false 18446744073709551615 3 t235 t236 _ A39.out).mono ?_); rintro e w69 ⟨rfl, hb⟩; refine ⟨_, rfl, ?_⟩; have n0_ := Aside0.mk (below_step (by repeat (first | (with_reducible first | exact HB.out | apply below_alloc | apply pw_below_drewN | apply below_drew1) | exact HB.out)) hb); clear HB; have HB := n0_; clear n0_; (try clear hb); (try clear hb2); (try clear hk); (try clear hi)) | ((with_reducible refine gate_callee (f := 36) rfl ?_); refine goesL_ (some 82) rfl rfl Try.func36 (by kernel_rfl) rfl #[.int .i64 1, .bool true, .int .u64 1, .int .u64 1] rfl (by (try simp only [List.map_toArray, List.map_cons, List.map_nil]); first | done | rfl | (simp only [List.length_drop, List.length_take]; rfl)) ?_; (with_reducible refine (arith_Do.calls 1 true 1 1 t237 t238 _ A40.out).mono ?_); rintro e w70 ⟨rfl, hb⟩; refine ⟨_, rfl, ?_⟩; have n0_ := Aside0.mk (below_step (by repeat (first | (with_reducible first | exact HB.out | apply below_alloc | apply pw_below_drewN | apply below_drew1) | exact HB.out)) hb); clear HB; have HB := n0_; clear n0_; (try clear hb); (try clear hb2); (try clear hk); (try clear hi)) | ((with_reducible refine gate_callee (f := 36) rfl ?_); refine goesL_ (some 86) rfl rfl Try.func36 (by kernel_rfl) rfl #[.int .i64 8, .bool false, .int .u64 1, .int .u64 1] rfl (by (try simp only [List.map_toArray, List.map_cons, List.map_nil]); first | done | rfl | (simp only [List.length_drop, List.length_take]; rfl)) ?_; (with_reducible refine (arith_Do.calls 8 false 1 1 t239 t240 _ A41.out).mono ?_); rintro e w71 ⟨rfl, hb⟩; refine ⟨_, rfl, ?_⟩; have n0_ := Aside0.mk (below_step (by repeat (first | (with_reducible first | exact HB.out | apply below_alloc | apply pw_below_drewN | apply below_drew1) | exact HB.out)) hb); clear HB; have HB := n0_; clear n0_; (try clear hb); (try clear hb2); (try clear hk); (try clear hi)) | ((with_reducible refine gate_callee (f := 36) rfl ?_); refine goesL_ (some 90) rfl rfl Try.func36 (by kernel_rfl) rfl #[.int .i64 (-1), .bool false, .int .u64 1, .int .u64 1] rfl (by (try simp only [List.map_toArray, List.map_cons, List.map_nil]); first | done | rfl | (simp only [List.length_drop, List.length_take]; rfl)) ?_; (with_reducible refine (arith_Do.calls (-1) false 1 1 t241 t242 _ A42.out).mono ?_); rintro e w72 ⟨rfl, hb⟩; refine ⟨_, rfl, ?_⟩; have n0_ := Aside0.mk (below_step (by repeat (first | (with_reducible first | exact HB.out | apply below_alloc | apply pw_below_drewN | apply below_drew1) | exact HB.out)) hb); clear HB; have HB := n0_; clear n0_; (try clear hb); (try clear hb2); (try clear hk); (try clear hi)) | (go_at_call 11; (with_reducible refine (mezzaninelaw02_awake.calls  false _ A43.out).mono ?_); rintro e w' ⟨rfl, ⟨nd, rfl⟩⟩))
                go_ret
                exact ⟨by first | rfl | (simp [errW_none, errW_some] <;> rfl) | (simp [*, errW_none, errW_some] <;> rfl), by repeat (first | (with_reducible first | exact HB.out | apply below_alloc | apply pw_below_drewN | apply below_drew1) | exact HB.out)⟩

/-- THE ONE PURE STATEMENT of mezzaninelaw02_ArithKnown: yours. -/
def mezzaninelaw02_ArithKnown.Pure : Prop := ∃ k, mezzaninelaw02_ArithKnown.f k  = some true
theorem mezzaninelaw02_ArithKnown.walk (P : mezzaninelaw02_ArithKnown.Pure)  (w : World)  :
    Calls Try.prog 8 #[] w fun e w' => e = .returned (.bool true) ∧ Below w.heap.size w w' := by
  obtain ⟨k, h⟩ := P  
  refine (mezzaninelaw02_ArithKnown.calls k  true w h).mono ?_
  rintro e w' ⟨rfl, hd⟩
  exact ⟨rfl, hd⟩

end Go.Proofs.Ytdfldddcaeokpaa.Q
