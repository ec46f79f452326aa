/- Where the Lean function of a Go function gives a value, the Go call returns that value and changes nothing that was there: for every input. (By a program of this session, and by hand.) -/
import Derived.Test.YtdfldddcaeokpaaQx0
import Derived.Test.YtdfldddcaeokpaaQx1
import Derived.Test.YtdfldddcaeokpaaQx6
namespace Go.Proofs.Ytdfldddcaeokpaa.Q
open Go.RowKit Go.Proofs.YtdfldddcaeokpaaW.PrintWords Go.Proofs.YtdfldddcaeokpaaW.PrintLast Go.Proofs.YtdfldddcaeokpaaW.PrintMore
attribute [local go_sem] max2_int min2_int max_two min_two max_three min_three max_four min_four   -- for this text's walks alone
set_option linter.unusedVariables false
set_option linter.unusedSimpArgs false

/-! ### mezzaninelaw02_ArithHalves: function 6 -/
def mezzaninelaw02_ArithHalves.f (a0 : Int) (a1 : Int) : Option (Bool) := (mezzaninelaw02_awake.f).bind fun t197 => (if t197 = true then ((arith_Divw.f a0 a1).bind fun t198 => ((mezzanineref02_Divw.f a0 a1).bind fun t199 => (if t198 = t199 then ((arith_Divuw.f a0 a1).bind fun t200 => ((mezzanineref02_Divuw.f a0 a1).bind fun t201 => (if t200 = t201 then ((arith_Remw.f a0 a1).bind fun t202 => ((mezzanineref02_Remw.f a0 a1).bind fun t203 => (if t202 = t203 then ((arith_Remuw.f a0 a1).bind fun t204 => ((mezzanineref02_Remuw.f a0 a1).bind fun t205 => (some (t204 == t205)))) else (some false)))) else (some false)))) else (some false)))) else (some false))
set_option maxHeartbeats 8000000 in
set_option maxRecDepth 100000 in
theorem mezzaninelaw02_ArithHalves.calls (a0 : Int) (a1 : Int) (r : Bool) (w : World) (h : mezzaninelaw02_ArithHalves.f a0 a1 = some r) :
    Calls Try.prog 6 #[.int .u64 a0, .int .u64 a1] w fun e w' => e = .returned (.bool r) ∧ Below w.heap.size w w' := by
  have HB := Aside0.mk (Below.refl w.heap.size w)
  have H : ((mezzaninelaw02_awake.f).bind fun t197 => (if t197 = true then ((arith_Divw.f a0 a1).bind fun t198 => ((mezzanineref02_Divw.f a0 a1).bind fun t199 => (if t198 = t199 then ((arith_Divuw.f a0 a1).bind fun t200 => ((mezzanineref02_Divuw.f a0 a1).bind fun t201 => (if t200 = t201 then ((arith_Remw.f a0 a1).bind fun t202 => ((mezzanineref02_Remw.f a0 a1).bind fun t203 => (if t202 = t203 then ((arith_Remuw.f a0 a1).bind fun t204 => ((mezzanineref02_Remuw.f a0 a1).bind fun t205 => (some (t204 == t205)))) else (some false)))) else (some false)))) else (some false)))) else (some false))) = some r := h
  clear h
  replace H := Option.bind_eq_some_iff.mp H
  obtain ⟨t197, A30, H⟩ := H
  replace H : (if t197 = true then ((arith_Divw.f a0 a1).bind fun t198 => ((mezzanineref02_Divw.f a0 a1).bind fun t199 => (if t198 = t199 then ((arith_Divuw.f a0 a1).bind fun t200 => ((mezzanineref02_Divuw.f a0 a1).bind fun t201 => (if t200 = t201 then ((arith_Remw.f a0 a1).bind fun t202 => ((mezzanineref02_Remw.f a0 a1).bind fun t203 => (if t202 = t203 then ((arith_Remuw.f a0 a1).bind fun t204 => ((mezzanineref02_Remuw.f a0 a1).bind fun t205 => (some (t204 == t205)))) else (some false)))) else (some false)))) else (some false)))) else (some false)) = some r := H
  have A3 := Aside0.mk A30
  clear A30
  by_cases c4 : t197 = true
  · subst c4
    have H1 : ((arith_Divw.f a0 a1).bind fun t198 => ((mezzanineref02_Divw.f a0 a1).bind fun t199 => (if t198 = t199 then ((arith_Divuw.f a0 a1).bind fun t200 => ((mezzanineref02_Divuw.f a0 a1).bind fun t201 => (if t200 = t201 then ((arith_Remw.f a0 a1).bind fun t202 => ((mezzanineref02_Remw.f a0 a1).bind fun t203 => (if t202 = t203 then ((arith_Remuw.f a0 a1).bind fun t204 => ((mezzanineref02_Remuw.f a0 a1).bind fun t205 => (some (t204 == t205)))) else (some false)))) else (some false)))) else (some false)))) = some r := by rw [if_pos rfl] at H; exact H
    clear H
    have H := H1
    clear H1
    replace H := Option.bind_eq_some_iff.mp H
    obtain ⟨t198, A50, H⟩ := H
    replace H : ((mezzanineref02_Divw.f a0 a1).bind fun t199 => (if t198 = t199 then ((arith_Divuw.f a0 a1).bind fun t200 => ((mezzanineref02_Divuw.f a0 a1).bind fun t201 => (if t200 = t201 then ((arith_Remw.f a0 a1).bind fun t202 => ((mezzanineref02_Remw.f a0 a1).bind fun t203 => (if t202 = t203 then ((arith_Remuw.f a0 a1).bind fun t204 => ((mezzanineref02_Remuw.f a0 a1).bind fun t205 => (some (t204 == t205)))) else (some false)))) else (some false)))) else (some false))) = some r := H
    have A5 := Aside0.mk A50
    clear A50
    replace H := Option.bind_eq_some_iff.mp H
    obtain ⟨t199, A60, H⟩ := H
    replace H : (if t198 = t199 then ((arith_Divuw.f a0 a1).bind fun t200 => ((mezzanineref02_Divuw.f a0 a1).bind fun t201 => (if t200 = t201 then ((arith_Remw.f a0 a1).bind fun t202 => ((mezzanineref02_Remw.f a0 a1).bind fun t203 => (if t202 = t203 then ((arith_Remuw.f a0 a1).bind fun t204 => ((mezzanineref02_Remuw.f a0 a1).bind fun t205 => (some (t204 == t205)))) else (some false)))) else (some false)))) else (some false)) = some r := H
    have A6 := Aside0.mk A60
    clear A60
    by_cases c7 : t198 = t199
    · rw [if_pos c7] at H
      have c7b0 : (t198 == t199) = true := beq_iff_eq.mpr c7
      have c7b1 : (t198 != t199) = false := bne_eq_false_iff_eq.mpr c7
      clear c7
      replace H := Option.bind_eq_some_iff.mp H
      obtain ⟨t200, A80, H⟩ := H
      replace H : ((mezzanineref02_Divuw.f a0 a1).bind fun t201 => (if t200 = t201 then ((arith_Remw.f a0 a1).bind fun t202 => ((mezzanineref02_Remw.f a0 a1).bind fun t203 => (if t202 = t203 then ((arith_Remuw.f a0 a1).bind fun t204 => ((mezzanineref02_Remuw.f a0 a1).bind fun t205 => (some (t204 == t205)))) else (some false)))) else (some false))) = some r := H
      have A8 := Aside0.mk A80
      clear A80
      replace H := Option.bind_eq_some_iff.mp H
      obtain ⟨t201, A90, H⟩ := H
      replace H : (if t200 = t201 then ((arith_Remw.f a0 a1).bind fun t202 => ((mezzanineref02_Remw.f a0 a1).bind fun t203 => (if t202 = t203 then ((arith_Remuw.f a0 a1).bind fun t204 => ((mezzanineref02_Remuw.f a0 a1).bind fun t205 => (some (t204 == t205)))) else (some false)))) else (some false)) = some r := H
      have A9 := Aside0.mk A90
      clear A90
      by_cases c10 : t200 = t201
      · rw [if_pos c10] at H
        have c10b0 : (t200 == t201) = true := beq_iff_eq.mpr c10
        have c10b1 : (t200 != t201) = false := bne_eq_false_iff_eq.mpr c10
        clear c10
        replace H := Option.bind_eq_some_iff.mp H
        obtain ⟨t202, A110, H⟩ := H
        replace H : ((mezzanineref02_Remw.f a0 a1).bind fun t203 => (if t202 = t203 then ((arith_Remuw.f a0 a1).bind fun t204 => ((mezzanineref02_Remuw.f a0 a1).bind fun t205 => (some (t204 == t205)))) else (some false))) = some r := H
        have A11 := Aside0.mk A110
        clear A110
        replace H := Option.bind_eq_some_iff.mp H
        obtain ⟨t203, A120, H⟩ := H
        replace H : (if t202 = t203 then ((arith_Remuw.f a0 a1).bind fun t204 => ((mezzanineref02_Remuw.f a0 a1).bind fun t205 => (some (t204 == t205)))) else (some false)) = some r := H
        have A12 := Aside0.mk A120
        clear A120
        by_cases c13 : t202 = t203
        · rw [if_pos c13] at H
          have c13b0 : (t202 == t203) = true := beq_iff_eq.mpr c13
          have c13b1 : (t202 != t203) = false := bne_eq_false_iff_eq.mpr c13
          clear c13
          replace H := Option.bind_eq_some_iff.mp H
          obtain ⟨t204, A140, H⟩ := H
          replace H : ((mezzanineref02_Remuw.f a0 a1).bind fun t205 => (some (t204 == t205))) = some r := H
          have A14 := Aside0.mk A140
          clear A140
          replace H := Option.bind_eq_some_iff.mp H
          obtain ⟨t205, A150, H⟩ := H
          replace H : (some (t204 == t205)) = some r := H
          have A15 := Aside0.mk A150
          clear A150
          obtain rfl := Option.some.inj H
          go_enter Try.func6, Try.ntmps6
          go_wp2_with (first | ((with_reducible refine gate_callee (f := 11) rfl ?_); refine goesL_ (some 5) rfl rfl Try.func11 (by kernel_rfl) rfl #[] rfl (by (try simp only [List.map_toArray, List.map_cons, List.map_nil]); first | done | rfl | (simp only [List.length_drop, List.length_take]; rfl)) ?_; (with_reducible refine (mezzaninelaw02_awake.calls  true _ A3.out).mono ?_); rintro e w' ⟨rfl, ⟨nd, rfl⟩⟩; refine ⟨_, rfl, ?_⟩) | (go_at_call 28; (with_reducible refine (arith_Divw.calls a0 a1 t198 _ A5.out).mono ?_); rintro e w' ⟨rfl, ⟨nd, rfl⟩⟩) | (go_at_call 29; (with_reducible refine (mezzanineref02_Divw.calls a0 a1 t199 _ A6.out).mono ?_); rintro e w16 ⟨rfl, hb⟩; have n0_ := Aside0.mk (below_step (by repeat (first | (with_reducible first | exact HB.out | apply below_alloc | apply pw_below_drewN | apply below_drew1) | exact HB.out)) hb); clear HB; have HB := n0_; clear n0_; (try clear hb); (try clear hb2); (try clear hk); (try clear hi)) | (go_at_call 30; (with_reducible refine (arith_Divuw.calls a0 a1 t200 _ A8.out).mono ?_); rintro e w' ⟨rfl, ⟨nd, rfl⟩⟩) | (go_at_call 31; (with_reducible refine (mezzanineref02_Divuw.calls a0 a1 t201 _ A9.out).mono ?_); rintro e w17 ⟨rfl, hb⟩; have n0_ := Aside0.mk (below_step (by repeat (first | (with_reducible first | exact HB.out | apply below_alloc | apply pw_below_drewN | apply below_drew1) | exact HB.out)) hb); clear HB; have HB := n0_; clear n0_; (try clear hb); (try clear hb2); (try clear hk); (try clear hi)) | (go_at_call 32; (with_reducible refine (arith_Remw.calls a0 a1 t202 _ A11.out).mono ?_); rintro e w' ⟨rfl, ⟨nd, rfl⟩⟩) | (go_at_call 33; (with_reducible refine (mezzanineref02_Remw.calls a0 a1 t203 _ A12.out).mono ?_); rintro e w18 ⟨rfl, hb⟩; have n0_ := Aside0.mk (below_step (by repeat (first | (with_reducible first | exact HB.out | apply below_alloc | apply pw_below_drewN | apply below_drew1) | exact HB.out)) hb); clear HB; have HB := n0_; clear n0_; (try clear hb); (try clear hb2); (try clear hk); (try clear hi)) | (go_at_call 34; (with_reducible refine (arith_Remuw.calls a0 a1 t204 _ A14.out).mono ?_); rintro e w' ⟨rfl, ⟨nd, rfl⟩⟩) | (go_at_call 35; (with_reducible refine (mezzanineref02_Remuw.calls a0 a1 t205 _ A15.out).mono ?_); rintro e w19 ⟨rfl, hb⟩; have n0_ := Aside0.mk (below_step (by repeat (first | (with_reducible first | exact HB.out | apply below_alloc | apply pw_below_drewN | apply below_drew1) | exact HB.out)) hb); clear HB; have HB := n0_; clear n0_; (try clear hb); (try clear hb2); (try clear hk); (try clear hi)))
          go_ret
          exact ⟨by first | rfl | (simp [errW_none, errW_some] <;> rfl) | (simp [*, errW_none, errW_some] <;> rfl), by repeat (first | (with_reducible first | exact HB.out | apply below_alloc | apply pw_below_drewN | apply below_drew1) | exact HB.out)⟩
        · rw [if_neg c13] at H
          have c13b0 : (t202 == t203) = false := beq_eq_false_iff_ne.mpr c13
          have c13b1 : (t202 != t203) = true := bne_iff_ne.mpr c13
          obtain rfl := Option.some.inj H
          go_enter Try.func6, Try.ntmps6
          go_wp2_with (first | ((with_reducible refine gate_callee (f := 11) rfl ?_); refine goesL_ (some 5) rfl rfl Try.func11 (by kernel_rfl) rfl #[] rfl (by (try simp only [List.map_toArray, List.map_cons, List.map_nil]); first | done | rfl | (simp only [List.length_drop, List.length_take]; rfl)) ?_; (with_reducible refine (mezzaninelaw02_awake.calls  true _ A3.out).mono ?_); rintro e w' ⟨rfl, ⟨nd, rfl⟩⟩; refine ⟨_, rfl, ?_⟩) | (go_at_call 28; (with_reducible refine (arith_Divw.calls a0 a1 t198 _ A5.out).mono ?_); rintro e w' ⟨rfl, ⟨nd, rfl⟩⟩) | (go_at_call 29; (with_reducible refine (mezzanineref02_Divw.calls a0 a1 t199 _ A6.out).mono ?_); rintro e w20 ⟨rfl, hb⟩; have n0_ := Aside0.mk (below_step (by repeat (first | (with_reducible first | exact HB.out | apply below_alloc | apply pw_below_drewN | apply below_drew1) | exact HB.out)) hb); clear HB; have HB := n0_; clear n0_; (try clear hb); (try clear hb2); (try clear hk); (try clear hi)) | (go_at_call 30; (with_reducible refine (arith_Divuw.calls a0 a1 t200 _ A8.out).mono ?_); rintro e w' ⟨rfl, ⟨nd, rfl⟩⟩) | (go_at_call 31; (with_reducible refine (mezzanineref02_Divuw.calls a0 a1 t201 _ A9.out).mono ?_); rintro e w21 ⟨rfl, hb⟩; have n0_ := Aside0.mk (below_step (by repeat (first | (with_reducible first | exact HB.out | apply below_alloc | apply pw_below_drewN | apply below_drew1) | exact HB.out)) hb); clear HB; have HB := n0_; clear n0_; (try clear hb); (try clear hb2); (try clear hk); (try clear hi)) | (go_at_call 32; (with_reducible refine (arith_Remw.calls a0 a1 t202 _ A11.out).mono ?_); rintro e w' ⟨rfl, ⟨nd, rfl⟩⟩) | (go_at_call 33; (with_reducible refine (mezzanineref02_Remw.calls a0 a1 t203 _ A12.out).mono ?_); rintro e w22 ⟨rfl, hb⟩; have n0_ := Aside0.mk (below_step (by repeat (first | (with_reducible first | exact HB.out | apply below_alloc | apply pw_below_drewN | apply below_drew1) | exact HB.out)) hb); clear HB; have HB := n0_; clear n0_; (try clear hb); (try clear hb2); (try clear hk); (try clear hi)))
          go_ret
          exact ⟨by first | rfl | (simp [errW_none, errW_some] <;> rfl) | (simp [*, errW_none, errW_some] <;> rfl), by repeat (first | (with_reducible first | exact HB.out | apply below_alloc | apply pw_below_drewN | apply below_drew1) | exact HB.out)⟩
      · rw [if_neg c10] at H
        have c10b0 : (t200 == t201) = false := beq_eq_false_iff_ne.mpr c10
        have c10b1 : (t200 != t201) = true := bne_iff_ne.mpr c10
        obtain rfl := Option.some.inj H
        go_enter Try.func6, Try.ntmps6
        go_wp2_with (first | ((with_reducible refine gate_callee (f := 11) rfl ?_); refine goesL_ (some 5) rfl rfl Try.func11 (by kernel_rfl) rfl #[] rfl (by (try simp only [List.map_toArray, List.map_cons, List.map_nil]); first | done | rfl | (simp only [List.length_drop, List.length_take]; rfl)) ?_; (with_reducible refine (mezzaninelaw02_awake.calls  true _ A3.out).mono ?_); rintro e w' ⟨rfl, ⟨nd, rfl⟩⟩; refine ⟨_, rfl, ?_⟩) | (go_at_call 28; (with_reducible refine (arith_Divw.calls a0 a1 t198 _ A5.out).mono ?_); rintro e w' ⟨rfl, ⟨nd, rfl⟩⟩) | (go_at_call 29; (with_reducible refine (mezzanineref02_Divw.calls a0 a1 t199 _ A6.out).mono ?_); rintro e w23 ⟨rfl, hb⟩; have n0_ := Aside0.mk (below_step (by repeat (first | (with_reducible first | exact HB.out | apply below_alloc | apply pw_below_drewN | apply below_drew1) | exact HB.out)) hb); clear HB; have HB := n0_; clear n0_; (try clear hb); (try clear hb2); (try clear hk); (try clear hi)) | (go_at_call 30; (with_reducible refine (arith_Divuw.calls a0 a1 t200 _ A8.out).mono ?_); rintro e w' ⟨rfl, ⟨nd, rfl⟩⟩) | (go_at_call 31; (with_reducible refine (mezzanineref02_Divuw.calls a0 a1 t201 _ A9.out).mono ?_); rintro e w24 ⟨rfl, hb⟩; have n0_ := Aside0.mk (below_step (by repeat (first | (with_reducible first | exact HB.out | apply below_alloc | apply pw_below_drewN | apply below_drew1) | exact HB.out)) hb); clear HB; have HB := n0_; clear n0_; (try clear hb); (try clear hb2); (try clear hk); (try clear hi)))
        go_ret
        exact ⟨by first | rfl | (simp [errW_none, errW_some] <;> rfl) | (simp [*, errW_none, errW_some] <;> rfl), by repeat (first | (with_reducible first | exact HB.out | apply below_alloc | apply pw_below_drewN | apply below_drew1) | exact HB.out)⟩
    · rw [if_neg c7] at H
      have c7b0 : (t198 == t199) = false := beq_eq_false_iff_ne.mpr c7
      have c7b1 : (t198 != t199) = true := bne_iff_ne.mpr c7
      obtain rfl := Option.some.inj H
      go_enter Try.func6, Try.ntmps6
      go_wp2_with (first | ((with_reducible refine gate_callee (f := 11) rfl ?_); refine goesL_ (some 5) rfl rfl Try.func11 (by kernel_rfl) rfl #[] rfl (by (try simp only [List.map_toArray, List.map_cons, List.map_nil]); first | done | rfl | (simp only [List.length_drop, List.length_take]; rfl)) ?_; (with_reducible refine (mezzaninelaw02_awake.calls  true _ A3.out).mono ?_); rintro e w' ⟨rfl, ⟨nd, rfl⟩⟩; refine ⟨_, rfl, ?_⟩) | (go_at_call 28; (with_reducible refine (arith_Divw.calls a0 a1 t198 _ A5.out).mono ?_); rintro e w' ⟨rfl, ⟨nd, rfl⟩⟩) | (go_at_call 29; (with_reducible refine (mezzanineref02_Divw.calls a0 a1 t199 _ A6.out).mono ?_); rintro e w25 ⟨rfl, hb⟩; have n0_ := Aside0.mk (below_step (by repeat (first | (with_reducible first | exact HB.out | apply below_alloc | apply pw_below_drewN | apply below_drew1) | exact HB.out)) hb); clear HB; have HB := n0_; clear n0_; (try clear hb); (try clear hb2); (try clear hk); (try clear hi)))
      go_ret
      exact ⟨by first | rfl | (simp [errW_none, errW_some] <;> rfl) | (simp [*, errW_none, errW_some] <;> rfl), by repeat (first | (with_reducible first | exact HB.out | apply below_alloc | apply pw_below_drewN | apply below_drew1) | exact HB.out)⟩
  · replace c4 := Bool.eq_false_iff.mpr c4
    subst c4
    have H1 : (some false) = some r := by rw [if_neg (show ¬ (false = true) by decide)] at H; exact H
    clear H
    have H := H1
    clear H1
    obtain rfl := Option.some.inj H
    go_enter Try.func6, Try.ntmps6
    go_wp2_with (first | ((with_reducible refine gate_callee (f := 11) rfl ?_); refine goesL_ (some 5) rfl rfl Try.func11 (by kernel_rfl) rfl #[] rfl (by (try simp only [List.map_toArray, List.map_cons, List.map_nil]); first | done | rfl | (simp only [List.length_drop, List.length_take]; rfl)) ?_; (with_reducible refine (mezzaninelaw02_awake.calls  false _ A3.out).mono ?_); rintro e w' ⟨rfl, ⟨nd, rfl⟩⟩; refine ⟨_, rfl, ?_⟩))
    go_ret
    exact ⟨by first | rfl | (simp [errW_none, errW_some] <;> rfl) | (simp [*, errW_none, errW_some] <;> rfl), by repeat (first | (with_reducible first | exact HB.out | apply below_alloc | apply pw_below_drewN | apply below_drew1) | exact HB.out)⟩

/-- THE ONE PURE STATEMENT of mezzaninelaw02_ArithHalves: yours. -/
def mezzaninelaw02_ArithHalves.Pure : Prop := ∀ (a0 : Int) (a1 : Int), (Lit.int .u64 a0).wf = true → (Lit.int .u64 a1).wf = true → mezzaninelaw02_ArithHalves.f a0 a1 = some true
theorem mezzaninelaw02_ArithHalves.walk (P : mezzaninelaw02_ArithHalves.Pure) (a0 : Int) (a1 : Int) (w : World) (w0 : (Lit.int .u64 a0).wf = true) (w1 : (Lit.int .u64 a1).wf = true) :
    Calls Try.prog 6 #[.int .u64 a0, .int .u64 a1] w fun e w' => e = .returned (.bool true) ∧ Below w.heap.size w w' := by
  have h := P a0 a1 w0 w1
  refine (mezzaninelaw02_ArithHalves.calls a0 a1 true w h).mono ?_
  rintro e w' ⟨rfl, hd⟩
  exact ⟨rfl, hd⟩

end Go.Proofs.Ytdfldddcaeokpaa.Q
