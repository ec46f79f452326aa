/- Where the Lean function of a Go function gives a value, the Go call returns that value and changes nothing that was there: for every input. (By a program of this session, and by hand.) -/
import Derived.Test.YtdfldddcaeokpaaQx0
import Derived.Test.YtdfldddcaeokpaaQx1
import Derived.Test.YtdfldddcaeokpaaQx4
import Derived.Test.YtdfldddcaeokpaaQx5
namespace Go.Proofs.Ytdfldddcaeokpaa.Q
open Go.RowKit Go.Proofs.YtdfldddcaeokpaaW.PrintWords Go.Proofs.YtdfldddcaeokpaaW.PrintLast Go.Proofs.YtdfldddcaeokpaaW.PrintMore
attribute [local go_sem] max2_int min2_int max_two min_two max_three min_three max_four min_four   -- for this text's walks alone
set_option linter.unusedVariables false
set_option linter.unusedSimpArgs false

/-! ### mezzanineref02_Divuw: function 31 -/
def mezzanineref02_Divuw.f (a0 : Int) (a1 : Int) : Option (Int) := (mezzanineref02_low.f a1).bind fun t178 => (if t178 = 0 then (some 18446744073709551615) else ((mezzanineref02_low.f a0).bind fun t179 => ((mezzanineref02_low.f a1).bind fun t180 => (if t180 = 0 then (none) else ((mezzanineref02_drawn.f (IntKind.u64.wrap (Int.tdiv t179 t180))).bind fun t181 => (some t181))))))
set_option maxHeartbeats 8000000 in
set_option maxRecDepth 100000 in
theorem mezzanineref02_Divuw.calls (a0 : Int) (a1 : Int) (r : Int) (w : World) (h : mezzanineref02_Divuw.f a0 a1 = some r) :
    Calls Try.prog 31 #[.int .u64 a0, .int .u64 a1] w fun e w' => e = .returned (.int .u64 r) ∧ Below w.heap.size w w' := by
  have HB := Aside0.mk (Below.refl w.heap.size w)
  have H : ((mezzanineref02_low.f a1).bind fun t178 => (if t178 = 0 then (some 18446744073709551615) else ((mezzanineref02_low.f a0).bind fun t179 => ((mezzanineref02_low.f a1).bind fun t180 => (if t180 = 0 then (none) else ((mezzanineref02_drawn.f (IntKind.u64.wrap (Int.tdiv t179 t180))).bind fun t181 => (some t181))))))) = some r := h
  clear h
  replace H := Option.bind_eq_some_iff.mp H
  obtain ⟨t178, A30, H⟩ := H
  replace H : (if t178 = 0 then (some 18446744073709551615) else ((mezzanineref02_low.f a0).bind fun t179 => ((mezzanineref02_low.f a1).bind fun t180 => (if t180 = 0 then (none) else ((mezzanineref02_drawn.f (IntKind.u64.wrap (Int.tdiv t179 t180))).bind fun t181 => (some t181)))))) = some r := H
  have A3 := Aside0.mk A30
  clear A30
  by_cases c4 : t178 = 0
  · rw [if_pos c4] at H
    have c4b0 : (t178 == 0) = true := beq_iff_eq.mpr c4
    have c4b1 : (t178 != 0) = false := bne_eq_false_iff_eq.mpr c4
    clear c4
    obtain rfl := Option.some.inj H
    go_enter Try.func31, Try.ntmps31
    go_wp2_with (first | ((with_reducible refine gate_callee (f := 43) rfl ?_); refine goesL_ (some 6) rfl rfl Try.func43 (by kernel_rfl) rfl #[.int .u64 a1] rfl (by (try simp only [List.map_toArray, List.map_cons, List.map_nil]); first | done | rfl | (simp only [List.length_drop, List.length_take]; rfl)) ?_; (with_reducible refine (mezzanineref02_low.calls a1 t178 _ A3.out).mono ?_); rintro e w' ⟨rfl, ⟨nd, rfl⟩⟩; refine ⟨_, rfl, ?_⟩))
    go_ret
    exact ⟨by first | rfl | (simp [errW_none, errW_some] <;> rfl) | (simp [*, errW_none, errW_some] <;> rfl), by repeat (first | (with_reducible first | exact HB.out | apply below_alloc | apply pw_below_drewN | apply below_drew1) | exact HB.out)⟩
  · rw [if_neg c4] at H
    have c4b0 : (t178 == 0) = false := beq_eq_false_iff_ne.mpr c4
    have c4b1 : (t178 != 0) = true := bne_iff_ne.mpr c4
    replace H := Option.bind_eq_some_iff.mp H
    obtain ⟨t179, A50, H⟩ := H
    replace H : ((mezzanineref02_low.f a1).bind fun t180 => (if t180 = 0 then (none) else ((mezzanineref02_drawn.f (IntKind.u64.wrap (Int.tdiv t179 t180))).bind fun t181 => (some t181)))) = some r := H
    have A5 := Aside0.mk A50
    clear A50
    replace H := Option.bind_eq_some_iff.mp H
    obtain ⟨t180, A60, H⟩ := H
    replace H : (if t180 = 0 then (none) else ((mezzanineref02_drawn.f (IntKind.u64.wrap (Int.tdiv t179 t180))).bind fun t181 => (some t181))) = some r := H
    have A6 := Aside0.mk A60
    clear A60
    by_cases c7 : t180 = 0
    · rw [if_pos c7] at H
      exact absurd H (by simp)
    · rw [if_neg c7] at H
      have c7b0 : (t180 == 0) = false := beq_eq_false_iff_ne.mpr c7
      have c7b1 : (t180 != 0) = true := bne_iff_ne.mpr c7
      replace H := Option.bind_eq_some_iff.mp H
      obtain ⟨t181, A80, H⟩ := H
      replace H : (some t181) = some r := H
      have A8 := Aside0.mk A80
      clear A80
      obtain rfl := Option.some.inj H
      go_enter Try.func31, Try.ntmps31
      go_wp2_with (first | ((with_reducible refine gate_callee (f := 43) rfl ?_); refine goesL_ (some 6) rfl rfl Try.func43 (by kernel_rfl) rfl #[.int .u64 a1] rfl (by (try simp only [List.map_toArray, List.map_cons, List.map_nil]); first | done | rfl | (simp only [List.length_drop, List.length_take]; rfl)) ?_; (with_reducible refine (mezzanineref02_low.calls a1 t178 _ A3.out).mono ?_); rintro e w' ⟨rfl, ⟨nd, rfl⟩⟩; refine ⟨_, rfl, ?_⟩) | ((with_reducible refine gate_callee (f := 43) rfl ?_); refine goesL_ (some 9) rfl rfl Try.func43 (by kernel_rfl) rfl #[.int .u64 a0] rfl (by (try simp only [List.map_toArray, List.map_cons, List.map_nil]); first | done | rfl | (simp only [List.length_drop, List.length_take]; rfl)) ?_; (with_reducible refine (mezzanineref02_low.calls a0 t179 _ A5.out).mono ?_); rintro e w' ⟨rfl, ⟨nd, rfl⟩⟩; refine ⟨_, rfl, ?_⟩) | ((with_reducible refine gate_callee (f := 43) rfl ?_); refine goesL_ (some 11) rfl rfl Try.func43 (by kernel_rfl) rfl #[.int .u64 a1] rfl (by (try simp only [List.map_toArray, List.map_cons, List.map_nil]); first | done | rfl | (simp only [List.length_drop, List.length_take]; rfl)) ?_; (with_reducible refine (mezzanineref02_low.calls a1 t180 _ A6.out).mono ?_); rintro e w' ⟨rfl, ⟨nd, rfl⟩⟩; refine ⟨_, rfl, ?_⟩) | ((with_reducible refine gate_callee (f := 41) rfl ?_); refine goesL_ (some 13) rfl rfl Try.func41 (by kernel_rfl) rfl #[.int .u64 (IntKind.u64.wrap (Int.tdiv t179 t180))] rfl (by (try simp only [List.map_toArray, List.map_cons, List.map_nil]); first | done | rfl | (simp only [List.length_drop, List.length_take]; rfl)) ?_; (with_reducible refine (mezzanineref02_drawn.calls (IntKind.u64.wrap (Int.tdiv t179 t180)) t181 _ A8.out).mono ?_); rintro e w9 ⟨rfl, hb⟩; refine ⟨_, rfl, ?_⟩; have n0_ := Aside0.mk (below_step (by repeat (first | (with_reducible first | exact HB.out | apply below_alloc | apply pw_below_drewN | apply below_drew1) | exact HB.out)) hb); clear HB; have HB := n0_; clear n0_; (try clear hb); (try clear hb2); (try clear hk); (try clear hi)))
      go_ret
      exact ⟨by first | rfl | (simp [errW_none, errW_some] <;> rfl) | (simp [*, errW_none, errW_some] <;> rfl), by repeat (first | (with_reducible first | exact HB.out | apply below_alloc | apply pw_below_drewN | apply below_drew1) | exact HB.out)⟩

/-! ### arith_Remw: function 32 -/
def arith_Remw.f (a0 : Int) (a1 : Int) : Option (Int) := (arith_half.f a0).bind fun t182 => ((arith_half.f a1).bind fun t183 => ((arith_Rem.f t182 t183).bind fun t184 => ((arith_half.f t184).bind fun t185 => (some t185))))
set_option maxHeartbeats 8000000 in
set_option maxRecDepth 100000 in
theorem arith_Remw.calls (a0 : Int) (a1 : Int) (r : Int) (w : World) (h : arith_Remw.f a0 a1 = some r) :
    Calls Try.prog 32 #[.int .u64 a0, .int .u64 a1] w fun e w' => e = .returned (.int .u64 r) ∧ Drawn0 w w' := by
  have H : ((arith_half.f a0).bind fun t182 => ((arith_half.f a1).bind fun t183 => ((arith_Rem.f t182 t183).bind fun t184 => ((arith_half.f t184).bind fun t185 => (some t185))))) = some r := h
  clear h
  replace H := Option.bind_eq_some_iff.mp H
  obtain ⟨t182, A30, H⟩ := H
  replace H : ((arith_half.f a1).bind fun t183 => ((arith_Rem.f t182 t183).bind fun t184 => ((arith_half.f t184).bind fun t185 => (some t185)))) = some r := H
  have A3 := Aside0.mk A30
  clear A30
  replace H := Option.bind_eq_some_iff.mp H
  obtain ⟨t183, A40, H⟩ := H
  replace H : ((arith_Rem.f t182 t183).bind fun t184 => ((arith_half.f t184).bind fun t185 => (some t185))) = some r := H
  have A4 := Aside0.mk A40
  clear A40
  replace H := Option.bind_eq_some_iff.mp H
  obtain ⟨t184, A50, H⟩ := H
  replace H : ((arith_half.f t184).bind fun t185 => (some t185)) = some r := H
  have A5 := Aside0.mk A50
  clear A50
  replace H := Option.bind_eq_some_iff.mp H
  obtain ⟨t185, A60, H⟩ := H
  replace H : (some t185) = some r := H
  have A6 := Aside0.mk A60
  clear A60
  obtain rfl := Option.some.inj H
  go_enter Try.func32, Try.ntmps32
  go_wp2_with (first | ((with_reducible refine gate_callee (f := 40) rfl ?_); refine goesL_ (some 6) rfl rfl Try.func40 (by kernel_rfl) rfl #[.int .u64 a0] rfl (by (try simp only [List.map_toArray, List.map_cons, List.map_nil]); first | done | rfl | (simp only [List.length_drop, List.length_take]; rfl)) ?_; (with_reducible refine (arith_half.calls a0 t182 _ A3.out).mono ?_); rintro e w' ⟨rfl, ⟨nd, rfl⟩⟩; refine ⟨_, rfl, ?_⟩) | ((with_reducible refine gate_callee (f := 40) rfl ?_); refine goesL_ (some 8) rfl rfl Try.func40 (by kernel_rfl) rfl #[.int .u64 a1] rfl (by (try simp only [List.map_toArray, List.map_cons, List.map_nil]); first | done | rfl | (simp only [List.length_drop, List.length_take]; rfl)) ?_; (with_reducible refine (arith_half.calls a1 t183 _ A4.out).mono ?_); rintro e w' ⟨rfl, ⟨nd, rfl⟩⟩; refine ⟨_, rfl, ?_⟩) | ((with_reducible refine gate_callee (f := 24) rfl ?_); refine goesL_ (some 9) rfl rfl Try.func24 (by kernel_rfl) rfl #[.int .u64 t182, .int .u64 t183] rfl (by (try simp only [List.map_toArray, List.map_cons, List.map_nil]); first | done | rfl | (simp only [List.length_drop, List.length_take]; rfl)) ?_; (with_reducible refine (arith_Rem.calls t182 t183 t184 _ A5.out).mono ?_); rintro e w' ⟨rfl, ⟨nd, rfl⟩⟩; refine ⟨_, rfl, ?_⟩) | ((with_reducible refine gate_callee (f := 40) rfl ?_); refine goesL_ (some 10) rfl rfl Try.func40 (by kernel_rfl) rfl #[.int .u64 t184] rfl (by (try simp only [List.map_toArray, List.map_cons, List.map_nil]); first | done | rfl | (simp only [List.length_drop, List.length_take]; rfl)) ?_; (with_reducible refine (arith_half.calls t184 t185 _ A6.out).mono ?_); rintro e w' ⟨rfl, ⟨nd, rfl⟩⟩; refine ⟨_, rfl, ?_⟩))
  go_ret
  exact ⟨by first | rfl | (simp; done) | (simp [*]; done), by repeat (first | exact Drawn0.refl _ | apply Drawn0.step)⟩

/-! ### mezzanineref02_Remw: function 33 -/
def mezzanineref02_Remw.f (a0 : Int) (a1 : Int) : Option (Int) := (mezzanineref02_low.f a1).bind fun t186 => (if t186 = 0 then ((mezzanineref02_drawn.f a0).bind fun t187 => (some t187)) else ((mezzanineref02_drawn.f a0).bind fun t188 => ((mezzanineref02_drawn.f a1).bind fun t189 => ((mezzanineref02_Rem.f t188 t189).bind fun t190 => ((mezzanineref02_drawn.f t190).bind fun t191 => (some t191))))))
set_option maxHeartbeats 8000000 in
set_option maxRecDepth 100000 in
theorem mezzanineref02_Remw.calls (a0 : Int) (a1 : Int) (r : Int) (w : World) (h : mezzanineref02_Remw.f a0 a1 = some r) :
    Calls Try.prog 33 #[.int .u64 a0, .int .u64 a1] w fun e w' => e = .returned (.int .u64 r) ∧ Below w.heap.size w w' := by
  have HB := Aside0.mk (Below.refl w.heap.size w)
  have H : ((mezzanineref02_low.f a1).bind fun t186 => (if t186 = 0 then ((mezzanineref02_drawn.f a0).bind fun t187 => (some t187)) else ((mezzanineref02_drawn.f a0).bind fun t188 => ((mezzanineref02_drawn.f a1).bind fun t189 => ((mezzanineref02_Rem.f t188 t189).bind fun t190 => ((mezzanineref02_drawn.f t190).bind fun t191 => (some t191))))))) = some r := h
  clear h
  replace H := Option.bind_eq_some_iff.mp H
  obtain ⟨t186, A30, H⟩ := H
  replace H : (if t186 = 0 then ((mezzanineref02_drawn.f a0).bind fun t187 => (some t187)) else ((mezzanineref02_drawn.f a0).bind fun t188 => ((mezzanineref02_drawn.f a1).bind fun t189 => ((mezzanineref02_Rem.f t188 t189).bind fun t190 => ((mezzanineref02_drawn.f t190).bind fun t191 => (some t191)))))) = some r := H
  have A3 := Aside0.mk A30
  clear A30
  by_cases c4 : t186 = 0
  · rw [if_pos c4] at H
    have c4b0 : (t186 == 0) = true := beq_iff_eq.mpr c4
    have c4b1 : (t186 != 0) = false := bne_eq_false_iff_eq.mpr c4
    clear c4
    replace H := Option.bind_eq_some_iff.mp H
    obtain ⟨t187, A50, H⟩ := H
    replace H : (some t187) = some r := H
    have A5 := Aside0.mk A50
    clear A50
    obtain rfl := Option.some.inj H
    go_enter Try.func33, Try.ntmps33
    go_wp2_with (first | ((with_reducible refine gate_callee (f := 43) rfl ?_); refine goesL_ (some 6) rfl rfl Try.func43 (by kernel_rfl) rfl #[.int .u64 a1] rfl (by (try simp only [List.map_toArray, List.map_cons, List.map_nil]); first | done | rfl | (simp only [List.length_drop, List.length_take]; rfl)) ?_; (with_reducible refine (mezzanineref02_low.calls a1 t186 _ A3.out).mono ?_); rintro e w' ⟨rfl, ⟨nd, rfl⟩⟩; refine ⟨_, rfl, ?_⟩) | ((with_reducible refine gate_callee (f := 41) rfl ?_); refine goesL_ (some 9) rfl rfl Try.func41 (by kernel_rfl) rfl #[.int .u64 a0] rfl (by (try simp only [List.map_toArray, List.map_cons, List.map_nil]); first | done | rfl | (simp only [List.length_drop, List.length_take]; rfl)) ?_; (with_reducible refine (mezzanineref02_drawn.calls a0 t187 _ A5.out).mono ?_); rintro e w6 ⟨rfl, hb⟩; refine ⟨_, rfl, ?_⟩; have n0_ := Aside0.mk (below_step (by repeat (first | (with_reducible first | exact HB.out | apply below_alloc | apply pw_below_drewN | apply below_drew1) | exact HB.out)) hb); clear HB; have HB := n0_; clear n0_; (try clear hb); (try clear hb2); (try clear hk); (try clear hi)))
    go_ret
    exact ⟨by first | rfl | (simp [errW_none, errW_some] <;> rfl) | (simp [*, errW_none, errW_some] <;> rfl), by repeat (first | (with_reducible first | exact HB.out | apply below_alloc | apply pw_below_drewN | apply below_drew1) | exact HB.out)⟩
  · rw [if_neg c4] at H
    have c4b0 : (t186 == 0) = false := beq_eq_false_iff_ne.mpr c4
    have c4b1 : (t186 != 0) = true := bne_iff_ne.mpr c4
    replace H := Option.bind_eq_some_iff.mp H
    obtain ⟨t188, A70, H⟩ := H
    replace H : ((mezzanineref02_drawn.f a1).bind fun t189 => ((mezzanineref02_Rem.f t188 t189).bind fun t190 => ((mezzanineref02_drawn.f t190).bind fun t191 => (some t191)))) = some r := H
    have A7 := Aside0.mk A70
    clear A70
    replace H := Option.bind_eq_some_iff.mp H
    obtain ⟨t189, A80, H⟩ := H
    replace H : ((mezzanineref02_Rem.f t188 t189).bind fun t190 => ((mezzanineref02_drawn.f t190).bind fun t191 => (some t191))) = some r := H
    have A8 := Aside0.mk A80
    clear A80
    replace H := Option.bind_eq_some_iff.mp H
    obtain ⟨t190, A90, H⟩ := H
    replace H : ((mezzanineref02_drawn.f t190).bind fun t191 => (some t191)) = some r := H
    have A9 := Aside0.mk A90
    clear A90
    replace H := Option.bind_eq_some_iff.mp H
    obtain ⟨t191, A100, H⟩ := H
    replace H : (some t191) = some r := H
    have A10 := Aside0.mk A100
    clear A100
    obtain rfl := Option.some.inj H
    go_enter Try.func33, Try.ntmps33
    go_wp2_with (first | ((with_reducible refine gate_callee (f := 43) rfl ?_); refine goesL_ (some 6) rfl rfl Try.func43 (by kernel_rfl) rfl #[.int .u64 a1] rfl (by (try simp only [List.map_toArray, List.map_cons, List.map_nil]); first | done | rfl | (simp only [List.length_drop, List.length_take]; rfl)) ?_; (with_reducible refine (mezzanineref02_low.calls a1 t186 _ A3.out).mono ?_); rintro e w' ⟨rfl, ⟨nd, rfl⟩⟩; refine ⟨_, rfl, ?_⟩) | ((with_reducible refine gate_callee (f := 41) rfl ?_); refine goesL_ (some 11) rfl rfl Try.func41 (by kernel_rfl) rfl #[.int .u64 a0] rfl (by (try simp only [List.map_toArray, List.map_cons, List.map_nil]); first | done | rfl | (simp only [List.length_drop, List.length_take]; rfl)) ?_; (with_reducible refine (mezzanineref02_drawn.calls a0 t188 _ A7.out).mono ?_); rintro e w11 ⟨rfl, hb⟩; refine ⟨_, rfl, ?_⟩; have n0_ := Aside0.mk (below_step (by repeat (first | (with_reducible first | exact HB.out | apply below_alloc | apply pw_below_drewN | apply below_drew1) | exact HB.out)) hb); clear HB; have HB := n0_; clear n0_; (try clear hb); (try clear hb2); (try clear hk); (try clear hi)) | ((with_reducible refine gate_callee (f := 41) rfl ?_); refine goesL_ (some 13) rfl rfl Try.func41 (by kernel_rfl) rfl #[.int .u64 a1] rfl (by (try simp only [List.map_toArray, List.map_cons, List.map_nil]); first | done | rfl | (simp only [List.length_drop, List.length_take]; rfl)) ?_; (with_reducible refine (mezzanineref02_drawn.calls a1 t189 _ A8.out).mono ?_); rintro e w12 ⟨rfl, hb⟩; refine ⟨_, rfl, ?_⟩; have n0_ := Aside0.mk (below_step (by repeat (first | (with_reducible first | exact HB.out | apply below_alloc | apply pw_below_drewN | apply below_drew1) | exact HB.out)) hb); clear HB; have HB := n0_; clear n0_; (try clear hb); (try clear hb2); (try clear hk); (try clear hi)) | ((with_reducible refine gate_callee (f := 25) rfl ?_); refine goesL_ (some 14) rfl rfl Try.func25 (by kernel_rfl) rfl #[.int .u64 t188, .int .u64 t189] rfl (by (try simp only [List.map_toArray, List.map_cons, List.map_nil]); first | done | rfl | (simp only [List.length_drop, List.length_take]; rfl)) ?_; (with_reducible refine (mezzanineref02_Rem.calls t188 t189 t190 _ A9.out).mono ?_); rintro e w' ⟨rfl, ⟨nd, rfl⟩⟩; refine ⟨_, rfl, ?_⟩) | ((with_reducible refine gate_callee (f := 41) rfl ?_); refine goesL_ (some 15) rfl rfl Try.func41 (by kernel_rfl) rfl #[.int .u64 t190] rfl (by (try simp only [List.map_toArray, List.map_cons, List.map_nil]); first | done | rfl | (simp only [List.length_drop, List.length_take]; rfl)) ?_; (with_reducible refine (mezzanineref02_drawn.calls t190 t191 _ A10.out).mono ?_); rintro e w13 ⟨rfl, hb⟩; refine ⟨_, rfl, ?_⟩; have n0_ := Aside0.mk (below_step (by repeat (first | (with_reducible first | exact HB.out | apply below_alloc | apply pw_below_drewN | apply below_drew1) | exact HB.out)) hb); clear HB; have HB := n0_; clear n0_; (try clear hb); (try clear hb2); (try clear hk); (try clear hi)))
    go_ret
    exact ⟨by first | rfl | (simp [errW_none, errW_some] <;> rfl) | (simp [*, errW_none, errW_some] <;> rfl), by repeat (first | (with_reducible first | exact HB.out | apply below_alloc | apply pw_below_drewN | apply below_drew1) | exact HB.out)⟩

/-! ### mezzanineref02_Remuw: function 35 -/
def mezzanineref02_Remuw.f (a0 : Int) (a1 : Int) : Option (Int) := (mezzanineref02_low.f a1).bind fun t192 => (if t192 = 0 then ((mezzanineref02_drawn.f a0).bind fun t193 => (some t193)) else ((mezzanineref02_low.f a0).bind fun t194 => ((mezzanineref02_low.f a1).bind fun t195 => (if t195 = 0 then (none) else ((mezzanineref02_drawn.f (Int.tmod t194 t195)).bind fun t196 => (some t196))))))
set_option maxHeartbeats 8000000 in
set_option maxRecDepth 100000 in
theorem mezzanineref02_Remuw.calls (a0 : Int) (a1 : Int) (r : Int) (w : World) (h : mezzanineref02_Remuw.f a0 a1 = some r) :
    Calls Try.prog 35 #[.int .u64 a0, .int .u64 a1] w fun e w' => e = .returned (.int .u64 r) ∧ Below w.heap.size w w' := by
  have HB := Aside0.mk (Below.refl w.heap.size w)
  have H : ((mezzanineref02_low.f a1).bind fun t192 => (if t192 = 0 then ((mezzanineref02_drawn.f a0).bind fun t193 => (some t193)) else ((mezzanineref02_low.f a0).bind fun t194 => ((mezzanineref02_low.f a1).bind fun t195 => (if t195 = 0 then (none) else ((mezzanineref02_drawn.f (Int.tmod t194 t195)).bind fun t196 => (some t196))))))) = some r := h
  clear h
  replace H := Option.bind_eq_some_iff.mp H
  obtain ⟨t192, A30, H⟩ := H
  replace H : (if t192 = 0 then ((mezzanineref02_drawn.f a0).bind fun t193 => (some t193)) else ((mezzanineref02_low.f a0).bind fun t194 => ((mezzanineref02_low.f a1).bind fun t195 => (if t195 = 0 then (none) else ((mezzanineref02_drawn.f (Int.tmod t194 t195)).bind fun t196 => (some t196)))))) = some r := H
  have A3 := Aside0.mk A30
  clear A30
  by_cases c4 : t192 = 0
  · rw [if_pos c4] at H
    have c4b0 : (t192 == 0) = true := beq_iff_eq.mpr c4
    have c4b1 : (t192 != 0) = false := bne_eq_false_iff_eq.mpr c4
    clear c4
    replace H := Option.bind_eq_some_iff.mp H
    obtain ⟨t193, A50, H⟩ := H
    replace H : (some t193) = some r := H
    have A5 := Aside0.mk A50
    clear A50
    obtain rfl := Option.some.inj H
    go_enter Try.func35, Try.ntmps35
    go_wp2_with (first | ((with_reducible refine gate_callee (f := 43) rfl ?_); refine goesL_ (some 6) rfl rfl Try.func43 (by kernel_rfl) rfl #[.int .u64 a1] rfl (by (try simp only [List.map_toArray, List.map_cons, List.map_nil]); first | done | rfl | (simp only [List.length_drop, List.length_take]; rfl)) ?_; (with_reducible refine (mezzanineref02_low.calls a1 t192 _ A3.out).mono ?_); rintro e w' ⟨rfl, ⟨nd, rfl⟩⟩; refine ⟨_, rfl, ?_⟩) | ((with_reducible refine gate_callee (f := 41) rfl ?_); refine goesL_ (some 9) rfl rfl Try.func41 (by kernel_rfl) rfl #[.int .u64 a0] rfl (by (try simp only [List.map_toArray, List.map_cons, List.map_nil]); first | done | rfl | (simp only [List.length_drop, List.length_take]; rfl)) ?_; (with_reducible refine (mezzanineref02_drawn.calls a0 t193 _ A5.out).mono ?_); rintro e w6 ⟨rfl, hb⟩; refine ⟨_, rfl, ?_⟩; have n0_ := Aside0.mk (below_step (by repeat (first | (with_reducible first | exact HB.out | apply below_alloc | apply pw_below_drewN | apply below_drew1) | exact HB.out)) hb); clear HB; have HB := n0_; clear n0_; (try clear hb); (try clear hb2); (try clear hk); (try clear hi)))
    go_ret
    exact ⟨by first | rfl | (simp [errW_none, errW_some] <;> rfl) | (simp [*, errW_none, errW_some] <;> rfl), by repeat (first | (with_reducible first | exact HB.out | apply below_alloc | apply pw_below_drewN | apply below_drew1) | exact HB.out)⟩
  · rw [if_neg c4] at H
    have c4b0 : (t192 == 0) = false := beq_eq_false_iff_ne.mpr c4
    have c4b1 : (t192 != 0) = true := bne_iff_ne.mpr c4
    replace H := Option.bind_eq_some_iff.mp H
    obtain ⟨t194, A70, H⟩ := H
    replace H : ((mezzanineref02_low.f a1).bind fun t195 => (if t195 = 0 then (none) else ((mezzanineref02_drawn.f (Int.tmod t194 t195)).bind fun t196 => (some t196)))) = some r := H
    have A7 := Aside0.mk A70
    clear A70
    replace H := Option.bind_eq_some_iff.mp H
    obtain ⟨t195, A80, H⟩ := H
    replace H : (if t195 = 0 then (none) else ((mezzanineref02_drawn.f (Int.tmod t194 t195)).bind fun t196 => (some t196))) = some r := H
    have A8 := Aside0.mk A80
    clear A80
    by_cases c9 : t195 = 0
    · rw [if_pos c9] at H
      exact absurd H (by simp)
    · rw [if_neg c9] at H
      have c9b0 : (t195 == 0) = false := beq_eq_false_iff_ne.mpr c9
      have c9b1 : (t195 != 0) = true := bne_iff_ne.mpr c9
      replace H := Option.bind_eq_some_iff.mp H
      obtain ⟨t196, A100, H⟩ := H
      replace H : (some t196) = some r := H
      have A10 := Aside0.mk A100
      clear A100
      obtain rfl := Option.some.inj H
      go_enter Try.func35, Try.ntmps35
      go_wp2_with (first | ((with_reducible refine gate_callee (f := 43) rfl ?_); refine goesL_ (some 6) rfl rfl Try.func43 (by kernel_rfl) rfl #[.int .u64 a1] rfl (by (try simp only [List.map_toArray, List.map_cons, List.map_nil]); first | done | rfl | (simp only [List.length_drop, List.length_take]; rfl)) ?_; (with_reducible refine (mezzanineref02_low.calls a1 t192 _ A3.out).mono ?_); rintro e w' ⟨rfl, ⟨nd, rfl⟩⟩; refine ⟨_, rfl, ?_⟩) | ((with_reducible refine gate_callee (f := 43) rfl ?_); refine goesL_ (some 11) rfl rfl Try.func43 (by kernel_rfl) rfl #[.int .u64 a0] rfl (by (try simp only [List.map_toArray, List.map_cons, List.map_nil]); first | done | rfl | (simp only [List.length_drop, List.length_take]; rfl)) ?_; (with_reducible refine (mezzanineref02_low.calls a0 t194 _ A7.out).mono ?_); rintro e w' ⟨rfl, ⟨nd, rfl⟩⟩; refine ⟨_, rfl, ?_⟩) | ((with_reducible refine gate_callee (f := 43) rfl ?_); refine goesL_ (some 13) rfl rfl Try.func43 (by kernel_rfl) rfl #[.int .u64 a1] rfl (by (try simp only [List.map_toArray, List.map_cons, List.map_nil]); first | done | rfl | (simp only [List.length_drop, List.length_take]; rfl)) ?_; (with_reducible refine (mezzanineref02_low.calls a1 t195 _ A8.out).mono ?_); rintro e w' ⟨rfl, ⟨nd, rfl⟩⟩; refine ⟨_, rfl, ?_⟩) | ((with_reducible refine gate_callee (f := 41) rfl ?_); refine goesL_ (some 15) rfl rfl Try.func41 (by kernel_rfl) rfl #[.int .u64 (Int.tmod t194 t195)] rfl (by (try simp only [List.map_toArray, List.map_cons, List.map_nil]); first | done | rfl | (simp only [List.length_drop, List.length_take]; rfl)) ?_; (with_reducible refine (mezzanineref02_drawn.calls (Int.tmod t194 t195) t196 _ A10.out).mono ?_); rintro e w11 ⟨rfl, hb⟩; refine ⟨_, rfl, ?_⟩; have n0_ := Aside0.mk (below_step (by repeat (first | (with_reducible first | exact HB.out | apply below_alloc | apply pw_below_drewN | apply below_drew1) | exact HB.out)) hb); clear HB; have HB := n0_; clear n0_; (try clear hb); (try clear hb2); (try clear hk); (try clear hi)))
      go_ret
      exact ⟨by first | rfl | (simp [errW_none, errW_some] <;> rfl) | (simp [*, errW_none, errW_some] <;> rfl), by repeat (first | (with_reducible first | exact HB.out | apply below_alloc | apply pw_below_drewN | apply below_drew1) | exact HB.out)⟩

/-! ### mezzaninelaw02_ArithHalves: function 6 -/
def mezzaninelaw02_ArithHalves.f (a0 : Int) (a1 : Int) : Option (Bool) := (mezzaninelaw02_awake.f).bind fun t197 => (if t197 = true then ((arith_Divw.f a0 a1).bind fun t198 => ((mezzanineref02_Divw.f a0 a1).bind fun t199 => (if t198 = t199 then ((arith_Divuw.f a0 a1).bind fun t200 => ((mezzanineref02_Divuw.f a0 a1).bind fun t201 => (if t200 = t201 then ((arith_Remw.f a0 a1).bind fun t202 => ((mezzanineref02_Remw.f a0 a1).bind fun t203 => (if t202 = t203 then ((arith_Remuw.f a0 a1).bind fun t204 => ((mezzanineref02_Remuw.f a0 a1).bind fun t205 => (some (t204 == t205)))) else (some false)))) else (some false)))) else (some false)))) else (some false))
set_option maxHeartbeats 8000000 in
set_option maxRecDepth 100000 in
theorem mezzaninelaw02_ArithHalves.calls (a0 : Int) (a1 : Int) (r : Bool) (w : World) (ht : r = true) (h : mezzaninelaw02_ArithHalves.f a0 a1 = some r) :
    Calls Try.prog 6 #[.int .u64 a0, .int .u64 a1] w fun e w' => e = .returned (.bool r) ∧ Below w.heap.size w w' := by
  have HB := Aside0.mk (Below.refl w.heap.size w)
  have HT := Aside0.mk ht
  clear ht
  have H : ((mezzaninelaw02_awake.f).bind fun t197 => (if t197 = true then ((arith_Divw.f a0 a1).bind fun t198 => ((mezzanineref02_Divw.f a0 a1).bind fun t199 => (if t198 = t199 then ((arith_Divuw.f a0 a1).bind fun t200 => ((mezzanineref02_Divuw.f a0 a1).bind fun t201 => (if t200 = t201 then ((arith_Remw.f a0 a1).bind fun t202 => ((mezzanineref02_Remw.f a0 a1).bind fun t203 => (if t202 = t203 then ((arith_Remuw.f a0 a1).bind fun t204 => ((mezzanineref02_Remuw.f a0 a1).bind fun t205 => (some (t204 == t205)))) else (some false)))) else (some false)))) else (some false)))) else (some false))) = some r := h
  clear h
  replace H := Option.bind_eq_some_iff.mp H
  obtain ⟨t197, A30, H⟩ := H
  replace H : (if t197 = true then ((arith_Divw.f a0 a1).bind fun t198 => ((mezzanineref02_Divw.f a0 a1).bind fun t199 => (if t198 = t199 then ((arith_Divuw.f a0 a1).bind fun t200 => ((mezzanineref02_Divuw.f a0 a1).bind fun t201 => (if t200 = t201 then ((arith_Remw.f a0 a1).bind fun t202 => ((mezzanineref02_Remw.f a0 a1).bind fun t203 => (if t202 = t203 then ((arith_Remuw.f a0 a1).bind fun t204 => ((mezzanineref02_Remuw.f a0 a1).bind fun t205 => (some (t204 == t205)))) else (some false)))) else (some false)))) else (some false)))) else (some false)) = some r := H
  have A3 := Aside0.mk A30
  clear A30
  by_cases c4 : t197 = true
  · subst c4
    have H1 : ((arith_Divw.f a0 a1).bind fun t198 => ((mezzanineref02_Divw.f a0 a1).bind fun t199 => (if t198 = t199 then ((arith_Divuw.f a0 a1).bind fun t200 => ((mezzanineref02_Divuw.f a0 a1).bind fun t201 => (if t200 = t201 then ((arith_Remw.f a0 a1).bind fun t202 => ((mezzanineref02_Remw.f a0 a1).bind fun t203 => (if t202 = t203 then ((arith_Remuw.f a0 a1).bind fun t204 => ((mezzanineref02_Remuw.f a0 a1).bind fun t205 => (some (t204 == t205)))) else (some false)))) else (some false)))) else (some false)))) = some r := by rw [if_pos rfl] at H; exact H
    clear H
    have H := H1
    clear H1
    replace H := Option.bind_eq_some_iff.mp H
    obtain ⟨t198, A50, H⟩ := H
    replace H : ((mezzanineref02_Divw.f a0 a1).bind fun t199 => (if t198 = t199 then ((arith_Divuw.f a0 a1).bind fun t200 => ((mezzanineref02_Divuw.f a0 a1).bind fun t201 => (if t200 = t201 then ((arith_Remw.f a0 a1).bind fun t202 => ((mezzanineref02_Remw.f a0 a1).bind fun t203 => (if t202 = t203 then ((arith_Remuw.f a0 a1).bind fun t204 => ((mezzanineref02_Remuw.f a0 a1).bind fun t205 => (some (t204 == t205)))) else (some false)))) else (some false)))) else (some false))) = some r := H
    have A5 := Aside0.mk A50
    clear A50
    replace H := Option.bind_eq_some_iff.mp H
    obtain ⟨t199, A60, H⟩ := H
    replace H : (if t198 = t199 then ((arith_Divuw.f a0 a1).bind fun t200 => ((mezzanineref02_Divuw.f a0 a1).bind fun t201 => (if t200 = t201 then ((arith_Remw.f a0 a1).bind fun t202 => ((mezzanineref02_Remw.f a0 a1).bind fun t203 => (if t202 = t203 then ((arith_Remuw.f a0 a1).bind fun t204 => ((mezzanineref02_Remuw.f a0 a1).bind fun t205 => (some (t204 == t205)))) else (some false)))) else (some false)))) else (some false)) = some r := H
    have A6 := Aside0.mk A60
    clear A60
    by_cases c7 : t198 = t199
    · rw [if_pos c7] at H
      have c7b0 : (t198 == t199) = true := beq_iff_eq.mpr c7
      have c7b1 : (t198 != t199) = false := bne_eq_false_iff_eq.mpr c7
      clear c7
      replace H := Option.bind_eq_some_iff.mp H
      obtain ⟨t200, A80, H⟩ := H
      replace H : ((mezzanineref02_Divuw.f a0 a1).bind fun t201 => (if t200 = t201 then ((arith_Remw.f a0 a1).bind fun t202 => ((mezzanineref02_Remw.f a0 a1).bind fun t203 => (if t202 = t203 then ((arith_Remuw.f a0 a1).bind fun t204 => ((mezzanineref02_Remuw.f a0 a1).bind fun t205 => (some (t204 == t205)))) else (some false)))) else (some false))) = some r := H
      have A8 := Aside0.mk A80
      clear A80
      replace H := Option.bind_eq_some_iff.mp H
      obtain ⟨t201, A90, H⟩ := H
      replace H : (if t200 = t201 then ((arith_Remw.f a0 a1).bind fun t202 => ((mezzanineref02_Remw.f a0 a1).bind fun t203 => (if t202 = t203 then ((arith_Remuw.f a0 a1).bind fun t204 => ((mezzanineref02_Remuw.f a0 a1).bind fun t205 => (some (t204 == t205)))) else (some false)))) else (some false)) = some r := H
      have A9 := Aside0.mk A90
      clear A90
      by_cases c10 : t200 = t201
      · rw [if_pos c10] at H
        have c10b0 : (t200 == t201) = true := beq_iff_eq.mpr c10
        have c10b1 : (t200 != t201) = false := bne_eq_false_iff_eq.mpr c10
        clear c10
        replace H := Option.bind_eq_some_iff.mp H
        obtain ⟨t202, A110, H⟩ := H
        replace H : ((mezzanineref02_Remw.f a0 a1).bind fun t203 => (if t202 = t203 then ((arith_Remuw.f a0 a1).bind fun t204 => ((mezzanineref02_Remuw.f a0 a1).bind fun t205 => (some (t204 == t205)))) else (some false))) = some r := H
        have A11 := Aside0.mk A110
        clear A110
        replace H := Option.bind_eq_some_iff.mp H
        obtain ⟨t203, A120, H⟩ := H
        replace H : (if t202 = t203 then ((arith_Remuw.f a0 a1).bind fun t204 => ((mezzanineref02_Remuw.f a0 a1).bind fun t205 => (some (t204 == t205)))) else (some false)) = some r := H
        have A12 := Aside0.mk A120
        clear A120
        by_cases c13 : t202 = t203
        · rw [if_pos c13] at H
          have c13b0 : (t202 == t203) = true := beq_iff_eq.mpr c13
          have c13b1 : (t202 != t203) = false := bne_eq_false_iff_eq.mpr c13
          clear c13
          replace H := Option.bind_eq_some_iff.mp H
          obtain ⟨t204, A140, H⟩ := H
          replace H : ((mezzanineref02_Remuw.f a0 a1).bind fun t205 => (some (t204 == t205))) = some r := H
          have A14 := Aside0.mk A140
          clear A140
          replace H := Option.bind_eq_some_iff.mp H
          obtain ⟨t205, A150, H⟩ := H
          replace H : (some (t204 == t205)) = some r := H
          have A15 := Aside0.mk A150
          clear A150
          obtain rfl := Option.some.inj H
          go_enter Try.func6, Try.ntmps6
          go_wp2_with (first | ((with_reducible refine gate_callee (f := 11) rfl ?_); refine goesL_ (some 5) rfl rfl Try.func11 (by kernel_rfl) rfl #[] rfl (by (try simp only [List.map_toArray, List.map_cons, List.map_nil]); first | done | rfl | (simp only [List.length_drop, List.length_take]; rfl)) ?_; (with_reducible refine (mezzaninelaw02_awake.calls  true _ A3.out).mono ?_); rintro e w' ⟨rfl, ⟨nd, rfl⟩⟩; refine ⟨_, rfl, ?_⟩) | (go_at_call 28; (with_reducible refine (arith_Divw.calls a0 a1 t198 _ A5.out).mono ?_); rintro e w' ⟨rfl, ⟨nd, rfl⟩⟩) | (go_at_call 29; (with_reducible refine (mezzanineref02_Divw.calls a0 a1 t199 _ A6.out).mono ?_); rintro e w16 ⟨rfl, hb⟩; have n0_ := Aside0.mk (below_step (by repeat (first | (with_reducible first | exact HB.out | apply below_alloc | apply pw_below_drewN | apply below_drew1) | exact HB.out)) hb); clear HB; have HB := n0_; clear n0_; (try clear hb); (try clear hb2); (try clear hk); (try clear hi)) | (go_at_call 30; (with_reducible refine (arith_Divuw.calls a0 a1 t200 _ A8.out).mono ?_); rintro e w' ⟨rfl, ⟨nd, rfl⟩⟩) | (go_at_call 31; (with_reducible refine (mezzanineref02_Divuw.calls a0 a1 t201 _ A9.out).mono ?_); rintro e w17 ⟨rfl, hb⟩; have n0_ := Aside0.mk (below_step (by repeat (first | (with_reducible first | exact HB.out | apply below_alloc | apply pw_below_drewN | apply below_drew1) | exact HB.out)) hb); clear HB; have HB := n0_; clear n0_; (try clear hb); (try clear hb2); (try clear hk); (try clear hi)) | (go_at_call 32; (with_reducible refine (arith_Remw.calls a0 a1 t202 _ A11.out).mono ?_); rintro e w' ⟨rfl, ⟨nd, rfl⟩⟩) | (go_at_call 33; (with_reducible refine (mezzanineref02_Remw.calls a0 a1 t203 _ A12.out).mono ?_); rintro e w18 ⟨rfl, hb⟩; have n0_ := Aside0.mk (below_step (by repeat (first | (with_reducible first | exact HB.out | apply below_alloc | apply pw_below_drewN | apply below_drew1) | exact HB.out)) hb); clear HB; have HB := n0_; clear n0_; (try clear hb); (try clear hb2); (try clear hk); (try clear hi)) | (go_at_call 34; (with_reducible refine (arith_Remuw.calls a0 a1 t204 _ A14.out).mono ?_); rintro e w' ⟨rfl, ⟨nd, rfl⟩⟩) | (go_at_call 35; (with_reducible refine (mezzanineref02_Remuw.calls a0 a1 t205 _ A15.out).mono ?_); rintro e w19 ⟨rfl, hb⟩; have n0_ := Aside0.mk (below_step (by repeat (first | (with_reducible first | exact HB.out | apply below_alloc | apply pw_below_drewN | apply below_drew1) | exact HB.out)) hb); clear HB; have HB := n0_; clear n0_; (try clear hb); (try clear hb2); (try clear hk); (try clear hi)))
          go_ret
          exact ⟨by first | rfl | (simp [errW_none, errW_some] <;> rfl) | (simp [*, errW_none, errW_some] <;> rfl), by repeat (first | (with_reducible first | exact HB.out | apply below_alloc | apply pw_below_drewN | apply below_drew1) | exact HB.out)⟩
        · rw [if_neg c13] at H
          have c13b0 : (t202 == t203) = false := beq_eq_false_iff_ne.mpr c13
          have c13b1 : (t202 != t203) = true := bne_iff_ne.mpr c13
          exact absurd (Option.some.inj H) (by rw [HT.out]; decide)
      · rw [if_neg c10] at H
        have c10b0 : (t200 == t201) = false := beq_eq_false_iff_ne.mpr c10
        have c10b1 : (t200 != t201) = true := bne_iff_ne.mpr c10
        exact absurd (Option.some.inj H) (by rw [HT.out]; decide)
    · rw [if_neg c7] at H
      have c7b0 : (t198 == t199) = false := beq_eq_false_iff_ne.mpr c7
      have c7b1 : (t198 != t199) = true := bne_iff_ne.mpr c7
      exact absurd (Option.some.inj H) (by rw [HT.out]; decide)
  · replace c4 := Bool.eq_false_iff.mpr c4
    subst c4
    have H1 : (some false) = some r := by rw [if_neg (show ¬ (false = true) by decide)] at H; exact H
    clear H
    have H := H1
    clear H1
    exact absurd (Option.some.inj H) (by rw [HT.out]; decide)

/-- THE ONE PURE STATEMENT of mezzaninelaw02_ArithHalves: yours. -/
def mezzaninelaw02_ArithHalves.Pure : Prop := ∀ (a0 : Int) (a1 : Int), (Lit.int .u64 a0).wf = true → (Lit.int .u64 a1).wf = true → mezzaninelaw02_ArithHalves.f a0 a1 = some true
theorem mezzaninelaw02_ArithHalves.walk (P : mezzaninelaw02_ArithHalves.Pure) (a0 : Int) (a1 : Int) (w : World) (w0 : (Lit.int .u64 a0).wf = true) (w1 : (Lit.int .u64 a1).wf = true) :
    Calls Try.prog 6 #[.int .u64 a0, .int .u64 a1] w fun e w' => e = .returned (.bool true) ∧ Below w.heap.size w w' := by
  have h := P a0 a1 w0 w1
  refine (mezzaninelaw02_ArithHalves.calls a0 a1 true w rfl h).mono ?_
  rintro e w' ⟨rfl, hd⟩
  exact ⟨rfl, hd⟩

end Go.Proofs.Ytdfldddcaeokpaa.Q
