/- Where the Lean function of a Go function gives a value, the Go call returns that value and changes nothing that was there: for every input. (By a program of this session, and by hand.) -/
import Derived.Test.YtbfdehkejohjhaaQx0
import Derived.Test.YtbfdehkejohjhaaQx6
import Derived.Test.YtbfdehkejohjhaaQx7
namespace Go.Proofs.Ytbfdehkejohjhaa.Q
open Go.RowKit Go.Proofs.YtbfdehkejohjhaaW.PrintWords Go.Proofs.YtbfdehkejohjhaaW.PrintLast Go.Proofs.YtbfdehkejohjhaaW.PrintMore
attribute [local go_sem] max2_int min2_int max_two min_two max_three min_three max_four min_four   -- for this text's walks alone
set_option linter.unusedVariables false
set_option linter.unusedSimpArgs false

/-! ### mezzanineref02_Mulh: function 28 -/
def mezzanineref02_Mulh.f (k : Nat) (a0 : Int) (a1 : Int) : Option (Int) := (mezzanineref02_high.f k a0 a1 true true).bind fun t146 => (some t146)
theorem mezzanineref02_Mulh.mono : ∀ a0 a1 k, LeO (mezzanineref02_Mulh.f k a0 a1) (mezzanineref02_Mulh.f (k + 1) a0 a1) := by
  intro a0 a1 k
  unfold mezzanineref02_Mulh.f
  repeat' first
      | (with_reducible exact mezzanineref02_high.mono _ _ _ _ _)
      | (with_reducible exact LeO.refl _)
      | (with_reducible exact LeO.none _)
      | (with_reducible refine LeO.ite ?_ ?_)
      | (with_reducible refine LeO.bind ?_ (fun _ => ?_))
      | exact mezzanineref02_high.mono _ _ _ _ _
      | exact LeO.none _
      | refine LeO.ite ?_ ?_
      | refine LeO.bind ?_ (fun _ => ?_)
set_option maxHeartbeats 8000000 in
set_option maxRecDepth 100000 in
theorem mezzanineref02_Mulh.calls (k : Nat) (a0 : Int) (a1 : Int) (r : Int) (w : World) (h : mezzanineref02_Mulh.f k a0 a1 = some r) :
    Calls Try.prog 28 #[.int .u64 a0, .int .u64 a1] w fun e w' => e = .returned (.int .u64 r) ∧ Below w.heap.size w w' := by
  have HB := Aside0.mk (Below.refl w.heap.size w)
  have H : ((mezzanineref02_high.f k a0 a1 true true).bind fun t146 => (some t146)) = some r := h
  clear h
  replace H := Option.bind_eq_some_iff.mp H
  obtain ⟨t146, A30, H⟩ := H
  replace H : (some t146) = some r := H
  have A3 := Aside0.mk A30
  clear A30
  obtain rfl := Option.some.inj H
  go_enter Try.func28, Try.ntmps28
  go_wp2_with (first | ((with_reducible refine gate_callee (f := 49) rfl ?_); refine goesL_ (some 7) rfl rfl Try.func49 (by kernel_rfl) rfl #[.int .u64 a0, .int .u64 a1, .bool true, .bool true] rfl (by (try simp only [List.map_toArray, List.map_cons, List.map_nil]); first | done | rfl | (simp only [List.length_drop, List.length_take]; rfl)) ?_; (with_reducible refine (mezzanineref02_high.calls k a0 a1 true true t146 _ A3.out).mono ?_); rintro e w4 ⟨rfl, hb⟩; refine ⟨_, rfl, ?_⟩; have n0_ := Aside0.mk (below_step (by repeat (first | (with_reducible first | exact HB.out | apply below_alloc | apply pw_below_drewN | apply below_drew1) | exact HB.out)) hb); clear HB; have HB := n0_; clear n0_; (try clear hb); (try clear hb2); (try clear hk); (try clear hi)))
  go_ret
  exact ⟨by first | rfl | (simp [errW_none, errW_some] <;> rfl) | (simp [*, errW_none, errW_some] <;> rfl), by repeat (first | (with_reducible first | exact HB.out | apply below_alloc | apply pw_below_drewN | apply below_drew1) | exact HB.out)⟩

/-! ### mezzanineref02_Mulhsu: function 29 -/
def mezzanineref02_Mulhsu.f (k : Nat) (a0 : Int) (a1 : Int) : Option (Int) := (mezzanineref02_high.f k a0 a1 true false).bind fun t147 => (some t147)
theorem mezzanineref02_Mulhsu.mono : ∀ a0 a1 k, LeO (mezzanineref02_Mulhsu.f k a0 a1) (mezzanineref02_Mulhsu.f (k + 1) a0 a1) := by
  intro a0 a1 k
  unfold mezzanineref02_Mulhsu.f
  repeat' first
      | (with_reducible exact mezzanineref02_high.mono _ _ _ _ _)
      | (with_reducible exact LeO.refl _)
      | (with_reducible exact LeO.none _)
      | (with_reducible refine LeO.ite ?_ ?_)
      | (with_reducible refine LeO.bind ?_ (fun _ => ?_))
      | exact mezzanineref02_high.mono _ _ _ _ _
      | exact LeO.none _
      | refine LeO.ite ?_ ?_
      | refine LeO.bind ?_ (fun _ => ?_)
set_option maxHeartbeats 8000000 in
set_option maxRecDepth 100000 in
theorem mezzanineref02_Mulhsu.calls (k : Nat) (a0 : Int) (a1 : Int) (r : Int) (w : World) (h : mezzanineref02_Mulhsu.f k a0 a1 = some r) :
    Calls Try.prog 29 #[.int .u64 a0, .int .u64 a1] w fun e w' => e = .returned (.int .u64 r) ∧ Below w.heap.size w w' := by
  have HB := Aside0.mk (Below.refl w.heap.size w)
  have H : ((mezzanineref02_high.f k a0 a1 true false).bind fun t147 => (some t147)) = some r := h
  clear h
  replace H := Option.bind_eq_some_iff.mp H
  obtain ⟨t147, A30, H⟩ := H
  replace H : (some t147) = some r := H
  have A3 := Aside0.mk A30
  clear A30
  obtain rfl := Option.some.inj H
  go_enter Try.func29, Try.ntmps29
  go_wp2_with (first | ((with_reducible refine gate_callee (f := 49) rfl ?_); refine goesL_ (some 7) rfl rfl Try.func49 (by kernel_rfl) rfl #[.int .u64 a0, .int .u64 a1, .bool true, .bool false] rfl (by (try simp only [List.map_toArray, List.map_cons, List.map_nil]); first | done | rfl | (simp only [List.length_drop, List.length_take]; rfl)) ?_; (with_reducible refine (mezzanineref02_high.calls k a0 a1 true false t147 _ A3.out).mono ?_); rintro e w4 ⟨rfl, hb⟩; refine ⟨_, rfl, ?_⟩; have n0_ := Aside0.mk (below_step (by repeat (first | (with_reducible first | exact HB.out | apply below_alloc | apply pw_below_drewN | apply below_drew1) | exact HB.out)) hb); clear HB; have HB := n0_; clear n0_; (try clear hb); (try clear hb2); (try clear hk); (try clear hi)))
  go_ret
  exact ⟨by first | rfl | (simp [errW_none, errW_some] <;> rfl) | (simp [*, errW_none, errW_some] <;> rfl), by repeat (first | (with_reducible first | exact HB.out | apply below_alloc | apply pw_below_drewN | apply below_drew1) | exact HB.out)⟩

/-! ### mezzanineref02_Mulhu: function 30 -/
def mezzanineref02_Mulhu.f (k : Nat) (a0 : Int) (a1 : Int) : Option (Int) := (mezzanineref02_high.f k a0 a1 false false).bind fun t148 => (some t148)
theorem mezzanineref02_Mulhu.mono : ∀ a0 a1 k, LeO (mezzanineref02_Mulhu.f k a0 a1) (mezzanineref02_Mulhu.f (k + 1) a0 a1) := by
  intro a0 a1 k
  unfold mezzanineref02_Mulhu.f
  repeat' first
      | (with_reducible exact mezzanineref02_high.mono _ _ _ _ _)
      | (with_reducible exact LeO.refl _)
      | (with_reducible exact LeO.none _)
      | (with_reducible refine LeO.ite ?_ ?_)
      | (with_reducible refine LeO.bind ?_ (fun _ => ?_))
      | exact mezzanineref02_high.mono _ _ _ _ _
      | exact LeO.none _
      | refine LeO.ite ?_ ?_
      | refine LeO.bind ?_ (fun _ => ?_)
set_option maxHeartbeats 8000000 in
set_option maxRecDepth 100000 in
theorem mezzanineref02_Mulhu.calls (k : Nat) (a0 : Int) (a1 : Int) (r : Int) (w : World) (h : mezzanineref02_Mulhu.f k a0 a1 = some r) :
    Calls Try.prog 30 #[.int .u64 a0, .int .u64 a1] w fun e w' => e = .returned (.int .u64 r) ∧ Below w.heap.size w w' := by
  have HB := Aside0.mk (Below.refl w.heap.size w)
  have H : ((mezzanineref02_high.f k a0 a1 false false).bind fun t148 => (some t148)) = some r := h
  clear h
  replace H := Option.bind_eq_some_iff.mp H
  obtain ⟨t148, A30, H⟩ := H
  replace H : (some t148) = some r := H
  have A3 := Aside0.mk A30
  clear A30
  obtain rfl := Option.some.inj H
  go_enter Try.func30, Try.ntmps30
  go_wp2_with (first | ((with_reducible refine gate_callee (f := 49) rfl ?_); refine goesL_ (some 7) rfl rfl Try.func49 (by kernel_rfl) rfl #[.int .u64 a0, .int .u64 a1, .bool false, .bool false] rfl (by (try simp only [List.map_toArray, List.map_cons, List.map_nil]); first | done | rfl | (simp only [List.length_drop, List.length_take]; rfl)) ?_; (with_reducible refine (mezzanineref02_high.calls k a0 a1 false false t148 _ A3.out).mono ?_); rintro e w4 ⟨rfl, hb⟩; refine ⟨_, rfl, ?_⟩; have n0_ := Aside0.mk (below_step (by repeat (first | (with_reducible first | exact HB.out | apply below_alloc | apply pw_below_drewN | apply below_drew1) | exact HB.out)) hb); clear HB; have HB := n0_; clear n0_; (try clear hb); (try clear hb2); (try clear hk); (try clear hi)))
  go_ret
  exact ⟨by first | rfl | (simp [errW_none, errW_some] <;> rfl) | (simp [*, errW_none, errW_some] <;> rfl), by repeat (first | (with_reducible first | exact HB.out | apply below_alloc | apply pw_below_drewN | apply below_drew1) | exact HB.out)⟩

/-! ### mezzanineref02_Div: function 31 -/
def mezzanineref02_Div.f (a0 : Int) (a1 : Int) : Option (Int) := if a1 = 0 then (some 18446744073709551615) else ((mezzanineref02_size.f a0).bind fun bt149 => ((mezzanineref02_size.f a1).bind fun bt151 => (if (bt149.2 != bt151.2) = true then (if bt151.1 = 0 then (none) else (some (IntKind.u64.wrap (-(IntKind.u64.wrap (Int.tdiv bt149.1 bt151.1)))))) else (if bt151.1 = 0 then (none) else (some (IntKind.u64.wrap (Int.tdiv bt149.1 bt151.1)))))))
set_option maxHeartbeats 8000000 in
set_option maxRecDepth 100000 in
theorem mezzanineref02_Div.calls (a0 : Int) (a1 : Int) (r : Int) (w : World) (h : mezzanineref02_Div.f a0 a1 = some r) :
    Calls Try.prog 31 #[.int .u64 a0, .int .u64 a1] w fun e w' => e = .returned (.int .u64 r) ∧ Drawn0 w w' := by
  have H : (if a1 = 0 then (some 18446744073709551615) else ((mezzanineref02_size.f a0).bind fun bt149 => ((mezzanineref02_size.f a1).bind fun bt151 => (if (bt149.2 != bt151.2) = true then (if bt151.1 = 0 then (none) else (some (IntKind.u64.wrap (-(IntKind.u64.wrap (Int.tdiv bt149.1 bt151.1)))))) else (if bt151.1 = 0 then (none) else (some (IntKind.u64.wrap (Int.tdiv bt149.1 bt151.1)))))))) = some r := h
  clear h
  by_cases c3 : a1 = 0
  · rw [if_pos c3] at H
    have c3b0 : (a1 == 0) = true := beq_iff_eq.mpr c3
    have c3b1 : (a1 != 0) = false := bne_eq_false_iff_eq.mpr c3
    clear c3
    obtain rfl := Option.some.inj H
    go_enter Try.func31, Try.ntmps31
    go_wp2
    go_ret
    exact ⟨by first | rfl | (simp; done) | (simp [*]; done), by repeat (first | exact Drawn0.refl _ | apply Drawn0.step)⟩
  · rw [if_neg c3] at H
    have c3b0 : (a1 == 0) = false := beq_eq_false_iff_ne.mpr c3
    have c3b1 : (a1 != 0) = true := bne_iff_ne.mpr c3
    replace H := Option.bind_eq_some_iff.mp H
    obtain ⟨⟨t149, t150⟩, A40, H⟩ := H
    replace H : ((mezzanineref02_size.f a1).bind fun bt151 => (if (t150 != bt151.2) = true then (if bt151.1 = 0 then (none) else (some (IntKind.u64.wrap (-(IntKind.u64.wrap (Int.tdiv t149 bt151.1)))))) else (if bt151.1 = 0 then (none) else (some (IntKind.u64.wrap (Int.tdiv t149 bt151.1)))))) = some r := H
    have A4 := Aside0.mk A40
    clear A40
    replace H := Option.bind_eq_some_iff.mp H
    obtain ⟨⟨t151, t152⟩, A50, H⟩ := H
    replace H : (if (t150 != t152) = true then (if t151 = 0 then (none) else (some (IntKind.u64.wrap (-(IntKind.u64.wrap (Int.tdiv t149 t151)))))) else (if t151 = 0 then (none) else (some (IntKind.u64.wrap (Int.tdiv t149 t151))))) = some r := H
    have A5 := Aside0.mk A50
    clear A50
    by_cases c6 : (t150 != t152) = true
    · rw [if_pos c6] at H
      have c6b0 : (t150 != t152) = true := c6
      (try (have c6b1 : decide (t150 = t152) = false := by simpa using c6))
      (try (have c6b2 : (t150 == t152) = false := by simpa using c6))
      (try (have c6b3 : ¬ (t150 = t152) := by simpa using c6))
      clear c6
      by_cases c7 : t151 = 0
      · rw [if_pos c7] at H
        exact absurd H (by simp)
      · rw [if_neg c7] at H
        have c7b0 : (t151 == 0) = false := beq_eq_false_iff_ne.mpr c7
        have c7b1 : (t151 != 0) = true := bne_iff_ne.mpr c7
        obtain rfl := Option.some.inj H
        go_enter Try.func31, Try.ntmps31
        go_wp2_with (first | ((with_reducible refine gate_callee (f := 50) rfl ?_); refine goesL_ (some 13) rfl rfl Try.func50 (by kernel_rfl) rfl #[.int .u64 a0] rfl (by (try simp only [List.map_toArray, List.map_cons, List.map_nil]); first | done | rfl | (simp only [List.length_drop, List.length_take]; rfl)) ?_; (with_reducible refine (mezzanineref02_size.calls a0 t149 t150 _ A4.out).mono ?_); rintro e w' ⟨rfl, ⟨nd, rfl⟩⟩; refine ⟨_, rfl, ?_⟩) | ((with_reducible refine gate_callee (f := 50) rfl ?_); refine goesL_ (some 18) rfl rfl Try.func50 (by kernel_rfl) rfl #[.int .u64 a1] rfl (by (try simp only [List.map_toArray, List.map_cons, List.map_nil]); first | done | rfl | (simp only [List.length_drop, List.length_take]; rfl)) ?_; (with_reducible refine (mezzanineref02_size.calls a1 t151 t152 _ A5.out).mono ?_); rintro e w' ⟨rfl, ⟨nd, rfl⟩⟩; refine ⟨_, rfl, ?_⟩))
        go_ret
        exact ⟨by first | rfl | (simp; done) | (simp [*]; done), by repeat (first | exact Drawn0.refl _ | apply Drawn0.step)⟩
    · rw [if_neg c6] at H
      have c6b0 : (t150 != t152) = false := by simpa using c6
      (try (have c6b1 : decide (t150 = t152) = true := by simpa using c6))
      (try (have c6b2 : (t150 == t152) = true := by simpa using c6))
      clear c6
      by_cases c8 : t151 = 0
      · rw [if_pos c8] at H
        exact absurd H (by simp)
      · rw [if_neg c8] at H
        have c8b0 : (t151 == 0) = false := beq_eq_false_iff_ne.mpr c8
        have c8b1 : (t151 != 0) = true := bne_iff_ne.mpr c8
        obtain rfl := Option.some.inj H
        go_enter Try.func31, Try.ntmps31
        go_wp2_with (first | ((with_reducible refine gate_callee (f := 50) rfl ?_); refine goesL_ (some 13) rfl rfl Try.func50 (by kernel_rfl) rfl #[.int .u64 a0] rfl (by (try simp only [List.map_toArray, List.map_cons, List.map_nil]); first | done | rfl | (simp only [List.length_drop, List.length_take]; rfl)) ?_; (with_reducible refine (mezzanineref02_size.calls a0 t149 t150 _ A4.out).mono ?_); rintro e w' ⟨rfl, ⟨nd, rfl⟩⟩; refine ⟨_, rfl, ?_⟩) | ((with_reducible refine gate_callee (f := 50) rfl ?_); refine goesL_ (some 18) rfl rfl Try.func50 (by kernel_rfl) rfl #[.int .u64 a1] rfl (by (try simp only [List.map_toArray, List.map_cons, List.map_nil]); first | done | rfl | (simp only [List.length_drop, List.length_take]; rfl)) ?_; (with_reducible refine (mezzanineref02_size.calls a1 t151 t152 _ A5.out).mono ?_); rintro e w' ⟨rfl, ⟨nd, rfl⟩⟩; refine ⟨_, rfl, ?_⟩))
        go_ret
        exact ⟨by first | rfl | (simp; done) | (simp [*]; done), by repeat (first | exact Drawn0.refl _ | apply Drawn0.step)⟩

/-! ### mezzanineref02_Divu: function 32 -/
def mezzanineref02_Divu.f (a0 : Int) (a1 : Int) : Option (Int) := if a1 = 0 then (some 18446744073709551615) else (some (IntKind.u64.wrap (Int.tdiv a0 a1)))
set_option maxHeartbeats 8000000 in
set_option maxRecDepth 100000 in
theorem mezzanineref02_Divu.calls (a0 : Int) (a1 : Int) (r : Int) (w : World) (h : mezzanineref02_Divu.f a0 a1 = some r) :
    Calls Try.prog 32 #[.int .u64 a0, .int .u64 a1] w fun e w' => e = .returned (.int .u64 r) ∧ Drawn0 w w' := by
  have H : (if a1 = 0 then (some 18446744073709551615) else (some (IntKind.u64.wrap (Int.tdiv a0 a1)))) = some r := h
  clear h
  by_cases c3 : a1 = 0
  · rw [if_pos c3] at H
    have c3b0 : (a1 == 0) = true := beq_iff_eq.mpr c3
    have c3b1 : (a1 != 0) = false := bne_eq_false_iff_eq.mpr c3
    clear c3
    obtain rfl := Option.some.inj H
    go_enter Try.func32, Try.ntmps32
    go_wp2
    go_ret
    exact ⟨by first | rfl | (simp; done) | (simp [*]; done), by repeat (first | exact Drawn0.refl _ | apply Drawn0.step)⟩
  · rw [if_neg c3] at H
    have c3b0 : (a1 == 0) = false := beq_eq_false_iff_ne.mpr c3
    have c3b1 : (a1 != 0) = true := bne_iff_ne.mpr c3
    obtain rfl := Option.some.inj H
    go_enter Try.func32, Try.ntmps32
    go_wp2
    go_ret
    exact ⟨by first | rfl | (simp; done) | (simp [*]; done), by repeat (first | exact Drawn0.refl _ | apply Drawn0.step)⟩

/-! ### mezzanineref02_Rem: function 33 -/
def mezzanineref02_Rem.f (a0 : Int) (a1 : Int) : Option (Int) := if a1 = 0 then (some a0) else ((mezzanineref02_size.f a0).bind fun bt153 => ((mezzanineref02_size.f a1).bind fun bt155 => (if bt153.2 = true then (if bt155.1 = 0 then (none) else (some (IntKind.u64.wrap (-(Int.tmod bt153.1 bt155.1))))) else (if bt155.1 = 0 then (none) else (some (Int.tmod bt153.1 bt155.1))))))
set_option maxHeartbeats 8000000 in
set_option maxRecDepth 100000 in
theorem mezzanineref02_Rem.calls (a0 : Int) (a1 : Int) (r : Int) (w : World) (h : mezzanineref02_Rem.f a0 a1 = some r) :
    Calls Try.prog 33 #[.int .u64 a0, .int .u64 a1] w fun e w' => e = .returned (.int .u64 r) ∧ Drawn0 w w' := by
  have H : (if a1 = 0 then (some a0) else ((mezzanineref02_size.f a0).bind fun bt153 => ((mezzanineref02_size.f a1).bind fun bt155 => (if bt153.2 = true then (if bt155.1 = 0 then (none) else (some (IntKind.u64.wrap (-(Int.tmod bt153.1 bt155.1))))) else (if bt155.1 = 0 then (none) else (some (Int.tmod bt153.1 bt155.1))))))) = some r := h
  clear h
  by_cases c3 : a1 = 0
  · rw [if_pos c3] at H
    have c3b0 : (a1 == 0) = true := beq_iff_eq.mpr c3
    have c3b1 : (a1 != 0) = false := bne_eq_false_iff_eq.mpr c3
    clear c3
    obtain rfl := Option.some.inj H
    go_enter Try.func33, Try.ntmps33
    go_wp2
    go_ret
    exact ⟨by first | rfl | (simp; done) | (simp [*]; done), by repeat (first | exact Drawn0.refl _ | apply Drawn0.step)⟩
  · rw [if_neg c3] at H
    have c3b0 : (a1 == 0) = false := beq_eq_false_iff_ne.mpr c3
    have c3b1 : (a1 != 0) = true := bne_iff_ne.mpr c3
    replace H := Option.bind_eq_some_iff.mp H
    obtain ⟨⟨t153, t154⟩, A40, H⟩ := H
    replace H : ((mezzanineref02_size.f a1).bind fun bt155 => (if t154 = true then (if bt155.1 = 0 then (none) else (some (IntKind.u64.wrap (-(Int.tmod t153 bt155.1))))) else (if bt155.1 = 0 then (none) else (some (Int.tmod t153 bt155.1))))) = some r := H
    have A4 := Aside0.mk A40
    clear A40
    replace H := Option.bind_eq_some_iff.mp H
    obtain ⟨⟨t155, t156⟩, A50, H⟩ := H
    replace H : (if t154 = true then (if t155 = 0 then (none) else (some (IntKind.u64.wrap (-(Int.tmod t153 t155))))) else (if t155 = 0 then (none) else (some (Int.tmod t153 t155)))) = some r := H
    have A5 := Aside0.mk A50
    clear A50
    by_cases c6 : t154 = true
    · subst c6
      have H1 : (if t155 = 0 then (none) else (some (IntKind.u64.wrap (-(Int.tmod t153 t155))))) = some r := by rw [if_pos rfl] at H; exact H
      clear H
      have H := H1
      clear H1
      by_cases c7 : t155 = 0
      · rw [if_pos c7] at H
        exact absurd H (by simp)
      · rw [if_neg c7] at H
        have c7b0 : (t155 == 0) = false := beq_eq_false_iff_ne.mpr c7
        have c7b1 : (t155 != 0) = true := bne_iff_ne.mpr c7
        obtain rfl := Option.some.inj H
        go_enter Try.func33, Try.ntmps33
        go_wp2_with (first | ((with_reducible refine gate_callee (f := 50) rfl ?_); refine goesL_ (some 14) rfl rfl Try.func50 (by kernel_rfl) rfl #[.int .u64 a0] rfl (by (try simp only [List.map_toArray, List.map_cons, List.map_nil]); first | done | rfl | (simp only [List.length_drop, List.length_take]; rfl)) ?_; (with_reducible refine (mezzanineref02_size.calls a0 t153 true _ A4.out).mono ?_); rintro e w' ⟨rfl, ⟨nd, rfl⟩⟩; refine ⟨_, rfl, ?_⟩) | ((with_reducible refine gate_callee (f := 50) rfl ?_); refine goesL_ (some 19) rfl rfl Try.func50 (by kernel_rfl) rfl #[.int .u64 a1] rfl (by (try simp only [List.map_toArray, List.map_cons, List.map_nil]); first | done | rfl | (simp only [List.length_drop, List.length_take]; rfl)) ?_; (with_reducible refine (mezzanineref02_size.calls a1 t155 t156 _ A5.out).mono ?_); rintro e w' ⟨rfl, ⟨nd, rfl⟩⟩; refine ⟨_, rfl, ?_⟩))
        go_ret
        exact ⟨by first | rfl | (simp; done) | (simp [*]; done), by repeat (first | exact Drawn0.refl _ | apply Drawn0.step)⟩
    · replace c6 := Bool.eq_false_iff.mpr c6
      subst c6
      have H1 : (if t155 = 0 then (none) else (some (Int.tmod t153 t155))) = some r := by rw [if_neg (show ¬ (false = true) by decide)] at H; exact H
      clear H
      have H := H1
      clear H1
      by_cases c8 : t155 = 0
      · rw [if_pos c8] at H
        exact absurd H (by simp)
      · rw [if_neg c8] at H
        have c8b0 : (t155 == 0) = false := beq_eq_false_iff_ne.mpr c8
        have c8b1 : (t155 != 0) = true := bne_iff_ne.mpr c8
        obtain rfl := Option.some.inj H
        go_enter Try.func33, Try.ntmps33
        go_wp2_with (first | ((with_reducible refine gate_callee (f := 50) rfl ?_); refine goesL_ (some 14) rfl rfl Try.func50 (by kernel_rfl) rfl #[.int .u64 a0] rfl (by (try simp only [List.map_toArray, List.map_cons, List.map_nil]); first | done | rfl | (simp only [List.length_drop, List.length_take]; rfl)) ?_; (with_reducible refine (mezzanineref02_size.calls a0 t153 false _ A4.out).mono ?_); rintro e w' ⟨rfl, ⟨nd, rfl⟩⟩; refine ⟨_, rfl, ?_⟩) | ((with_reducible refine gate_callee (f := 50) rfl ?_); refine goesL_ (some 19) rfl rfl Try.func50 (by kernel_rfl) rfl #[.int .u64 a1] rfl (by (try simp only [List.map_toArray, List.map_cons, List.map_nil]); first | done | rfl | (simp only [List.length_drop, List.length_take]; rfl)) ?_; (with_reducible refine (mezzanineref02_size.calls a1 t155 t156 _ A5.out).mono ?_); rintro e w' ⟨rfl, ⟨nd, rfl⟩⟩; refine ⟨_, rfl, ?_⟩))
        go_ret
        exact ⟨by first | rfl | (simp; done) | (simp [*]; done), by repeat (first | exact Drawn0.refl _ | apply Drawn0.step)⟩

/-! ### mezzanineref02_Remu: function 34 -/
def mezzanineref02_Remu.f (a0 : Int) (a1 : Int) : Option (Int) := if a1 = 0 then (some a0) else (some (Int.tmod a0 a1))
set_option maxHeartbeats 8000000 in
set_option maxRecDepth 100000 in
theorem mezzanineref02_Remu.calls (a0 : Int) (a1 : Int) (r : Int) (w : World) (h : mezzanineref02_Remu.f a0 a1 = some r) :
    Calls Try.prog 34 #[.int .u64 a0, .int .u64 a1] w fun e w' => e = .returned (.int .u64 r) ∧ Drawn0 w w' := by
  have H : (if a1 = 0 then (some a0) else (some (Int.tmod a0 a1))) = some r := h
  clear h
  by_cases c3 : a1 = 0
  · rw [if_pos c3] at H
    have c3b0 : (a1 == 0) = true := beq_iff_eq.mpr c3
    have c3b1 : (a1 != 0) = false := bne_eq_false_iff_eq.mpr c3
    clear c3
    obtain rfl := Option.some.inj H
    go_enter Try.func34, Try.ntmps34
    go_wp2
    go_ret
    exact ⟨by first | rfl | (simp; done) | (simp [*]; done), by repeat (first | exact Drawn0.refl _ | apply Drawn0.step)⟩
  · rw [if_neg c3] at H
    have c3b0 : (a1 == 0) = false := beq_eq_false_iff_ne.mpr c3
    have c3b1 : (a1 != 0) = true := bne_iff_ne.mpr c3
    obtain rfl := Option.some.inj H
    go_enter Try.func34, Try.ntmps34
    go_wp2
    go_ret
    exact ⟨by first | rfl | (simp; done) | (simp [*]; done), by repeat (first | exact Drawn0.refl _ | apply Drawn0.step)⟩

/-! ### mezzanineref01_Join: by hand -/
section
open Go.Proofs.Ytbfdehkejohjhaa.Bv
set_option maxHeartbeats 4000000 in
set_option maxRecDepth 100000 in
theorem mezzanineref01_Join.callsW (x : BitVec 64) (w : World) : Calls Try.prog 71 #[.agg (wArr x)] w fun e w' => e = .returned (.int .u64 (U x)) ∧ Below w.heap.size w w' := by
  obtain ⟨c, hc⟩ : ∃ c, c = wArr x := ⟨_, rfl⟩
  have hcell : ∀ k, k < 64 → c[k]? = some (.bool (x.getLsbD k)) := fun k h => by rw [hc]; exact bArr_get _ k h
  rw [← hc]
  clear hc
  have HC := Lib.hid hcell
  clear hcell
  go_enter Try.func71, Try.ntmps71
  go_wp2
  go_loop [3, 4] (fun v3 v4 => ∃ k : Nat, k ≤ 64 ∧ v4 = .int .i64 ((k : Int) - 1) ∧ v3 = .int .u64 (U (x >>> k))) (fun _ v4 => (intOf v4 + 1).toNat)
  case atStart => exact ⟨64, by omega, rfl, by rw [show x >>> 64 = 0#64 from BitVec.eq_of_getLsbD_eq fun i hi => by rw [BitVec.getLsbD_ushiftRight, BitVec.getLsbD_of_ge _ _ (by omega)]; simp]; rfl⟩
  case round =>
    obtain ⟨k, hk, rfl, rfl⟩ := hrel
    by_cases hlt : k = 0
    · subst hlt
      go_wp2
      go_ret
      exact ⟨by simp, (Below.refl _ _).alloc (Nat.le_refl _) _⟩
    · obtain ⟨j, rfl⟩ : ∃ j, k = j + 1 := ⟨k - 1, by omega⟩
      have hg := HC.out j (by omega)
      have hj := join_step x j (by omega)
      have e1 : ((j + 1 : Nat) : Int) - 1 = (j : Int) := by omega
      rw [e1]
      have HJ := Lib.hid hj
      clear hj e1
      cases hb : x.getLsbD j
      · rw [hb] at hg
        have h2 := join_off x j hb
        clear hb
        go_wp2
        go_round
        case rel => exact ⟨j, by omega, rfl, by rw [HJ.out, h2]⟩
        case measure => first | (simp [intOf]; done) | (simp [intOf]; omega)
      · rw [hb] at hg
        have h2 := join_on x j hb
        clear hb
        go_wp2
        go_round
        case rel => exact ⟨j, by omega, rfl, by rw [HJ.out, join_one, h2]⟩
        case measure => first | (simp [intOf]; done) | (simp [intOf]; omega)
theorem mezzanineref01_Join.calls (b : Nat → Bool) (w : World) : Calls Try.prog 71 #[.agg (bArr b)] w fun e w' => e = .returned (.int .u64 (U (ofB b))) ∧ Below w.heap.size w w' := by
  rw [← wArr_ofB]; exact mezzanineref01_Join.callsW _ _
end

/-! ### mezzanineref01_Sext: by hand -/
section
open Go.Proofs.Ytbfdehkejohjhaa.Bv
def mezzanineref01_Sext.B (x : BitVec 64) (n : Int) : BitVec 64 := if n < 1 then 0#64 else ofB fun i => if n ≤ (i : Int) then bitOf x (n - 1).toNat else bitOf x i
def mezzanineref01_Sext.f (a0 : Int) (a1 : Int) : Option (Int) := if 0 ≤ a0 ∧ a0 < 18446744073709551616 ∧ -9223372036854775808 ≤ a1 ∧ a1 < 9223372036854775808 then some (U (mezzanineref01_Sext.B (BitVec.ofInt 64 a0) a1)) else none
set_option maxHeartbeats 4000000 in
set_option maxRecDepth 100000 in
theorem mezzanineref01_Sext.callsB (x : BitVec 64) (n : Int) (h0 : -9223372036854775808 ≤ n) (h1 : n < 9223372036854775808) (w : World) :
    Calls Try.prog 57 #[.int .u64 (U x), .int .i64 n] w fun e w' => e = .returned (.int .u64 (U (mezzanineref01_Sext.B x n))) ∧ Below w.heap.size w w' := by
  by_cases hn : n < 1
  · have e : mezzanineref01_Sext.B x n = 0#64 := by unfold mezzanineref01_Sext.B; rw [if_pos hn]
    rw [e]
    go_enter Try.func57, Try.ntmps57
    go_wp2
    go_ret
    exact ⟨rfl, Below.refl _ _⟩
  obtain ⟨m, rfl⟩ : ∃ m : Nat, n = (m : Int) + 1 := ⟨(n - 1).toNat, by omega⟩
  obtain ⟨hz, hi⟩ := zero_of_info mezzanineref01_Split.zero
  have HI := Lib.hid hi
  clear hi
  have e : mezzanineref01_Sext.B x ((m : Int) + 1) = ofB fun i => if m < i then bitOf x m else bitOf x i := by
    unfold mezzanineref01_Sext.B; rw [if_neg hn]; congr 1; funext i
    rw [show ((m : Int) + 1 - 1).toNat = m by omega]
    by_cases h : m < i
    · rw [if_pos h, if_pos (by omega)]
    · rw [if_neg h, if_neg (by omega)]
  rw [e]
  have hlt1 : ¬ ((m : Int) + 1 < 1) := by omega
  clear h0 h1 hn e
  go_enter Try.func57, Try.ntmps57
  go_wp2_with fail
  refine (mezzanineref01_Split.calls x _).mono ?_
  rintro e1 w1 ⟨rfl, hb1⟩
  go_wp2_with (refine wpList_store_row rfl 55 _ _ rfl w1.heap.size (wArr x) rfl rfl 55 (bArr fun _ => false) (heap_alloc_last _ _) (by rw [show (wArr x).size = 64 from bArr_size _]; exact HI.out) (by rw [bArr_size, show (wArr x).size = 64 from bArr_size _]) (bArr_one _) ?_)
  rw [blk_stored]
  have hW : (w1.alloc (.cells (wArr x) 55)).heap[w1.heap.size]? = some (.cells (bArr fun i => if m < i ∧ i < 0 then bitOf x m else bitOf x i) 55 (0, 0)) := by
    rw [heap_alloc_last]; simp [wArr]
  have hB : Below w.heap.size w (w1.alloc (.cells (wArr x) 55)) := hb1.alloc hb1.size _
  have hS := hb1.size
  generalize w1.alloc (.cells (wArr x) 55) = W0 at hW hB ⊢
  generalize w1.heap.size = g at hW hS ⊢
  clear hb1
  go_loopw [6] (fun v6 wr => ∃ k : Nat, k ≤ 64 ∧ v6 = .int .i64 k ∧ wr.heap[g]? = some (.cells (bArr fun i => if m < i ∧ i < k then bitOf x m else bitOf x i) 55 (0, 0)) ∧ Below w.heap.size w wr) (fun v6 _ => 64 - (intOf v6).toNat)
  case atStart => exact ⟨0, by omega, rfl, hW, hB⟩
  case round =>
    clear hW hB
    obtain ⟨k, hk, rfl, hW, hB⟩ := hrel
    by_cases hlt : k < 64
    · by_cases hm : m < k
      · have c1 := blk_cell (k := m) hW (bArr_get _ m (by omega))
        have c2 := blk_cell (k := k) hW (bArr_get _ k hlt)
        have f2 := blk_free (k := k) hW
        rw [if_neg (by omega)] at c1 c2
        have hW2 := blk_set (k := k) (bitOf x m) hW
        have hB2 := hB.setCell (p := ⟨g, k, none⟩) hS (.bool (bitOf x m))
        have d1 : decide ((m : Int) + 1 ≤ (k : Int)) = true := by simp; omega
        have HW2 := Lib.hid hW2
        have HB2 := Lib.hid hB2
        clear hW hB hW2 hB2
        go_wp2
        go_roundw
        case rel =>
          refine ⟨k + 1, by omega, by go_num, ?_, HB2.out⟩
          rw [HW2.out]; congr 2; apply bArr_congr; intro i hi
          by_cases h : i = k
          · subst h; rw [if_pos rfl, if_pos (by omega)]
          · rw [if_neg h]
            by_cases h2 : m < i ∧ i < k
            · rw [if_pos h2, if_pos (by omega)]
            · rw [if_neg h2, if_neg (by omega)]
        case measure => first | (simp [intOf]; done) | (simp [intOf]; omega)
      · have d1 : decide ((m : Int) + 1 ≤ (k : Int)) = false := by simp; omega
        have HW2 := Lib.hid hW
        have HB2 := Lib.hid hB
        clear hW hB
        go_wp2
        go_roundw
        case rel =>
          refine ⟨k + 1, by omega, by go_num, ?_, HB2.out⟩
          rw [HW2.out]; congr 2; apply bArr_congr; intro i hi
          rw [if_neg (by omega), if_neg (by omega)]
        case measure => first | (simp [intOf]; done) | (simp [intOf]; omega)
    · obtain rfl : k = 64 := by omega
      have HB2 := Lib.hid hB
      clear hB
      have ec : (bArr fun i => if m < i ∧ i < 64 then bitOf x m else bitOf x i) = bArr fun i => if m < i then bitOf x m else bitOf x i := by
        apply bArr_congr; intro i hi
        by_cases h : m < i
        · rw [if_pos h, if_pos ⟨h, hi⟩]
        · rw [if_neg h, if_neg (by omega)]
      rw [ec] at hW
      clear ec
      have HW2 := Lib.hid hW
      clear hW
      go_wp2_with (refine wpList_load_row rfl 55 _ rfl g rfl 55 _ (0, 0) _ HW2.out Try.underlying55 rfl (by rw [bArr_size]; exact HI.out) ?_)
      refine (mezzanineref01_Join.calls _ _).mono ?_
      rintro e3 w3 ⟨rfl, hb3⟩
      go_wp2
      go_ret
      exact ⟨rfl, below_then HB2.out (below_size HB2.out) hb3⟩
theorem mezzanineref01_Sext.calls (a0 : Int) (a1 : Int) (r : Int) (w : World) (h : mezzanineref01_Sext.f a0 a1 = some r) :
    Calls Try.prog 57 #[.int .u64 a0, .int .i64 a1] w fun e w' => e = .returned (.int .u64 r) ∧ Below w.heap.size w w' := by
  unfold mezzanineref01_Sext.f at h
  split at h
  · rename_i hc
    obtain rfl := Option.some.inj h
    have := mezzanineref01_Sext.callsB (BitVec.ofInt 64 a0) a1 hc.2.2.1 hc.2.2.2 w
    rw [U_ofInt hc.1 hc.2.1] at this
    exact this
  · exact absurd h (by simp)
end

/-! ### mezzanineref02_drawn: function 51 -/
def mezzanineref02_drawn.f (a0 : Int) : Option (Int) := (mezzanineref01_Sext.f a0 32).bind fun t157 => (some t157)
set_option maxHeartbeats 8000000 in
set_option maxRecDepth 100000 in
theorem mezzanineref02_drawn.calls (a0 : Int) (r : Int) (w : World) (h : mezzanineref02_drawn.f a0 = some r) :
    Calls Try.prog 51 #[.int .u64 a0] w fun e w' => e = .returned (.int .u64 r) ∧ Below w.heap.size w w' := by
  have HB := Aside0.mk (Below.refl w.heap.size w)
  have H : ((mezzanineref01_Sext.f a0 32).bind fun t157 => (some t157)) = some r := h
  clear h
  replace H := Option.bind_eq_some_iff.mp H
  obtain ⟨t157, A20, H⟩ := H
  replace H : (some t157) = some r := H
  have A2 := Aside0.mk A20
  clear A20
  obtain rfl := Option.some.inj H
  go_enter Try.func51, Try.ntmps51
  go_wp2_with (first | ((with_reducible refine gate_callee (f := 57) rfl ?_); refine goesL_ (some 4) rfl rfl Try.func57 (by kernel_rfl) rfl #[.int .u64 a0, .int .i64 32] rfl (by (try simp only [List.map_toArray, List.map_cons, List.map_nil]); first | done | rfl | (simp only [List.length_drop, List.length_take]; rfl)) ?_; (with_reducible refine (mezzanineref01_Sext.calls a0 32 t157 _ A2.out).mono ?_); rintro e w3 ⟨rfl, hb⟩; refine ⟨_, rfl, ?_⟩; have n0_ := Aside0.mk (below_step (by repeat (first | (with_reducible first | exact HB.out | apply below_alloc | apply pw_below_drewN | apply below_drew1) | exact HB.out)) hb); clear HB; have HB := n0_; clear n0_; (try clear hb); (try clear hb2); (try clear hk); (try clear hi)))
  go_ret
  exact ⟨by first | rfl | (simp [errW_none, errW_some] <;> rfl) | (simp [*, errW_none, errW_some] <;> rfl), by repeat (first | (with_reducible first | exact HB.out | apply below_alloc | apply pw_below_drewN | apply below_drew1) | exact HB.out)⟩

/-! ### mezzanineref02_low: function 52 -/
def mezzanineref02_low.f (a0 : Int) : Option (Int) := some (Int.tmod a0 4294967296)
set_option maxHeartbeats 8000000 in
set_option maxRecDepth 100000 in
theorem mezzanineref02_low.calls (a0 : Int) (r : Int) (w : World) (h : mezzanineref02_low.f a0 = some r) :
    Calls Try.prog 52 #[.int .u64 a0] w fun e w' => e = .returned (.int .u64 r) ∧ Drawn0 w w' := by
  have H : (some (Int.tmod a0 4294967296)) = some r := h
  clear h
  obtain rfl := Option.some.inj H
  go_enter Try.func52, Try.ntmps52
  go_wp2
  go_ret
  exact ⟨by first | rfl | (simp; done) | (simp [*]; done), by repeat (first | exact Drawn0.refl _ | apply Drawn0.step)⟩

end Go.Proofs.Ytbfdehkejohjhaa.Q
