/- Where the Lean function of a Go function gives a value, the Go call returns that value and changes nothing that was there: for every input. (By a program of this session, and by hand.) -/
import Derived.Test.YthdgkafcgaohiaaQx0
import Derived.Test.YthdgkafcgaohiaaQx1
import Derived.Test.YthdgkafcgaohiaaQx2
namespace Go.Proofs.Ythdgkafcgaohiaa.Q
open Go.RowKit Go.Proofs.YthdgkafcgaohiaaW.PrintWords Go.Proofs.YthdgkafcgaohiaaW.PrintLast Go.Proofs.YthdgkafcgaohiaaW.PrintMore
attribute [local go_sem] max2_int min2_int max_two min_two max_three min_three max_four min_four   -- for this text's walks alone
set_option linter.unusedVariables false
set_option linter.unusedSimpArgs false

/-! ### mezzaninelaw04_ClintTicks: by hand -/
section
set_option maxHeartbeats 16000000 in
set_option maxRecDepth 100000 in
theorem mezzaninelaw04_ClintTicks.callsB (start cmp n m : Int) (k : Nat) (e1 : clint_Clint_Write.f k 0 18446744073709551615 0 49144 8 start = some (true, 0, 18446744073709551615, start)) (e2 : clint_Clint_Write.f k 0 18446744073709551615 start 16384 8 cmp = some (true, 0, cmp, start)) (e3 : IntKind.u64.wrap (start + IntKind.u64.wrap (n + m)) = (IntKind.u64.wrap ((IntKind.u64.wrap (start + n)) + m))) (e4 : (IntKind.u64.wrap (start + n)) ≥ cmp → ¬ ((IntKind.u64.wrap (start + n)) > IntKind.u64.wrap (18446744073709551615 - m)) → (IntKind.u64.wrap ((IntKind.u64.wrap (start + n)) + m)) ≥ cmp) (w : World) :
    Calls Try.prog 4 #[.int .u64 start, .int .u64 cmp, .int .u64 n, .int .u64 m] w fun e w' => e = .returned (.bool true) ∧ Below w.heap.size w w' := by
  have E1 := Lib.hid e1
  have E2 := Lib.hid e2
  have E3 := Lib.hid e3
  have E4 := Lib.hid e4
  clear e1 e2 e3 e4
  have hu29 := Try.underlying29
  have hu27 := Try.underlying27
  go_enter Try.func4, Try.ntmps4
  go_wp2_with fail
  refine (mezzaninelaw04_awake.calls true _ rfl).mono ?_
  rintro e1 w2 ⟨rfl, hb3⟩
  have hB4 := Lib.hid (hb3)
  clear hb3
  go_wp2_with fail
  refine (clint_New.calls 0 18446744073709551615 0 _ rfl).mono ?_
  rintro e5 w6 ⟨rfl, hb7⟩
  have hB8 := Lib.hid (below_step hB4.out hb7)
  clear hb7 hB4
  go_wp2_with fail
  have ha := Lib.hid (IsS29.new w w6 0 18446744073709551615 0 hB8.out)
  have hB9 := Lib.hid (Below.alloc hB8.out (Below.size hB8.out) (.cells #[.int .u32 0, .int .u64 18446744073709551615, .int .u64 0] 29))
  clear hB8
  generalize w6.alloc (.cells #[.int .u32 0, .int .u64 18446744073709551615, .int .u64 0] 29) = w10 at ha hB9 ⊢
  generalize w6.heap.size = ga at ha ⊢
  have ca_0 := cellS29_0 ha.out.1; have fa_0 := blk_frozen ha.out.1 0
  have ca_1 := cellS29_1 ha.out.1; have fa_1 := blk_frozen ha.out.1 1
  have ca_2 := cellS29_2 ha.out.1; have fa_2 := blk_frozen ha.out.1 2
  refine (clint_Clint_Write.calls k ga 0 18446744073709551615 0 49144 8 start true 0 18446744073709551615 start w _ ha.out hB9.out E1.out).mono ?_
  rintro e11 w12 ⟨rfl, hi15, hB13, hK14⟩
  try clear ca_0 fa_0 ca_1 fa_1 ca_2 fa_2
  replace ha := Lib.hid hi15
  clear hi15 hK14
  clear hB9
  replace hB13 := Lib.hid hB13
  have ca_0 := cellS29_0 ha.out.1; have fa_0 := blk_frozen ha.out.1 0
  have ca_1 := cellS29_1 ha.out.1; have fa_1 := blk_frozen ha.out.1 1
  have ca_2 := cellS29_2 ha.out.1; have fa_2 := blk_frozen ha.out.1 2
  go_wp2_with fail
  refine (clint_Clint_Write.calls k ga 0 18446744073709551615 start 16384 8 cmp true 0 cmp start w _ ha.out hB13.out E2.out).mono ?_
  rintro e16 w17 ⟨rfl, hi20, hB18, hK19⟩
  try clear ca_0 fa_0 ca_1 fa_1 ca_2 fa_2
  replace ha := Lib.hid hi20
  clear hi20 hK19
  clear hB13
  replace hB18 := Lib.hid hB18
  have ca_0 := cellS29_0 ha.out.1; have fa_0 := blk_frozen ha.out.1 0
  have ca_1 := cellS29_1 ha.out.1; have fa_1 := blk_frozen ha.out.1 1
  have ca_2 := cellS29_2 ha.out.1; have fa_2 := blk_frozen ha.out.1 2
  go_wp2_with fail
  try clear ca_0 fa_0 ca_1 fa_1 ca_2 fa_2
  have hb := Lib.hid (IsS29.new w w17 0 cmp start hB18.out)
  have hB21 := Lib.hid (Below.alloc hB18.out (Below.size hB18.out) (.cells #[.int .u32 0, .int .u64 cmp, .int .u64 start] 29))
  have nab := Lib.hid (Nat.ne_of_lt ha.out.lt)
  replace ha := Lib.hid (IsS29.alloc ha.out (.cells #[.int .u32 0, .int .u64 cmp, .int .u64 start] 29))
  clear hB18
  generalize w17.alloc (.cells #[.int .u32 0, .int .u64 cmp, .int .u64 start] 29) = w22 at hb hB21 ha ⊢
  generalize w17.heap.size = gb at hb nab ⊢
  have ca_0 := cellS29_0 ha.out.1; have fa_0 := blk_frozen ha.out.1 0
  have ca_1 := cellS29_1 ha.out.1; have fa_1 := blk_frozen ha.out.1 1
  have ca_2 := cellS29_2 ha.out.1; have fa_2 := blk_frozen ha.out.1 2
  have cb_0 := cellS29_0 hb.out.1; have fb_0 := blk_frozen hb.out.1 0
  have cb_1 := cellS29_1 hb.out.1; have fb_1 := blk_frozen hb.out.1 1
  have cb_2 := cellS29_2 hb.out.1; have fb_2 := blk_frozen hb.out.1 2
  refine (clint_Clint_Tick.calls  ga 0 cmp start n  0 cmp (IntKind.u64.wrap (start + n)) w _ ha.out hB21.out rfl).mono ?_
  rintro e23 w24 ⟨rfl, hi27, hB25, hK26⟩
  try clear ca_0 fa_0 ca_1 fa_1 ca_2 fa_2 cb_0 fb_0 cb_1 fb_1 cb_2 fb_2
  replace hb := Lib.hid (⟨hK26.blk hb.out.1 (Ne.symm nab.out) (by simp), hb.out.2⟩ : IsS29 w w24 gb 0 cmp start)
  replace ha := Lib.hid hi27
  clear hi27 hK26
  clear hB21
  replace hB25 := Lib.hid hB25
  have ca_0 := cellS29_0 ha.out.1; have fa_0 := blk_frozen ha.out.1 0
  have ca_1 := cellS29_1 ha.out.1; have fa_1 := blk_frozen ha.out.1 1
  have ca_2 := cellS29_2 ha.out.1; have fa_2 := blk_frozen ha.out.1 2
  have cb_0 := cellS29_0 hb.out.1; have fb_0 := blk_frozen hb.out.1 0
  have cb_1 := cellS29_1 hb.out.1; have fb_1 := blk_frozen hb.out.1 1
  have cb_2 := cellS29_2 hb.out.1; have fb_2 := blk_frozen hb.out.1 2
  go_wp2_with fail
  refine (clint_times_Mtip.calls cmp (IntKind.u64.wrap (start + n)) (decide ((IntKind.u64.wrap (start + n)) ≥ cmp)) _ rfl).mono ?_
  rintro e28 w29 ⟨rfl, hb30⟩
  try clear ca_0 fa_0 ca_1 fa_1 ca_2 fa_2 cb_0 fb_0 cb_1 fb_1 cb_2 fb_2
  have hB31 := Lib.hid (below_step hB25.out hb30)
  replace ha := Lib.hid (IsS29.below ha.out hb30)
  replace hb := Lib.hid (IsS29.below hb.out hb30)
  clear hb30 hB25
  have ca_0 := cellS29_0 ha.out.1; have fa_0 := blk_frozen ha.out.1 0
  have ca_1 := cellS29_1 ha.out.1; have fa_1 := blk_frozen ha.out.1 1
  have ca_2 := cellS29_2 ha.out.1; have fa_2 := blk_frozen ha.out.1 2
  have cb_0 := cellS29_0 hb.out.1; have fb_0 := blk_frozen hb.out.1 0
  have cb_1 := cellS29_1 hb.out.1; have fb_1 := blk_frozen hb.out.1 1
  have cb_2 := cellS29_2 hb.out.1; have fb_2 := blk_frozen hb.out.1 2
  go_wp2_with fail
  refine (clint_times_Time.calls cmp (IntKind.u64.wrap (start + n)) (IntKind.u64.wrap (start + n)) _ rfl).mono ?_
  rintro e32 w33 ⟨rfl, hb34⟩
  try clear ca_0 fa_0 ca_1 fa_1 ca_2 fa_2 cb_0 fb_0 cb_1 fb_1 cb_2 fb_2
  have hB35 := Lib.hid (below_step hB31.out hb34)
  replace ha := Lib.hid (IsS29.below ha.out hb34)
  replace hb := Lib.hid (IsS29.below hb.out hb34)
  clear hb34 hB31
  have ca_0 := cellS29_0 ha.out.1; have fa_0 := blk_frozen ha.out.1 0
  have ca_1 := cellS29_1 ha.out.1; have fa_1 := blk_frozen ha.out.1 1
  have ca_2 := cellS29_2 ha.out.1; have fa_2 := blk_frozen ha.out.1 2
  have cb_0 := cellS29_0 hb.out.1; have fb_0 := blk_frozen hb.out.1 0
  have cb_1 := cellS29_1 hb.out.1; have fb_1 := blk_frozen hb.out.1 1
  have cb_2 := cellS29_2 hb.out.1; have fb_2 := blk_frozen hb.out.1 2
  go_wp2_with fail
  refine (clint_Clint_Tick.calls  ga 0 cmp (IntKind.u64.wrap (start + n)) m  0 cmp (IntKind.u64.wrap ((IntKind.u64.wrap (start + n)) + m)) w _ ha.out hB35.out rfl).mono ?_
  rintro e36 w37 ⟨rfl, hi40, hB38, hK39⟩
  try clear ca_0 fa_0 ca_1 fa_1 ca_2 fa_2 cb_0 fb_0 cb_1 fb_1 cb_2 fb_2
  replace hb := Lib.hid (⟨hK39.blk hb.out.1 (Ne.symm nab.out) (by simp), hb.out.2⟩ : IsS29 w w37 gb 0 cmp start)
  replace ha := Lib.hid hi40
  clear hi40 hK39
  clear hB35
  replace hB38 := Lib.hid hB38
  have ca_0 := cellS29_0 ha.out.1; have fa_0 := blk_frozen ha.out.1 0
  have ca_1 := cellS29_1 ha.out.1; have fa_1 := blk_frozen ha.out.1 1
  have ca_2 := cellS29_2 ha.out.1; have fa_2 := blk_frozen ha.out.1 2
  have cb_0 := cellS29_0 hb.out.1; have fb_0 := blk_frozen hb.out.1 0
  have cb_1 := cellS29_1 hb.out.1; have fb_1 := blk_frozen hb.out.1 1
  have cb_2 := cellS29_2 hb.out.1; have fb_2 := blk_frozen hb.out.1 2
  go_wp2_with fail
  refine (clint_Clint_Tick.calls  gb 0 cmp start (IntKind.u64.wrap (n + m))  0 cmp (IntKind.u64.wrap ((IntKind.u64.wrap (start + n)) + m)) w _ hb.out hB38.out (by rw [← E3.out]; rfl)).mono ?_
  rintro e41 w42 ⟨rfl, hi45, hB43, hK44⟩
  try clear ca_0 fa_0 ca_1 fa_1 ca_2 fa_2 cb_0 fb_0 cb_1 fb_1 cb_2 fb_2
  replace ha := Lib.hid (⟨hK44.blk ha.out.1 nab.out (by simp), ha.out.2⟩ : IsS29 w w42 ga 0 cmp (IntKind.u64.wrap ((IntKind.u64.wrap (start + n)) + m)))
  replace hb := Lib.hid hi45
  clear hi45 hK44
  clear hB38
  replace hB43 := Lib.hid hB43
  have ca_0 := cellS29_0 ha.out.1; have fa_0 := blk_frozen ha.out.1 0
  have ca_1 := cellS29_1 ha.out.1; have fa_1 := blk_frozen ha.out.1 1
  have ca_2 := cellS29_2 ha.out.1; have fa_2 := blk_frozen ha.out.1 2
  have cb_0 := cellS29_0 hb.out.1; have fb_0 := blk_frozen hb.out.1 0
  have cb_1 := cellS29_1 hb.out.1; have fb_1 := blk_frozen hb.out.1 1
  have cb_2 := cellS29_2 hb.out.1; have fb_2 := blk_frozen hb.out.1 2
  have d3 : ((IntKind.u64.wrap ((IntKind.u64.wrap (start + n)) + m)) != IntKind.u64.wrap (IntKind.u64.wrap (start + n) + m)) = false := bne_self_eq_false _
  go_wp2_with fail
  refine (clint_times_Time.calls cmp (IntKind.u64.wrap ((IntKind.u64.wrap (start + n)) + m)) (IntKind.u64.wrap ((IntKind.u64.wrap (start + n)) + m)) _ rfl).mono ?_
  rintro e46 w47 ⟨rfl, hb48⟩
  try clear ca_0 fa_0 ca_1 fa_1 ca_2 fa_2 cb_0 fb_0 cb_1 fb_1 cb_2 fb_2
  have hB49 := Lib.hid (below_step hB43.out hb48)
  replace ha := Lib.hid (IsS29.below ha.out hb48)
  replace hb := Lib.hid (IsS29.below hb.out hb48)
  clear hb48 hB43
  have ca_0 := cellS29_0 ha.out.1; have fa_0 := blk_frozen ha.out.1 0
  have ca_1 := cellS29_1 ha.out.1; have fa_1 := blk_frozen ha.out.1 1
  have ca_2 := cellS29_2 ha.out.1; have fa_2 := blk_frozen ha.out.1 2
  have cb_0 := cellS29_0 hb.out.1; have fb_0 := blk_frozen hb.out.1 0
  have cb_1 := cellS29_1 hb.out.1; have fb_1 := blk_frozen hb.out.1 1
  have cb_2 := cellS29_2 hb.out.1; have fb_2 := blk_frozen hb.out.1 2
  by_cases hc : (IntKind.u64.wrap (start + n)) ≥ cmp
  · have d0 := decide_eq_true hc
    by_cases hm : (IntKind.u64.wrap (start + n)) > IntKind.u64.wrap (18446744073709551615 - m)
    · have d1 := decide_eq_true hm
      clear hc hm
      go_wp2
      go_ret
      exact ⟨rfl, hB49.out⟩
    · have d1 := decide_eq_false hm
      have d2 := Lib.hid (E4.out hc (by omega))
      clear hc hm
      go_wp2_with fail
      refine (clint_times_Mtip.calls cmp (IntKind.u64.wrap ((IntKind.u64.wrap (start + n)) + m)) true _ (congrArg some (decide_eq_true d2.out))).mono ?_
      rintro e50 w51 ⟨rfl, hb52⟩
      try clear ca_0 fa_0 ca_1 fa_1 ca_2 fa_2 cb_0 fb_0 cb_1 fb_1 cb_2 fb_2
      have hB53 := Lib.hid (below_step hB49.out hb52)
      replace ha := Lib.hid (IsS29.below ha.out hb52)
      replace hb := Lib.hid (IsS29.below hb.out hb52)
      clear hb52 hB49
      have ca_0 := cellS29_0 ha.out.1; have fa_0 := blk_frozen ha.out.1 0
      have ca_1 := cellS29_1 ha.out.1; have fa_1 := blk_frozen ha.out.1 1
      have ca_2 := cellS29_2 ha.out.1; have fa_2 := blk_frozen ha.out.1 2
      have cb_0 := cellS29_0 hb.out.1; have fb_0 := blk_frozen hb.out.1 0
      have cb_1 := cellS29_1 hb.out.1; have fb_1 := blk_frozen hb.out.1 1
      have cb_2 := cellS29_2 hb.out.1; have fb_2 := blk_frozen hb.out.1 2
      go_wp2
      go_ret
      exact ⟨rfl, hB53.out⟩
  · have d0 := decide_eq_false hc
    clear hc
    go_wp2
    go_ret
    exact ⟨rfl, hB49.out⟩
def mezzaninelaw04_ClintTicks.Pure : Prop := ∀ (start cmp n m : Int), (Lit.int .u64 start).wf = true → (Lit.int .u64 cmp).wf = true → (Lit.int .u64 n).wf = true → (Lit.int .u64 m).wf = true →
  ∃ k : Nat, clint_Clint_Write.f k 0 18446744073709551615 0 49144 8 start = some (true, 0, 18446744073709551615, start) ∧ clint_Clint_Write.f k 0 18446744073709551615 start 16384 8 cmp = some (true, 0, cmp, start) ∧ IntKind.u64.wrap (start + IntKind.u64.wrap (n + m)) = (IntKind.u64.wrap ((IntKind.u64.wrap (start + n)) + m)) ∧ ((IntKind.u64.wrap (start + n)) ≥ cmp → ¬ ((IntKind.u64.wrap (start + n)) > IntKind.u64.wrap (18446744073709551615 - m)) → (IntKind.u64.wrap ((IntKind.u64.wrap (start + n)) + m)) ≥ cmp)
theorem mezzaninelaw04_ClintTicks.walk (P : mezzaninelaw04_ClintTicks.Pure) (a0 a1 a2 a3 : Int) (w : World) (w0 : (Lit.int .u64 a0).wf = true) (w1 : (Lit.int .u64 a1).wf = true) (w2 : (Lit.int .u64 a2).wf = true) (w3 : (Lit.int .u64 a3).wf = true) :
    Calls Try.prog 4 #[.int .u64 a0, .int .u64 a1, .int .u64 a2, .int .u64 a3] w fun e w' => e = .returned (.bool true) ∧ Below w.heap.size w w' := by
  obtain ⟨k, e1, e2, e3, e4⟩ := P a0 a1 a2 a3 w0 w1 w2 w3
  exact mezzaninelaw04_ClintTicks.callsB a0 a1 a2 a3 k e1 e2 e3 e4 w
end

/-! ### bits_Field: function 28 -/
def bits_Field.f (a0 : Int) (a1 : Int) (a2 : Int) : Option (Int) := (bits_width.f a1 a2).bind fun t113 => (if t113 = 0 then (some 0) else (if 0 ≤ a1 then ((bits_Mask.f t113).bind fun t114 => (some (Go.bits .and .u64 (shr .u64 a0 a1) t114))) else (none)))
set_option maxHeartbeats 8000000 in
set_option maxRecDepth 100000 in
theorem bits_Field.calls (a0 : Int) (a1 : Int) (a2 : Int) (r : Int) (w : World) (h : bits_Field.f a0 a1 a2 = some r) :
    Calls Try.prog 28 #[.int .u64 a0, .int .i64 a1, .int .i64 a2] w fun e w' => e = .returned (.int .u64 r) ∧ Below w.heap.size w w' := by
  have HB := Aside0.mk (Below.refl w.heap.size w)
  have H : ((bits_width.f a1 a2).bind fun t113 => (if t113 = 0 then (some 0) else (if 0 ≤ a1 then ((bits_Mask.f t113).bind fun t114 => (some (Go.bits .and .u64 (shr .u64 a0 a1) t114))) else (none)))) = some r := h
  clear h
  replace H := Option.bind_eq_some_iff.mp H
  obtain ⟨t113, A40, H⟩ := H
  replace H : (if t113 = 0 then (some 0) else (if 0 ≤ a1 then ((bits_Mask.f t113).bind fun t114 => (some (Go.bits .and .u64 (shr .u64 a0 a1) t114))) else (none))) = some r := H
  have A4 := Aside0.mk A40
  clear A40
  by_cases c5 : t113 = 0
  · rw [if_pos c5] at H
    have c5b0 : (t113 == 0) = true := beq_iff_eq.mpr c5
    have c5b1 : (t113 != 0) = false := bne_eq_false_iff_eq.mpr c5
    clear c5
    obtain rfl := Option.some.inj H
    go_enter Try.func28, Try.ntmps28
    go_wp2_with (first | (go_at_call 29; (with_reducible refine (bits_width.calls a1 a2 t113 _ A4.out).mono ?_); rintro e w6 ⟨rfl, hb⟩; have n0_ := Aside0.mk (below_step (by repeat (first | (with_reducible first | exact HB.out | apply below_alloc | apply pw_below_drewN | apply below_drew1) | exact HB.out)) hb); clear HB; have HB := n0_; clear n0_; (try clear hb); (try clear hb2); (try clear hk); (try clear hi)))
    repeat (go_quiet (first | (go_at_call 29; (with_reducible refine (bits_width.calls a1 a2 t113 _ A4.out).mono ?_); rintro e w6 ⟨rfl, hb⟩; have n0_ := Aside0.mk (below_step (by repeat (first | (with_reducible first | exact HB.out | apply below_alloc | apply pw_below_drewN | apply below_drew1) | exact HB.out)) hb); clear HB; have HB := n0_; clear n0_; (try clear hb); (try clear hb2); (try clear hk); (try clear hi))); try go_wp2_with (first | (go_at_call 29; (with_reducible refine (bits_width.calls a1 a2 t113 _ A4.out).mono ?_); rintro e w6 ⟨rfl, hb⟩; have n0_ := Aside0.mk (below_step (by repeat (first | (with_reducible first | exact HB.out | apply below_alloc | apply pw_below_drewN | apply below_drew1) | exact HB.out)) hb); clear HB; have HB := n0_; clear n0_; (try clear hb); (try clear hb2); (try clear hk); (try clear hi))))
    go_ret
    exact ⟨by first | rfl | (simp [errW_none, errW_some] <;> rfl) | (simp [*, errW_none, errW_some] <;> rfl), by repeat (first | (with_reducible first | exact HB.out | apply below_alloc | apply pw_below_drewN | apply below_drew1) | exact HB.out)⟩
  · rw [if_neg c5] at H
    have c5b0 : (t113 == 0) = false := beq_eq_false_iff_ne.mpr c5
    have c5b1 : (t113 != 0) = true := bne_iff_ne.mpr c5
    by_cases c7 : 0 ≤ a1
    · rw [if_pos c7] at H
      have c7b0 := eq_true c7
      have c7b1 : decide (0 ≤ a1) = true := decide_eq_true c7
      clear c7
      obtain ⟨ji8, hji8⟩ : ∃ j_ : Int, (shr .u64 a0 a1) = j_ := ⟨_, rfl⟩
      replace H : ((bits_Mask.f t113).bind fun t114 => (some (Go.bits .and .u64 (ji8) t114))) = some r := by first | (rw [hji8] at H; exact H) | (simp only [hji8] at H ⊢; exact H)
      (try rw [hji8] at A4)
      have hji8_ : (a0 / 2 ^ min a1.toNat 64) = ji8 := hji8
      have hji8z : a1 ≤ 64 → (a0 / 2 ^ a1.toNat) = ji8 := shr_small hji8
      replace H := Option.bind_eq_some_iff.mp H
      obtain ⟨t114, A90, H⟩ := H
      replace H : (some (Go.bits .and .u64 (ji8) t114)) = some r := H
      have A9 := Aside0.mk A90
      clear A90
      obtain rfl := Option.some.inj H
      go_enter Try.func28, Try.ntmps28
      go_wp2_with (first | (go_at_call 29; (with_reducible refine (bits_width.calls a1 a2 t113 _ A4.out).mono ?_); rintro e w10 ⟨rfl, hb⟩; have n0_ := Aside0.mk (below_step (by repeat (first | (with_reducible first | exact HB.out | apply below_alloc | apply pw_below_drewN | apply below_drew1) | exact HB.out)) hb); clear HB; have HB := n0_; clear n0_; (try clear hb); (try clear hb2); (try clear hk); (try clear hi)) | (go_at_call 30; (with_reducible refine (bits_Mask.calls t113 t114 _ A9.out).mono ?_); rintro e w' ⟨rfl, ⟨nd, rfl⟩⟩; (try first | exact ⟨rfl, _, World.drewN_drewN _ _ _⟩ | exact ⟨rfl, _, Eq.trans (World.drewN_drewN _ _ _) (congrArg (World.drewN _) (Nat.add_assoc _ _ _))⟩)))
      repeat (go_quiet (first | (go_at_call 29; (with_reducible refine (bits_width.calls a1 a2 t113 _ A4.out).mono ?_); rintro e w10 ⟨rfl, hb⟩; have n0_ := Aside0.mk (below_step (by repeat (first | (with_reducible first | exact HB.out | apply below_alloc | apply pw_below_drewN | apply below_drew1) | exact HB.out)) hb); clear HB; have HB := n0_; clear n0_; (try clear hb); (try clear hb2); (try clear hk); (try clear hi)) | (go_at_call 30; (with_reducible refine (bits_Mask.calls t113 t114 _ A9.out).mono ?_); rintro e w' ⟨rfl, ⟨nd, rfl⟩⟩; (try first | exact ⟨rfl, _, World.drewN_drewN _ _ _⟩ | exact ⟨rfl, _, Eq.trans (World.drewN_drewN _ _ _) (congrArg (World.drewN _) (Nat.add_assoc _ _ _))⟩))); try go_wp2_with (first | (go_at_call 29; (with_reducible refine (bits_width.calls a1 a2 t113 _ A4.out).mono ?_); rintro e w10 ⟨rfl, hb⟩; have n0_ := Aside0.mk (below_step (by repeat (first | (with_reducible first | exact HB.out | apply below_alloc | apply pw_below_drewN | apply below_drew1) | exact HB.out)) hb); clear HB; have HB := n0_; clear n0_; (try clear hb); (try clear hb2); (try clear hk); (try clear hi)) | (go_at_call 30; (with_reducible refine (bits_Mask.calls t113 t114 _ A9.out).mono ?_); rintro e w' ⟨rfl, ⟨nd, rfl⟩⟩; (try first | exact ⟨rfl, _, World.drewN_drewN _ _ _⟩ | exact ⟨rfl, _, Eq.trans (World.drewN_drewN _ _ _) (congrArg (World.drewN _) (Nat.add_assoc _ _ _))⟩))))
      go_ret
      exact ⟨by first | rfl | (simp [errW_none, errW_some] <;> rfl) | (simp only [← hji8]; first | rfl | (simp [errW_none, errW_some] <;> rfl)) | (simp [*, errW_none, errW_some] <;> rfl), by repeat (first | (with_reducible first | exact HB.out | apply below_alloc | apply pw_below_drewN | apply below_drew1) | exact HB.out)⟩
    · rw [if_neg c7] at H
      exact absurd H (by simp)

/-! ### clint_Clint_Read: by hand -/
section
/-- What Read's closure tells. -/
def clint_Clint_Read.get (s c n at_ : Int) : Int := if at_ = 16384 then c else if at_ = 49144 then n else IntKind.u64.wrap s
def clint_Clint_Read.f (k : Nat) (s c n off nn : Int) : Option (Int × Bool) :=
  (clint_place.f k off nn).bind fun p => if p.2.2 = true then (bits_Field.f (clint_Clint_Read.get s c n p.1) p.2.1 (wrap64 (8 * nn))).bind fun x => some (x, true) else some (0, false)
theorem clint_word.calls (s c n : Int) (w : World) :
    Calls Try.prog 26 #[.agg #[.int .u32 s, .int .u64 c, .int .u64 n]] w fun e w' => e = .returned (.int .u64 (IntKind.u64.wrap s)) ∧ Below w.heap.size w w' := by
  have hu29 := Try.underlying29
  have hu27 := Try.underlying27
  go_enter Try.func26, Try.ntmps26
  go_wp2
  go_ret
  exact ⟨rfl, by repeat (first | exact Below.refl _ _ | apply pw_below_drewN | apply below_alloc)⟩
theorem clint_limit.calls (s c n : Int) (w : World) :
    Calls Try.prog 27 #[.agg #[.int .u32 s, .int .u64 c, .int .u64 n]] w fun e w' => e = .returned (.int .u64 c) ∧ Below w.heap.size w w' := by
  have hu29 := Try.underlying29
  have hu27 := Try.underlying27
  go_enter Try.func27, Try.ntmps27
  go_wp2
  go_ret
  exact ⟨rfl, by repeat (first | exact Below.refl _ _ | apply pw_below_drewN | apply below_alloc)⟩
set_option maxHeartbeats 16000000 in
set_option maxRecDepth 100000 in
theorem clint_Clint_Read.calls (k : Nat) (s c n off nn : Int) (r1 : Int) (r2 : Bool) (w : World) (h : clint_Clint_Read.f k s c n off nn = some (r1, r2)) :
    Calls Try.prog 17 #[.agg #[.int .u32 s, .int .u64 c, .int .u64 n], .int .u64 off, .int .i64 nn] w fun e w' => e = .returned (.tuple #[.int .u64 r1, .bool r2]) ∧ Below w.heap.size w w' := by
  unfold clint_Clint_Read.f at h
  obtain ⟨⟨p1, p2, p3⟩, hp, h⟩ := Option.bind_eq_some_iff.mp h
  have HP := Lib.hid hp
  clear hp
  have hu29 := Try.underlying29
  have hu27 := Try.underlying27
  cases p3 with
  | false =>
    simp only [Bool.false_eq_true, if_false, Option.some.injEq, Prod.mk.injEq] at h
    obtain ⟨rfl, rfl⟩ := h
    go_enter Try.func17, Try.ntmps17
    go_wp2_with fail
    refine (clint_place.calls k off nn p1 p2 false _ HP.out).mono ?_
    rintro e1 w1 ⟨rfl, ⟨nd, rfl⟩⟩
    go_wp2
    go_ret2
    exact ⟨rfl, by repeat (first | exact Below.refl _ _ | apply pw_below_drewN | apply below_alloc)⟩
  | true =>
    simp only [if_true] at h
    obtain ⟨x, hx, h⟩ := Option.bind_eq_some_iff.mp h
    simp only [Option.some.injEq, Prod.mk.injEq] at h
    obtain ⟨rfl, rfl⟩ := h
    unfold clint_Clint_Read.get at hx
    by_cases c1 : p1 = 16384
    · rw [if_pos c1] at hx
      have d1 : (p1 == 16384) = true := beq_iff_eq.mpr c1
      clear c1
      have HX := Lib.hid hx
      clear hx
      go_enter Try.func17, Try.ntmps17
      go_wp2_with fail
      refine (clint_place.calls k off nn p1 p2 true _ HP.out).mono ?_
      rintro e1 w1 ⟨rfl, ⟨nd, rfl⟩⟩
      go_wp2_with fail
      refine (clint_limit.calls s c n _).mono ?_
      rintro e2 w2 ⟨rfl, hb2⟩
      have HB := Lib.hid (below_step (by repeat (first | exact Below.refl _ _ | apply pw_below_drewN | apply below_alloc)) hb2 : Below w.heap.size w w2)
      clear hb2
      go_wp2_with fail
      refine (bits_Field.calls _ _ _ _ _ HX.out).mono ?_
      rintro e3 w3 ⟨rfl, hb3⟩
      go_wp2
      go_ret2
      exact ⟨rfl, below_step HB.out hb3⟩
    · rw [if_neg c1] at hx
      have d1 : (p1 == 16384) = false := beq_eq_false_iff_ne.mpr c1
      clear c1
      by_cases c2 : p1 = 49144
      · rw [if_pos c2] at hx
        have d2 : (p1 == 49144) = true := beq_iff_eq.mpr c2
        clear c2
        have HX := Lib.hid hx
        clear hx
        go_enter Try.func17, Try.ntmps17
        go_wp2_with fail
        refine (clint_place.calls k off nn p1 p2 true _ HP.out).mono ?_
        rintro e1 w1 ⟨rfl, ⟨nd, rfl⟩⟩
        go_wp2_with fail
        refine (clint_times_Time.calls c n n _ rfl).mono ?_
        rintro e2 w2 ⟨rfl, hb2⟩
        have HB := Lib.hid (below_step (by repeat (first | exact Below.refl _ _ | apply pw_below_drewN | apply below_alloc)) hb2 : Below w.heap.size w w2)
        clear hb2
        go_wp2_with fail
        refine (bits_Field.calls _ _ _ _ _ HX.out).mono ?_
        rintro e3 w3 ⟨rfl, hb3⟩
        go_wp2
        go_ret2
        exact ⟨rfl, below_step HB.out hb3⟩
      · rw [if_neg c2] at hx
        have d2 : (p1 == 49144) = false := beq_eq_false_iff_ne.mpr c2
        clear c2
        have HX := Lib.hid hx
        clear hx
        go_enter Try.func17, Try.ntmps17
        go_wp2_with fail
        refine (clint_place.calls k off nn p1 p2 true _ HP.out).mono ?_
        rintro e1 w1 ⟨rfl, ⟨nd, rfl⟩⟩
        go_wp2_with fail
        refine (clint_word.calls s c n _).mono ?_
        rintro e2 w2 ⟨rfl, hb2⟩
        have HB := Lib.hid (below_step (by repeat (first | exact Below.refl _ _ | apply pw_below_drewN | apply below_alloc)) hb2 : Below w.heap.size w w2)
        clear hb2
        go_wp2_with fail
        refine (bits_Field.calls _ _ _ _ _ HX.out).mono ?_
        rintro e3 w3 ⟨rfl, hb3⟩
        go_wp2
        go_ret2
        exact ⟨rfl, below_step HB.out hb3⟩
end

end Go.Proofs.Ythdgkafcgaohiaa.Q
