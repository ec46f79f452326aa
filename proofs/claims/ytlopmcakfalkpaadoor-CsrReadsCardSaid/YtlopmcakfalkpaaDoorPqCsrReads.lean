/- What a register says is the document's. (By a program of this session.) -/
import Derived.Test.YtlopmcakfalkpaaDoorCSame
import Derived.Test.YtlopmcakfalkpaaDoorHrow
import Derived.Test.YtlopmcakfalkpaaDoorCWakes
import Derived.Test.YtlopmcakfalkpaaDoorCRRead
set_option linter.unusedSimpArgs false
set_option linter.unusedVariables false
namespace Go.Proofs.YtlopmcakfalkpaaDoor.Hx
open Go.RowKit Go.Proofs.YtlopmcakfalkpaaDoor.Q Go.Proofs.YtlopmcakfalkpaaDoorW.PrintWords Go.Proofs.YtlopmcakfalkpaaDoorW.PrintLast Go.Proofs.YtlopmcakfalkpaaDoorW.PrintMore Go.Proofs.YtlopmcakfalkpaaDoor.Rg

open Go.Proofs.YtlopmcakfalkpaaDoor.Bv
theorem pend_E (h : Ht) (la lb lc ld : Bool) (lg lt : Int) (a b : BitVec 64) (e42 : h.x 42 = U a) (e61 : h.x 61 = U b) : pendV h la lb lc ld lg lt = U ((a ||| b) ||| pl la lb lc ld (pendB h la lb lc ld lg lt 4) (pendB h la lb lc ld lg lt 5)) := by
  unfold pendV
  rw [e42, e61, or_u64, ofInt_U, ofInt_U]
  generalize (a ||| b) = x
  generalize hB : pendB h la lb lc ld lg lt = B
  have z0 : B 0 = la := by rw [← hB]; rfl
  have z1 : B 1 = lb := by rw [← hB]; rfl
  have z2 : B 2 = lc := by rw [← hB]; rfl
  have z3 : B 3 = ld := by rw [← hB]; rfl
  have h0 : pendTo (U x) B 0 = U x := rfl
  have h1 : pendTo (U x) B 1 = U (x ||| (if B 0 = true then 8#64 else 0#64)) := by
    show (if B 0 = true then Go.bits .or .u64 (pendTo (U x) B 0) 8 else pendTo (U x) B 0) = _
    rw [h0]; exact stp _ _ 8 8#64 rfl
  have h2 : pendTo (U x) B 2 = U ((x ||| (if B 0 = true then 8#64 else 0#64)) ||| (if B 1 = true then 128#64 else 0#64)) := by
    show (if B 1 = true then Go.bits .or .u64 (pendTo (U x) B 1) 128 else pendTo (U x) B 1) = _
    rw [h1]; exact stp _ _ 128 128#64 rfl
  have h3 : pendTo (U x) B 3 = U (((x ||| (if B 0 = true then 8#64 else 0#64)) ||| (if B 1 = true then 128#64 else 0#64)) ||| (if B 2 = true then 2048#64 else 0#64)) := by
    show (if B 2 = true then Go.bits .or .u64 (pendTo (U x) B 2) 2048 else pendTo (U x) B 2) = _
    rw [h2]; exact stp _ _ 2048 2048#64 rfl
  have h4 : pendTo (U x) B 4 = U ((((x ||| (if B 0 = true then 8#64 else 0#64)) ||| (if B 1 = true then 128#64 else 0#64)) ||| (if B 2 = true then 2048#64 else 0#64)) ||| (if B 3 = true then 512#64 else 0#64)) := by
    show (if B 3 = true then Go.bits .or .u64 (pendTo (U x) B 3) 512 else pendTo (U x) B 3) = _
    rw [h3]; exact stp _ _ 512 512#64 rfl
  have h5 : pendTo (U x) B 5 = U (((((x ||| (if B 0 = true then 8#64 else 0#64)) ||| (if B 1 = true then 128#64 else 0#64)) ||| (if B 2 = true then 2048#64 else 0#64)) ||| (if B 3 = true then 512#64 else 0#64)) ||| (if B 4 = true then 1024#64 else 0#64)) := by
    show (if B 4 = true then Go.bits .or .u64 (pendTo (U x) B 4) 1024 else pendTo (U x) B 4) = _
    rw [h4]; exact stp _ _ 1024 1024#64 rfl
  have h6 : pendTo (U x) B 6 = U ((((((x ||| (if B 0 = true then 8#64 else 0#64)) ||| (if B 1 = true then 128#64 else 0#64)) ||| (if B 2 = true then 2048#64 else 0#64)) ||| (if B 3 = true then 512#64 else 0#64)) ||| (if B 4 = true then 1024#64 else 0#64)) ||| (if B 5 = true then 4096#64 else 0#64)) := by
    show (if B 5 = true then Go.bits .or .u64 (pendTo (U x) B 5) 4096 else pendTo (U x) B 5) = _
    rw [h5]; exact stp _ _ 4096 4096#64 rfl
  rw [h6, z0, z1, z2, z3]
  congr 1
  unfold pl
  simp only [BitVec.or_assoc, BitVec.zero_or]

theorem on_9 (x : BitVec 64) : (Go.bits .and .u64 (shr .u64 (U x) 9) 1 == 1) = x.getLsbD 9 := by
  rw [shr_u64, show ((9 : Int)).toNat = 9 from rfl, and_c]
  have e : (x >>> 9) &&& BitVec.ofInt 64 1 = if x.getLsbD 9 = true then 1#64 else 0#64 := by
    show (x >>> 9) &&& 1#64 = _
    apply BitVec.eq_of_getLsbD_eq; intro i hi
    rw [BitVec.getLsbD_and, BitVec.getLsbD_ushiftRight, BitVec.getLsbD_one]
    by_cases h : i = 0
    · subst h; cases x.getLsbD 9 <;> simp
    · cases x.getLsbD 9 <;> simp [BitVec.getLsbD_one, h] <;> omega
  rw [e]
  cases x.getLsbD 9 <;> rfl
theorem pl_no : ∀ b0 b1 b2 b3 b4 b5 : Bool, pl b0 b1 b2 b3 b4 b5 &&& ~~~ 512#64 = pl b0 b1 b2 false b4 b5 := by decide
theorem bit512 (i : Nat) (hi : i < 64) (h : i ≠ 9) : (512#64).getLsbD i = false := by
  have e : (512#64) = 1#64 <<< 9 := by decide
  rw [e, BitVec.getLsbD_shiftLeft, BitVec.getLsbD_one]
  by_cases h2 : i < 9
  · simp [h2]
  · simp [h2]; omega
theorem seip (a b p q : BitVec 64) (hp : p &&& ~~~ 512#64 = q) (c : Bool) (hc : c = (a.getLsbD 9 || b.getLsbD 9)) : (if c = true then (((a ||| b) ||| p) &&& ~~~ 512#64) ||| 512#64 else ((a ||| b) ||| p) &&& ~~~ 512#64) = (a ||| b) ||| q := by
  subst hp
  apply BitVec.eq_of_getLsbD_eq; intro i hi
  by_cases h : i = 9
  · subst h
    have e : (512#64).getLsbD 9 = true := by decide
    cases hA : a.getLsbD 9 <;> cases hB : b.getLsbD 9 <;> rw [hA, hB] at hc <;> subst hc <;> simp only [Bool.or_self, Bool.or_true, Bool.true_or, Bool.or_false, Bool.false_eq_true, if_true, if_false, BitVec.getLsbD_or, BitVec.getLsbD_and, BitVec.getLsbD_not, hA, hB, e, hi, decide_true, Bool.not_true, Bool.and_false, Bool.true_and]
  · have e := bit512 i hi h
    cases c <;> simp only [Bool.false_eq_true, if_true, if_false, BitVec.getLsbD_or, BitVec.getLsbD_and, BitVec.getLsbD_not, e, hi, decide_true, Bool.not_false, Bool.and_true, Bool.or_false, Bool.true_and]
theorem rbase_eq (h : Ht) (hw : h.wf) (la lb lc ld : Bool) (lg lt : Int) : (if (if (Go.bits .and .u64 (shr .u64 (h.x 42) 9) 1 == 1) = true then true else (Go.bits .and .u64 (shr .u64 (h.x 61) 9) 1 == 1)) = true then Go.bits .or .u64 (Go.bits .andNot .u64 (pendV h la lb lc ld lg lt) 512) 512 else Go.bits .andNot .u64 (pendV h la lb lc ld lg lt) 512) = pendV h la lb lc false lg lt := by
  obtain ⟨a, e42⟩ := U_of (hw.1 42).1 (hw.1 42).2
  obtain ⟨b, e61⟩ := U_of (hw.1 61).1 (hw.1 61).2
  rw [pend_E h la lb lc ld lg lt a b e42 e61, pend_E h la lb lc false lg lt a b e42 e61, e42, e61, on_9, on_9, andNot_u64, ofInt_U, or_u64, ofInt_U]
  have k4 : pendB h la lb lc false lg lt 4 = pendB h la lb lc ld lg lt 4 := rfl
  have k5 : pendB h la lb lc false lg lt 5 = pendB h la lb lc ld lg lt 5 := rfl
  rw [k4, k5]
  have := seip a b _ _ (pl_no la lb lc ld (pendB h la lb lc ld lg lt 4) (pendB h la lb lc ld lg lt 5)) (if a.getLsbD 9 = true then true else b.getLsbD 9) (by cases a.getLsbD 9 <;> rfl)
  rw [← this]
  cases a.getLsbD 9 <;> cases b.getLsbD 9 <;> rfl
set_option maxHeartbeats 16000000 in
set_option maxRecDepth 100000 in
theorem rbase_c (h : Ht) (hw : h.wf) (la lb lc ld : Bool) (lg lt : Int) (hg : 0 ≤ lg ∧ lg < 18446744073709551616) (no : Int) (w : World) : Calls Tryd.prog 16 #[.agg h.cs, .agg #[.bool la, .bool lb, .bool lc, .bool ld, .int .u64 lg, .int .u64 lt], .int .i64 no] w fun e w' => e = .returned (.int .u64 (baseV h la lb lc ld lg lt no)) ∧ Below w.heap.size w w' := by
  have HR := Lib.hid (rread_c h hw la lb lc ld lg lt hg no)
  unfold baseV
  by_cases h_836 : no = 836
  · subst h_836
    rw [if_pos rfl]
    have hz := rbase_eq h hw la lb lc ld lg lt
    rw [show readV h la lb lc false lg lt 836 = pendV h la lb lc false lg lt from (by cases hv : h.v <;> (unfold readV; rw [hv]; rfl))]
    generalize pendV h la lb lc false lg lt = z at hz ⊢
    have hr := HR.out
    rw [show readV h la lb lc ld lg lt 836 = pendV h la lb lc ld lg lt from (by cases hv : h.v <;> (unfold readV; rw [hv]; rfl))] at hr
    clear HR
    generalize pendV h la lb lc ld lg lt = pv at hz hr
    have HR := Lib.hid hr; clear hr
    have hb1 := fun w => mezzanineref12_bit.calls (h.x 42) 9 _ w (bitf (h.x 42) 9 (by decide))
    have hb2 := fun w => mezzanineref12_bit.calls (h.x 61) 9 _ w (bitf (h.x 61) 9 (by decide))
    generalize (Go.bits .and .u64 (shr .u64 (h.x 42) 9) 1 == 1) = b1 at hb1 hz
    generalize (Go.bits .and .u64 (shr .u64 (h.x 61) 9) 1 == 1) = b2 at hb2 hz
    have HB1 := Lib.hid hb1; have HB2 := Lib.hid hb2; have HZ := Lib.hid hz
    clear hb1 hb2 hz hw hg
    cases b1
    · cases b2
      · skip
        have hu25 := Tryd.underlying25; have hu27 := Tryd.underlying27
        go_enter Tryd.func16, Tryd.ntmps16
        go_upto_region 1 with (first | ((with_reducible refine gate_dst (N := 3) rfl ?_); refine box_event ?hg (N := 3) ?hd (cs := h.cs) (t := 25) ?hr ?_; (case hd => rfl); (case hg => rfl); (case hr => first | (go_simp; done) | (go_simp; rfl)); intro ga hg w_1 H1 hb; have hB_2 := Lib.hid (below_step (Below.refl w.heap.size w) hb); have G_ga := Lib.hid (show w.heap.size ≤ ga by rw [hg]; exact ((Below.refl w.heap.size w)).size); have K_ga := Lib.hid (show Hb w_1 ga h from H1); clear hg hb H1) | ((with_reducible refine gate_dst (N := 4) rfl ?_); refine box_event ?hg (N := 4) ?hd (cs := #[.bool la, .bool lb, .bool lc, .bool ld, .int .u64 lg, .int .u64 lt]) (t := 27) ?hr ?_; (case hd => rfl); (case hg => rfl); (case hr => first | (go_simp; done) | (go_simp; rfl)); intro gt hg w_3 H1 hb; have hB_4 := Lib.hid (below_step hB_2.out hb); have G_gt := Lib.hid (show w.heap.size ≤ gt by rw [hg]; exact (hB_2.out).size); have N_ga_gt := Lib.hid (show ga ≠ gt by rw [hg]; exact Nat.ne_of_lt (K_ga.out.lt)); replace K_ga := Lib.hid (K_ga.out.below hb); have K_gt := Lib.hid (show w_3.heap[gt]? = some (.cells #[.bool la, .bool lb, .bool lc, .bool ld, .int .u64 lg, .int .u64 lt] 27 (0, 0)) from H1); clear hg hb H1 hB_2; clear hu25 hu27))
        go_wp2_with (first | ((with_reducible refine gate_dst (N := 8) rfl ?_); (first | (refine gate_guard (by kernel_rfl) ?_) | skip); refine Kd.event_run rfl (v := .agg (h).cs) (w1 := w_3) ?hb ?_; (case hb => exact exec_load_hart rfl rfl K_ga.out)) | ((with_reducible refine gate_dst (N := 9) rfl ?_); (first | (refine gate_guard (by kernel_rfl) ?_) | skip); refine Kd.event_run rfl (v := .agg #[.bool la, .bool lb, .bool lc, .bool ld, .int .u64 lg, .int .u64 lt]) (w1 := w_3) ?hb ?_; (case hb => exact exec_load_blk rfl rfl K_gt.out Tryd.underlying27 rfl (by kernel_rfl))))
        refine (HR.out _).mono ?_
        rintro e_5 w_6 ⟨rfl, hb⟩
        have hB_7 := Lib.hid (below_step hB_4.out hb)
        replace K_ga := Lib.hid (K_ga.out.below hb)
        replace K_gt := Lib.hid (blk_below K_gt.out hb)
        clear hb hB_4
        have c_ga_42 := K_ga.out.u 42 rfl; have f_ga_42 := K_ga.out.fr 42
        have c_ga_61 := K_ga.out.u 61 rfl; have f_ga_61 := K_ga.out.fr 61
        go_wp2_with fail
        refine (HB1.out _).mono ?_
        rintro e3 w3 ⟨rfl, n_, e3⟩
        clear c_ga_42 f_ga_42 c_ga_61 f_ga_61
        replace K_ga := Lib.hid (Hb.of e3.symm (K_ga.out.drewN n_))
        replace K_gt := Lib.hid (show w3.heap[gt]? = some (.cells #[.bool la, .bool lb, .bool lc, .bool ld, .int .u64 lg, .int .u64 lt] 27 (0, 0)) from by rw [e3]; exact blk_drewN K_gt.out n_)
        have hB_8 := Lib.hid (Below_of e3.symm (pw_below_drewN hB_7.out n_))
        clear e3 hB_7
        have c_ga_61 := K_ga.out.u 61 rfl; have f_ga_61 := K_ga.out.fr 61
        go_wp2_with fail
        refine (HB2.out _).mono ?_
        rintro e4 w4 ⟨rfl, n_, e4⟩
        clear c_ga_61 f_ga_61
        replace K_ga := Lib.hid (Hb.of e4.symm (K_ga.out.drewN n_))
        replace K_gt := Lib.hid (show w4.heap[gt]? = some (.cells #[.bool la, .bool lb, .bool lc, .bool ld, .int .u64 lg, .int .u64 lt] 27 (0, 0)) from by rw [e4]; exact blk_drewN K_gt.out n_)
        have hB_9 := Lib.hid (Below_of e4.symm (pw_below_drewN hB_8.out n_))
        clear e4 hB_8
        go_wp2
        go_ret
        exact ⟨by rw [← HZ.out]; first | done | rfl, hB_9.out⟩
      · skip
        have hu25 := Tryd.underlying25; have hu27 := Tryd.underlying27
        go_enter Tryd.func16, Tryd.ntmps16
        go_upto_region 1 with (first | ((with_reducible refine gate_dst (N := 3) rfl ?_); refine box_event ?hg (N := 3) ?hd (cs := h.cs) (t := 25) ?hr ?_; (case hd => rfl); (case hg => rfl); (case hr => first | (go_simp; done) | (go_simp; rfl)); intro ga hg w_1 H1 hb; have hB_2 := Lib.hid (below_step (Below.refl w.heap.size w) hb); have G_ga := Lib.hid (show w.heap.size ≤ ga by rw [hg]; exact ((Below.refl w.heap.size w)).size); have K_ga := Lib.hid (show Hb w_1 ga h from H1); clear hg hb H1) | ((with_reducible refine gate_dst (N := 4) rfl ?_); refine box_event ?hg (N := 4) ?hd (cs := #[.bool la, .bool lb, .bool lc, .bool ld, .int .u64 lg, .int .u64 lt]) (t := 27) ?hr ?_; (case hd => rfl); (case hg => rfl); (case hr => first | (go_simp; done) | (go_simp; rfl)); intro gt hg w_3 H1 hb; have hB_4 := Lib.hid (below_step hB_2.out hb); have G_gt := Lib.hid (show w.heap.size ≤ gt by rw [hg]; exact (hB_2.out).size); have N_ga_gt := Lib.hid (show ga ≠ gt by rw [hg]; exact Nat.ne_of_lt (K_ga.out.lt)); replace K_ga := Lib.hid (K_ga.out.below hb); have K_gt := Lib.hid (show w_3.heap[gt]? = some (.cells #[.bool la, .bool lb, .bool lc, .bool ld, .int .u64 lg, .int .u64 lt] 27 (0, 0)) from H1); clear hg hb H1 hB_2; clear hu25 hu27))
        go_wp2_with (first | ((with_reducible refine gate_dst (N := 8) rfl ?_); (first | (refine gate_guard (by kernel_rfl) ?_) | skip); refine Kd.event_run rfl (v := .agg (h).cs) (w1 := w_3) ?hb ?_; (case hb => exact exec_load_hart rfl rfl K_ga.out)) | ((with_reducible refine gate_dst (N := 9) rfl ?_); (first | (refine gate_guard (by kernel_rfl) ?_) | skip); refine Kd.event_run rfl (v := .agg #[.bool la, .bool lb, .bool lc, .bool ld, .int .u64 lg, .int .u64 lt]) (w1 := w_3) ?hb ?_; (case hb => exact exec_load_blk rfl rfl K_gt.out Tryd.underlying27 rfl (by kernel_rfl))))
        refine (HR.out _).mono ?_
        rintro e_5 w_6 ⟨rfl, hb⟩
        have hB_7 := Lib.hid (below_step hB_4.out hb)
        replace K_ga := Lib.hid (K_ga.out.below hb)
        replace K_gt := Lib.hid (blk_below K_gt.out hb)
        clear hb hB_4
        have c_ga_42 := K_ga.out.u 42 rfl; have f_ga_42 := K_ga.out.fr 42
        have c_ga_61 := K_ga.out.u 61 rfl; have f_ga_61 := K_ga.out.fr 61
        go_wp2_with fail
        refine (HB1.out _).mono ?_
        rintro e3 w3 ⟨rfl, n_, e3⟩
        clear c_ga_42 f_ga_42 c_ga_61 f_ga_61
        replace K_ga := Lib.hid (Hb.of e3.symm (K_ga.out.drewN n_))
        replace K_gt := Lib.hid (show w3.heap[gt]? = some (.cells #[.bool la, .bool lb, .bool lc, .bool ld, .int .u64 lg, .int .u64 lt] 27 (0, 0)) from by rw [e3]; exact blk_drewN K_gt.out n_)
        have hB_8 := Lib.hid (Below_of e3.symm (pw_below_drewN hB_7.out n_))
        clear e3 hB_7
        have c_ga_61 := K_ga.out.u 61 rfl; have f_ga_61 := K_ga.out.fr 61
        go_wp2_with fail
        refine (HB2.out _).mono ?_
        rintro e4 w4 ⟨rfl, n_, e4⟩
        clear c_ga_61 f_ga_61
        replace K_ga := Lib.hid (Hb.of e4.symm (K_ga.out.drewN n_))
        replace K_gt := Lib.hid (show w4.heap[gt]? = some (.cells #[.bool la, .bool lb, .bool lc, .bool ld, .int .u64 lg, .int .u64 lt] 27 (0, 0)) from by rw [e4]; exact blk_drewN K_gt.out n_)
        have hB_9 := Lib.hid (Below_of e4.symm (pw_below_drewN hB_8.out n_))
        clear e4 hB_8
        go_wp2
        go_ret
        exact ⟨by rw [← HZ.out]; first | done | rfl, hB_9.out⟩
    · skip
      have hu25 := Tryd.underlying25; have hu27 := Tryd.underlying27
      go_enter Tryd.func16, Tryd.ntmps16
      go_upto_region 1 with (first | ((with_reducible refine gate_dst (N := 3) rfl ?_); refine box_event ?hg (N := 3) ?hd (cs := h.cs) (t := 25) ?hr ?_; (case hd => rfl); (case hg => rfl); (case hr => first | (go_simp; done) | (go_simp; rfl)); intro ga hg w_1 H1 hb; have hB_2 := Lib.hid (below_step (Below.refl w.heap.size w) hb); have G_ga := Lib.hid (show w.heap.size ≤ ga by rw [hg]; exact ((Below.refl w.heap.size w)).size); have K_ga := Lib.hid (show Hb w_1 ga h from H1); clear hg hb H1) | ((with_reducible refine gate_dst (N := 4) rfl ?_); refine box_event ?hg (N := 4) ?hd (cs := #[.bool la, .bool lb, .bool lc, .bool ld, .int .u64 lg, .int .u64 lt]) (t := 27) ?hr ?_; (case hd => rfl); (case hg => rfl); (case hr => first | (go_simp; done) | (go_simp; rfl)); intro gt hg w_3 H1 hb; have hB_4 := Lib.hid (below_step hB_2.out hb); have G_gt := Lib.hid (show w.heap.size ≤ gt by rw [hg]; exact (hB_2.out).size); have N_ga_gt := Lib.hid (show ga ≠ gt by rw [hg]; exact Nat.ne_of_lt (K_ga.out.lt)); replace K_ga := Lib.hid (K_ga.out.below hb); have K_gt := Lib.hid (show w_3.heap[gt]? = some (.cells #[.bool la, .bool lb, .bool lc, .bool ld, .int .u64 lg, .int .u64 lt] 27 (0, 0)) from H1); clear hg hb H1 hB_2; clear hu25 hu27))
      go_wp2_with (first | ((with_reducible refine gate_dst (N := 8) rfl ?_); (first | (refine gate_guard (by kernel_rfl) ?_) | skip); refine Kd.event_run rfl (v := .agg (h).cs) (w1 := w_3) ?hb ?_; (case hb => exact exec_load_hart rfl rfl K_ga.out)) | ((with_reducible refine gate_dst (N := 9) rfl ?_); (first | (refine gate_guard (by kernel_rfl) ?_) | skip); refine Kd.event_run rfl (v := .agg #[.bool la, .bool lb, .bool lc, .bool ld, .int .u64 lg, .int .u64 lt]) (w1 := w_3) ?hb ?_; (case hb => exact exec_load_blk rfl rfl K_gt.out Tryd.underlying27 rfl (by kernel_rfl))))
      refine (HR.out _).mono ?_
      rintro e_5 w_6 ⟨rfl, hb⟩
      have hB_7 := Lib.hid (below_step hB_4.out hb)
      replace K_ga := Lib.hid (K_ga.out.below hb)
      replace K_gt := Lib.hid (blk_below K_gt.out hb)
      clear hb hB_4
      have c_ga_42 := K_ga.out.u 42 rfl; have f_ga_42 := K_ga.out.fr 42
      have c_ga_61 := K_ga.out.u 61 rfl; have f_ga_61 := K_ga.out.fr 61
      go_wp2_with fail
      refine (HB1.out _).mono ?_
      rintro e3 w3 ⟨rfl, n_, e3⟩
      clear c_ga_42 f_ga_42 c_ga_61 f_ga_61
      replace K_ga := Lib.hid (Hb.of e3.symm (K_ga.out.drewN n_))
      replace K_gt := Lib.hid (show w3.heap[gt]? = some (.cells #[.bool la, .bool lb, .bool lc, .bool ld, .int .u64 lg, .int .u64 lt] 27 (0, 0)) from by rw [e3]; exact blk_drewN K_gt.out n_)
      have hB_8 := Lib.hid (Below_of e3.symm (pw_below_drewN hB_7.out n_))
      clear e3 hB_7
      go_wp2
      go_ret
      exact ⟨by rw [← HZ.out]; first | done | rfl, hB_8.out⟩
  · rw [if_neg h_836]
    have e_836 : (no == 836) = false := beq_eq_false_iff_ne.2 h_836
    clear h_836 hw hg
    have hu25 := Tryd.underlying25; have hu27 := Tryd.underlying27
    go_enter Tryd.func16, Tryd.ntmps16
    go_upto_region 1 with (first | ((with_reducible refine gate_dst (N := 3) rfl ?_); refine box_event ?hg (N := 3) ?hd (cs := h.cs) (t := 25) ?hr ?_; (case hd => rfl); (case hg => rfl); (case hr => first | (go_simp; done) | (go_simp; rfl)); intro ga hg w_1 H1 hb; have hB_2 := Lib.hid (below_step (Below.refl w.heap.size w) hb); have G_ga := Lib.hid (show w.heap.size ≤ ga by rw [hg]; exact ((Below.refl w.heap.size w)).size); have K_ga := Lib.hid (show Hb w_1 ga h from H1); clear hg hb H1) | ((with_reducible refine gate_dst (N := 4) rfl ?_); refine box_event ?hg (N := 4) ?hd (cs := #[.bool la, .bool lb, .bool lc, .bool ld, .int .u64 lg, .int .u64 lt]) (t := 27) ?hr ?_; (case hd => rfl); (case hg => rfl); (case hr => first | (go_simp; done) | (go_simp; rfl)); intro gt hg w_3 H1 hb; have hB_4 := Lib.hid (below_step hB_2.out hb); have G_gt := Lib.hid (show w.heap.size ≤ gt by rw [hg]; exact (hB_2.out).size); have N_ga_gt := Lib.hid (show ga ≠ gt by rw [hg]; exact Nat.ne_of_lt (K_ga.out.lt)); replace K_ga := Lib.hid (K_ga.out.below hb); have K_gt := Lib.hid (show w_3.heap[gt]? = some (.cells #[.bool la, .bool lb, .bool lc, .bool ld, .int .u64 lg, .int .u64 lt] 27 (0, 0)) from H1); clear hg hb H1 hB_2; clear hu25 hu27))
    go_wp2_with (first | ((with_reducible refine gate_dst (N := 8) rfl ?_); (first | (refine gate_guard (by kernel_rfl) ?_) | skip); refine Kd.event_run rfl (v := .agg (h).cs) (w1 := w_3) ?hb ?_; (case hb => exact exec_load_hart rfl rfl K_ga.out)) | ((with_reducible refine gate_dst (N := 9) rfl ?_); (first | (refine gate_guard (by kernel_rfl) ?_) | skip); refine Kd.event_run rfl (v := .agg #[.bool la, .bool lb, .bool lc, .bool ld, .int .u64 lg, .int .u64 lt]) (w1 := w_3) ?hb ?_; (case hb => exact exec_load_blk rfl rfl K_gt.out Tryd.underlying27 rfl (by kernel_rfl))))
    refine (HR.out _).mono ?_
    rintro e_5 w_6 ⟨rfl, hb⟩
    have hB_7 := Lib.hid (below_step hB_4.out hb)
    replace K_ga := Lib.hid (K_ga.out.below hb)
    replace K_gt := Lib.hid (blk_below K_gt.out hb)
    clear hb hB_4
    go_wp2
    go_ret
    exact ⟨rfl, hB_7.out⟩
set_option maxHeartbeats 16000000 in
set_option maxRecDepth 100000 in
theorem reads_c (h : Ht) (hw : h.wf) (la lb lc ld : Bool) (lg lt : Int) (hg : 0 ≤ lg ∧ lg < 18446744073709551616) (no : Int) (w : World) (hT : Tab w) : Calls Tryd.prog 3 #[.agg h.cs, .agg #[.bool la, .bool lb, .bool lc, .bool ld, .int .u64 lg, .int .u64 lt], .int .i64 no] w fun e w' => e = .returned (.bool true) ∧ Below w.heap.size w w' := by
  have hp := pending_c h la lb lc ld lg lt; have hp2 := rpend_c h hw la lb lc ld lg lt hg
  have hr := read_c h la lb lc ld lg lt no; have hr2 := rread_c h hw la lb lc ld lg lt hg no
  have hb := base_c h la lb lc ld lg lt no; have hb2 := rbase_c h hw la lb lc ld lg lt hg no
  generalize pendV h la lb lc ld lg lt = xp at *
  generalize readV h la lb lc ld lg lt no = xr at *
  generalize baseV h la lb lc ld lg lt no = xb at *
  have d1 : (xp == xp) = true := beq_self_eq_true _
  have d2 : (xr == xr) = true := beq_self_eq_true _
  have d3 : (xb == xb) = true := beq_self_eq_true _
  have HT := Lib.hid hT; have HP := Lib.hid hp; have HP2 := Lib.hid hp2; have HR := Lib.hid hr; have HR2 := Lib.hid hr2; have HB := Lib.hid hb; have HB2 := Lib.hid hb2
  clear hp hp2 hr hr2 hb hb2 hT hw hg
  have hu25 := Tryd.underlying25; have hu27 := Tryd.underlying27
  go_enter Tryd.func3, Tryd.ntmps3
  go_upto_region 1 with (first | ((with_reducible refine gate_dst (N := 3) rfl ?_); refine box_event ?hg (N := 3) ?hd (cs := h.cs) (t := 25) ?hr ?_; (case hd => rfl); (case hg => rfl); (case hr => first | (go_simp; done) | (go_simp; rfl)); intro ga hg w_1 H1 hb; have hB_2 := Lib.hid (below_step (Below.refl w.heap.size w) hb); have G_ga := Lib.hid (show w.heap.size ≤ ga by rw [hg]; exact ((Below.refl w.heap.size w)).size); have K_ga := Lib.hid (show Hb w_1 ga h from H1); clear hg hb H1) | ((with_reducible refine gate_dst (N := 4) rfl ?_); refine box_event ?hg (N := 4) ?hd (cs := #[.bool la, .bool lb, .bool lc, .bool ld, .int .u64 lg, .int .u64 lt]) (t := 27) ?hr ?_; (case hd => rfl); (case hg => rfl); (case hr => first | (go_simp; done) | (go_simp; rfl)); intro gt hg w_3 H1 hb; have hB_4 := Lib.hid (below_step hB_2.out hb); have G_gt := Lib.hid (show w.heap.size ≤ gt by rw [hg]; exact (hB_2.out).size); have N_ga_gt := Lib.hid (show ga ≠ gt by rw [hg]; exact Nat.ne_of_lt (K_ga.out.lt)); replace K_ga := Lib.hid (K_ga.out.below hb); have K_gt := Lib.hid (show w_3.heap[gt]? = some (.cells #[.bool la, .bool lb, .bool lc, .bool ld, .int .u64 lg, .int .u64 lt] 27 (0, 0)) from H1); clear hg hb H1 hB_2; clear hu25 hu27))
  refine start_ (n := 33) (S := fun w' => Hb w' ga h ∧ w'.heap[gt]? = some (.cells #[.bool la, .bool lb, .bool lc, .bool ld, .int .u64 lg, .int .u64 lt] 27 (0, 0)) ∧ Tab w') (ds := []) #[false, false, false, false, false, false, false, false, false, false, false, false, false, false, false, false, false, false, false, false, false, false, false, false, false, false, false, false, false, false, false, false, false] (by kernel_rfl) rfl rfl ⟨K_ga.out.drew, blk_drew K_gt.out, (Tab.from HT.out (below_drew1 hB_4.out))⟩ (fun hHeld => ?_)
  replace K_ga := Lib.hid (K_ga.out.drew)
  replace K_gt := Lib.hid (blk_drew K_gt.out)
  have hB_6 := Lib.hid (below_drew1 hB_4.out)
  clear hB_4
  generalize World.drew w_3 = w_5 at K_ga K_gt hB_6 hHeld ⊢
  refine take_ (i := 0) (N := some 7) (v := .agg h.cs) (a' := ?_) #[true, false, false, false, false, false, false, false, false, false, false, false, false, false, false, false, false, false, false, false, false, false, false, false, false, false, false, false, false, false, false, false, false] rfl rfl (by kernel_rfl) (fun _ _ _ h => h) (Or.inl ⟨by rfl, ?_⟩) hHeld ?_ ?_
  · rintro w' ⟨s0, s1, s2⟩; exact exec_load_hart rfl rfl s0
  rotate_left
  · simp only [Act.put, List.setIfInBounds_toArray, List.set_cons_zero, List.set_cons_succ, i64_w, i32_w]
    rfl
  refine take_ (i := 1) (N := some 8) (v := .agg #[.bool la, .bool lb, .bool lc, .bool ld, .int .u64 lg, .int .u64 lt]) (a' := ?_) #[true, true, false, false, false, false, false, false, false, false, false, false, false, false, false, false, false, false, false, false, false, false, false, false, false, false, false, false, false, false, false, false, false] rfl rfl (by kernel_rfl) (fun _ _ _ h => h) (Or.inl ⟨by rfl, ?_⟩) hHeld ?_ ?_
  · rintro w' ⟨s0, s1, s2⟩; exact exec_load_blk rfl rfl s1 Tryd.underlying27 rfl (by kernel_rfl)
  rotate_left
  · simp only [Act.put, List.setIfInBounds_toArray, List.set_cons_zero, List.set_cons_succ, i64_w, i32_w]
    rfl
  refine take_ (i := 3) (N := some 10) (v := .agg h.cs) (a' := ?_) #[true, true, false, true, false, false, false, false, false, false, false, false, false, false, false, false, false, false, false, false, false, false, false, false, false, false, false, false, false, false, false, false, false] rfl rfl (by kernel_rfl) (fun _ _ _ h => h) (Or.inl ⟨by rfl, ?_⟩) hHeld ?_ ?_
  · rintro w' ⟨s0, s1, s2⟩; exact exec_load_hart rfl rfl s0
  rotate_left
  · simp only [Act.put, List.setIfInBounds_toArray, List.set_cons_zero, List.set_cons_succ, i64_w, i32_w]
    rfl
  refine take_ (i := 4) (N := some 11) (v := .agg #[.bool la, .bool lb, .bool lc, .bool ld, .int .u64 lg, .int .u64 lt]) (a' := ?_) #[true, true, false, true, true, false, false, false, false, false, false, false, false, false, false, false, false, false, false, false, false, false, false, false, false, false, false, false, false, false, false, false, false] rfl rfl (by kernel_rfl) (fun _ _ _ h => h) (Or.inl ⟨by rfl, ?_⟩) hHeld ?_ ?_
  · rintro w' ⟨s0, s1, s2⟩; exact exec_load_blk rfl rfl s1 Tryd.underlying27 rfl (by kernel_rfl)
  rotate_left
  · simp only [Act.put, List.setIfInBounds_toArray, List.set_cons_zero, List.set_cons_succ, i64_w, i32_w]
    rfl
  have HH := Lib.hid hHeld
  clear hHeld
  refine one_ (i := 2) (N := some 9) #[true, true, true, true, true, false, false, false, false, false, false, false, false, false, false, false, false, false, false, false, false, false, false, false, false, false, false, false, false, false, false, false, false] rfl rfl (by kernel_rfl) (by decide) (fun K hK => ?_)
  refine goes_ Tryd.func11 (by kernel_rfl) rfl #[.agg h.cs, .agg #[.bool la, .bool lb, .bool lc, .bool ld, .int .u64 lg, .int .u64 lt]] (by rfl) rfl rfl (by simp only [List.map_toArray, List.map_cons, List.map_nil]; rfl) ?_
  with_reducible refine (HP.out _).mono ?_
  rintro e_ w_7 ⟨rfl, hb⟩
  refine ⟨_, rfl, ?_⟩
  have s_0 := Hb.below (HH.out.1) hb
  have s_1 := blk_below (HH.out.2.1) hb
  have s_2 := Tab.from (HH.out.2.2) hb
  replace K_ga := Lib.hid (K_ga.out.below hb)
  replace K_gt := Lib.hid (blk_below K_gt.out hb)
  have hB_8 := Lib.hid (below_step hB_6.out hb)
  clear HH hb hB_6
  refine hK.out _ _ ⟨s_0, s_1, s_2⟩ (fun hHeld => ?_)
  have HH := Lib.hid hHeld
  clear hHeld s_0 s_1 s_2
  clear hK K
  refine norm_ (a' := ?_) ?_ ?_
  rotate_left
  · show Act.put _ (some 9) _ = _
    simp only [Act.put, List.setIfInBounds_toArray, List.set_cons_zero, List.set_cons_succ, i64_w, i32_w]
    rfl
  refine one_ (i := 5) (N := some 12) #[true, true, true, true, true, true, false, false, false, false, false, false, false, false, false, false, false, false, false, false, false, false, false, false, false, false, false, false, false, false, false, false, false] rfl rfl (by kernel_rfl) (by decide) (fun K hK => ?_)
  refine goes_ Tryd.func12 (by kernel_rfl) rfl #[.agg h.cs, .agg #[.bool la, .bool lb, .bool lc, .bool ld, .int .u64 lg, .int .u64 lt]] (by rfl) rfl rfl (by simp only [List.map_toArray, List.map_cons, List.map_nil]; rfl) ?_
  with_reducible refine (HP2.out _).mono ?_
  rintro e_ w_9 ⟨rfl, hb⟩
  refine ⟨_, rfl, ?_⟩
  have s_0 := Hb.below (HH.out.1) hb
  have s_1 := blk_below (HH.out.2.1) hb
  have s_2 := Tab.from (HH.out.2.2) hb
  replace K_ga := Lib.hid (K_ga.out.below hb)
  replace K_gt := Lib.hid (blk_below K_gt.out hb)
  have hB_10 := Lib.hid (below_step hB_8.out hb)
  clear HH hb hB_8
  refine hK.out _ _ ⟨s_0, s_1, s_2⟩ (fun hHeld => ?_)
  have HH := Lib.hid hHeld
  clear hHeld s_0 s_1 s_2
  clear hK K
  refine norm_ (a' := ?_) ?_ ?_
  rotate_left
  · show Act.put _ (some 12) _ = _
    simp only [Act.put, List.setIfInBounds_toArray, List.set_cons_zero, List.set_cons_succ, i64_w, i32_w]
    rfl
  refine pure_ (i := 6) (N := some 13) (v := ?_) (a' := ?_) #[true, true, true, true, true, true, true, false, false, false, false, false, false, false, false, false, false, false, false, false, false, false, false, false, false, false, false, false, false, false, false, false, false] rfl rfl (by kernel_rfl) (fun _ _ _ h => h) (Or.inl ⟨by rfl, ?_⟩) ?_ ?_
  rotate_left
  · intro w'
    go_simp
    with_reducible rfl
  rotate_left
  · simp only [Act.put, List.setIfInBounds_toArray, List.set_cons_zero, List.set_cons_succ, i64_w, i32_w]
    rfl
  refine pure_ (i := 7) (N := some 14) (v := ?_) (a' := ?_) #[true, true, true, true, true, true, true, true, false, false, false, false, false, false, false, false, false, false, false, false, false, false, false, false, false, false, false, false, false, false, false, false, false] rfl rfl (by kernel_rfl) (fun _ _ _ h => h) (Or.inl ⟨by rfl, ?_⟩) ?_ ?_
  rotate_left
  · intro w'
    go_simp
    with_reducible rfl
  rotate_left
  · simp only [Act.put, List.setIfInBounds_toArray, List.set_cons_zero, List.set_cons_succ, i64_w, i32_w]
    rfl
  refine pure_ (i := 10) (N := some 17) (v := ?_) (a' := ?_) #[true, true, true, true, true, true, true, true, false, false, true, false, false, false, false, false, false, false, false, false, false, false, false, false, false, false, false, false, false, false, false, false, false] rfl rfl (by kernel_rfl) (fun _ _ _ h => h) (Or.inl ⟨by rfl, ?_⟩) ?_ ?_
  rotate_left
  · intro w'
    go_simp
    with_reducible rfl
  rotate_left
  · simp only [Act.put, List.setIfInBounds_toArray, List.set_cons_zero, List.set_cons_succ, i64_w, i32_w]
    rfl
  refine pure_ (i := 14) (N := some 21) (v := ?_) (a' := ?_) #[true, true, true, true, true, true, true, true, false, false, true, false, false, false, true, false, false, false, false, false, false, false, false, false, false, false, false, false, false, false, false, false, false] rfl rfl (by kernel_rfl) (fun _ _ _ h => h) (Or.inl ⟨by rfl, ?_⟩) ?_ ?_
  rotate_left
  · intro w'
    go_simp
    with_reducible rfl
  rotate_left
  · simp only [Act.put, List.setIfInBounds_toArray, List.set_cons_zero, List.set_cons_succ, i64_w, i32_w]
    rfl
  refine take_ (i := 8) (N := some 15) (v := .agg h.cs) (a' := ?_) #[true, true, true, true, true, true, true, true, true, false, true, false, false, false, true, false, false, false, false, false, false, false, false, false, false, false, false, false, false, false, false, false, false] rfl rfl (by kernel_rfl) (fun _ _ _ h => h) (Or.inl ⟨by rfl, ?_⟩) HH.out ?_ ?_
  · rintro w' ⟨s0, s1, s2⟩; exact exec_load_hart rfl rfl s0
  rotate_left
  · simp only [Act.put, List.setIfInBounds_toArray, List.set_cons_zero, List.set_cons_succ, i64_w, i32_w]
    rfl
  refine take_ (i := 9) (N := some 16) (v := .agg #[.bool la, .bool lb, .bool lc, .bool ld, .int .u64 lg, .int .u64 lt]) (a' := ?_) #[true, true, true, true, true, true, true, true, true, true, true, false, false, false, true, false, false, false, false, false, false, false, false, false, false, false, false, false, false, false, false, false, false] rfl rfl (by kernel_rfl) (fun _ _ _ h => h) (Or.inl ⟨by rfl, ?_⟩) HH.out ?_ ?_
  · rintro w' ⟨s0, s1, s2⟩; exact exec_load_blk rfl rfl s1 Tryd.underlying27 rfl (by kernel_rfl)
  rotate_left
  · simp only [Act.put, List.setIfInBounds_toArray, List.set_cons_zero, List.set_cons_succ, i64_w, i32_w]
    rfl
  refine take_ (i := 12) (N := some 19) (v := .agg h.cs) (a' := ?_) #[true, true, true, true, true, true, true, true, true, true, true, false, true, false, true, false, false, false, false, false, false, false, false, false, false, false, false, false, false, false, false, false, false] rfl rfl (by kernel_rfl) (fun _ _ _ h => h) (Or.inl ⟨by rfl, ?_⟩) HH.out ?_ ?_
  · rintro w' ⟨s0, s1, s2⟩; exact exec_load_hart rfl rfl s0
  rotate_left
  · simp only [Act.put, List.setIfInBounds_toArray, List.set_cons_zero, List.set_cons_succ, i64_w, i32_w]
    rfl
  refine take_ (i := 13) (N := some 20) (v := .agg #[.bool la, .bool lb, .bool lc, .bool ld, .int .u64 lg, .int .u64 lt]) (a' := ?_) #[true, true, true, true, true, true, true, true, true, true, true, false, true, true, true, false, false, false, false, false, false, false, false, false, false, false, false, false, false, false, false, false, false] rfl rfl (by kernel_rfl) (fun _ _ _ h => h) (Or.inl ⟨by rfl, ?_⟩) HH.out ?_ ?_
  · rintro w' ⟨s0, s1, s2⟩; exact exec_load_blk rfl rfl s1 Tryd.underlying27 rfl (by kernel_rfl)
  rotate_left
  · simp only [Act.put, List.setIfInBounds_toArray, List.set_cons_zero, List.set_cons_succ, i64_w, i32_w]
    rfl
  refine one_ (i := 11) (N := some 18) #[true, true, true, true, true, true, true, true, true, true, true, true, true, true, true, false, false, false, false, false, false, false, false, false, false, false, false, false, false, false, false, false, false] rfl rfl (by kernel_rfl) (by decide) (fun K hK => ?_)
  refine goes_ Tryd.func13 (by kernel_rfl) rfl #[.agg h.cs, .agg #[.bool la, .bool lb, .bool lc, .bool ld, .int .u64 lg, .int .u64 lt], .int .i64 no] (by rfl) rfl rfl (by simp only [List.map_toArray, List.map_cons, List.map_nil]; rfl) ?_
  with_reducible refine (HR.out _).mono ?_
  rintro e_ w_11 ⟨rfl, hb⟩
  refine ⟨_, rfl, ?_⟩
  have s_0 := Hb.below (HH.out.1) hb
  have s_1 := blk_below (HH.out.2.1) hb
  have s_2 := Tab.from (HH.out.2.2) hb
  replace K_ga := Lib.hid (K_ga.out.below hb)
  replace K_gt := Lib.hid (blk_below K_gt.out hb)
  have hB_12 := Lib.hid (below_step hB_10.out hb)
  clear HH hb hB_10
  refine hK.out _ _ ⟨s_0, s_1, s_2⟩ (fun hHeld => ?_)
  have HH := Lib.hid hHeld
  clear hHeld s_0 s_1 s_2
  clear hK K
  refine norm_ (a' := ?_) ?_ ?_
  rotate_left
  · show Act.put _ (some 18) _ = _
    simp only [Act.put, List.setIfInBounds_toArray, List.set_cons_zero, List.set_cons_succ, i64_w, i32_w]
    rfl
  refine one_ (i := 15) (N := some 22) #[true, true, true, true, true, true, true, true, true, true, true, true, true, true, true, true, false, false, false, false, false, false, false, false, false, false, false, false, false, false, false, false, false] rfl rfl (by kernel_rfl) (by decide) (fun K hK => ?_)
  refine goes_ Tryd.func14 (by kernel_rfl) rfl #[.agg h.cs, .agg #[.bool la, .bool lb, .bool lc, .bool ld, .int .u64 lg, .int .u64 lt], .int .i64 no] (by rfl) rfl rfl (by simp only [List.map_toArray, List.map_cons, List.map_nil]; rfl) ?_
  with_reducible refine (HR2.out _).mono ?_
  rintro e_ w_13 ⟨rfl, hb⟩
  refine ⟨_, rfl, ?_⟩
  have s_0 := Hb.below (HH.out.1) hb
  have s_1 := blk_below (HH.out.2.1) hb
  have s_2 := Tab.from (HH.out.2.2) hb
  replace K_ga := Lib.hid (K_ga.out.below hb)
  replace K_gt := Lib.hid (blk_below K_gt.out hb)
  have hB_14 := Lib.hid (below_step hB_12.out hb)
  clear HH hb hB_12
  refine hK.out _ _ ⟨s_0, s_1, s_2⟩ (fun hHeld => ?_)
  have HH := Lib.hid hHeld
  clear hHeld s_0 s_1 s_2
  clear hK K
  refine norm_ (a' := ?_) ?_ ?_
  rotate_left
  · show Act.put _ (some 22) _ = _
    simp only [Act.put, List.setIfInBounds_toArray, List.set_cons_zero, List.set_cons_succ, i64_w, i32_w]
    rfl
  refine pure_ (i := 16) (N := some 23) (v := ?_) (a' := ?_) #[true, true, true, true, true, true, true, true, true, true, true, true, true, true, true, true, true, false, false, false, false, false, false, false, false, false, false, false, false, false, false, false, false] rfl rfl (by kernel_rfl) (fun _ _ _ h => h) (Or.inl ⟨by rfl, ?_⟩) ?_ ?_
  rotate_left
  · intro w'
    go_simp
    with_reducible rfl
  rotate_left
  · simp only [Act.put, List.setIfInBounds_toArray, List.set_cons_zero, List.set_cons_succ, i64_w, i32_w]
    rfl
  refine pure_ (i := 17) (N := some 24) (v := ?_) (a' := ?_) #[true, true, true, true, true, true, true, true, true, true, true, true, true, true, true, true, true, true, false, false, false, false, false, false, false, false, false, false, false, false, false, false, false] rfl rfl (by kernel_rfl) (fun _ _ _ h => h) (Or.inl ⟨by rfl, ?_⟩) ?_ ?_
  rotate_left
  · intro w'
    go_simp
    with_reducible rfl
  rotate_left
  · simp only [Act.put, List.setIfInBounds_toArray, List.set_cons_zero, List.set_cons_succ, i64_w, i32_w]
    rfl
  refine pure_ (i := 18) (N := some 25) (v := ?_) (a' := ?_) #[true, true, true, true, true, true, true, true, true, true, true, true, true, true, true, true, true, true, true, false, false, false, false, false, false, false, false, false, false, false, false, false, false] rfl rfl (by kernel_rfl) (fun _ _ _ h => h) (Or.inl ⟨by rfl, ?_⟩) ?_ ?_
  rotate_left
  · intro w'
    go_simp
    with_reducible rfl
  rotate_left
  · simp only [Act.put, List.setIfInBounds_toArray, List.set_cons_zero, List.set_cons_succ, i64_w, i32_w]
    rfl
  refine pure_ (i := 21) (N := some 28) (v := ?_) (a' := ?_) #[true, true, true, true, true, true, true, true, true, true, true, true, true, true, true, true, true, true, true, false, false, true, false, false, false, false, false, false, false, false, false, false, false] rfl rfl (by kernel_rfl) (fun _ _ _ h => h) (Or.inl ⟨by rfl, ?_⟩) ?_ ?_
  rotate_left
  · intro w'
    go_simp
    with_reducible rfl
  rotate_left
  · simp only [Act.put, List.setIfInBounds_toArray, List.set_cons_zero, List.set_cons_succ, i64_w, i32_w]
    rfl
  refine pure_ (i := 25) (N := some 32) (v := ?_) (a' := ?_) #[true, true, true, true, true, true, true, true, true, true, true, true, true, true, true, true, true, true, true, false, false, true, false, false, false, true, false, false, false, false, false, false, false] rfl rfl (by kernel_rfl) (fun _ _ _ h => h) (Or.inl ⟨by rfl, ?_⟩) ?_ ?_
  rotate_left
  · intro w'
    go_simp
    with_reducible rfl
  rotate_left
  · simp only [Act.put, List.setIfInBounds_toArray, List.set_cons_zero, List.set_cons_succ, i64_w, i32_w]
    rfl
  refine take_ (i := 19) (N := some 26) (v := .agg h.cs) (a' := ?_) #[true, true, true, true, true, true, true, true, true, true, true, true, true, true, true, true, true, true, true, true, false, true, false, false, false, true, false, false, false, false, false, false, false] rfl rfl (by kernel_rfl) (fun _ _ _ h => h) (Or.inl ⟨by rfl, ?_⟩) HH.out ?_ ?_
  · rintro w' ⟨s0, s1, s2⟩; exact exec_load_hart rfl rfl s0
  rotate_left
  · simp only [Act.put, List.setIfInBounds_toArray, List.set_cons_zero, List.set_cons_succ, i64_w, i32_w]
    rfl
  refine take_ (i := 20) (N := some 27) (v := .agg #[.bool la, .bool lb, .bool lc, .bool ld, .int .u64 lg, .int .u64 lt]) (a' := ?_) #[true, true, true, true, true, true, true, true, true, true, true, true, true, true, true, true, true, true, true, true, true, true, false, false, false, true, false, false, false, false, false, false, false] rfl rfl (by kernel_rfl) (fun _ _ _ h => h) (Or.inl ⟨by rfl, ?_⟩) HH.out ?_ ?_
  · rintro w' ⟨s0, s1, s2⟩; exact exec_load_blk rfl rfl s1 Tryd.underlying27 rfl (by kernel_rfl)
  rotate_left
  · simp only [Act.put, List.setIfInBounds_toArray, List.set_cons_zero, List.set_cons_succ, i64_w, i32_w]
    rfl
  refine take_ (i := 23) (N := some 30) (v := .agg h.cs) (a' := ?_) #[true, true, true, true, true, true, true, true, true, true, true, true, true, true, true, true, true, true, true, true, true, true, false, true, false, true, false, false, false, false, false, false, false] rfl rfl (by kernel_rfl) (fun _ _ _ h => h) (Or.inl ⟨by rfl, ?_⟩) HH.out ?_ ?_
  · rintro w' ⟨s0, s1, s2⟩; exact exec_load_hart rfl rfl s0
  rotate_left
  · simp only [Act.put, List.setIfInBounds_toArray, List.set_cons_zero, List.set_cons_succ, i64_w, i32_w]
    rfl
  refine take_ (i := 24) (N := some 31) (v := .agg #[.bool la, .bool lb, .bool lc, .bool ld, .int .u64 lg, .int .u64 lt]) (a' := ?_) #[true, true, true, true, true, true, true, true, true, true, true, true, true, true, true, true, true, true, true, true, true, true, false, true, true, true, false, false, false, false, false, false, false] rfl rfl (by kernel_rfl) (fun _ _ _ h => h) (Or.inl ⟨by rfl, ?_⟩) HH.out ?_ ?_
  · rintro w' ⟨s0, s1, s2⟩; exact exec_load_blk rfl rfl s1 Tryd.underlying27 rfl (by kernel_rfl)
  rotate_left
  · simp only [Act.put, List.setIfInBounds_toArray, List.set_cons_zero, List.set_cons_succ, i64_w, i32_w]
    rfl
  refine one_ (i := 22) (N := some 29) #[true, true, true, true, true, true, true, true, true, true, true, true, true, true, true, true, true, true, true, true, true, true, true, true, true, true, false, false, false, false, false, false, false] rfl rfl (by kernel_rfl) (by decide) (fun K hK => ?_)
  refine goes_ Tryd.func15 (by kernel_rfl) rfl #[.agg h.cs, .agg #[.bool la, .bool lb, .bool lc, .bool ld, .int .u64 lg, .int .u64 lt], .int .i64 no] (by rfl) rfl rfl (by simp only [List.map_toArray, List.map_cons, List.map_nil]; rfl) ?_
  with_reducible refine (HB.out _).mono ?_
  rintro e_ w_15 ⟨rfl, hb⟩
  refine ⟨_, rfl, ?_⟩
  have s_0 := Hb.below (HH.out.1) hb
  have s_1 := blk_below (HH.out.2.1) hb
  have s_2 := Tab.from (HH.out.2.2) hb
  replace K_ga := Lib.hid (K_ga.out.below hb)
  replace K_gt := Lib.hid (blk_below K_gt.out hb)
  have hB_16 := Lib.hid (below_step hB_14.out hb)
  clear HH hb hB_14
  refine hK.out _ _ ⟨s_0, s_1, s_2⟩ (fun hHeld => ?_)
  have HH := Lib.hid hHeld
  clear hHeld s_0 s_1 s_2
  clear hK K
  refine norm_ (a' := ?_) ?_ ?_
  rotate_left
  · show Act.put _ (some 29) _ = _
    simp only [Act.put, List.setIfInBounds_toArray, List.set_cons_zero, List.set_cons_succ, i64_w, i32_w]
    rfl
  refine one_ (i := 26) (N := some 33) #[true, true, true, true, true, true, true, true, true, true, true, true, true, true, true, true, true, true, true, true, true, true, true, true, true, true, true, false, false, false, false, false, false] rfl rfl (by kernel_rfl) (by decide) (fun K hK => ?_)
  refine goes_ Tryd.func16 (by kernel_rfl) rfl #[.agg h.cs, .agg #[.bool la, .bool lb, .bool lc, .bool ld, .int .u64 lg, .int .u64 lt], .int .i64 no] (by rfl) rfl rfl (by simp only [List.map_toArray, List.map_cons, List.map_nil]; rfl) ?_
  with_reducible refine (HB2.out _).mono ?_
  rintro e_ w_17 ⟨rfl, hb⟩
  refine ⟨_, rfl, ?_⟩
  have s_0 := Hb.below (HH.out.1) hb
  have s_1 := blk_below (HH.out.2.1) hb
  have s_2 := Tab.from (HH.out.2.2) hb
  replace K_ga := Lib.hid (K_ga.out.below hb)
  replace K_gt := Lib.hid (blk_below K_gt.out hb)
  have hB_18 := Lib.hid (below_step hB_16.out hb)
  clear HH hb hB_16
  refine hK.out _ _ ⟨s_0, s_1, s_2⟩ (fun hHeld => ?_)
  have HH := Lib.hid hHeld
  clear hHeld s_0 s_1 s_2
  clear hK K
  refine norm_ (a' := ?_) ?_ ?_
  rotate_left
  · show Act.put _ (some 33) _ = _
    simp only [Act.put, List.setIfInBounds_toArray, List.set_cons_zero, List.set_cons_succ, i64_w, i32_w]
    rfl
  refine pure_ (i := 27) (N := some 34) (v := ?_) (a' := ?_) #[true, true, true, true, true, true, true, true, true, true, true, true, true, true, true, true, true, true, true, true, true, true, true, true, true, true, true, true, false, false, false, false, false] rfl rfl (by kernel_rfl) (fun _ _ _ h => h) (Or.inl ⟨by rfl, ?_⟩) ?_ ?_
  rotate_left
  · intro w'
    go_simp
    with_reducible rfl
  rotate_left
  · simp only [Act.put, List.setIfInBounds_toArray, List.set_cons_zero, List.set_cons_succ, i64_w, i32_w]
    rfl
  refine pure_ (i := 28) (N := some 35) (v := ?_) (a' := ?_) #[true, true, true, true, true, true, true, true, true, true, true, true, true, true, true, true, true, true, true, true, true, true, true, true, true, true, true, true, true, false, false, false, false] rfl rfl (by kernel_rfl) (fun _ _ _ h => h) (Or.inl ⟨by rfl, ?_⟩) ?_ ?_
  rotate_left
  · intro w'
    go_simp
    with_reducible rfl
  rotate_left
  · simp only [Act.put, List.setIfInBounds_toArray, List.set_cons_zero, List.set_cons_succ, i64_w, i32_w]
    rfl
  refine pure_ (i := 29) (N := some 36) (v := ?_) (a' := ?_) #[true, true, true, true, true, true, true, true, true, true, true, true, true, true, true, true, true, true, true, true, true, true, true, true, true, true, true, true, true, true, false, false, false] rfl rfl (by kernel_rfl) (fun _ _ _ h => h) (Or.inl ⟨by rfl, ?_⟩) ?_ ?_
  rotate_left
  · intro w'
    go_simp
    with_reducible rfl
  rotate_left
  · simp only [Act.put, List.setIfInBounds_toArray, List.set_cons_zero, List.set_cons_succ, i64_w, i32_w]
    rfl
  refine one_ (i := 30) (N := some 37) #[true, true, true, true, true, true, true, true, true, true, true, true, true, true, true, true, true, true, true, true, true, true, true, true, true, true, true, true, true, true, true, false, false] rfl rfl (by kernel_rfl) (by decide) (fun K hK => ?_)
  refine goes_ Tryd.func17 (by kernel_rfl) rfl #[] (by rfl) rfl rfl (by simp) ?_
  with_reducible refine (wakes_c _ HH.out.2.2).mono ?_
  rintro e_ w_19 ⟨rfl, hb⟩
  refine ⟨_, rfl, ?_⟩
  have s_0 := Hb.below (HH.out.1) hb
  have s_1 := blk_below (HH.out.2.1) hb
  have s_2 := Tab.from (HH.out.2.2) hb
  replace K_ga := Lib.hid (K_ga.out.below hb)
  replace K_gt := Lib.hid (blk_below K_gt.out hb)
  have hB_20 := Lib.hid (below_step hB_18.out hb)
  clear HH hb hB_18
  refine hK.out _ _ ⟨s_0, s_1, s_2⟩ (fun hHeld => ?_)
  have HH := Lib.hid hHeld
  clear hHeld s_0 s_1 s_2
  clear hK K
  refine norm_ (a' := ?_) ?_ ?_
  rotate_left
  · show Act.put _ (some 37) _ = _
    simp only [Act.put, List.setIfInBounds_toArray, List.set_cons_zero, List.set_cons_succ, i64_w, i32_w]
    rfl
  refine pure_ (i := 31) (N := some 38) (v := ?_) (a' := ?_) #[true, true, true, true, true, true, true, true, true, true, true, true, true, true, true, true, true, true, true, true, true, true, true, true, true, true, true, true, true, true, true, true, false] rfl rfl (by kernel_rfl) (fun _ _ _ h => h) (Or.inl ⟨by rfl, ?_⟩) ?_ ?_
  rotate_left
  · intro w'
    go_simp
    with_reducible rfl
  rotate_left
  · simp only [Act.put, List.setIfInBounds_toArray, List.set_cons_zero, List.set_cons_succ, i64_w, i32_w]
    rfl
  refine pure_ (i := 32) (N := some 6) (v := ?_) (a' := ?_) #[true, true, true, true, true, true, true, true, true, true, true, true, true, true, true, true, true, true, true, true, true, true, true, true, true, true, true, true, true, true, true, true, true] rfl rfl (by kernel_rfl) (fun _ _ _ h => h) (Or.inl ⟨by rfl, ?_⟩) ?_ ?_
  rotate_left
  · intro w'
    go_simp
    with_reducible rfl
  rotate_left
  · simp only [Act.put, List.setIfInBounds_toArray, List.set_cons_zero, List.set_cons_succ, i64_w, i32_w]
    rfl
  refine done_ (by kernel_rfl) ?_
  try clear HH
  go_wp2
  go_ret
  exact ⟨rfl, hB_20.out⟩
end Go.Proofs.YtlopmcakfalkpaaDoor.Hx
namespace Go.Proofs.YtlopmcakfalkpaaDoor.Pure
open Go.RowKit Go.Proofs.YtlopmcakfalkpaaDoor.Hx Go.Proofs.YtlopmcakfalkpaaDoor.Bv Go.Proofs.YtlopmcakfalkpaaDoor.Q
theorem CsrReads (h : Ht) (la lb lc ld : Bool) (lg lt : Int) (no : Int) (w : World) (hw : h.wf) (wg : (Lit.int .u64 lg).wf = true) (wt : (Lit.int .u64 lt).wf = true) (w_no : (Lit.int .i64 no).wf = true) (hT : Tab w) :
    Calls Tryd.prog 3 #[.agg h.cs, .agg #[.bool la, .bool lb, .bool lc, .bool ld, .int .u64 lg, .int .u64 lt], .int .i64 no] w fun e w' => e = .returned (.bool true) ∧ Below w.heap.size w w' :=
  reads_c h hw la lb lc ld lg lt (u64_in wg) no  w hT
end Go.Proofs.YtlopmcakfalkpaaDoor.Pure
