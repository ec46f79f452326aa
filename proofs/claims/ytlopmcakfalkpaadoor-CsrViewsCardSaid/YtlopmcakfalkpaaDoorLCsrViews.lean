/- What sstatus, sip, sie say are parts of what mstatus, mip, mie say; hip, hie, vsip, vsie too. (By a program of this session.) -/
import Derived.Test.YtlopmcakfalkpaaDoorCViews
import Derived.Test.YtlopmcakfalkpaaDoorCWakes
set_option linter.unusedSimpArgs false
set_option linter.unusedVariables false
namespace Go.Proofs.YtlopmcakfalkpaaDoor.Hx
open Go.RowKit Go.Proofs.YtlopmcakfalkpaaDoor.Q Go.Proofs.YtlopmcakfalkpaaDoorW.PrintWords Go.Proofs.YtlopmcakfalkpaaDoorW.PrintLast Go.Proofs.YtlopmcakfalkpaaDoorW.PrintMore Go.Proofs.YtlopmcakfalkpaaDoor.Rg

set_option maxHeartbeats 16000000 in
set_option maxRecDepth 100000 in
theorem view_c (f : Ht) (la lb lc ld : Bool) (lg lt : Int) (no : Int) (ga gt : Nat) (w : World) (H : Hb w ga f) (H2 : w.heap[gt]? = some (.cells #[.bool la, .bool lb, .bool lc, .bool ld, .int .u64 lg, .int .u64 lt] 27 (0, 0))) : Calls Tryd.prog 25 #[.int .i64 no, .pointer (some ⟨ga, 0, none⟩), .pointer (some ⟨gt, 0, none⟩)] w fun e w' => e = .returned (.int .u64 (readV f la lb lc ld lg lt no)) ∧ Below w.heap.size w w' := by
  have HR := Lib.hid (read_c f la lb lc ld lg lt no)
  have K_ga := Lib.hid H; have K_gt := Lib.hid H2
  clear H H2
  go_enter Tryd.func25, Tryd.ntmps25
  go_wp2_with (first | ((with_reducible refine gate_dst (N := 5) rfl ?_); (first | (refine gate_guard (by rfl) ?_) | skip); refine Kd.event_run rfl (v := .agg (f).cs) (w1 := w) ?hb ?_; (case hb => exact exec_load_hart rfl rfl K_ga.out)) | ((with_reducible refine gate_dst (N := 6) rfl ?_); (first | (refine gate_guard (by rfl) ?_) | skip); refine Kd.event_run rfl (v := .agg #[.bool la, .bool lb, .bool lc, .bool ld, .int .u64 lg, .int .u64 lt]) (w1 := w) ?hb ?_; (case hb => exact exec_load_blk rfl rfl K_gt.out Tryd.underlying27 rfl (by kernel_rfl))))
  refine (HR.out _).mono ?_
  rintro e_1 w_2 ⟨rfl, hb⟩
  have hB_3 := Lib.hid (below_step (Below.refl w.heap.size w) hb)
  replace K_ga := Lib.hid (K_ga.out.below hb)
  replace K_gt := Lib.hid (blk_below K_gt.out hb)
  clear hb
  go_wp2
  go_ret
  exact ⟨rfl, hB_3.out⟩
set_option maxHeartbeats 16000000 in
set_option maxRecDepth 100000 in
theorem views_c (h : Ht) (hw : h.wf) (la lb lc ld : Bool) (lg lt : Int) (w : World) (hT : Tab w) : Calls Tryd.prog 8 #[.agg h.cs, .agg #[.bool la, .bool lb, .bool lc, .bool ld, .int .u64 lg, .int .u64 lt]] w fun e w' => e = .returned (.bool true) ∧ Below w.heap.size w w' := by
  have V := views_law h hw la lb lc ld lg lt
  have hf := fix_c h
  generalize fix h = f at *
  have hv := view_c (host f) la lb lc ld lg lt
  generalize readV (host f) la lb lc ld lg lt = r at *
  obtain ⟨d1, d2, d3, d4, d5, d6, d7, d8⟩ := V
  have HF := Lib.hid hf; have HV := Lib.hid hv; have HT := Lib.hid hT
  clear hf hv hT hw
  have hu25 := Tryd.underlying25; have hu27 := Tryd.underlying27
  go_enter Tryd.func8, Tryd.ntmps8
  go_upto_region 1 with (first | ((with_reducible refine gate_dst (N := 2) rfl ?_); refine box_event ?hg (N := 2) ?hd (cs := h.cs) (t := 25) ?hr ?_; (case hd => rfl); (case hg => rfl); (case hr => first | (go_simp; done) | (go_simp; rfl)); intro ga hg w_1 H1 hb; have hB_2 := Lib.hid (below_step (Below.refl w.heap.size w) hb); have G_ga := Lib.hid (show w.heap.size ≤ ga by rw [hg]; exact ((Below.refl w.heap.size w)).size); have K_ga := Lib.hid (show Hb w_1 ga h from H1); clear hg hb H1) | ((with_reducible refine gate_dst (N := 3) rfl ?_); refine box_event ?hg (N := 3) ?hd (cs := #[.bool la, .bool lb, .bool lc, .bool ld, .int .u64 lg, .int .u64 lt]) (t := 27) ?hr ?_; (case hd => rfl); (case hg => rfl); (case hr => first | (go_simp; done) | (go_simp; rfl)); intro gt hg w_3 H1 hb; have hB_4 := Lib.hid (below_step hB_2.out hb); have G_gt := Lib.hid (show w.heap.size ≤ gt by rw [hg]; exact (hB_2.out).size); have N_ga_gt := Lib.hid (show ga ≠ gt by rw [hg]; exact Nat.ne_of_lt (K_ga.out.lt)); replace K_ga := Lib.hid (K_ga.out.below hb); have K_gt := Lib.hid (show w_3.heap[gt]? = some (.cells #[.bool la, .bool lb, .bool lc, .bool ld, .int .u64 lg, .int .u64 lt] 27 (0, 0)) from H1); clear hg hb H1 hB_2; clear hu25 hu27))
  go_wp2_with (first | ((with_reducible refine gate_dst (N := 6) rfl ?_); (first | (refine gate_guard (by rfl) ?_) | skip); refine Kd.event_run rfl (v := .agg (h).cs) (w1 := w_3) ?hb ?_; (case hb => exact exec_load_hart rfl rfl K_ga.out)))
  refine (HF.out _ (Tab.from HT.out hB_4.out)).mono ?_
  rintro e_5 w_6 ⟨rfl, hb⟩
  have hB_7 := Lib.hid (below_step hB_4.out hb)
  replace K_ga := Lib.hid (K_ga.out.below hb)
  replace K_gt := Lib.hid (blk_below K_gt.out hb)
  clear hb hB_4
  go_upto_region 3 with (first | (refine store_hart rfl (.tmp 2) (.tmp 7) rfl ga (f) rfl rfl (h) K_ga.out ?_; have hB_9 := Lib.hid (setCells_below G_ga.out (Ht.cs (f)).toList 0 _ hB_7.out); replace K_gt := Lib.hid (setCells_far' (vs := (Ht.cs (f)).toList) (o := 0) (Ne.symm N_ga_gt.out) K_gt.out); replace K_ga := Lib.hid (Hb.putAll (f) K_ga.out); clear hB_7; generalize World.setCells w_6 ga 0 (Ht.cs (f)).toList = w_8 at K_ga K_gt hB_9 ⊢; have c_ga_34 := K_ga.out.cv; have f_ga_34 := K_ga.out.fr 34))
  refine world_code ga (by repeat (with_reducible first | exact K_ga.out | apply Hb.put | apply Hb.putP | apply Hb.putV | apply Hb.putW | apply Hb.putH | apply Hb.far N_ga_gt.out | apply Hb.drewN | apply Hb.drew)) (fun w' => Below w.heap.size w w' ∧ w'.heap[gt]? = some (.cells #[.bool la, .bool lb, .bool lc, .bool ld, .int .u64 lg, .int .u64 lt] 27 (0, 0))) ⟨(by repeat (first | (with_reducible first | exact hB_9.out | apply pw_below_drewN | apply below_drew1 | refine below_set ?_ G_ga.out | refine below_set ?_ G_gt.out) | exact hB_9.out)), (by repeat (with_reducible first | exact K_gt.out | apply blk_drewN | apply blk_drew | refine blk_far ?_ (show gt ≠ _ from (Ne.symm N_ga_gt.out)) _))⟩ ?_
  clear c_ga_34 f_ga_34
  clear K_ga K_gt hB_9
  rintro w_10 q_ ⟨b_, q_gt⟩
  have K_ga := Lib.hid q_; have hB_11 := Lib.hid b_; have K_gt := Lib.hid q_gt
  clear q_ b_ q_gt
  go_wp2_with fail
  refine (HV.out 256 ga gt _ K_ga.out K_gt.out).mono ?_
  rintro e_12 w_13 ⟨rfl, hb⟩
  have hB_14 := Lib.hid (below_step hB_11.out hb)
  replace K_ga := Lib.hid (K_ga.out.below hb)
  replace K_gt := Lib.hid (blk_below K_gt.out hb)
  clear hb hB_11
  go_wp2_with fail
  refine (HV.out 768 ga gt _ K_ga.out K_gt.out).mono ?_
  rintro e_15 w_16 ⟨rfl, hb⟩
  have hB_17 := Lib.hid (below_step hB_14.out hb)
  replace K_ga := Lib.hid (K_ga.out.below hb)
  replace K_gt := Lib.hid (blk_below K_gt.out hb)
  clear hb hB_14
  go_wp2_with fail
  refine (HV.out 324 ga gt _ K_ga.out K_gt.out).mono ?_
  rintro e_18 w_19 ⟨rfl, hb⟩
  have hB_20 := Lib.hid (below_step hB_17.out hb)
  replace K_ga := Lib.hid (K_ga.out.below hb)
  replace K_gt := Lib.hid (blk_below K_gt.out hb)
  clear hb hB_17
  go_wp2_with fail
  refine (HV.out 836 ga gt _ K_ga.out K_gt.out).mono ?_
  rintro e_21 w_22 ⟨rfl, hb⟩
  have hB_23 := Lib.hid (below_step hB_20.out hb)
  replace K_ga := Lib.hid (K_ga.out.below hb)
  replace K_gt := Lib.hid (blk_below K_gt.out hb)
  clear hb hB_20
  go_wp2_with fail
  refine (HV.out 260 ga gt _ K_ga.out K_gt.out).mono ?_
  rintro e_24 w_25 ⟨rfl, hb⟩
  have hB_26 := Lib.hid (below_step hB_23.out hb)
  replace K_ga := Lib.hid (K_ga.out.below hb)
  replace K_gt := Lib.hid (blk_below K_gt.out hb)
  clear hb hB_23
  go_wp2_with fail
  refine (HV.out 772 ga gt _ K_ga.out K_gt.out).mono ?_
  rintro e_27 w_28 ⟨rfl, hb⟩
  have hB_29 := Lib.hid (below_step hB_26.out hb)
  replace K_ga := Lib.hid (K_ga.out.below hb)
  replace K_gt := Lib.hid (blk_below K_gt.out hb)
  clear hb hB_26
  go_wp2_with fail
  refine (HV.out 1604 ga gt _ K_ga.out K_gt.out).mono ?_
  rintro e_30 w_31 ⟨rfl, hb⟩
  have hB_32 := Lib.hid (below_step hB_29.out hb)
  replace K_ga := Lib.hid (K_ga.out.below hb)
  replace K_gt := Lib.hid (blk_below K_gt.out hb)
  clear hb hB_29
  go_wp2_with fail
  refine (HV.out 836 ga gt _ K_ga.out K_gt.out).mono ?_
  rintro e_33 w_34 ⟨rfl, hb⟩
  have hB_35 := Lib.hid (below_step hB_32.out hb)
  replace K_ga := Lib.hid (K_ga.out.below hb)
  replace K_gt := Lib.hid (blk_below K_gt.out hb)
  clear hb hB_32
  go_wp2_with fail
  refine (HV.out 1540 ga gt _ K_ga.out K_gt.out).mono ?_
  rintro e_36 w_37 ⟨rfl, hb⟩
  have hB_38 := Lib.hid (below_step hB_35.out hb)
  replace K_ga := Lib.hid (K_ga.out.below hb)
  replace K_gt := Lib.hid (blk_below K_gt.out hb)
  clear hb hB_35
  go_wp2_with fail
  refine (HV.out 772 ga gt _ K_ga.out K_gt.out).mono ?_
  rintro e_39 w_40 ⟨rfl, hb⟩
  have hB_41 := Lib.hid (below_step hB_38.out hb)
  replace K_ga := Lib.hid (K_ga.out.below hb)
  replace K_gt := Lib.hid (blk_below K_gt.out hb)
  clear hb hB_38
  go_wp2_with fail
  refine (HV.out 1605 ga gt _ K_ga.out K_gt.out).mono ?_
  rintro e_42 w_43 ⟨rfl, hb⟩
  have hB_44 := Lib.hid (below_step hB_41.out hb)
  replace K_ga := Lib.hid (K_ga.out.below hb)
  replace K_gt := Lib.hid (blk_below K_gt.out hb)
  clear hb hB_41
  go_wp2_with fail
  refine (HV.out 836 ga gt _ K_ga.out K_gt.out).mono ?_
  rintro e_45 w_46 ⟨rfl, hb⟩
  have hB_47 := Lib.hid (below_step hB_44.out hb)
  replace K_ga := Lib.hid (K_ga.out.below hb)
  replace K_gt := Lib.hid (blk_below K_gt.out hb)
  clear hb hB_44
  go_wp2_with fail
  refine (HV.out 580 ga gt _ K_ga.out K_gt.out).mono ?_
  rintro e_48 w_49 ⟨rfl, hb⟩
  have hB_50 := Lib.hid (below_step hB_47.out hb)
  replace K_ga := Lib.hid (K_ga.out.below hb)
  replace K_gt := Lib.hid (blk_below K_gt.out hb)
  clear hb hB_47
  go_wp2_with fail
  refine (HV.out 1604 ga gt _ K_ga.out K_gt.out).mono ?_
  rintro e_51 w_52 ⟨rfl, hb⟩
  have hB_53 := Lib.hid (below_step hB_50.out hb)
  replace K_ga := Lib.hid (K_ga.out.below hb)
  replace K_gt := Lib.hid (blk_below K_gt.out hb)
  clear hb hB_50
  go_wp2_with fail
  refine (HV.out 516 ga gt _ K_ga.out K_gt.out).mono ?_
  rintro e_54 w_55 ⟨rfl, hb⟩
  have hB_56 := Lib.hid (below_step hB_53.out hb)
  replace K_ga := Lib.hid (K_ga.out.below hb)
  replace K_gt := Lib.hid (blk_below K_gt.out hb)
  clear hb hB_53
  go_wp2_with fail
  refine (HV.out 1540 ga gt _ K_ga.out K_gt.out).mono ?_
  rintro e_57 w_58 ⟨rfl, hb⟩
  have hB_59 := Lib.hid (below_step hB_56.out hb)
  replace K_ga := Lib.hid (K_ga.out.below hb)
  replace K_gt := Lib.hid (blk_below K_gt.out hb)
  clear hb hB_56
  go_wp2_with fail
  refine (wakes_c _ (Tab.from HT.out hB_59.out)).mono ?_
  rintro e_60 w_61 ⟨rfl, hb⟩
  have hB_62 := Lib.hid (below_step hB_59.out hb)
  replace K_ga := Lib.hid (K_ga.out.below hb)
  replace K_gt := Lib.hid (blk_below K_gt.out hb)
  clear hb hB_59
  go_wp2
  go_ret
  exact ⟨rfl, hB_62.out⟩
end Go.Proofs.YtlopmcakfalkpaaDoor.Hx
