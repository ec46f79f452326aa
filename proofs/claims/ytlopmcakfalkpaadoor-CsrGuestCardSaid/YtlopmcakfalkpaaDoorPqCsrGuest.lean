/- What a guest's supervisor reads and writes as its own is the guest's, and the host's own stays. (By a program of this session.) -/
import Derived.Test.YtlopmcakfalkpaaDoorCGuest
import Derived.Test.YtlopmcakfalkpaaDoorHrow
import Derived.Test.YtlopmcakfalkpaaDoorCWakes
set_option linter.unusedSimpArgs false
set_option linter.unusedVariables false
namespace Go.Proofs.YtlopmcakfalkpaaDoor.Hx
open Go.RowKit Go.Proofs.YtlopmcakfalkpaaDoor.Q Go.Proofs.YtlopmcakfalkpaaDoorW.PrintWords Go.Proofs.YtlopmcakfalkpaaDoorW.PrintLast Go.Proofs.YtlopmcakfalkpaaDoorW.PrintMore Go.Proofs.YtlopmcakfalkpaaDoor.Rg

theorem v_same {b : Ht} (h : b.v = false) : ({ b with v := false } : Ht) = b := by
  cases b; simp only at h; subst h; rfl
theorem exec_idx {o : Oper} {ρ : Operand → Value} {W : World} {x y : Operand} {n gs c k : Nat} (h : k < n) (ho : o.op = .indexAddr 40 x y) (hx : ρ x = .slice (some ⟨gs, 0, none⟩) n c) (hy : ρ y = .int .i64 (k : Int)) : (execOp ρ o).run Tryd.prog W = .ok (.value (.pointer (some ⟨gs, k, none⟩))) W := by
  unfold execOp
  simp only [ho, hx, hy, Sem.run_bind, Sem.run_pure, Result.andThen_ok, sl_index n gs c k h]
theorem exec_store_hart {o : Oper} {ρ : Operand → Value} {w : World} {x y : Operand} {g : Nat} {h k0 : Ht} (ho : o.op = .store 25 x y) (hx : ρ x = .pointer (some ⟨g, 0, none⟩)) (hy : ρ y = .agg h.cs) (K : Hb w g k0) : (execOp ρ o).run Tryd.prog w = .ok .skip (w.setCells g 0 h.cs.toList) := by
  have e := run_storeVar_mid (P := Tryd.prog) w g 0 25 h.cs (by rw [h.size]; exact K.there) (by rw [h.size]; exact hartSize) (ht_one h)
  unfold execOp
  simp only [ho, hx, hy, Instr.storeAt, Instr.sureAddr, Sem.run_bind, Sem.run_pure, Result.andThen_ok, e]
theorem alloc_ {ops : Array Oper} {Q : Exit → Act → World → Prop} {oi : Oper} {N : Option Tmp} {a : Act} {w : World} {K : Act → World → Prop} (hw : Region.wanted oi (yielded ops a.tmps) = true) (hN : oi.dst = N)
    (hrun : (execOp a.eval oi).run Tryd.prog w = .ok (.value (.pointer (some ⟨w.heap.size, 0, none⟩))) (w.alloc (.cells Ht.zero.cs 25 (0, 0))))
    (h : ∀ g w1, g = w.heap.size → Hb w1 g Ht.zero → Below w.heap.size w w1 → K (a.put N (.pointer (some ⟨g, 0, none⟩))) w1) : if Region.wanted oi (yielded ops a.tmps) = true then Oper.wp Tryd.prog oi a w K Q else K (a.put N undef) w :=
  value_ hw hN hrun (h _ _ rfl (blk_new w _) (below_alloc (Below.refl _ _) _))
set_option maxHeartbeats 16000000 in
set_option maxRecDepth 100000 in
theorem guest_c (h : Ht) (hw : h.wf) (la lb lc ld : Bool) (lg lt : Int) (which v : Int) (hwhich : 0 ≤ which ∧ which < 256) (hv : 0 ≤ v ∧ v < 18446744073709551616) (w : World) (hT : Tab w) : Calls Tryd.prog 10 #[.agg h.cs, .agg #[.bool la, .bool lb, .bool lc, .bool ld, .int .u64 lg, .int .u64 lt], .int .u8 which, .int .u64 v] w fun e w' => e = .returned (.bool true) ∧ Below w.heap.size w w' := by
  have hf := fix_c h
  have hw2 := wf_fix hw
  generalize fix h = f at *
  obtain ⟨i, hi, ei⟩ : ∃ i : Nat, i < 9 ∧ which.tmod 9 = (i : Int) := ⟨(which.tmod 9).toNat, by rw [Int.tmod_eq_emod_of_nonneg hwhich.1]; omega, by rw [Int.tmod_eq_emod_of_nonneg hwhich.1]; omega⟩
  have hww : wrap64 which = which := by unfold wrap64; omega
  have gr := g_read f la lb lc ld lg lt i hi
  have gw := g_write f v i hi
  have ga_ := g_after f hw2 v la lb lc ld lg lt i hi
  have hr1 := read_c (gst f) la lb lc ld lg lt (mine i)
  have hr2 := read_c (host (gst f)) la lb lc ld lg lt (its i)
  rw [gr] at hr1
  generalize readV (host (gst f)) la lb lc ld lg lt (its i) = r at hr1 hr2
  have d1 : (r != r) = false := bne_self_eq_false _
  have hwa := write_c (gst f) la lb lc ld lg lt (mine i) v
  have hwb := write_c (host (gst f)) la lb lc ld lg lt (its i) v
  obtain ⟨gw1, gw2⟩ := gw
  rw [gw1] at hwa
  generalize writeV (host (gst f)) (its i) v = b at *
  have hbv : b.v = false := by rw [← gw2]
  have hrb := fun k => read_c b la lb lc ld lg lt (mine k)
  have hrh := fun k => read_c (host (gst f)) la lb lc ld lg lt (mine k)
  have HF := Lib.hid hf; have HR1 := Lib.hid hr1; have HR2 := Lib.hid hr2; have HWA := Lib.hid hwa; have HWB := Lib.hid hwb; have HGA := Lib.hid ga_; have HRB := Lib.hid hrb; have HRH := Lib.hid hrh; have HT := Lib.hid hT; have HI := Lib.hid hi
  clear hf hr1 hr2 hwa hwb ga_ hrb hrh hT gr gw1 gw2 hw hw2 hv hwhich hi
  have hu25 := Tryd.underlying25; have hu27 := Tryd.underlying27
  go_enter Tryd.func10, Tryd.ntmps10
  go_upto_region 1 with (first | ((with_reducible refine gate_dst (N := 4) rfl ?_); refine box_event ?hg (N := 4) ?hd (cs := h.cs) (t := 25) ?hr ?_; (case hd => rfl); (case hg => rfl); (case hr => first | (go_simp; done) | (go_simp; rfl)); intro ga hg w_1 H1 hb; have hB_2 := Lib.hid (below_step (Below.refl w.heap.size w) hb); have G_ga := Lib.hid (show w.heap.size ≤ ga by rw [hg]; exact ((Below.refl w.heap.size w)).size); have K_ga := Lib.hid (show Hb w_1 ga h from H1); clear hg hb H1) | ((with_reducible refine gate_dst (N := 5) rfl ?_); refine box_event ?hg (N := 5) ?hd (cs := #[.bool la, .bool lb, .bool lc, .bool ld, .int .u64 lg, .int .u64 lt]) (t := 27) ?hr ?_; (case hd => rfl); (case hg => rfl); (case hr => first | (go_simp; done) | (go_simp; rfl)); intro gt hg w_3 H1 hb; have hB_4 := Lib.hid (below_step hB_2.out hb); have G_gt := Lib.hid (show w.heap.size ≤ gt by rw [hg]; exact (hB_2.out).size); have N_ga_gt := Lib.hid (show ga ≠ gt by rw [hg]; exact Nat.ne_of_lt (K_ga.out.lt)); replace K_ga := Lib.hid (K_ga.out.below hb); have K_gt := Lib.hid (show w_3.heap[gt]? = some (.cells #[.bool la, .bool lb, .bool lc, .bool ld, .int .u64 lg, .int .u64 lt] 27 (0, 0)) from H1); clear hg hb H1 hB_2; clear hu27))
  go_wp2_with (first | ((with_reducible refine gate_dst (N := 16) rfl ?_); (first | (refine gate_guard (by kernel_rfl) ?_) | skip); refine Kd.event_run rfl (v := .agg (h).cs) (w1 := w_3) ?hb ?_; (case hb => exact exec_load_hart rfl rfl K_ga.out)))
  refine (HF.out _ (Tab.from HT.out hB_4.out)).mono ?_
  rintro e_5 w_6 ⟨rfl, hb⟩
  have hB_7 := Lib.hid (below_step hB_4.out hb)
  replace K_ga := Lib.hid (K_ga.out.below hb)
  replace K_gt := Lib.hid (blk_below K_gt.out hb)
  clear hb hB_4
  go_upto_region 4 with (first | (refine store_hart rfl (.tmp 4) (.tmp 17) rfl ga (f) rfl rfl (h) K_ga.out ?_; have hB_9 := Lib.hid (setCells_below G_ga.out (Ht.cs (f)).toList 0 _ hB_7.out); replace K_gt := Lib.hid (setCells_far' (vs := (Ht.cs (f)).toList) (o := 0) (Ne.symm N_ga_gt.out) K_gt.out); replace K_ga := Lib.hid (Hb.putAll (f) K_ga.out); clear hB_7; generalize World.setCells w_6 ga 0 (Ht.cs (f)).toList = w_8 at K_ga K_gt hB_9 ⊢; have c_ga_33 := K_ga.out.p; have f_ga_33 := K_ga.out.fr 33; have c_ga_34 := K_ga.out.cv; have f_ga_34 := K_ga.out.fr 34))
  refine world_code ga (by repeat (with_reducible first | exact K_ga.out | apply Hb.put | apply Hb.putP | apply Hb.putV | apply Hb.putW | apply Hb.putH | apply Hb.far N_ga_gt.out | apply Hb.drewN | apply Hb.drew)) (fun w' => Below w.heap.size w w' ∧ w'.heap[gt]? = some (.cells #[.bool la, .bool lb, .bool lc, .bool ld, .int .u64 lg, .int .u64 lt] 27 (0, 0))) ⟨(by repeat (first | (with_reducible first | exact hB_9.out | apply pw_below_drewN | apply below_drew1 | refine below_set ?_ G_ga.out | refine below_set ?_ G_gt.out) | exact hB_9.out)), (by repeat (with_reducible first | exact K_gt.out | apply blk_drewN | apply blk_drew | refine blk_far ?_ (show gt ≠ _ from (Ne.symm N_ga_gt.out)) _))⟩ ?_
  clear c_ga_33 f_ga_33 c_ga_34 f_ga_34
  clear K_ga K_gt hB_9
  rintro w_10 q_ ⟨b_, q_gt⟩
  have K_ga := Lib.hid q_; have hB_11 := Lib.hid b_; have K_gt := Lib.hid q_gt
  clear q_ b_ q_gt
  go_upto_region 7 with (first | ((with_reducible refine gate_dst (N := 20) rfl ?_); refine flat_event rfl 40 3 9 _ rfl .i64 mineL Tryd.underlying40 (by kernel_rfl) (by kernel_rfl) (by rfl) (by decide) (by decide) (by rfl) ?_; intro gm hg w_12 H1 hb; have hB_13 := Lib.hid (below_step hB_11.out hb); have G_gm := Lib.hid (show w.heap.size ≤ gm by rw [hg]; exact (hB_11.out).size); have N_ga_gm := Lib.hid (show ga ≠ gm by rw [hg]; exact Nat.ne_of_lt (K_ga.out.lt)); have N_gt_gm := Lib.hid (show gt ≠ gm by rw [hg]; exact Nat.ne_of_lt (blk_lt K_gt.out)); replace K_ga := Lib.hid (K_ga.out.below hb); replace K_gt := Lib.hid (blk_below K_gt.out hb); have K_gm := Lib.hid (show w_12.heap[gm]? = some (.cells #[.int .i64 256, .int .i64 260, .int .i64 261, .int .i64 320, .int .i64 321, .int .i64 322, .int .i64 323, .int .i64 324, .int .i64 384] 3 (0, 0)) from H1); clear hg hb H1 hB_11) | ((with_reducible refine gate_dst (N := 21) rfl ?_); refine flat_event rfl 40 3 9 _ rfl .i64 itsL Tryd.underlying40 (by kernel_rfl) (by kernel_rfl) (by rfl) (by decide) (by decide) (by rfl) ?_; intro gi hg w_14 H1 hb; have hB_15 := Lib.hid (below_step hB_13.out hb); have G_gi := Lib.hid (show w.heap.size ≤ gi by rw [hg]; exact (hB_13.out).size); have N_ga_gi := Lib.hid (show ga ≠ gi by rw [hg]; exact Nat.ne_of_lt (K_ga.out.lt)); have N_gt_gi := Lib.hid (show gt ≠ gi by rw [hg]; exact Nat.ne_of_lt (blk_lt K_gt.out)); have N_gm_gi := Lib.hid (show gm ≠ gi by rw [hg]; exact Nat.ne_of_lt (blk_lt K_gm.out)); replace K_ga := Lib.hid (K_ga.out.below hb); replace K_gt := Lib.hid (blk_below K_gt.out hb); replace K_gm := Lib.hid (blk_below K_gm.out hb); have K_gi := Lib.hid (show w_14.heap[gi]? = some (.cells #[.int .i64 512, .int .i64 516, .int .i64 517, .int .i64 576, .int .i64 577, .int .i64 578, .int .i64 579, .int .i64 580, .int .i64 640] 3 (0, 0)) from H1); clear hg hb H1 hB_13))
  go_upto_region 9 with (first | ((with_reducible refine gate_dst (N := 27) rfl ?_); (first | (refine gate_guard (by kernel_rfl) ?_) | skip); refine Kd.event_run rfl (v := .agg ((gst f)).cs) (w1 := w_14) ?hb ?_; (case hb => exact exec_load_hart rfl rfl K_ga.out)) | ((with_reducible refine gate_dst (N := 12) rfl ?_); refine box_event ?hg (N := 12) ?hd (cs := Ht.zero.cs) (t := 25) ?hr ?_; (case hd => rfl); (case hg => rfl); (case hr => first | (go_simp; done) | (go_simp; rfl)); intro gh hg w_16 H1 hb; have hB_18 := Lib.hid (below_step hB_15.out hb); have G_gh := Lib.hid (show w.heap.size ≤ gh by rw [hg]; exact (hB_15.out).size); have N_ga_gh := Lib.hid (show ga ≠ gh by rw [hg]; exact Nat.ne_of_lt (K_ga.out.lt)); have N_gt_gh := Lib.hid (show gt ≠ gh by rw [hg]; exact Nat.ne_of_lt (blk_lt K_gt.out)); have N_gm_gh := Lib.hid (show gm ≠ gh by rw [hg]; exact Nat.ne_of_lt (blk_lt K_gm.out)); have N_gi_gh := Lib.hid (show gi ≠ gh by rw [hg]; exact Nat.ne_of_lt (blk_lt K_gi.out)); replace K_ga := Lib.hid (K_ga.out.below hb); replace K_gt := Lib.hid (blk_below K_gt.out hb); replace K_gm := Lib.hid (blk_below K_gm.out hb); replace K_gi := Lib.hid (blk_below K_gi.out hb); have K_gh := Lib.hid (show Hb w_16 gh Ht.zero from H1); clear hg hb H1 hB_15) | (refine store_hart rfl (.tmp 12) (.tmp 27) rfl gh (gst f) rfl rfl Ht.zero K_gh.out ?_; have hB_19 := Lib.hid (setCells_below G_gh.out (Ht.cs (gst f)).toList 0 _ hB_18.out); replace K_ga := Lib.hid (Hb.farAll (vs := (Ht.cs (gst f)).toList) (o := 0) N_ga_gh.out K_ga.out); replace K_gt := Lib.hid (setCells_far' (vs := (Ht.cs (gst f)).toList) (o := 0) N_gt_gh.out K_gt.out); replace K_gm := Lib.hid (setCells_far' (vs := (Ht.cs (gst f)).toList) (o := 0) N_gm_gh.out K_gm.out); replace K_gi := Lib.hid (setCells_far' (vs := (Ht.cs (gst f)).toList) (o := 0) N_gi_gh.out K_gi.out); replace K_gh := Lib.hid (Hb.putAll (gst f) K_gh.out); clear hB_18; generalize World.setCells w_16 gh 0 (Ht.cs (gst f)).toList = w_17 at K_ga K_gt K_gm K_gi K_gh hB_19 ⊢; have c_gh_34 := K_gh.out.cv; have f_gh_34 := K_gh.out.fr 34))
  refine world_code gh (by repeat (with_reducible first | exact K_gh.out | apply Hb.put | apply Hb.putP | apply Hb.putV | apply Hb.putW | apply Hb.putH | apply Hb.far (Ne.symm N_ga_gh.out) | apply Hb.far (Ne.symm N_gt_gh.out) | apply Hb.far (Ne.symm N_gm_gh.out) | apply Hb.far (Ne.symm N_gi_gh.out) | apply Hb.drewN | apply Hb.drew)) (fun w' => Below w.heap.size w w' ∧ Hb w' ga (gst f) ∧ w'.heap[gt]? = some (.cells #[.bool la, .bool lb, .bool lc, .bool ld, .int .u64 lg, .int .u64 lt] 27 (0, 0)) ∧ w'.heap[gm]? = some (.cells #[.int .i64 256, .int .i64 260, .int .i64 261, .int .i64 320, .int .i64 321, .int .i64 322, .int .i64 323, .int .i64 324, .int .i64 384] 3 (0, 0)) ∧ w'.heap[gi]? = some (.cells #[.int .i64 512, .int .i64 516, .int .i64 517, .int .i64 576, .int .i64 577, .int .i64 578, .int .i64 579, .int .i64 580, .int .i64 640] 3 (0, 0))) ⟨(by repeat (first | (with_reducible first | exact hB_19.out | apply pw_below_drewN | apply below_drew1 | refine below_set ?_ G_ga.out | refine below_set ?_ G_gt.out | refine below_set ?_ G_gm.out | refine below_set ?_ G_gi.out | refine below_set ?_ G_gh.out) | exact hB_19.out)), (by repeat (with_reducible first | exact K_ga.out | apply Hb.put | apply Hb.putP | apply Hb.putV | apply Hb.putW | apply Hb.putH | apply Hb.far N_ga_gt.out | apply Hb.far N_ga_gm.out | apply Hb.far N_ga_gi.out | apply Hb.far N_ga_gh.out | apply Hb.drewN | apply Hb.drew)), (by repeat (with_reducible first | exact K_gt.out | apply blk_drewN | apply blk_drew | refine blk_far ?_ (show gt ≠ _ from (Ne.symm N_ga_gt.out)) _ | refine blk_far ?_ (show gt ≠ _ from N_gt_gm.out) _ | refine blk_far ?_ (show gt ≠ _ from N_gt_gi.out) _ | refine blk_far ?_ (show gt ≠ _ from N_gt_gh.out) _)), (by repeat (with_reducible first | exact K_gm.out | apply blk_drewN | apply blk_drew | refine blk_far ?_ (show gm ≠ _ from (Ne.symm N_ga_gm.out)) _ | refine blk_far ?_ (show gm ≠ _ from (Ne.symm N_gt_gm.out)) _ | refine blk_far ?_ (show gm ≠ _ from N_gm_gi.out) _ | refine blk_far ?_ (show gm ≠ _ from N_gm_gh.out) _)), (by repeat (with_reducible first | exact K_gi.out | apply blk_drewN | apply blk_drew | refine blk_far ?_ (show gi ≠ _ from (Ne.symm N_ga_gi.out)) _ | refine blk_far ?_ (show gi ≠ _ from (Ne.symm N_gt_gi.out)) _ | refine blk_far ?_ (show gi ≠ _ from (Ne.symm N_gm_gi.out)) _ | refine blk_far ?_ (show gi ≠ _ from N_gi_gh.out) _))⟩ ?_
  clear c_gh_34 f_gh_34
  clear K_ga K_gt K_gm K_gi K_gh hB_19
  rintro w_20 q_ ⟨b_, q_ga, q_gt, q_gm, q_gi⟩
  have K_gh := Lib.hid q_; have hB_21 := Lib.hid b_; have K_ga := Lib.hid q_ga; have K_gt := Lib.hid q_gt; have K_gm := Lib.hid q_gm; have K_gi := Lib.hid q_gi
  clear q_ b_ q_ga q_gt q_gm q_gi
  refine start_ (n := 15) (S := fun w' => Hb w' ga (gst f) ∧ w'.heap[gt]? = some (.cells #[.bool la, .bool lb, .bool lc, .bool ld, .int .u64 lg, .int .u64 lt] 27 (0, 0)) ∧ w'.heap[gm]? = some (.cells #[.int .i64 256, .int .i64 260, .int .i64 261, .int .i64 320, .int .i64 321, .int .i64 322, .int .i64 323, .int .i64 324, .int .i64 384] 3 (0, 0)) ∧ w'.cell? ⟨gm, i, none⟩ = some (.int .i64 (mine i)) ∧ Hb w' gh (host (gst f)) ∧ w'.heap[gi]? = some (.cells #[.int .i64 512, .int .i64 516, .int .i64 517, .int .i64 576, .int .i64 577, .int .i64 578, .int .i64 579, .int .i64 580, .int .i64 640] 3 (0, 0)) ∧ w'.cell? ⟨gi, i, none⟩ = some (.int .i64 (its i))) (ds := []) #[false, false, false, false, false, false, false, false, false, false, false, false, false, false, false] (by kernel_rfl) rfl rfl ⟨K_ga.out.drew, blk_drew K_gt.out, blk_drew K_gm.out, ((blk_cell (blk_drew K_gm.out) i).trans (mine_at i HI.out)), K_gh.out.drew, blk_drew K_gi.out, ((blk_cell (blk_drew K_gi.out) i).trans (its_at i HI.out))⟩ (fun hHeld => ?_)
  replace K_ga := Lib.hid (K_ga.out.drew)
  replace K_gt := Lib.hid (blk_drew K_gt.out)
  replace K_gm := Lib.hid (blk_drew K_gm.out)
  replace K_gi := Lib.hid (blk_drew K_gi.out)
  replace K_gh := Lib.hid (K_gh.out.drew)
  have hB_23 := Lib.hid (below_drew1 hB_21.out)
  clear hB_21
  generalize World.drew w_20 = w_22 at K_ga K_gt K_gm K_gi K_gh hB_23 hHeld ⊢
  refine pure_ (i := 2) (N := some 31) (v := ?_) (a' := ?_) #[false, false, true, false, false, false, false, false, false, false, false, false, false, false, false] rfl rfl (by kernel_rfl) (fun _ _ _ h => h) (Or.inl ⟨by rfl, ?_⟩) ?_ ?_
  rotate_left
  · intro w'
    go_simp
    with_reducible rfl
  rotate_left
  · simp only [Act.put, List.setIfInBounds_toArray, List.set_cons_zero, List.set_cons_succ, i64_w, i32_w]
    rfl
  refine pure_ (i := 3) (N := some 32) (v := ?_) (a' := ?_) #[false, false, true, true, false, false, false, false, false, false, false, false, false, false, false] rfl rfl (by kernel_rfl) (fun _ _ _ h => h) (Or.inl ⟨by rfl, ?_⟩) ?_ ?_
  rotate_left
  · intro w'
    go_simp
    with_reducible rfl
  rotate_left
  · simp only [Act.put, List.setIfInBounds_toArray, List.set_cons_zero, List.set_cons_succ, i64_w, i32_w]
    rfl
  refine pure_ (i := 4) (N := some 33) (v := .pointer (some ⟨gm, i, none⟩)) (a' := ?_) #[false, false, true, true, true, false, false, false, false, false, false, false, false, false, false] rfl rfl (by kernel_rfl) (fun _ _ _ h => h) (Or.inl ⟨by rfl, ?_⟩) ?_ ?_
  · intro w'; exact exec_idx HI.out rfl rfl rfl
  rotate_left
  · simp only [Act.put, List.setIfInBounds_toArray, List.set_cons_zero, List.set_cons_succ, i64_w, i32_w]
    rfl
  refine pure_ (i := 9) (N := some 38) (v := ?_) (a' := ?_) #[false, false, true, true, true, false, false, false, false, true, false, false, false, false, false] rfl rfl (by kernel_rfl) (fun _ _ _ h => h) (Or.inl ⟨by rfl, ?_⟩) ?_ ?_
  rotate_left
  · intro w'
    go_simp
    with_reducible rfl
  rotate_left
  · simp only [Act.put, List.setIfInBounds_toArray, List.set_cons_zero, List.set_cons_succ, i64_w, i32_w]
    rfl
  refine pure_ (i := 10) (N := some 39) (v := ?_) (a' := ?_) #[false, false, true, true, true, false, false, false, false, true, true, false, false, false, false] rfl rfl (by kernel_rfl) (fun _ _ _ h => h) (Or.inl ⟨by rfl, ?_⟩) ?_ ?_
  rotate_left
  · intro w'
    go_simp
    with_reducible rfl
  rotate_left
  · simp only [Act.put, List.setIfInBounds_toArray, List.set_cons_zero, List.set_cons_succ, i64_w, i32_w]
    rfl
  refine pure_ (i := 11) (N := some 40) (v := .pointer (some ⟨gi, i, none⟩)) (a' := ?_) #[false, false, true, true, true, false, false, false, false, true, true, true, false, false, false] rfl rfl (by kernel_rfl) (fun _ _ _ h => h) (Or.inl ⟨by rfl, ?_⟩) ?_ ?_
  · intro w'; exact exec_idx HI.out rfl rfl rfl
  rotate_left
  · simp only [Act.put, List.setIfInBounds_toArray, List.set_cons_zero, List.set_cons_succ, i64_w, i32_w]
    rfl
  refine take_ (i := 0) (N := some 29) (v := .agg (gst f).cs) (a' := ?_) #[true, false, true, true, true, false, false, false, false, true, true, true, false, false, false] rfl rfl (by kernel_rfl) (fun _ _ _ h => h) (Or.inl ⟨by rfl, ?_⟩) hHeld ?_ ?_
  · rintro w' ⟨s0, s1, s2, s3, s4, s5, s6⟩; exact exec_load_hart rfl rfl s0
  rotate_left
  · simp only [Act.put, List.setIfInBounds_toArray, List.set_cons_zero, List.set_cons_succ, i64_w, i32_w]
    rfl
  refine take_ (i := 1) (N := some 30) (v := .agg #[.bool la, .bool lb, .bool lc, .bool ld, .int .u64 lg, .int .u64 lt]) (a' := ?_) #[true, true, true, true, true, false, false, false, false, true, true, true, false, false, false] rfl rfl (by kernel_rfl) (fun _ _ _ h => h) (Or.inl ⟨by rfl, ?_⟩) hHeld ?_ ?_
  · rintro w' ⟨s0, s1, s2, s3, s4, s5, s6⟩; exact exec_load_blk rfl rfl s1 Tryd.underlying27 rfl (by kernel_rfl)
  rotate_left
  · simp only [Act.put, List.setIfInBounds_toArray, List.set_cons_zero, List.set_cons_succ, i64_w, i32_w]
    rfl
  refine take_ (i := 5) (N := some 34) (v := ?_) (a' := ?_) #[true, true, true, true, true, true, false, false, false, true, true, true, false, false, false] rfl rfl (by kernel_rfl) (fun _ _ _ h => h) (Or.inl ⟨by rfl, ?_⟩) hHeld ?_ ?_
  rotate_left
  · rintro w' ⟨s0, s1, s2, s3, s4, s5, s6⟩
    go_simp
    with_reducible rfl
  rotate_left
  · simp only [Act.put, List.setIfInBounds_toArray, List.set_cons_zero, List.set_cons_succ, i64_w, i32_w]
    rfl
  refine take_ (i := 7) (N := some 36) (v := .agg (host (gst f)).cs) (a' := ?_) #[true, true, true, true, true, true, false, true, false, true, true, true, false, false, false] rfl rfl (by kernel_rfl) (fun _ _ _ h => h) (Or.inl ⟨by rfl, ?_⟩) hHeld ?_ ?_
  · rintro w' ⟨s0, s1, s2, s3, s4, s5, s6⟩; exact exec_load_hart rfl rfl s4
  rotate_left
  · simp only [Act.put, List.setIfInBounds_toArray, List.set_cons_zero, List.set_cons_succ, i64_w, i32_w]
    rfl
  refine take_ (i := 8) (N := some 37) (v := .agg #[.bool la, .bool lb, .bool lc, .bool ld, .int .u64 lg, .int .u64 lt]) (a' := ?_) #[true, true, true, true, true, true, false, true, true, true, true, true, false, false, false] rfl rfl (by kernel_rfl) (fun _ _ _ h => h) (Or.inl ⟨by rfl, ?_⟩) hHeld ?_ ?_
  · rintro w' ⟨s0, s1, s2, s3, s4, s5, s6⟩; exact exec_load_blk rfl rfl s1 Tryd.underlying27 rfl (by kernel_rfl)
  rotate_left
  · simp only [Act.put, List.setIfInBounds_toArray, List.set_cons_zero, List.set_cons_succ, i64_w, i32_w]
    rfl
  refine take_ (i := 12) (N := some 41) (v := ?_) (a' := ?_) #[true, true, true, true, true, true, false, true, true, true, true, true, true, false, false] rfl rfl (by kernel_rfl) (fun _ _ _ h => h) (Or.inl ⟨by rfl, ?_⟩) hHeld ?_ ?_
  rotate_left
  · rintro w' ⟨s0, s1, s2, s3, s4, s5, s6⟩
    go_simp
    with_reducible rfl
  rotate_left
  · simp only [Act.put, List.setIfInBounds_toArray, List.set_cons_zero, List.set_cons_succ, i64_w, i32_w]
    rfl
  have HH := Lib.hid hHeld
  clear hHeld
  refine one_ (i := 6) (N := some 35) #[true, true, true, true, true, true, true, true, true, true, true, true, true, false, false] rfl rfl (by kernel_rfl) (by decide) (fun K hK => ?_)
  refine goes_ Tryd.func13 (by kernel_rfl) rfl #[.agg (gst f).cs, .agg #[.bool la, .bool lb, .bool lc, .bool ld, .int .u64 lg, .int .u64 lt], .int .i64 (mine i)] (by rfl) rfl rfl (by simp only [List.map_toArray, List.map_cons, List.map_nil]; rfl) ?_
  with_reducible refine (HR1.out _).mono ?_
  rintro e_ w_24 ⟨rfl, hb⟩
  refine ⟨_, rfl, ?_⟩
  have s_0 := Hb.below (HH.out.1) hb
  have s_1 := blk_below (HH.out.2.1) hb
  have s_2 := blk_below (HH.out.2.2.1) hb
  have s_3 := ((blk_cell s_2 i).trans (mine_at i HI.out))
  have s_4 := Hb.below (HH.out.2.2.2.2.1) hb
  have s_5 := blk_below (HH.out.2.2.2.2.2.1) hb
  have s_6 := ((blk_cell s_5 i).trans (its_at i HI.out))
  replace K_ga := Lib.hid (K_ga.out.below hb)
  replace K_gt := Lib.hid (blk_below K_gt.out hb)
  replace K_gm := Lib.hid (blk_below K_gm.out hb)
  replace K_gi := Lib.hid (blk_below K_gi.out hb)
  replace K_gh := Lib.hid (K_gh.out.below hb)
  have hB_25 := Lib.hid (below_step hB_23.out hb)
  clear HH hb hB_23
  refine hK.out _ _ ⟨s_0, s_1, s_2, s_3, s_4, s_5, s_6⟩ (fun hHeld => ?_)
  have HH := Lib.hid hHeld
  clear hHeld s_0 s_1 s_2 s_3 s_4 s_5 s_6
  clear hK K
  refine norm_ (a' := ?_) ?_ ?_
  rotate_left
  · show Act.put _ (some 35) _ = _
    simp only [Act.put, List.setIfInBounds_toArray, List.set_cons_zero, List.set_cons_succ, i64_w, i32_w]
    rfl
  refine one_ (i := 13) (N := some 42) #[true, true, true, true, true, true, true, true, true, true, true, true, true, true, false] rfl rfl (by kernel_rfl) (by decide) (fun K hK => ?_)
  refine goes_ Tryd.func13 (by kernel_rfl) rfl #[.agg (host (gst f)).cs, .agg #[.bool la, .bool lb, .bool lc, .bool ld, .int .u64 lg, .int .u64 lt], .int .i64 (its i)] (by rfl) rfl rfl (by simp only [List.map_toArray, List.map_cons, List.map_nil]; rfl) ?_
  with_reducible refine (HR2.out _).mono ?_
  rintro e_ w_26 ⟨rfl, hb⟩
  refine ⟨_, rfl, ?_⟩
  have s_0 := Hb.below (HH.out.1) hb
  have s_1 := blk_below (HH.out.2.1) hb
  have s_2 := blk_below (HH.out.2.2.1) hb
  have s_3 := ((blk_cell s_2 i).trans (mine_at i HI.out))
  have s_4 := Hb.below (HH.out.2.2.2.2.1) hb
  have s_5 := blk_below (HH.out.2.2.2.2.2.1) hb
  have s_6 := ((blk_cell s_5 i).trans (its_at i HI.out))
  replace K_ga := Lib.hid (K_ga.out.below hb)
  replace K_gt := Lib.hid (blk_below K_gt.out hb)
  replace K_gm := Lib.hid (blk_below K_gm.out hb)
  replace K_gi := Lib.hid (blk_below K_gi.out hb)
  replace K_gh := Lib.hid (K_gh.out.below hb)
  have hB_27 := Lib.hid (below_step hB_25.out hb)
  clear HH hb hB_25
  refine hK.out _ _ ⟨s_0, s_1, s_2, s_3, s_4, s_5, s_6⟩ (fun hHeld => ?_)
  have HH := Lib.hid hHeld
  clear hHeld s_0 s_1 s_2 s_3 s_4 s_5 s_6
  clear hK K
  refine norm_ (a' := ?_) ?_ ?_
  rotate_left
  · show Act.put _ (some 42) _ = _
    simp only [Act.put, List.setIfInBounds_toArray, List.set_cons_zero, List.set_cons_succ, i64_w, i32_w]
    rfl
  refine pure_ (i := 14) (N := some 43) (v := ?_) (a' := ?_) #[true, true, true, true, true, true, true, true, true, true, true, true, true, true, true] rfl rfl (by kernel_rfl) (fun _ _ _ h => h) (Or.inl ⟨by rfl, ?_⟩) ?_ ?_
  rotate_left
  · intro w'
    go_simp
    with_reducible rfl
  rotate_left
  · simp only [Act.put, List.setIfInBounds_toArray, List.set_cons_zero, List.set_cons_succ, i64_w, i32_w]
    rfl
  refine done_ (by kernel_rfl) ?_
  try clear HH
  go_upto_region 11 with fail
  refine start_ (n := 10) (S := fun w' => Hb w' ga (gst f) ∧ w'.heap[gt]? = some (.cells #[.bool la, .bool lb, .bool lc, .bool ld, .int .u64 lg, .int .u64 lt] 27 (0, 0)) ∧ w'.heap[gm]? = some (.cells #[.int .i64 256, .int .i64 260, .int .i64 261, .int .i64 320, .int .i64 321, .int .i64 322, .int .i64 323, .int .i64 324, .int .i64 384] 3 (0, 0)) ∧ w'.cell? ⟨gm, i, none⟩ = some (.int .i64 (mine i)) ∧ Hb w' gh (host (gst f)) ∧ w'.heap[gi]? = some (.cells #[.int .i64 512, .int .i64 516, .int .i64 517, .int .i64 576, .int .i64 577, .int .i64 578, .int .i64 579, .int .i64 580, .int .i64 640] 3 (0, 0)) ∧ w'.cell? ⟨gi, i, none⟩ = some (.int .i64 (its i)) ∧ Below w.heap.size w w' ∧ Tab w') (ds := [9]) #[false, false, false, false, false, false, false, false, false, false] (by kernel_rfl) rfl rfl ⟨K_ga.out.drew, blk_drew K_gt.out, blk_drew K_gm.out, ((blk_cell (blk_drew K_gm.out) i).trans (mine_at i HI.out)), K_gh.out.drew, blk_drew K_gi.out, ((blk_cell (blk_drew K_gi.out) i).trans (its_at i HI.out)), (below_drew1 hB_27.out), (Tab.from HT.out (below_drew1 hB_27.out))⟩ (fun hHeld => ?_)
  clear K_ga K_gt K_gm K_gi K_gh hB_27
  generalize World.drew w_26 = w_30 at hHeld ⊢
  refine pure_ (i := 2) (N := some 46) (v := ?_) (a' := ?_) #[false, false, true, false, false, false, false, false, false, false] rfl rfl (by kernel_rfl) (fun _ _ _ h => h) (Or.inl ⟨by rfl, ?_⟩) ?_ ?_
  rotate_left
  · intro w'
    go_simp
    with_reducible rfl
  rotate_left
  · simp only [Act.put, List.setIfInBounds_toArray, List.set_cons_zero, List.set_cons_succ, i64_w, i32_w]
    rfl
  refine pure_ (i := 3) (N := some 47) (v := ?_) (a' := ?_) #[false, false, true, true, false, false, false, false, false, false] rfl rfl (by kernel_rfl) (fun _ _ _ h => h) (Or.inl ⟨by rfl, ?_⟩) ?_ ?_
  rotate_left
  · intro w'
    go_simp
    with_reducible rfl
  rotate_left
  · simp only [Act.put, List.setIfInBounds_toArray, List.set_cons_zero, List.set_cons_succ, i64_w, i32_w]
    rfl
  refine pure_ (i := 4) (N := some 48) (v := .pointer (some ⟨gm, i, none⟩)) (a' := ?_) #[false, false, true, true, true, false, false, false, false, false] rfl rfl (by kernel_rfl) (fun _ _ _ h => h) (Or.inl ⟨by rfl, ?_⟩) ?_ ?_
  · intro w'; exact exec_idx HI.out rfl rfl rfl
  rotate_left
  · simp only [Act.put, List.setIfInBounds_toArray, List.set_cons_zero, List.set_cons_succ, i64_w, i32_w]
    rfl
  refine pure_ (i := 6) (N := some 50) (v := ?_) (a' := ?_) #[false, false, true, true, true, false, true, false, false, false] rfl rfl (by kernel_rfl) (fun _ _ _ h => h) (Or.inl ⟨by rfl, ?_⟩) ?_ ?_
  rotate_left
  · intro w'
    go_simp
    with_reducible rfl
  rotate_left
  · simp only [Act.put, List.setIfInBounds_toArray, List.set_cons_zero, List.set_cons_succ, i64_w, i32_w]
    rfl
  refine take_ (i := 0) (N := some 44) (v := .agg (gst f).cs) (a' := ?_) #[true, false, true, true, true, false, true, false, false, false] rfl rfl (by kernel_rfl) (fun _ _ _ h => h) (Or.inl ⟨by rfl, ?_⟩) hHeld ?_ ?_
  · rintro w' ⟨s0, s1, s2, s3, s4, s5, s6, s7, s8⟩; exact exec_load_hart rfl rfl s0
  rotate_left
  · simp only [Act.put, List.setIfInBounds_toArray, List.set_cons_zero, List.set_cons_succ, i64_w, i32_w]
    rfl
  refine take_ (i := 1) (N := some 45) (v := .agg #[.bool la, .bool lb, .bool lc, .bool ld, .int .u64 lg, .int .u64 lt]) (a' := ?_) #[true, true, true, true, true, false, true, false, false, false] rfl rfl (by kernel_rfl) (fun _ _ _ h => h) (Or.inl ⟨by rfl, ?_⟩) hHeld ?_ ?_
  · rintro w' ⟨s0, s1, s2, s3, s4, s5, s6, s7, s8⟩; exact exec_load_blk rfl rfl s1 Tryd.underlying27 rfl (by kernel_rfl)
  rotate_left
  · simp only [Act.put, List.setIfInBounds_toArray, List.set_cons_zero, List.set_cons_succ, i64_w, i32_w]
    rfl
  refine take_ (i := 5) (N := some 49) (v := ?_) (a' := ?_) #[true, true, true, true, true, true, true, false, false, false] rfl rfl (by kernel_rfl) (fun _ _ _ h => h) (Or.inl ⟨by rfl, ?_⟩) hHeld ?_ ?_
  rotate_left
  · rintro w' ⟨s0, s1, s2, s3, s4, s5, s6, s7, s8⟩
    go_simp
    with_reducible rfl
  rotate_left
  · simp only [Act.put, List.setIfInBounds_toArray, List.set_cons_zero, List.set_cons_succ, i64_w, i32_w]
    rfl
  refine join_ (σ := Nat) 1 #[true, true, true, true, true, true, true, true, true, false] (fun s => [(51, .agg ({ b with v := true } : Ht).cs), (13, .pointer (some ⟨s, 0, none⟩))]) (fun s w' => ((Hb w' ga (gst f)) ∧ (w'.heap[gt]? = some (.cells #[.bool la, .bool lb, .bool lc, .bool ld, .int .u64 lg, .int .u64 lt] 27 (0, 0))) ∧ (w'.heap[gm]? = some (.cells #[.int .i64 256, .int .i64 260, .int .i64 261, .int .i64 320, .int .i64 321, .int .i64 322, .int .i64 323, .int .i64 324, .int .i64 384] 3 (0, 0))) ∧ (w'.cell? ⟨gm, i, none⟩ = some (.int .i64 (mine i))) ∧ (Hb w' gh (host (gst f))) ∧ (w'.heap[gi]? = some (.cells #[.int .i64 512, .int .i64 516, .int .i64 517, .int .i64 576, .int .i64 577, .int .i64 578, .int .i64 579, .int .i64 580, .int .i64 640] 3 (0, 0))) ∧ (w'.cell? ⟨gi, i, none⟩ = some (.int .i64 (its i))) ∧ (Below w.heap.size w w') ∧ (Tab w')) ∧ Hb w' s Ht.zero ∧ w.heap.size ≤ s ∧ ga ≠ s ∧ gt ≠ s ∧ gm ≠ s ∧ gh ≠ s ∧ gi ≠ s) ?_ ?_
  rotate_left
  · intro hCont
    refine two_ (i := 7) (j := 8) (Ni := some 51) (Nj := some 13) #[true, true, true, true, true, true, true, true, false, false] #[true, true, true, true, true, true, true, false, true, false] rfl rfl rfl rfl (by kernel_rfl) (by decide) (by decide) (fun K hK => ?_) (fun K hK => ?_)
    · skip
      refine goes_ Tryd.func19 (by kernel_rfl) rfl #[.agg (gst f).cs, .agg #[.bool la, .bool lb, .bool lc, .bool ld, .int .u64 lg, .int .u64 lt], .int .i64 (mine i), .int .u64 v] (by rfl) rfl rfl (by simp only [List.map_toArray, List.map_cons, List.map_nil]; rfl) ?_
      with_reducible refine (HWA.out _ (hHeld.2.2.2.2.2.2.2.2)).mono ?_
      rintro e_ w_c ⟨rfl, hb⟩
      refine ⟨_, rfl, ?_⟩
      have s_0 := Hb.below (hHeld.1) hb
      have s_1 := blk_below (hHeld.2.1) hb
      have s_2 := blk_below (hHeld.2.2.1) hb
      have s_3 := ((blk_cell s_2 i).trans (mine_at i HI.out))
      have s_4 := Hb.below (hHeld.2.2.2.2.1) hb
      have s_5 := blk_below (hHeld.2.2.2.2.2.1) hb
      have s_6 := ((blk_cell s_5 i).trans (its_at i HI.out))
      have s_7 := below_step (hHeld.2.2.2.2.2.2.2.1) hb
      have s_8 := Tab.from (hHeld.2.2.2.2.2.2.2.2) hb
      clear hHeld hb
      refine hK.out _ _ ⟨s_0, s_1, s_2, s_3, s_4, s_5, s_6, s_7, s_8⟩ (fun hHeld => ?_)
      clear hK K
      refine norm_ (a' := ?_) ?_ ?_
      rotate_left
      · show Act.put _ (some 51) _ = _
        simp only [Act.put, List.setIfInBounds_toArray, List.set_cons_zero, List.set_cons_succ, i64_w, i32_w]
        rfl
      refine one_ (i := 8) (N := some 13) #[true, true, true, true, true, true, true, true, true, false] rfl rfl (by kernel_rfl) (by decide) (fun K hK => ?_)
      refine alloc_ (by rfl) rfl (by first | (go_simp; done) | (go_simp; rfl)) ?_
      intro gA w_a hg hKn hb
      have s_0 := Hb.below (hHeld.1) hb
      have s_1 := blk_below (hHeld.2.1) hb
      have s_2 := blk_below (hHeld.2.2.1) hb
      have s_3 := ((blk_cell s_2 i).trans (mine_at i HI.out))
      have s_4 := Hb.below (hHeld.2.2.2.2.1) hb
      have s_5 := blk_below (hHeld.2.2.2.2.2.1) hb
      have s_6 := ((blk_cell s_5 i).trans (its_at i HI.out))
      have s_7 := below_step (hHeld.2.2.2.2.2.2.2.1) hb
      have s_8 := Tab.from (hHeld.2.2.2.2.2.2.2.2) hb
      have hGn : w.heap.size ≤ gA := by rw [hg]; exact (hHeld.2.2.2.2.2.2.2.1).size
      have n_ga : ga ≠ gA := by rw [hg]; exact Nat.ne_of_lt (Hb.lt hHeld.1)
      have n_gt : gt ≠ gA := by rw [hg]; exact Nat.ne_of_lt (blk_lt hHeld.2.1)
      have n_gm : gm ≠ gA := by rw [hg]; exact Nat.ne_of_lt (blk_lt hHeld.2.2.1)
      have n_gh : gh ≠ gA := by rw [hg]; exact Nat.ne_of_lt (Hb.lt hHeld.2.2.2.2.1)
      have n_gi : gi ≠ gA := by rw [hg]; exact Nat.ne_of_lt (blk_lt hHeld.2.2.2.2.2.1)
      clear hHeld hb hg
      refine hK.out _ _ ⟨s_0, s_1, s_2, s_3, s_4, s_5, s_6, s_7, s_8⟩ (fun hHeld => ?_)
      clear hK K
      refine norm_ (a' := ?_) ?_ ?_
      rotate_left
      · show Act.put _ (some 13) _ = _
        simp only [Act.put, List.setIfInBounds_toArray, List.set_cons_zero, List.set_cons_succ, i64_w, i32_w]
        rfl
      exact norm_ (by simp only [putAll, Act.put, List.setIfInBounds_toArray, List.set_cons_zero, List.set_cons_succ]) (hCont gA _ ⟨hHeld, hKn, hGn, n_ga, n_gt, n_gm, n_gh, n_gi⟩)
    · skip
      refine alloc_ (by rfl) rfl (by first | (go_simp; done) | (go_simp; rfl)) ?_
      intro gA w_a hg hKn hb
      have s_0 := Hb.below (hHeld.1) hb
      have s_1 := blk_below (hHeld.2.1) hb
      have s_2 := blk_below (hHeld.2.2.1) hb
      have s_3 := ((blk_cell s_2 i).trans (mine_at i HI.out))
      have s_4 := Hb.below (hHeld.2.2.2.2.1) hb
      have s_5 := blk_below (hHeld.2.2.2.2.2.1) hb
      have s_6 := ((blk_cell s_5 i).trans (its_at i HI.out))
      have s_7 := below_step (hHeld.2.2.2.2.2.2.2.1) hb
      have s_8 := Tab.from (hHeld.2.2.2.2.2.2.2.2) hb
      have hGn : w.heap.size ≤ gA := by rw [hg]; exact (hHeld.2.2.2.2.2.2.2.1).size
      have n_ga : ga ≠ gA := by rw [hg]; exact Nat.ne_of_lt (Hb.lt hHeld.1)
      have n_gt : gt ≠ gA := by rw [hg]; exact Nat.ne_of_lt (blk_lt hHeld.2.1)
      have n_gm : gm ≠ gA := by rw [hg]; exact Nat.ne_of_lt (blk_lt hHeld.2.2.1)
      have n_gh : gh ≠ gA := by rw [hg]; exact Nat.ne_of_lt (Hb.lt hHeld.2.2.2.2.1)
      have n_gi : gi ≠ gA := by rw [hg]; exact Nat.ne_of_lt (blk_lt hHeld.2.2.2.2.2.1)
      clear hHeld hb hg
      refine hK.out _ _ ⟨s_0, s_1, s_2, s_3, s_4, s_5, s_6, s_7, s_8⟩ (fun hHeld => ?_)
      clear hK K
      refine norm_ (a' := ?_) ?_ ?_
      rotate_left
      · show Act.put _ (some 13) _ = _
        simp only [Act.put, List.setIfInBounds_toArray, List.set_cons_zero, List.set_cons_succ, i64_w, i32_w]
        rfl
      refine one_ (i := 7) (N := some 51) #[true, true, true, true, true, true, true, true, true, false] rfl rfl (by kernel_rfl) (by decide) (fun K hK => ?_)
      refine goes_ Tryd.func19 (by kernel_rfl) rfl #[.agg (gst f).cs, .agg #[.bool la, .bool lb, .bool lc, .bool ld, .int .u64 lg, .int .u64 lt], .int .i64 (mine i), .int .u64 v] (by rfl) rfl rfl (by simp only [List.map_toArray, List.map_cons, List.map_nil]; rfl) ?_
      with_reducible refine (HWA.out _ (hHeld.2.2.2.2.2.2.2.2)).mono ?_
      rintro e_ w_c ⟨rfl, hb⟩
      refine ⟨_, rfl, ?_⟩
      have s_0 := Hb.below (hHeld.1) hb
      have s_1 := blk_below (hHeld.2.1) hb
      have s_2 := blk_below (hHeld.2.2.1) hb
      have s_3 := ((blk_cell s_2 i).trans (mine_at i HI.out))
      have s_4 := Hb.below (hHeld.2.2.2.2.1) hb
      have s_5 := blk_below (hHeld.2.2.2.2.2.1) hb
      have s_6 := ((blk_cell s_5 i).trans (its_at i HI.out))
      have s_7 := below_step (hHeld.2.2.2.2.2.2.2.1) hb
      have s_8 := Tab.from (hHeld.2.2.2.2.2.2.2.2) hb
      have hKn := Hb.below (h := Ht.zero) hKn hb
      clear hHeld hb
      refine hK.out _ _ ⟨s_0, s_1, s_2, s_3, s_4, s_5, s_6, s_7, s_8⟩ (fun hHeld => ?_)
      clear hK K
      refine norm_ (a' := ?_) ?_ ?_
      rotate_left
      · show Act.put _ (some 51) _ = _
        simp only [Act.put, List.setIfInBounds_toArray, List.set_cons_zero, List.set_cons_succ, i64_w, i32_w]
        rfl
      exact norm_ (by simp only [putAll, Act.put, List.setIfInBounds_toArray, List.set_cons_zero, List.set_cons_succ]) (hCont gA _ ⟨hHeld, hKn, hGn, n_ga, n_gt, n_gm, n_gh, n_gi⟩)
  rintro gA w_o ⟨hH_, hKn, hGn, n_ga, n_gt, n_gm, n_gh, n_gi⟩
  have hHeld : (Hb w_o ga (gst f)) ∧ (w_o.heap[gt]? = some (.cells #[.bool la, .bool lb, .bool lc, .bool ld, .int .u64 lg, .int .u64 lt] 27 (0, 0))) ∧ (w_o.heap[gm]? = some (.cells #[.int .i64 256, .int .i64 260, .int .i64 261, .int .i64 320, .int .i64 321, .int .i64 322, .int .i64 323, .int .i64 324, .int .i64 384] 3 (0, 0))) ∧ (w_o.cell? ⟨gm, i, none⟩ = some (.int .i64 (mine i))) ∧ (Hb w_o gh (host (gst f))) ∧ (w_o.heap[gi]? = some (.cells #[.int .i64 512, .int .i64 516, .int .i64 517, .int .i64 576, .int .i64 577, .int .i64 578, .int .i64 579, .int .i64 580, .int .i64 640] 3 (0, 0))) ∧ (w_o.cell? ⟨gi, i, none⟩ = some (.int .i64 (its i))) ∧ (Below w.heap.size w w_o) ∧ (Tab w_o) := hH_
  clear hH_
  refine norm_ (a' := ?_) ?_ ?_
  rotate_left
  · simp only [putAll, Act.put, List.setIfInBounds_toArray, List.set_cons_zero, List.set_cons_succ]
    rfl
  refine last_ (i := 9) (N := none) #[true, true, true, true, true, true, true, true, true, true] rfl rfl (by kernel_rfl) (by decide) (fun K hK => ?_)
  refine skip_ (w1 := World.setCells w_o gA 0 (Ht.cs (({ b with v := true } : Ht))).toList) (by rfl) rfl (exec_store_hart rfl rfl rfl hKn) ?_
  have K_ga := Lib.hid (Hb.farAll (vs := (Ht.cs (({ b with v := true } : Ht))).toList) (o := 0) n_ga (hHeld.1))
  have K_gt := Lib.hid (setCells_far' (vs := (Ht.cs (({ b with v := true } : Ht))).toList) (o := 0) n_gt (hHeld.2.1))
  have K_gm := Lib.hid (setCells_far' (vs := (Ht.cs (({ b with v := true } : Ht))).toList) (o := 0) n_gm (hHeld.2.2.1))
  have K_gh := Lib.hid (Hb.farAll (vs := (Ht.cs (({ b with v := true } : Ht))).toList) (o := 0) n_gh (hHeld.2.2.2.2.1))
  have K_gi := Lib.hid (setCells_far' (vs := (Ht.cs (({ b with v := true } : Ht))).toList) (o := 0) n_gi (hHeld.2.2.2.2.2.1))
  have K_gA := Lib.hid (Hb.putAll (({ b with v := true } : Ht)) hKn)
  have hB_29 := Lib.hid (setCells_below hGn (Ht.cs (({ b with v := true } : Ht))).toList 0 _ (hHeld.2.2.2.2.2.2.2.1))
  clear hHeld hKn
  generalize World.setCells w_o gA 0 (Ht.cs (({ b with v := true } : Ht))).toList = w_28 at K_ga K_gt K_gm K_gh K_gi K_gA hB_29 ⊢
  have N_ga_gA := Lib.hid n_ga
  have N_gt_gA := Lib.hid n_gt
  have N_gm_gA := Lib.hid n_gm
  have N_gh_gA := Lib.hid n_gh
  have N_gi_gA := Lib.hid n_gi
  have G_gA := Lib.hid hGn
  clear hGn n_ga n_gt n_gm n_gh n_gi
  refine hK.out _ _ ?_
  clear hK K
  refine done_ (by kernel_rfl) ?_
  go_upto_region 12 with fail
  refine start_ (n := 10) (S := fun w' => Hb w' ga (gst f) ∧ w'.heap[gt]? = some (.cells #[.bool la, .bool lb, .bool lc, .bool ld, .int .u64 lg, .int .u64 lt] 27 (0, 0)) ∧ w'.heap[gm]? = some (.cells #[.int .i64 256, .int .i64 260, .int .i64 261, .int .i64 320, .int .i64 321, .int .i64 322, .int .i64 323, .int .i64 324, .int .i64 384] 3 (0, 0)) ∧ w'.cell? ⟨gm, i, none⟩ = some (.int .i64 (mine i)) ∧ Hb w' gh (host (gst f)) ∧ w'.heap[gi]? = some (.cells #[.int .i64 512, .int .i64 516, .int .i64 517, .int .i64 576, .int .i64 577, .int .i64 578, .int .i64 579, .int .i64 580, .int .i64 640] 3 (0, 0)) ∧ w'.cell? ⟨gi, i, none⟩ = some (.int .i64 (its i)) ∧ Hb w' gA (({ b with v := true } : Ht)) ∧ Below w.heap.size w w' ∧ Tab w') (ds := [9]) #[false, false, false, false, false, false, false, false, false, false] (by kernel_rfl) rfl rfl ⟨K_ga.out.drew, blk_drew K_gt.out, blk_drew K_gm.out, ((blk_cell (blk_drew K_gm.out) i).trans (mine_at i HI.out)), K_gh.out.drew, blk_drew K_gi.out, ((blk_cell (blk_drew K_gi.out) i).trans (its_at i HI.out)), K_gA.out.drew, (below_drew1 hB_29.out), (Tab.from HT.out (below_drew1 hB_29.out))⟩ (fun hHeld => ?_)
  clear K_ga K_gt K_gm K_gi K_gh K_gA hB_29
  generalize World.drew w_28 = w_34 at hHeld ⊢
  refine pure_ (i := 2) (N := some 54) (v := ?_) (a' := ?_) #[false, false, true, false, false, false, false, false, false, false] rfl rfl (by kernel_rfl) (fun _ _ _ h => h) (Or.inl ⟨by rfl, ?_⟩) ?_ ?_
  rotate_left
  · intro w'
    go_simp
    with_reducible rfl
  rotate_left
  · simp only [Act.put, List.setIfInBounds_toArray, List.set_cons_zero, List.set_cons_succ, i64_w, i32_w]
    rfl
  refine pure_ (i := 3) (N := some 55) (v := ?_) (a' := ?_) #[false, false, true, true, false, false, false, false, false, false] rfl rfl (by kernel_rfl) (fun _ _ _ h => h) (Or.inl ⟨by rfl, ?_⟩) ?_ ?_
  rotate_left
  · intro w'
    go_simp
    with_reducible rfl
  rotate_left
  · simp only [Act.put, List.setIfInBounds_toArray, List.set_cons_zero, List.set_cons_succ, i64_w, i32_w]
    rfl
  refine pure_ (i := 4) (N := some 56) (v := .pointer (some ⟨gi, i, none⟩)) (a' := ?_) #[false, false, true, true, true, false, false, false, false, false] rfl rfl (by kernel_rfl) (fun _ _ _ h => h) (Or.inl ⟨by rfl, ?_⟩) ?_ ?_
  · intro w'; exact exec_idx HI.out rfl rfl rfl
  rotate_left
  · simp only [Act.put, List.setIfInBounds_toArray, List.set_cons_zero, List.set_cons_succ, i64_w, i32_w]
    rfl
  refine pure_ (i := 6) (N := some 58) (v := ?_) (a' := ?_) #[false, false, true, true, true, false, true, false, false, false] rfl rfl (by kernel_rfl) (fun _ _ _ h => h) (Or.inl ⟨by rfl, ?_⟩) ?_ ?_
  rotate_left
  · intro w'
    go_simp
    with_reducible rfl
  rotate_left
  · simp only [Act.put, List.setIfInBounds_toArray, List.set_cons_zero, List.set_cons_succ, i64_w, i32_w]
    rfl
  refine take_ (i := 0) (N := some 52) (v := .agg (host (gst f)).cs) (a' := ?_) #[true, false, true, true, true, false, true, false, false, false] rfl rfl (by kernel_rfl) (fun _ _ _ h => h) (Or.inl ⟨by rfl, ?_⟩) hHeld ?_ ?_
  · rintro w' ⟨s0, s1, s2, s3, s4, s5, s6, s7, s8, s9⟩; exact exec_load_hart rfl rfl s4
  rotate_left
  · simp only [Act.put, List.setIfInBounds_toArray, List.set_cons_zero, List.set_cons_succ, i64_w, i32_w]
    rfl
  refine take_ (i := 1) (N := some 53) (v := .agg #[.bool la, .bool lb, .bool lc, .bool ld, .int .u64 lg, .int .u64 lt]) (a' := ?_) #[true, true, true, true, true, false, true, false, false, false] rfl rfl (by kernel_rfl) (fun _ _ _ h => h) (Or.inl ⟨by rfl, ?_⟩) hHeld ?_ ?_
  · rintro w' ⟨s0, s1, s2, s3, s4, s5, s6, s7, s8, s9⟩; exact exec_load_blk rfl rfl s1 Tryd.underlying27 rfl (by kernel_rfl)
  rotate_left
  · simp only [Act.put, List.setIfInBounds_toArray, List.set_cons_zero, List.set_cons_succ, i64_w, i32_w]
    rfl
  refine take_ (i := 5) (N := some 57) (v := ?_) (a' := ?_) #[true, true, true, true, true, true, true, false, false, false] rfl rfl (by kernel_rfl) (fun _ _ _ h => h) (Or.inl ⟨by rfl, ?_⟩) hHeld ?_ ?_
  rotate_left
  · rintro w' ⟨s0, s1, s2, s3, s4, s5, s6, s7, s8, s9⟩
    go_simp
    with_reducible rfl
  rotate_left
  · simp only [Act.put, List.setIfInBounds_toArray, List.set_cons_zero, List.set_cons_succ, i64_w, i32_w]
    rfl
  refine join_ (σ := Nat) 1 #[true, true, true, true, true, true, true, true, true, false] (fun s => [(59, .agg b.cs), (14, .pointer (some ⟨s, 0, none⟩))]) (fun s w' => ((Hb w' ga (gst f)) ∧ (w'.heap[gt]? = some (.cells #[.bool la, .bool lb, .bool lc, .bool ld, .int .u64 lg, .int .u64 lt] 27 (0, 0))) ∧ (w'.heap[gm]? = some (.cells #[.int .i64 256, .int .i64 260, .int .i64 261, .int .i64 320, .int .i64 321, .int .i64 322, .int .i64 323, .int .i64 324, .int .i64 384] 3 (0, 0))) ∧ (w'.cell? ⟨gm, i, none⟩ = some (.int .i64 (mine i))) ∧ (Hb w' gh (host (gst f))) ∧ (w'.heap[gi]? = some (.cells #[.int .i64 512, .int .i64 516, .int .i64 517, .int .i64 576, .int .i64 577, .int .i64 578, .int .i64 579, .int .i64 580, .int .i64 640] 3 (0, 0))) ∧ (w'.cell? ⟨gi, i, none⟩ = some (.int .i64 (its i))) ∧ (Hb w' gA (({ b with v := true } : Ht))) ∧ (Below w.heap.size w w') ∧ (Tab w')) ∧ Hb w' s Ht.zero ∧ w.heap.size ≤ s ∧ ga ≠ s ∧ gt ≠ s ∧ gm ≠ s ∧ gh ≠ s ∧ gi ≠ s ∧ gA ≠ s) ?_ ?_
  rotate_left
  · intro hCont
    refine two_ (i := 7) (j := 8) (Ni := some 59) (Nj := some 14) #[true, true, true, true, true, true, true, true, false, false] #[true, true, true, true, true, true, true, false, true, false] rfl rfl rfl rfl (by kernel_rfl) (by decide) (by decide) (fun K hK => ?_) (fun K hK => ?_)
    · skip
      refine goes_ Tryd.func19 (by kernel_rfl) rfl #[.agg (host (gst f)).cs, .agg #[.bool la, .bool lb, .bool lc, .bool ld, .int .u64 lg, .int .u64 lt], .int .i64 (its i), .int .u64 v] (by rfl) rfl rfl (by simp only [List.map_toArray, List.map_cons, List.map_nil]; rfl) ?_
      with_reducible refine (HWB.out _ (hHeld.2.2.2.2.2.2.2.2.2)).mono ?_
      rintro e_ w_c ⟨rfl, hb⟩
      refine ⟨_, rfl, ?_⟩
      have s_0 := Hb.below (hHeld.1) hb
      have s_1 := blk_below (hHeld.2.1) hb
      have s_2 := blk_below (hHeld.2.2.1) hb
      have s_3 := ((blk_cell s_2 i).trans (mine_at i HI.out))
      have s_4 := Hb.below (hHeld.2.2.2.2.1) hb
      have s_5 := blk_below (hHeld.2.2.2.2.2.1) hb
      have s_6 := ((blk_cell s_5 i).trans (its_at i HI.out))
      have s_7 := Hb.below (hHeld.2.2.2.2.2.2.2.1) hb
      have s_8 := below_step (hHeld.2.2.2.2.2.2.2.2.1) hb
      have s_9 := Tab.from (hHeld.2.2.2.2.2.2.2.2.2) hb
      clear hHeld hb
      refine hK.out _ _ ⟨s_0, s_1, s_2, s_3, s_4, s_5, s_6, s_7, s_8, s_9⟩ (fun hHeld => ?_)
      clear hK K
      refine norm_ (a' := ?_) ?_ ?_
      rotate_left
      · show Act.put _ (some 59) _ = _
        simp only [Act.put, List.setIfInBounds_toArray, List.set_cons_zero, List.set_cons_succ, i64_w, i32_w]
        rfl
      refine one_ (i := 8) (N := some 14) #[true, true, true, true, true, true, true, true, true, false] rfl rfl (by kernel_rfl) (by decide) (fun K hK => ?_)
      refine alloc_ (by rfl) rfl (by first | (go_simp; done) | (go_simp; rfl)) ?_
      intro gB w_a hg hKn hb
      have s_0 := Hb.below (hHeld.1) hb
      have s_1 := blk_below (hHeld.2.1) hb
      have s_2 := blk_below (hHeld.2.2.1) hb
      have s_3 := ((blk_cell s_2 i).trans (mine_at i HI.out))
      have s_4 := Hb.below (hHeld.2.2.2.2.1) hb
      have s_5 := blk_below (hHeld.2.2.2.2.2.1) hb
      have s_6 := ((blk_cell s_5 i).trans (its_at i HI.out))
      have s_7 := Hb.below (hHeld.2.2.2.2.2.2.2.1) hb
      have s_8 := below_step (hHeld.2.2.2.2.2.2.2.2.1) hb
      have s_9 := Tab.from (hHeld.2.2.2.2.2.2.2.2.2) hb
      have hGn : w.heap.size ≤ gB := by rw [hg]; exact (hHeld.2.2.2.2.2.2.2.2.1).size
      have n_ga : ga ≠ gB := by rw [hg]; exact Nat.ne_of_lt (Hb.lt hHeld.1)
      have n_gt : gt ≠ gB := by rw [hg]; exact Nat.ne_of_lt (blk_lt hHeld.2.1)
      have n_gm : gm ≠ gB := by rw [hg]; exact Nat.ne_of_lt (blk_lt hHeld.2.2.1)
      have n_gh : gh ≠ gB := by rw [hg]; exact Nat.ne_of_lt (Hb.lt hHeld.2.2.2.2.1)
      have n_gi : gi ≠ gB := by rw [hg]; exact Nat.ne_of_lt (blk_lt hHeld.2.2.2.2.2.1)
      have n_gA : gA ≠ gB := by rw [hg]; exact Nat.ne_of_lt (Hb.lt hHeld.2.2.2.2.2.2.2.1)
      clear hHeld hb hg
      refine hK.out _ _ ⟨s_0, s_1, s_2, s_3, s_4, s_5, s_6, s_7, s_8, s_9⟩ (fun hHeld => ?_)
      clear hK K
      refine norm_ (a' := ?_) ?_ ?_
      rotate_left
      · show Act.put _ (some 14) _ = _
        simp only [Act.put, List.setIfInBounds_toArray, List.set_cons_zero, List.set_cons_succ, i64_w, i32_w]
        rfl
      exact norm_ (by simp only [putAll, Act.put, List.setIfInBounds_toArray, List.set_cons_zero, List.set_cons_succ]) (hCont gB _ ⟨hHeld, hKn, hGn, n_ga, n_gt, n_gm, n_gh, n_gi, n_gA⟩)
    · skip
      refine alloc_ (by rfl) rfl (by first | (go_simp; done) | (go_simp; rfl)) ?_
      intro gB w_a hg hKn hb
      have s_0 := Hb.below (hHeld.1) hb
      have s_1 := blk_below (hHeld.2.1) hb
      have s_2 := blk_below (hHeld.2.2.1) hb
      have s_3 := ((blk_cell s_2 i).trans (mine_at i HI.out))
      have s_4 := Hb.below (hHeld.2.2.2.2.1) hb
      have s_5 := blk_below (hHeld.2.2.2.2.2.1) hb
      have s_6 := ((blk_cell s_5 i).trans (its_at i HI.out))
      have s_7 := Hb.below (hHeld.2.2.2.2.2.2.2.1) hb
      have s_8 := below_step (hHeld.2.2.2.2.2.2.2.2.1) hb
      have s_9 := Tab.from (hHeld.2.2.2.2.2.2.2.2.2) hb
      have hGn : w.heap.size ≤ gB := by rw [hg]; exact (hHeld.2.2.2.2.2.2.2.2.1).size
      have n_ga : ga ≠ gB := by rw [hg]; exact Nat.ne_of_lt (Hb.lt hHeld.1)
      have n_gt : gt ≠ gB := by rw [hg]; exact Nat.ne_of_lt (blk_lt hHeld.2.1)
      have n_gm : gm ≠ gB := by rw [hg]; exact Nat.ne_of_lt (blk_lt hHeld.2.2.1)
      have n_gh : gh ≠ gB := by rw [hg]; exact Nat.ne_of_lt (Hb.lt hHeld.2.2.2.2.1)
      have n_gi : gi ≠ gB := by rw [hg]; exact Nat.ne_of_lt (blk_lt hHeld.2.2.2.2.2.1)
      have n_gA : gA ≠ gB := by rw [hg]; exact Nat.ne_of_lt (Hb.lt hHeld.2.2.2.2.2.2.2.1)
      clear hHeld hb hg
      refine hK.out _ _ ⟨s_0, s_1, s_2, s_3, s_4, s_5, s_6, s_7, s_8, s_9⟩ (fun hHeld => ?_)
      clear hK K
      refine norm_ (a' := ?_) ?_ ?_
      rotate_left
      · show Act.put _ (some 14) _ = _
        simp only [Act.put, List.setIfInBounds_toArray, List.set_cons_zero, List.set_cons_succ, i64_w, i32_w]
        rfl
      refine one_ (i := 7) (N := some 59) #[true, true, true, true, true, true, true, true, true, false] rfl rfl (by kernel_rfl) (by decide) (fun K hK => ?_)
      refine goes_ Tryd.func19 (by kernel_rfl) rfl #[.agg (host (gst f)).cs, .agg #[.bool la, .bool lb, .bool lc, .bool ld, .int .u64 lg, .int .u64 lt], .int .i64 (its i), .int .u64 v] (by rfl) rfl rfl (by simp only [List.map_toArray, List.map_cons, List.map_nil]; rfl) ?_
      with_reducible refine (HWB.out _ (hHeld.2.2.2.2.2.2.2.2.2)).mono ?_
      rintro e_ w_c ⟨rfl, hb⟩
      refine ⟨_, rfl, ?_⟩
      have s_0 := Hb.below (hHeld.1) hb
      have s_1 := blk_below (hHeld.2.1) hb
      have s_2 := blk_below (hHeld.2.2.1) hb
      have s_3 := ((blk_cell s_2 i).trans (mine_at i HI.out))
      have s_4 := Hb.below (hHeld.2.2.2.2.1) hb
      have s_5 := blk_below (hHeld.2.2.2.2.2.1) hb
      have s_6 := ((blk_cell s_5 i).trans (its_at i HI.out))
      have s_7 := Hb.below (hHeld.2.2.2.2.2.2.2.1) hb
      have s_8 := below_step (hHeld.2.2.2.2.2.2.2.2.1) hb
      have s_9 := Tab.from (hHeld.2.2.2.2.2.2.2.2.2) hb
      have hKn := Hb.below (h := Ht.zero) hKn hb
      clear hHeld hb
      refine hK.out _ _ ⟨s_0, s_1, s_2, s_3, s_4, s_5, s_6, s_7, s_8, s_9⟩ (fun hHeld => ?_)
      clear hK K
      refine norm_ (a' := ?_) ?_ ?_
      rotate_left
      · show Act.put _ (some 59) _ = _
        simp only [Act.put, List.setIfInBounds_toArray, List.set_cons_zero, List.set_cons_succ, i64_w, i32_w]
        rfl
      exact norm_ (by simp only [putAll, Act.put, List.setIfInBounds_toArray, List.set_cons_zero, List.set_cons_succ]) (hCont gB _ ⟨hHeld, hKn, hGn, n_ga, n_gt, n_gm, n_gh, n_gi, n_gA⟩)
  rintro gB w_o ⟨hH_, hKn, hGn, n_ga, n_gt, n_gm, n_gh, n_gi, n_gA⟩
  have hHeld : (Hb w_o ga (gst f)) ∧ (w_o.heap[gt]? = some (.cells #[.bool la, .bool lb, .bool lc, .bool ld, .int .u64 lg, .int .u64 lt] 27 (0, 0))) ∧ (w_o.heap[gm]? = some (.cells #[.int .i64 256, .int .i64 260, .int .i64 261, .int .i64 320, .int .i64 321, .int .i64 322, .int .i64 323, .int .i64 324, .int .i64 384] 3 (0, 0))) ∧ (w_o.cell? ⟨gm, i, none⟩ = some (.int .i64 (mine i))) ∧ (Hb w_o gh (host (gst f))) ∧ (w_o.heap[gi]? = some (.cells #[.int .i64 512, .int .i64 516, .int .i64 517, .int .i64 576, .int .i64 577, .int .i64 578, .int .i64 579, .int .i64 580, .int .i64 640] 3 (0, 0))) ∧ (w_o.cell? ⟨gi, i, none⟩ = some (.int .i64 (its i))) ∧ (Hb w_o gA (({ b with v := true } : Ht))) ∧ (Below w.heap.size w w_o) ∧ (Tab w_o) := hH_
  clear hH_
  refine norm_ (a' := ?_) ?_ ?_
  rotate_left
  · simp only [putAll, Act.put, List.setIfInBounds_toArray, List.set_cons_zero, List.set_cons_succ]
    rfl
  refine last_ (i := 9) (N := none) #[true, true, true, true, true, true, true, true, true, true] rfl rfl (by kernel_rfl) (by decide) (fun K hK => ?_)
  refine skip_ (w1 := World.setCells w_o gB 0 (Ht.cs (b)).toList) (by rfl) rfl (exec_store_hart rfl rfl rfl hKn) ?_
  have K_ga := Lib.hid (Hb.farAll (vs := (Ht.cs (b)).toList) (o := 0) n_ga (hHeld.1))
  have K_gt := Lib.hid (setCells_far' (vs := (Ht.cs (b)).toList) (o := 0) n_gt (hHeld.2.1))
  have K_gm := Lib.hid (setCells_far' (vs := (Ht.cs (b)).toList) (o := 0) n_gm (hHeld.2.2.1))
  have K_gh := Lib.hid (Hb.farAll (vs := (Ht.cs (b)).toList) (o := 0) n_gh (hHeld.2.2.2.2.1))
  have K_gi := Lib.hid (setCells_far' (vs := (Ht.cs (b)).toList) (o := 0) n_gi (hHeld.2.2.2.2.2.1))
  have K_gA := Lib.hid (Hb.farAll (vs := (Ht.cs (b)).toList) (o := 0) n_gA (hHeld.2.2.2.2.2.2.2.1))
  have K_gB := Lib.hid (Hb.putAll (b) hKn)
  have hB_33 := Lib.hid (setCells_below hGn (Ht.cs (b)).toList 0 _ (hHeld.2.2.2.2.2.2.2.2.1))
  clear hHeld hKn
  generalize World.setCells w_o gB 0 (Ht.cs (b)).toList = w_32 at K_ga K_gt K_gm K_gh K_gi K_gA K_gB hB_33 ⊢
  have N_ga_gB := Lib.hid n_ga
  have N_gt_gB := Lib.hid n_gt
  have N_gm_gB := Lib.hid n_gm
  have N_gh_gB := Lib.hid n_gh
  have N_gi_gB := Lib.hid n_gi
  have N_gA_gB := Lib.hid n_gA
  have G_gB := Lib.hid hGn
  clear hGn n_ga n_gt n_gm n_gh n_gi n_gA
  refine hK.out _ _ ?_
  clear hK K
  refine done_ (by kernel_rfl) ?_
  have c_gB_34 := K_gB.out.cv; have f_gB_34 := K_gB.out.fr 34
  go_upto_region 14 with fail
  refine world_code gB (by repeat (with_reducible first | exact K_gB.out | apply Hb.put | apply Hb.putP | apply Hb.putV | apply Hb.putW | apply Hb.putH | apply Hb.far (Ne.symm N_ga_gB.out) | apply Hb.far (Ne.symm N_gt_gB.out) | apply Hb.far (Ne.symm N_gm_gB.out) | apply Hb.far (Ne.symm N_gi_gB.out) | apply Hb.far (Ne.symm N_gh_gB.out) | apply Hb.far (Ne.symm N_gA_gB.out) | apply Hb.drewN | apply Hb.drew)) (fun w' => Below w.heap.size w w' ∧ Hb w' ga (gst f) ∧ w'.heap[gt]? = some (.cells #[.bool la, .bool lb, .bool lc, .bool ld, .int .u64 lg, .int .u64 lt] 27 (0, 0)) ∧ w'.heap[gm]? = some (.cells #[.int .i64 256, .int .i64 260, .int .i64 261, .int .i64 320, .int .i64 321, .int .i64 322, .int .i64 323, .int .i64 324, .int .i64 384] 3 (0, 0)) ∧ w'.heap[gi]? = some (.cells #[.int .i64 512, .int .i64 516, .int .i64 517, .int .i64 576, .int .i64 577, .int .i64 578, .int .i64 579, .int .i64 580, .int .i64 640] 3 (0, 0)) ∧ Hb w' gh (host (gst f)) ∧ Hb w' gA ({ b with v := true } : Ht)) ⟨(by repeat (first | (with_reducible first | exact hB_33.out | apply pw_below_drewN | apply below_drew1 | refine below_set ?_ G_ga.out | refine below_set ?_ G_gt.out | refine below_set ?_ G_gm.out | refine below_set ?_ G_gi.out | refine below_set ?_ G_gh.out | refine below_set ?_ G_gA.out | refine below_set ?_ G_gB.out) | exact hB_33.out)), (by repeat (with_reducible first | exact K_ga.out | apply Hb.put | apply Hb.putP | apply Hb.putV | apply Hb.putW | apply Hb.putH | apply Hb.far N_ga_gt.out | apply Hb.far N_ga_gm.out | apply Hb.far N_ga_gi.out | apply Hb.far N_ga_gh.out | apply Hb.far N_ga_gA.out | apply Hb.far N_ga_gB.out | apply Hb.drewN | apply Hb.drew)), (by repeat (with_reducible first | exact K_gt.out | apply blk_drewN | apply blk_drew | refine blk_far ?_ (show gt ≠ _ from (Ne.symm N_ga_gt.out)) _ | refine blk_far ?_ (show gt ≠ _ from N_gt_gm.out) _ | refine blk_far ?_ (show gt ≠ _ from N_gt_gi.out) _ | refine blk_far ?_ (show gt ≠ _ from N_gt_gh.out) _ | refine blk_far ?_ (show gt ≠ _ from N_gt_gA.out) _ | refine blk_far ?_ (show gt ≠ _ from N_gt_gB.out) _)), (by repeat (with_reducible first | exact K_gm.out | apply blk_drewN | apply blk_drew | refine blk_far ?_ (show gm ≠ _ from (Ne.symm N_ga_gm.out)) _ | refine blk_far ?_ (show gm ≠ _ from (Ne.symm N_gt_gm.out)) _ | refine blk_far ?_ (show gm ≠ _ from N_gm_gi.out) _ | refine blk_far ?_ (show gm ≠ _ from N_gm_gh.out) _ | refine blk_far ?_ (show gm ≠ _ from N_gm_gA.out) _ | refine blk_far ?_ (show gm ≠ _ from N_gm_gB.out) _)), (by repeat (with_reducible first | exact K_gi.out | apply blk_drewN | apply blk_drew | refine blk_far ?_ (show gi ≠ _ from (Ne.symm N_ga_gi.out)) _ | refine blk_far ?_ (show gi ≠ _ from (Ne.symm N_gt_gi.out)) _ | refine blk_far ?_ (show gi ≠ _ from (Ne.symm N_gm_gi.out)) _ | refine blk_far ?_ (show gi ≠ _ from N_gi_gh.out) _ | refine blk_far ?_ (show gi ≠ _ from N_gi_gA.out) _ | refine blk_far ?_ (show gi ≠ _ from N_gi_gB.out) _)), (by repeat (with_reducible first | exact K_gh.out | apply Hb.put | apply Hb.putP | apply Hb.putV | apply Hb.putW | apply Hb.putH | apply Hb.far (Ne.symm N_ga_gh.out) | apply Hb.far (Ne.symm N_gt_gh.out) | apply Hb.far (Ne.symm N_gm_gh.out) | apply Hb.far (Ne.symm N_gi_gh.out) | apply Hb.far N_gh_gA.out | apply Hb.far N_gh_gB.out | apply Hb.drewN | apply Hb.drew)), (by repeat (with_reducible first | exact K_gA.out | apply Hb.put | apply Hb.putP | apply Hb.putV | apply Hb.putW | apply Hb.putH | apply Hb.far (Ne.symm N_ga_gA.out) | apply Hb.far (Ne.symm N_gt_gA.out) | apply Hb.far (Ne.symm N_gm_gA.out) | apply Hb.far (Ne.symm N_gi_gA.out) | apply Hb.far (Ne.symm N_gh_gA.out) | apply Hb.far N_gA_gB.out | apply Hb.drewN | apply Hb.drew))⟩ ?_
  clear c_gB_34 f_gB_34
  clear K_ga K_gt K_gm K_gi K_gh K_gA K_gB hB_33
  rintro w_36 q_ ⟨b_, q_ga, q_gt, q_gm, q_gi, q_gh, q_gA⟩
  have K_gB := Lib.hid q_; have hB_37 := Lib.hid b_; have K_ga := Lib.hid q_ga; have K_gt := Lib.hid q_gt; have K_gm := Lib.hid q_gm; have K_gi := Lib.hid q_gi; have K_gh := Lib.hid q_gh; have K_gA := Lib.hid q_gA
  clear q_ b_ q_ga q_gt q_gm q_gi q_gh q_gA
  have heq1 : (!heq ({ b with v := true } : Ht) ({ b with v := true } : Ht)) = false := by rw [heq_self]; rfl
  have HQ := Lib.hid heq1; clear heq1
  go_upto_region 16 with (first | ((with_reducible refine gate_dst (N := 61) rfl ?_); (first | (refine gate_guard (by kernel_rfl) ?_) | skip); refine Kd.event_run rfl (v := .agg (({ b with v := true } : Ht)).cs) (w1 := w_36) ?hb ?_; (case hb => exact exec_load_hart rfl rfl K_gA.out)) | ((with_reducible refine gate_dst (N := 62) rfl ?_); (first | (refine gate_guard (by kernel_rfl) ?_) | skip); refine Kd.event_run rfl (v := .agg (({ b with v := true } : Ht)).cs) (w1 := w_36) ?hb ?_; (case hb => exact exec_load_hart rfl rfl K_gB.out)) | ((with_reducible refine gate_dst (N := 63) rfl ?_); (first | (refine gate_guard (by kernel_rfl) ?_) | skip); refine Kd.event_run rfl (v := .bool false) (w1 := w_36) ?hb ?_; (case hb => exact exec_neB (h := ({ b with v := true } : Ht)) (k := ({ b with v := true } : Ht)) rfl rfl rfl (HQ.out))))
  clear HQ
  have c_gA_34 := K_gA.out.cv; have f_gA_34 := K_gA.out.fr 34
  go_upto_region 17 with fail
  refine world_code gA (by repeat (with_reducible first | exact K_gA.out | apply Hb.put | apply Hb.putP | apply Hb.putV | apply Hb.putW | apply Hb.putH | apply Hb.far (Ne.symm N_ga_gA.out) | apply Hb.far (Ne.symm N_gt_gA.out) | apply Hb.far (Ne.symm N_gm_gA.out) | apply Hb.far (Ne.symm N_gi_gA.out) | apply Hb.far (Ne.symm N_gh_gA.out) | apply Hb.far N_gA_gB.out | apply Hb.drewN | apply Hb.drew)) (fun w' => Below w.heap.size w w' ∧ Hb w' ga (gst f) ∧ w'.heap[gt]? = some (.cells #[.bool la, .bool lb, .bool lc, .bool ld, .int .u64 lg, .int .u64 lt] 27 (0, 0)) ∧ w'.heap[gm]? = some (.cells #[.int .i64 256, .int .i64 260, .int .i64 261, .int .i64 320, .int .i64 321, .int .i64 322, .int .i64 323, .int .i64 324, .int .i64 384] 3 (0, 0)) ∧ w'.heap[gi]? = some (.cells #[.int .i64 512, .int .i64 516, .int .i64 517, .int .i64 576, .int .i64 577, .int .i64 578, .int .i64 579, .int .i64 580, .int .i64 640] 3 (0, 0)) ∧ Hb w' gh (host (gst f)) ∧ Hb w' gB ({ b with v := true } : Ht)) ⟨(by repeat (first | (with_reducible first | exact hB_37.out | apply pw_below_drewN | apply below_drew1 | refine below_set ?_ G_ga.out | refine below_set ?_ G_gt.out | refine below_set ?_ G_gm.out | refine below_set ?_ G_gi.out | refine below_set ?_ G_gh.out | refine below_set ?_ G_gA.out | refine below_set ?_ G_gB.out) | exact hB_37.out)), (by repeat (with_reducible first | exact K_ga.out | apply Hb.put | apply Hb.putP | apply Hb.putV | apply Hb.putW | apply Hb.putH | apply Hb.far N_ga_gt.out | apply Hb.far N_ga_gm.out | apply Hb.far N_ga_gi.out | apply Hb.far N_ga_gh.out | apply Hb.far N_ga_gA.out | apply Hb.far N_ga_gB.out | apply Hb.drewN | apply Hb.drew)), (by repeat (with_reducible first | exact K_gt.out | apply blk_drewN | apply blk_drew | refine blk_far ?_ (show gt ≠ _ from (Ne.symm N_ga_gt.out)) _ | refine blk_far ?_ (show gt ≠ _ from N_gt_gm.out) _ | refine blk_far ?_ (show gt ≠ _ from N_gt_gi.out) _ | refine blk_far ?_ (show gt ≠ _ from N_gt_gh.out) _ | refine blk_far ?_ (show gt ≠ _ from N_gt_gA.out) _ | refine blk_far ?_ (show gt ≠ _ from N_gt_gB.out) _)), (by repeat (with_reducible first | exact K_gm.out | apply blk_drewN | apply blk_drew | refine blk_far ?_ (show gm ≠ _ from (Ne.symm N_ga_gm.out)) _ | refine blk_far ?_ (show gm ≠ _ from (Ne.symm N_gt_gm.out)) _ | refine blk_far ?_ (show gm ≠ _ from N_gm_gi.out) _ | refine blk_far ?_ (show gm ≠ _ from N_gm_gh.out) _ | refine blk_far ?_ (show gm ≠ _ from N_gm_gA.out) _ | refine blk_far ?_ (show gm ≠ _ from N_gm_gB.out) _)), (by repeat (with_reducible first | exact K_gi.out | apply blk_drewN | apply blk_drew | refine blk_far ?_ (show gi ≠ _ from (Ne.symm N_ga_gi.out)) _ | refine blk_far ?_ (show gi ≠ _ from (Ne.symm N_gt_gi.out)) _ | refine blk_far ?_ (show gi ≠ _ from (Ne.symm N_gm_gi.out)) _ | refine blk_far ?_ (show gi ≠ _ from N_gi_gh.out) _ | refine blk_far ?_ (show gi ≠ _ from N_gi_gA.out) _ | refine blk_far ?_ (show gi ≠ _ from N_gi_gB.out) _)), (by repeat (with_reducible first | exact K_gh.out | apply Hb.put | apply Hb.putP | apply Hb.putV | apply Hb.putW | apply Hb.putH | apply Hb.far (Ne.symm N_ga_gh.out) | apply Hb.far (Ne.symm N_gt_gh.out) | apply Hb.far (Ne.symm N_gm_gh.out) | apply Hb.far (Ne.symm N_gi_gh.out) | apply Hb.far N_gh_gA.out | apply Hb.far N_gh_gB.out | apply Hb.drewN | apply Hb.drew)), (by repeat (with_reducible first | exact K_gB.out | apply Hb.put | apply Hb.putP | apply Hb.putV | apply Hb.putW | apply Hb.putH | apply Hb.far (Ne.symm N_ga_gB.out) | apply Hb.far (Ne.symm N_gt_gB.out) | apply Hb.far (Ne.symm N_gm_gB.out) | apply Hb.far (Ne.symm N_gi_gB.out) | apply Hb.far (Ne.symm N_gh_gB.out) | apply Hb.far (Ne.symm N_gA_gB.out) | apply Hb.drewN | apply Hb.drew))⟩ ?_
  clear c_gA_34 f_gA_34
  clear K_ga K_gt K_gm K_gi K_gh K_gA K_gB hB_37
  rintro w_38 q_ ⟨b_, q_ga, q_gt, q_gm, q_gi, q_gh, q_gB⟩
  have K_gA := Lib.hid q_; have hB_39 := Lib.hid b_; have K_ga := Lib.hid q_ga; have K_gt := Lib.hid q_gt; have K_gm := Lib.hid q_gm; have K_gi := Lib.hid q_gi; have K_gh := Lib.hid q_gh; have K_gB := Lib.hid q_gB
  clear q_ b_ q_ga q_gt q_gm q_gi q_gh q_gB
  replace K_gA := Lib.hid (Hb.of2 (v_same hbv) K_gA.out)
  clear hu25
  go_wp2_with fail
  go_loopw [15] (fun v15 wr => ∃ k : Nat, k ≤ 9 ∧ v15 = .int .i64 k ∧ Below w.heap.size w wr ∧ Hb wr ga (gst f) ∧ wr.heap[gt]? = some (.cells #[.bool la, .bool lb, .bool lc, .bool ld, .int .u64 lg, .int .u64 lt] 27 (0, 0)) ∧ wr.heap[gm]? = some (.cells #[.int .i64 256, .int .i64 260, .int .i64 261, .int .i64 320, .int .i64 321, .int .i64 322, .int .i64 323, .int .i64 324, .int .i64 384] 3 (0, 0)) ∧ wr.heap[gi]? = some (.cells #[.int .i64 512, .int .i64 516, .int .i64 517, .int .i64 576, .int .i64 577, .int .i64 578, .int .i64 579, .int .i64 580, .int .i64 640] 3 (0, 0)) ∧ Hb wr gh (host (gst f)) ∧ Hb wr gA b ∧ Hb wr gB ({ b with v := true } : Ht)) (fun v15 _ => 9 - (intOf v15).toNat)
  case atStart => exact ⟨0, by omega, rfl, hB_39.out, K_ga.out, K_gt.out, K_gm.out, K_gi.out, K_gh.out, K_gA.out, K_gB.out⟩
  case round =>
    clear K_ga K_gt K_gm K_gi K_gh K_gA K_gB hB_39
    obtain ⟨k_, hk, rfl, hb_, q_ga, q_gt, q_gm, q_gi, q_gh, q_gA, q_gB⟩ := hrel
    have HBR := Lib.hid hb_; have K_ga := Lib.hid q_ga; have K_gt := Lib.hid q_gt; have K_gm := Lib.hid q_gm; have K_gi := Lib.hid q_gi; have K_gh := Lib.hid q_gh; have K_gA := Lib.hid q_gA; have K_gB := Lib.hid q_gB
    clear hb_ q_ga q_gt q_gm q_gi q_gh q_gA q_gB
    by_cases hlt : k_ < 9
    · have d0 : decide ((k_ : Int) < 9) = true := decide_eq_true (by omega)
      have HLT := Lib.hid hlt
      have hk2 := HGA.out k_ hlt
      have hrb := HRB.out k_; have hrh := HRH.out k_
      rw [hk2] at hrb
      generalize readV (host (gst f)) la lb lc ld lg lt (mine k_) = rk at hrb hrh
      have d5 : (rk != rk) = false := bne_self_eq_false _
      have HB1 := Lib.hid hrb; have HH1 := Lib.hid hrh
      clear hk2 hrb hrh hlt hk
      go_upto_region 20 with fail
      refine start_ (n := 15) (S := fun w' => Hb w' gA b ∧ w'.heap[gt]? = some (.cells #[.bool la, .bool lb, .bool lc, .bool ld, .int .u64 lg, .int .u64 lt] 27 (0, 0)) ∧ w'.heap[gm]? = some (.cells #[.int .i64 256, .int .i64 260, .int .i64 261, .int .i64 320, .int .i64 321, .int .i64 322, .int .i64 323, .int .i64 324, .int .i64 384] 3 (0, 0)) ∧ w'.cell? ⟨gm, k_, none⟩ = some (.int .i64 (mine k_)) ∧ Hb w' gh (host (gst f))) (ds := []) #[false, false, false, false, false, false, false, false, false, false, false, false, false, false, false] (by kernel_rfl) rfl rfl ⟨K_gA.out.drew, blk_drew K_gt.out, blk_drew K_gm.out, ((blk_cell (blk_drew K_gm.out) k_).trans (mine_at k_ HLT.out)), K_gh.out.drew⟩ (fun hHeld => ?_)
      replace K_ga := Lib.hid (K_ga.out.drew)
      replace K_gt := Lib.hid (blk_drew K_gt.out)
      replace K_gm := Lib.hid (blk_drew K_gm.out)
      replace K_gi := Lib.hid (blk_drew K_gi.out)
      replace K_gh := Lib.hid (K_gh.out.drew)
      replace K_gA := Lib.hid (K_gA.out.drew)
      replace K_gB := Lib.hid (K_gB.out.drew)
      have hB_41 := Lib.hid (below_drew1 HBR.out)
      clear HBR
      generalize World.drew wr = w_40 at K_ga K_gt K_gm K_gi K_gh K_gA K_gB hB_41 hHeld ⊢
      refine pure_ (i := 2) (N := some 73) (v := ?_) (a' := ?_) #[false, false, true, false, false, false, false, false, false, false, false, false, false, false, false] rfl rfl (by kernel_rfl) (fun _ _ _ h => h) (Or.inl ⟨by rfl, ?_⟩) ?_ ?_
      rotate_left
      · intro w'
        go_simp
        with_reducible rfl
      rotate_left
      · simp only [Act.put, List.setIfInBounds_toArray, List.set_cons_zero, List.set_cons_succ, i64_w, i32_w]
        rfl
      refine pure_ (i := 3) (N := some 74) (v := ?_) (a' := ?_) #[false, false, true, true, false, false, false, false, false, false, false, false, false, false, false] rfl rfl (by kernel_rfl) (fun _ _ _ h => h) (Or.inl ⟨by rfl, ?_⟩) ?_ ?_
      rotate_left
      · intro w'
        go_simp
        with_reducible rfl
      rotate_left
      · simp only [Act.put, List.setIfInBounds_toArray, List.set_cons_zero, List.set_cons_succ, i64_w, i32_w]
        rfl
      refine pure_ (i := 4) (N := some 75) (v := .pointer (some ⟨gm, k_, none⟩)) (a' := ?_) #[false, false, true, true, true, false, false, false, false, false, false, false, false, false, false] rfl rfl (by kernel_rfl) (fun _ _ _ h => h) (Or.inl ⟨by rfl, ?_⟩) ?_ ?_
      · intro w'; exact exec_idx HLT.out rfl rfl rfl
      rotate_left
      · simp only [Act.put, List.setIfInBounds_toArray, List.set_cons_zero, List.set_cons_succ, i64_w, i32_w]
        rfl
      refine pure_ (i := 9) (N := some 80) (v := ?_) (a' := ?_) #[false, false, true, true, true, false, false, false, false, true, false, false, false, false, false] rfl rfl (by kernel_rfl) (fun _ _ _ h => h) (Or.inl ⟨by rfl, ?_⟩) ?_ ?_
      rotate_left
      · intro w'
        go_simp
        with_reducible rfl
      rotate_left
      · simp only [Act.put, List.setIfInBounds_toArray, List.set_cons_zero, List.set_cons_succ, i64_w, i32_w]
        rfl
      refine pure_ (i := 10) (N := some 81) (v := ?_) (a' := ?_) #[false, false, true, true, true, false, false, false, false, true, true, false, false, false, false] rfl rfl (by kernel_rfl) (fun _ _ _ h => h) (Or.inl ⟨by rfl, ?_⟩) ?_ ?_
      rotate_left
      · intro w'
        go_simp
        with_reducible rfl
      rotate_left
      · simp only [Act.put, List.setIfInBounds_toArray, List.set_cons_zero, List.set_cons_succ, i64_w, i32_w]
        rfl
      refine pure_ (i := 11) (N := some 82) (v := .pointer (some ⟨gm, k_, none⟩)) (a' := ?_) #[false, false, true, true, true, false, false, false, false, true, true, true, false, false, false] rfl rfl (by kernel_rfl) (fun _ _ _ h => h) (Or.inl ⟨by rfl, ?_⟩) ?_ ?_
      · intro w'; exact exec_idx HLT.out rfl rfl rfl
      rotate_left
      · simp only [Act.put, List.setIfInBounds_toArray, List.set_cons_zero, List.set_cons_succ, i64_w, i32_w]
        rfl
      refine take_ (i := 0) (N := some 71) (v := .agg (b).cs) (a' := ?_) #[true, false, true, true, true, false, false, false, false, true, true, true, false, false, false] rfl rfl (by kernel_rfl) (fun _ _ _ h => h) (Or.inl ⟨by rfl, ?_⟩) hHeld ?_ ?_
      · rintro w' ⟨s0, s1, s2, s3, s4⟩; exact exec_load_hart rfl rfl s0
      rotate_left
      · simp only [Act.put, List.setIfInBounds_toArray, List.set_cons_zero, List.set_cons_succ, i64_w, i32_w]
        rfl
      refine take_ (i := 1) (N := some 72) (v := .agg #[.bool la, .bool lb, .bool lc, .bool ld, .int .u64 lg, .int .u64 lt]) (a' := ?_) #[true, true, true, true, true, false, false, false, false, true, true, true, false, false, false] rfl rfl (by kernel_rfl) (fun _ _ _ h => h) (Or.inl ⟨by rfl, ?_⟩) hHeld ?_ ?_
      · rintro w' ⟨s0, s1, s2, s3, s4⟩; exact exec_load_blk rfl rfl s1 Tryd.underlying27 rfl (by kernel_rfl)
      rotate_left
      · simp only [Act.put, List.setIfInBounds_toArray, List.set_cons_zero, List.set_cons_succ, i64_w, i32_w]
        rfl
      refine take_ (i := 5) (N := some 76) (v := ?_) (a' := ?_) #[true, true, true, true, true, true, false, false, false, true, true, true, false, false, false] rfl rfl (by kernel_rfl) (fun _ _ _ h => h) (Or.inl ⟨by rfl, ?_⟩) hHeld ?_ ?_
      rotate_left
      · rintro w' ⟨s0, s1, s2, s3, s4⟩
        go_simp
        with_reducible rfl
      rotate_left
      · simp only [Act.put, List.setIfInBounds_toArray, List.set_cons_zero, List.set_cons_succ, i64_w, i32_w]
        rfl
      refine take_ (i := 7) (N := some 78) (v := .agg (host (gst f)).cs) (a' := ?_) #[true, true, true, true, true, true, false, true, false, true, true, true, false, false, false] rfl rfl (by kernel_rfl) (fun _ _ _ h => h) (Or.inl ⟨by rfl, ?_⟩) hHeld ?_ ?_
      · rintro w' ⟨s0, s1, s2, s3, s4⟩; exact exec_load_hart rfl rfl s4
      rotate_left
      · simp only [Act.put, List.setIfInBounds_toArray, List.set_cons_zero, List.set_cons_succ, i64_w, i32_w]
        rfl
      refine take_ (i := 8) (N := some 79) (v := .agg #[.bool la, .bool lb, .bool lc, .bool ld, .int .u64 lg, .int .u64 lt]) (a' := ?_) #[true, true, true, true, true, true, false, true, true, true, true, true, false, false, false] rfl rfl (by kernel_rfl) (fun _ _ _ h => h) (Or.inl ⟨by rfl, ?_⟩) hHeld ?_ ?_
      · rintro w' ⟨s0, s1, s2, s3, s4⟩; exact exec_load_blk rfl rfl s1 Tryd.underlying27 rfl (by kernel_rfl)
      rotate_left
      · simp only [Act.put, List.setIfInBounds_toArray, List.set_cons_zero, List.set_cons_succ, i64_w, i32_w]
        rfl
      refine take_ (i := 12) (N := some 83) (v := ?_) (a' := ?_) #[true, true, true, true, true, true, false, true, true, true, true, true, true, false, false] rfl rfl (by kernel_rfl) (fun _ _ _ h => h) (Or.inl ⟨by rfl, ?_⟩) hHeld ?_ ?_
      rotate_left
      · rintro w' ⟨s0, s1, s2, s3, s4⟩
        go_simp
        with_reducible rfl
      rotate_left
      · simp only [Act.put, List.setIfInBounds_toArray, List.set_cons_zero, List.set_cons_succ, i64_w, i32_w]
        rfl
      have HH := Lib.hid hHeld
      clear hHeld
      refine one_ (i := 6) (N := some 77) #[true, true, true, true, true, true, true, true, true, true, true, true, true, false, false] rfl rfl (by kernel_rfl) (by decide) (fun K hK => ?_)
      refine goes_ Tryd.func13 (by kernel_rfl) rfl #[.agg b.cs, .agg #[.bool la, .bool lb, .bool lc, .bool ld, .int .u64 lg, .int .u64 lt], .int .i64 (mine k_)] (by rfl) rfl rfl (by simp only [List.map_toArray, List.map_cons, List.map_nil]; rfl) ?_
      with_reducible refine (HB1.out _).mono ?_
      rintro e_ w_42 ⟨rfl, hb⟩
      refine ⟨_, rfl, ?_⟩
      have s_0 := Hb.below (HH.out.1) hb
      have s_1 := blk_below (HH.out.2.1) hb
      have s_2 := blk_below (HH.out.2.2.1) hb
      have s_3 := ((blk_cell s_2 k_).trans (mine_at k_ HLT.out))
      have s_4 := Hb.below (HH.out.2.2.2.2) hb
      replace K_ga := Lib.hid (K_ga.out.below hb)
      replace K_gt := Lib.hid (blk_below K_gt.out hb)
      replace K_gm := Lib.hid (blk_below K_gm.out hb)
      replace K_gi := Lib.hid (blk_below K_gi.out hb)
      replace K_gh := Lib.hid (K_gh.out.below hb)
      replace K_gA := Lib.hid (K_gA.out.below hb)
      replace K_gB := Lib.hid (K_gB.out.below hb)
      have hB_43 := Lib.hid (below_step hB_41.out hb)
      clear HH hb hB_41
      refine hK.out _ _ ⟨s_0, s_1, s_2, s_3, s_4⟩ (fun hHeld => ?_)
      have HH := Lib.hid hHeld
      clear hHeld s_0 s_1 s_2 s_3 s_4
      clear hK K
      refine norm_ (a' := ?_) ?_ ?_
      rotate_left
      · show Act.put _ (some 77) _ = _
        simp only [Act.put, List.setIfInBounds_toArray, List.set_cons_zero, List.set_cons_succ, i64_w, i32_w]
        rfl
      refine one_ (i := 13) (N := some 84) #[true, true, true, true, true, true, true, true, true, true, true, true, true, true, false] rfl rfl (by kernel_rfl) (by decide) (fun K hK => ?_)
      refine goes_ Tryd.func13 (by kernel_rfl) rfl #[.agg (host (gst f)).cs, .agg #[.bool la, .bool lb, .bool lc, .bool ld, .int .u64 lg, .int .u64 lt], .int .i64 (mine k_)] (by rfl) rfl rfl (by simp only [List.map_toArray, List.map_cons, List.map_nil]; rfl) ?_
      with_reducible refine (HH1.out _).mono ?_
      rintro e_ w_44 ⟨rfl, hb⟩
      refine ⟨_, rfl, ?_⟩
      have s_0 := Hb.below (HH.out.1) hb
      have s_1 := blk_below (HH.out.2.1) hb
      have s_2 := blk_below (HH.out.2.2.1) hb
      have s_3 := ((blk_cell s_2 k_).trans (mine_at k_ HLT.out))
      have s_4 := Hb.below (HH.out.2.2.2.2) hb
      replace K_ga := Lib.hid (K_ga.out.below hb)
      replace K_gt := Lib.hid (blk_below K_gt.out hb)
      replace K_gm := Lib.hid (blk_below K_gm.out hb)
      replace K_gi := Lib.hid (blk_below K_gi.out hb)
      replace K_gh := Lib.hid (K_gh.out.below hb)
      replace K_gA := Lib.hid (K_gA.out.below hb)
      replace K_gB := Lib.hid (K_gB.out.below hb)
      have hB_45 := Lib.hid (below_step hB_43.out hb)
      clear HH hb hB_43
      refine hK.out _ _ ⟨s_0, s_1, s_2, s_3, s_4⟩ (fun hHeld => ?_)
      have HH := Lib.hid hHeld
      clear hHeld s_0 s_1 s_2 s_3 s_4
      clear hK K
      refine norm_ (a' := ?_) ?_ ?_
      rotate_left
      · show Act.put _ (some 84) _ = _
        simp only [Act.put, List.setIfInBounds_toArray, List.set_cons_zero, List.set_cons_succ, i64_w, i32_w]
        rfl
      refine pure_ (i := 14) (N := some 85) (v := ?_) (a' := ?_) #[true, true, true, true, true, true, true, true, true, true, true, true, true, true, true] rfl rfl (by kernel_rfl) (fun _ _ _ h => h) (Or.inl ⟨by rfl, ?_⟩) ?_ ?_
      rotate_left
      · intro w'
        go_simp
        with_reducible rfl
      rotate_left
      · simp only [Act.put, List.setIfInBounds_toArray, List.set_cons_zero, List.set_cons_succ, i64_w, i32_w]
        rfl
      refine done_ (by kernel_rfl) ?_
      try clear HH
      go_wp2
      go_roundw
      case rel => exact ⟨k_ + 1, HLT.out, congrArg (Value.int .i64) (wr64 HLT.out (by decide)), hB_45.out, K_ga.out, K_gt.out, K_gm.out, K_gi.out, K_gh.out, K_gA.out, K_gB.out⟩
      case measure => exact meas HLT.out (by decide)
    · have hk9 : k_ = 9 := by omega
      subst hk9
      clear hlt hk
      go_wp2_with fail
      refine (wakes_c _ (Tab.from HT.out HBR.out)).mono ?_
      rintro e_40 w_41 ⟨rfl, hb⟩
      have hB_42 := Lib.hid (below_step HBR.out hb)
      replace K_ga := Lib.hid (K_ga.out.below hb)
      replace K_gt := Lib.hid (blk_below K_gt.out hb)
      replace K_gm := Lib.hid (blk_below K_gm.out hb)
      replace K_gi := Lib.hid (blk_below K_gi.out hb)
      replace K_gh := Lib.hid (K_gh.out.below hb)
      replace K_gA := Lib.hid (K_gA.out.below hb)
      replace K_gB := Lib.hid (K_gB.out.below hb)
      clear hb HBR
      go_wp2
      go_ret
      exact ⟨rfl, hB_42.out⟩
end Go.Proofs.YtlopmcakfalkpaaDoor.Hx
namespace Go.Proofs.YtlopmcakfalkpaaDoor.Pure
open Go.RowKit Go.Proofs.YtlopmcakfalkpaaDoor.Hx Go.Proofs.YtlopmcakfalkpaaDoor.Bv Go.Proofs.YtlopmcakfalkpaaDoor.Q
theorem CsrGuest (h : Ht) (la lb lc ld : Bool) (lg lt : Int) (which : Int) (v : Int) (w : World) (hw : h.wf) (wg : (Lit.int .u64 lg).wf = true) (wt : (Lit.int .u64 lt).wf = true) (w_which : (Lit.int .u8 which).wf = true) (w_v : (Lit.int .u64 v).wf = true) (hT : Tab w) :
    Calls Tryd.prog 10 #[.agg h.cs, .agg #[.bool la, .bool lb, .bool lc, .bool ld, .int .u64 lg, .int .u64 lt], .int .u8 which, .int .u64 v] w fun e w' => e = .returned (.bool true) ∧ Below w.heap.size w w' :=
  guest_c h hw la lb lc ld lg lt which v (u8_in w_which) (u64_in w_v) w hT
end Go.Proofs.YtlopmcakfalkpaaDoor.Pure
