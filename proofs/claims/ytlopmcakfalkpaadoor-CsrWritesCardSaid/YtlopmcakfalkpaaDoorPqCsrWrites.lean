/- The hart behind writing a register is the document's. (By a program of this session.) -/
import Derived.Test.YtlopmcakfalkpaaDoorCRWa
import Derived.Test.YtlopmcakfalkpaaDoorHrow
import Derived.Test.YtlopmcakfalkpaaDoorCWakes
set_option linter.unusedSimpArgs false
set_option linter.unusedVariables false
namespace Go.Proofs.YtlopmcakfalkpaaDoor.Hx
open Go.RowKit Go.Proofs.YtlopmcakfalkpaaDoor.Q Go.Proofs.YtlopmcakfalkpaaDoorW.PrintWords Go.Proofs.YtlopmcakfalkpaaDoorW.PrintLast Go.Proofs.YtlopmcakfalkpaaDoorW.PrintMore Go.Proofs.YtlopmcakfalkpaaDoor.Rg

open Go.Proofs.YtlopmcakfalkpaaDoor.Bv Go.RowKit Go.Proofs.YtlopmcakfalkpaaDoor.Q Go.Proofs.YtlopmcakfalkpaaDoorW.PrintWords Go.Proofs.YtlopmcakfalkpaaDoorW.PrintLast Go.Proofs.YtlopmcakfalkpaaDoorW.PrintMore Go.Proofs.YtlopmcakfalkpaaDoor.Rg

set_option maxHeartbeats 16000000 in
set_option maxRecDepth 100000 in
theorem rw_773 (h : Ht) (hw : h.wf) (la lb lc ld : Bool) (lg lt : Int) (no v : Int) (hv : 0 ≤ v ∧ v < 18446744073709551616) (w : World) (hM : meantV h.v no = 773) : Calls Tryd.prog 20 #[.agg h.cs, .agg #[.bool la, .bool lb, .bool lc, .bool ld, .int .u64 lg, .int .u64 lt], .int .i64 no, .int .u64 v] w fun e w' => e = .returned (.agg (writeV h no v).cs) ∧ Below w.heap.size w w' := by
  have HM := Lib.hid (rmeant_c h no)
  have HPUT := Lib.hid (fun (a m : Int) (ha : 0 ≤ a ∧ a < 18446744073709551616) (hm : 0 ≤ m ∧ m < 18446744073709551616) => rput_c ha hm hv)
  have HPUT2 := Lib.hid (fun (a m : Int) (ha : 0 ≤ a ∧ a < 18446744073709551616) (hm : 0 ≤ m ∧ m < 18446744073709551616) => rput_c ha hm (shl2_rng v))
  have HWF := Lib.hid hw.1; have HV := Lib.hid hv
  obtain ⟨z, hz⟩ : ∃ z, writeV h no v = z := ⟨_, rfl⟩
  rw [hz]
  unfold writeV at hz
  clear hw hv
  rw [hM] at HM hz
  clear hM
  have hz1 : h.set 43 (putV (h.x 43) 18446744073709551613 v) = z := (wm_773 h v).symm.trans hz
  have HZ := Lib.hid hz1
  clear hz hz1
  have hu25 := Tryd.underlying25; have hu27 := Tryd.underlying27
  go_enter Tryd.func20, Tryd.ntmps20
  go_upto_region 1 with (first | ((with_reducible refine gate_dst (N := 4) rfl ?_); refine box_event ?hg (N := 4) ?hd (cs := h.cs) (t := 25) ?hr ?_; (case hd => rfl); (case hg => rfl); (case hr => first | (go_simp; done) | (go_simp; rfl)); intro ga hg w_1 H1 hb; have hB_2 := Lib.hid (below_step (Below.refl w.heap.size w) hb); have G_ga := Lib.hid (show w.heap.size ≤ ga by rw [hg]; exact ((Below.refl w.heap.size w)).size); have K_ga := Lib.hid (show Hb w_1 ga h from H1); clear hg hb H1) | ((with_reducible refine gate_dst (N := 5) rfl ?_); refine box_event ?hg (N := 5) ?hd (cs := #[.bool la, .bool lb, .bool lc, .bool ld, .int .u64 lg, .int .u64 lt]) (t := 27) ?hr ?_; (case hd => rfl); (case hg => rfl); (case hr => first | (go_simp; done) | (go_simp; rfl)); intro gt hg w_3 H1 hb; have hB_4 := Lib.hid (below_step hB_2.out hb); have G_gt := Lib.hid (show w.heap.size ≤ gt by rw [hg]; exact (hB_2.out).size); have N_ga_gt := Lib.hid (show ga ≠ gt by rw [hg]; exact Nat.ne_of_lt (K_ga.out.lt)); replace K_ga := Lib.hid (K_ga.out.below hb); have K_gt := Lib.hid (show w_3.heap[gt]? = some (.cells #[.bool la, .bool lb, .bool lc, .bool ld, .int .u64 lg, .int .u64 lt] 27 (0, 0)) from H1); clear hg hb H1 hB_2) | ((with_reducible refine gate_dst (N := 8) rfl ?_); refine box_event ?hg (N := 8) ?hd (cs := Ht.zero.cs) (t := 25) ?hr ?_; (case hd => rfl); (case hg => rfl); (case hr => first | (go_simp; done) | (go_simp; rfl)); intro gr hg w_5 H1 hb; have hB_6 := Lib.hid (below_step hB_4.out hb); have G_gr := Lib.hid (show w.heap.size ≤ gr by rw [hg]; exact (hB_4.out).size); have N_ga_gr := Lib.hid (show ga ≠ gr by rw [hg]; exact Nat.ne_of_lt (K_ga.out.lt)); have N_gt_gr := Lib.hid (show gt ≠ gr by rw [hg]; exact Nat.ne_of_lt (blk_lt K_gt.out)); replace K_ga := Lib.hid (K_ga.out.below hb); replace K_gt := Lib.hid (blk_below K_gt.out hb); have K_gr := Lib.hid (show Hb w_5 gr Ht.zero from H1); clear hg hb H1 hB_4; clear hu25 hu27))
  go_wp2_with (first | ((with_reducible refine gate_dst (N := 9) rfl ?_); (first | (refine gate_guard (by kernel_rfl) ?_) | skip); refine Kd.event_run rfl (v := .agg (h).cs) (w1 := w_5) ?hb ?_; (case hb => exact exec_load_hart rfl rfl K_ga.out)))
  refine (HM.out _).mono ?_
  rintro e_7 w_8 ⟨rfl, hb⟩
  have hB_9 := Lib.hid (below_step hB_6.out hb)
  replace K_ga := Lib.hid (K_ga.out.below hb)
  replace K_gr := Lib.hid (K_gr.out.below hb)
  clear hb hB_6
  have c_ga_43 := K_ga.out.u 43 rfl; have f_ga_43 := K_ga.out.fr 43
  go_upto_region 53 with (fail)
  refine start_ (n := 7) (S := fun w' => w'.cell? ⟨ga, 43, none⟩ = some (.int .u64 (h.x 43))) (ds := [6]) #[false, false, false, false, false, false, false] (by kernel_rfl) rfl rfl ((show World.cell? _ ⟨ga, 43, none⟩ = some (.int .u64 (h.x 43)) by first | (go_simp; done) | (go_simp; rfl))) (fun hHeld => ?_)
  have HH0 := Lib.hid hHeld
  clear hHeld
  refine world_any ga (by repeat (with_reducible first | exact K_ga.out | apply Hb.put | apply Hb.putP | apply Hb.putV | apply Hb.putW | apply Hb.putH | apply Hb.far N_ga_gr.out | apply Hb.drewN | apply Hb.drew)) (fun w' => Below w.heap.size w w' ∧ Hb w' gr Ht.zero ∧ (w'.cell? ⟨ga, 43, none⟩ = some (.int .u64 (h.x 43)))) ⟨(by repeat (first | (with_reducible first | exact hB_9.out | apply pw_below_drewN | apply below_drew1 | refine below_set ?_ G_ga.out | refine below_set ?_ G_gr.out) | exact hB_9.out)), (by repeat (with_reducible first | exact K_gr.out | apply Hb.put | apply Hb.putP | apply Hb.putV | apply Hb.putW | apply Hb.putH | apply Hb.far (Ne.symm N_ga_gr.out) | apply Hb.drewN | apply Hb.drew)), HH0.out⟩ ?_
  clear HH0
  clear c_ga_43 f_ga_43
  clear K_ga K_gr hB_9
  rintro w_10 q_ ⟨b_, q_gr, hHeld⟩
  have K_ga := Lib.hid q_; have hB_11 := Lib.hid b_; have K_gr := Lib.hid q_gr
  clear q_ b_ q_gr
  refine pure_ (i := 0) (N := some 185) (v := ?_) (a' := ?_) #[true, false, false, false, false, false, false] rfl rfl (by kernel_rfl) (fun _ _ _ h => h) (Or.inl ⟨by rfl, ?_⟩) ?_ ?_
  rotate_left
  · intro w'
    go_simp
    with_reducible rfl
  rotate_left
  · simp only [Act.put, List.setIfInBounds_toArray, List.set_cons_zero, List.set_cons_succ, i64_w, i32_w]
    rfl
  refine pure_ (i := 3) (N := some 188) (v := ?_) (a' := ?_) #[true, false, false, true, false, false, false] rfl rfl (by kernel_rfl) (fun _ _ _ h => h) (Or.inl ⟨by rfl, ?_⟩) ?_ ?_
  rotate_left
  · intro w'
    go_simp
    with_reducible rfl
  rotate_left
  · simp only [Act.put, List.setIfInBounds_toArray, List.set_cons_zero, List.set_cons_succ, i64_w, i32_w]
    rfl
  refine take_ (i := 1) (N := some 186) (v := ?_) (a' := ?_) #[true, true, false, true, false, false, false] rfl rfl (by kernel_rfl) (fun _ _ _ h => h) (Or.inl ⟨by rfl, ?_⟩) hHeld ?_ ?_
  rotate_left
  · intro w' s0
    go_simp
    with_reducible rfl
  rotate_left
  · simp only [Act.put, List.setIfInBounds_toArray, List.set_cons_zero, List.set_cons_succ, i64_w, i32_w]
    rfl
  have HH := Lib.hid hHeld
  clear hHeld
  refine one_ (i := 2) (N := some 187) #[true, true, true, true, false, false, false] rfl rfl (by kernel_rfl) (by decide) (fun K hK => ?_)
  refine goes_ Tryd.func36 (by kernel_rfl) rfl #[.int .u64 2] (by rfl) rfl rfl (by simp only [List.map_toArray, List.map_cons, List.map_nil]; rfl) ?_
  with_reducible refine (but_2 _).mono ?_
  rintro e_ w_ ⟨rfl, ⟨n_, rfl⟩⟩
  refine ⟨_, rfl, ?_⟩
  have q_ := Lib.hid (Hb.drewN n_ K_ga.out)
  have hB_13 := Lib.hid (pw_below_drewN hB_11.out n_)
  have q_gr := Lib.hid (Hb.drewN n_ K_gr.out)
  have s_0 := (cell_drewN n_ HH.out)
  clear HH K_ga K_gr hB_11
  generalize World.drewN w_10 n_ = w_12 at q_ hB_13 q_gr s_0 ⊢
  have K_ga := q_; clear q_
  have K_gr := q_gr; clear q_gr
  refine hK.out _ _ (s_0) (fun hHeld => ?_)
  have HH := Lib.hid hHeld
  clear hHeld s_0
  clear hK K
  refine norm_ (a' := ?_) ?_ ?_
  rotate_left
  · show Act.put _ (some 187) _ = _
    simp only [Act.put, List.setIfInBounds_toArray, List.set_cons_zero, List.set_cons_succ, i64_w, i32_w]
    rfl
  refine one_ (i := 4) (N := some 189) #[true, true, true, true, true, false, false] rfl rfl (by kernel_rfl) (by decide) (fun K hK => ?_)
  refine goes_ Tryd.func35 (by kernel_rfl) rfl #[.int .u64 (h.x 43), .int .u64 18446744073709551613, .int .u64 v] (by rfl) rfl rfl (by simp only [List.map_toArray, List.map_cons, List.map_nil]; rfl) ?_
  with_reducible refine (HPUT.out (h.x 43) 18446744073709551613 (HWF.out 43) ⟨by decide, by decide⟩ _).mono ?_
  rintro e_ w_ ⟨rfl, ⟨n_, rfl⟩⟩
  refine ⟨_, rfl, ?_⟩
  have q_ := Lib.hid (Hb.drewN n_ K_ga.out)
  have hB_15 := Lib.hid (pw_below_drewN hB_13.out n_)
  have q_gr := Lib.hid (Hb.drewN n_ K_gr.out)
  have s_0 := (cell_drewN n_ HH.out)
  clear HH K_ga K_gr hB_13
  generalize World.drewN w_12 n_ = w_14 at q_ hB_15 q_gr s_0 ⊢
  have K_ga := q_; clear q_
  have K_gr := q_gr; clear q_gr
  refine hK.out _ _ (s_0) (fun hHeld => ?_)
  have HH := Lib.hid hHeld
  clear hHeld s_0
  clear hK K
  refine norm_ (a' := ?_) ?_ ?_
  rotate_left
  · show Act.put _ (some 189) _ = _
    simp only [Act.put, List.setIfInBounds_toArray, List.set_cons_zero, List.set_cons_succ, i64_w, i32_w]
    rfl
  refine pure_ (i := 5) (N := some 190) (v := ?_) (a' := ?_) #[true, true, true, true, true, true, false] rfl rfl (by kernel_rfl) (fun _ _ _ h => h) (Or.inl ⟨by rfl, ?_⟩) ?_ ?_
  rotate_left
  · intro w'
    go_simp
    with_reducible rfl
  rotate_left
  · simp only [Act.put, List.setIfInBounds_toArray, List.set_cons_zero, List.set_cons_succ, i64_w, i32_w]
    rfl
  refine last_ (i := 6) (N := none) #[true, true, true, true, true, true, true] rfl rfl (by kernel_rfl) (by decide) (fun K hK => ?_)
  refine skipH (h := _) (v := .int .u64 (putV (h.x 43) 18446744073709551613 v)) (by rfl) rfl rfl rfl rfl (by kernel_rfl) rfl rfl K_ga.out (by decide) ?_
  have q_ := Lib.hid (Hb.put 43 ((putV (h.x 43) 18446744073709551613 v)) K_ga.out)
  have hB_17 := Lib.hid (below_set (j := 43) (v := (.int .u64 (putV (h.x 43) 18446744073709551613 v))) hB_15.out G_ga.out)
  have q_gr := Lib.hid (Hb.far (j := 43) (u := (.int .u64 (putV (h.x 43) 18446744073709551613 v))) (Ne.symm N_ga_gr.out) K_gr.out)
  clear HH K_ga K_gr hB_15
  generalize World.setCell w_14 ⟨ga, 43, none⟩ (.int .u64 (putV (h.x 43) 18446744073709551613 v)) = w_16 at q_ hB_17 q_gr ⊢
  have K_ga := q_; clear q_
  have K_gr := q_gr; clear q_gr
  refine hK.out _ _ ?_
  clear hK K
  refine done_ (by kernel_rfl) ?_
  try clear HH
  go_upto_region 100 with (fail)
  refine wp_region_list ?_
  refine load_hart (h := _) rfl (.tmp 4) rfl ga rfl (by repeat (with_reducible first | exact K_ga.out | apply Hb.put | apply Hb.putP | apply Hb.putV | apply Hb.putW | apply Hb.putH | apply Hb.far N_ga_gr.out | apply Hb.drewN | apply Hb.drew)) ?_
  refine store_hart rfl (.tmp 8) (.tmp 324) rfl gr _ rfl rfl Ht.zero (by repeat (with_reducible first | exact K_gr.out | apply Hb.put | apply Hb.putP | apply Hb.putV | apply Hb.putW | apply Hb.putH | apply Hb.far (Ne.symm N_ga_gr.out) | apply Hb.drewN | apply Hb.drew)) ?_
  go_wp2
  refine bodyPost_ret (results_cell_row rfl _ _ gr 25 _ (0, 0) _ rfl (Hb.putAll _ (by repeat (with_reducible first | exact K_gr.out | apply Hb.put | apply Hb.putP | apply Hb.putV | apply Hb.putW | apply Hb.putH | apply Hb.far (Ne.symm N_ga_gr.out) | apply Hb.drewN | apply Hb.drew))) Tryd.underlying25 rfl (by rw [Ht.size]; exact hartSize)) rfl ?_
  exact ⟨by first | (rw [← HZ.out]; done) | (rw [← HZ.out]; rfl), setCells_below G_gr.out _ _ _ (by repeat (first | (with_reducible first | exact hB_17.out | apply pw_below_drewN | apply below_drew1 | refine below_set ?_ G_ga.out | refine below_set ?_ G_gr.out) | exact hB_17.out))⟩
set_option maxHeartbeats 16000000 in
set_option maxRecDepth 100000 in
theorem rw_774 (h : Ht) (hw : h.wf) (la lb lc ld : Bool) (lg lt : Int) (no v : Int) (hv : 0 ≤ v ∧ v < 18446744073709551616) (w : World) (hM : meantV h.v no = 774) : Calls Tryd.prog 20 #[.agg h.cs, .agg #[.bool la, .bool lb, .bool lc, .bool ld, .int .u64 lg, .int .u64 lt], .int .i64 no, .int .u64 v] w fun e w' => e = .returned (.agg (writeV h no v).cs) ∧ Below w.heap.size w w' := by
  have HM := Lib.hid (rmeant_c h no)
  have HPUT := Lib.hid (fun (a m : Int) (ha : 0 ≤ a ∧ a < 18446744073709551616) (hm : 0 ≤ m ∧ m < 18446744073709551616) => rput_c ha hm hv)
  have HPUT2 := Lib.hid (fun (a m : Int) (ha : 0 ≤ a ∧ a < 18446744073709551616) (hm : 0 ≤ m ∧ m < 18446744073709551616) => rput_c ha hm (shl2_rng v))
  have HWF := Lib.hid hw.1; have HV := Lib.hid hv
  obtain ⟨z, hz⟩ : ∃ z, writeV h no v = z := ⟨_, rfl⟩
  rw [hz]
  unfold writeV at hz
  clear hw hv
  rw [hM] at HM hz
  clear hM
  have hz1 : h.set 44 (putV (h.x 44) 7 v) = z := (wm_774 h v).symm.trans hz
  have HZ := Lib.hid hz1
  clear hz hz1
  have hu25 := Tryd.underlying25; have hu27 := Tryd.underlying27
  go_enter Tryd.func20, Tryd.ntmps20
  go_upto_region 1 with (first | ((with_reducible refine gate_dst (N := 4) rfl ?_); refine box_event ?hg (N := 4) ?hd (cs := h.cs) (t := 25) ?hr ?_; (case hd => rfl); (case hg => rfl); (case hr => first | (go_simp; done) | (go_simp; rfl)); intro ga hg w_1 H1 hb; have hB_2 := Lib.hid (below_step (Below.refl w.heap.size w) hb); have G_ga := Lib.hid (show w.heap.size ≤ ga by rw [hg]; exact ((Below.refl w.heap.size w)).size); have K_ga := Lib.hid (show Hb w_1 ga h from H1); clear hg hb H1) | ((with_reducible refine gate_dst (N := 5) rfl ?_); refine box_event ?hg (N := 5) ?hd (cs := #[.bool la, .bool lb, .bool lc, .bool ld, .int .u64 lg, .int .u64 lt]) (t := 27) ?hr ?_; (case hd => rfl); (case hg => rfl); (case hr => first | (go_simp; done) | (go_simp; rfl)); intro gt hg w_3 H1 hb; have hB_4 := Lib.hid (below_step hB_2.out hb); have G_gt := Lib.hid (show w.heap.size ≤ gt by rw [hg]; exact (hB_2.out).size); have N_ga_gt := Lib.hid (show ga ≠ gt by rw [hg]; exact Nat.ne_of_lt (K_ga.out.lt)); replace K_ga := Lib.hid (K_ga.out.below hb); have K_gt := Lib.hid (show w_3.heap[gt]? = some (.cells #[.bool la, .bool lb, .bool lc, .bool ld, .int .u64 lg, .int .u64 lt] 27 (0, 0)) from H1); clear hg hb H1 hB_2) | ((with_reducible refine gate_dst (N := 8) rfl ?_); refine box_event ?hg (N := 8) ?hd (cs := Ht.zero.cs) (t := 25) ?hr ?_; (case hd => rfl); (case hg => rfl); (case hr => first | (go_simp; done) | (go_simp; rfl)); intro gr hg w_5 H1 hb; have hB_6 := Lib.hid (below_step hB_4.out hb); have G_gr := Lib.hid (show w.heap.size ≤ gr by rw [hg]; exact (hB_4.out).size); have N_ga_gr := Lib.hid (show ga ≠ gr by rw [hg]; exact Nat.ne_of_lt (K_ga.out.lt)); have N_gt_gr := Lib.hid (show gt ≠ gr by rw [hg]; exact Nat.ne_of_lt (blk_lt K_gt.out)); replace K_ga := Lib.hid (K_ga.out.below hb); replace K_gt := Lib.hid (blk_below K_gt.out hb); have K_gr := Lib.hid (show Hb w_5 gr Ht.zero from H1); clear hg hb H1 hB_4; clear hu25 hu27))
  go_wp2_with (first | ((with_reducible refine gate_dst (N := 9) rfl ?_); (first | (refine gate_guard (by kernel_rfl) ?_) | skip); refine Kd.event_run rfl (v := .agg (h).cs) (w1 := w_5) ?hb ?_; (case hb => exact exec_load_hart rfl rfl K_ga.out)))
  refine (HM.out _).mono ?_
  rintro e_7 w_8 ⟨rfl, hb⟩
  have hB_9 := Lib.hid (below_step hB_6.out hb)
  replace K_ga := Lib.hid (K_ga.out.below hb)
  replace K_gr := Lib.hid (K_gr.out.below hb)
  clear hb hB_6
  have c_ga_44 := K_ga.out.u 44 rfl; have f_ga_44 := K_ga.out.fr 44
  go_wp2_with fail
  refine (HPUT.out (h.x 44) 7 (HWF.out 44) ⟨by decide, by decide⟩ _).mono ?_
  rintro e3 w3 ⟨rfl, n_, e3⟩
  clear c_ga_44 f_ga_44
  replace K_ga := Lib.hid (Hb.of e3.symm (K_ga.out.drewN n_))
  replace K_gr := Lib.hid (Hb.of e3.symm (K_gr.out.drewN n_))
  have hB_10 := Lib.hid (Below_of e3.symm (pw_below_drewN hB_9.out n_))
  clear e3 hB_9
  have c_ga_44 := K_ga.out.u 44 rfl; have f_ga_44 := K_ga.out.fr 44
  go_upto_region 100 with (fail)
  refine wp_region_list ?_
  refine load_hart (h := _) rfl (.tmp 4) rfl ga rfl (by repeat (with_reducible first | exact K_ga.out | apply Hb.put | apply Hb.putP | apply Hb.putV | apply Hb.putW | apply Hb.putH | apply Hb.far N_ga_gr.out | apply Hb.drewN | apply Hb.drew)) ?_
  refine store_hart rfl (.tmp 8) (.tmp 324) rfl gr _ rfl rfl Ht.zero (by repeat (with_reducible first | exact K_gr.out | apply Hb.put | apply Hb.putP | apply Hb.putV | apply Hb.putW | apply Hb.putH | apply Hb.far (Ne.symm N_ga_gr.out) | apply Hb.drewN | apply Hb.drew)) ?_
  go_wp2
  refine bodyPost_ret (results_cell_row rfl _ _ gr 25 _ (0, 0) _ rfl (Hb.putAll _ (by repeat (with_reducible first | exact K_gr.out | apply Hb.put | apply Hb.putP | apply Hb.putV | apply Hb.putW | apply Hb.putH | apply Hb.far (Ne.symm N_ga_gr.out) | apply Hb.drewN | apply Hb.drew))) Tryd.underlying25 rfl (by rw [Ht.size]; exact hartSize)) rfl ?_
  exact ⟨by first | (rw [← HZ.out]; done) | (rw [← HZ.out]; rfl), setCells_below G_gr.out _ _ _ (by repeat (first | (with_reducible first | exact hB_10.out | apply pw_below_drewN | apply below_drew1 | refine below_set ?_ G_ga.out | refine below_set ?_ G_gr.out) | exact hB_10.out))⟩
set_option maxHeartbeats 16000000 in
set_option maxRecDepth 100000 in
theorem rw_832 (h : Ht) (hw : h.wf) (la lb lc ld : Bool) (lg lt : Int) (no v : Int) (hv : 0 ≤ v ∧ v < 18446744073709551616) (w : World) (hM : meantV h.v no = 832) : Calls Tryd.prog 20 #[.agg h.cs, .agg #[.bool la, .bool lb, .bool lc, .bool ld, .int .u64 lg, .int .u64 lt], .int .i64 no, .int .u64 v] w fun e w' => e = .returned (.agg (writeV h no v).cs) ∧ Below w.heap.size w w' := by
  have HM := Lib.hid (rmeant_c h no)
  have HPUT := Lib.hid (fun (a m : Int) (ha : 0 ≤ a ∧ a < 18446744073709551616) (hm : 0 ≤ m ∧ m < 18446744073709551616) => rput_c ha hm hv)
  have HPUT2 := Lib.hid (fun (a m : Int) (ha : 0 ≤ a ∧ a < 18446744073709551616) (hm : 0 ≤ m ∧ m < 18446744073709551616) => rput_c ha hm (shl2_rng v))
  have HWF := Lib.hid hw.1; have HV := Lib.hid hv
  obtain ⟨z, hz⟩ : ∃ z, writeV h no v = z := ⟨_, rfl⟩
  rw [hz]
  unfold writeV at hz
  clear hw hv
  rw [hM] at HM hz
  clear hM
  have hz1 : h.set 45 v = z := by rw [← putV_all (h.x 45) HV.out]; exact (wm_832 h v).symm.trans hz
  have HZ := Lib.hid hz1
  clear hz hz1
  have hu25 := Tryd.underlying25; have hu27 := Tryd.underlying27
  go_enter Tryd.func20, Tryd.ntmps20
  go_upto_region 1 with (first | ((with_reducible refine gate_dst (N := 4) rfl ?_); refine box_event ?hg (N := 4) ?hd (cs := h.cs) (t := 25) ?hr ?_; (case hd => rfl); (case hg => rfl); (case hr => first | (go_simp; done) | (go_simp; rfl)); intro ga hg w_1 H1 hb; have hB_2 := Lib.hid (below_step (Below.refl w.heap.size w) hb); have G_ga := Lib.hid (show w.heap.size ≤ ga by rw [hg]; exact ((Below.refl w.heap.size w)).size); have K_ga := Lib.hid (show Hb w_1 ga h from H1); clear hg hb H1) | ((with_reducible refine gate_dst (N := 5) rfl ?_); refine box_event ?hg (N := 5) ?hd (cs := #[.bool la, .bool lb, .bool lc, .bool ld, .int .u64 lg, .int .u64 lt]) (t := 27) ?hr ?_; (case hd => rfl); (case hg => rfl); (case hr => first | (go_simp; done) | (go_simp; rfl)); intro gt hg w_3 H1 hb; have hB_4 := Lib.hid (below_step hB_2.out hb); have G_gt := Lib.hid (show w.heap.size ≤ gt by rw [hg]; exact (hB_2.out).size); have N_ga_gt := Lib.hid (show ga ≠ gt by rw [hg]; exact Nat.ne_of_lt (K_ga.out.lt)); replace K_ga := Lib.hid (K_ga.out.below hb); have K_gt := Lib.hid (show w_3.heap[gt]? = some (.cells #[.bool la, .bool lb, .bool lc, .bool ld, .int .u64 lg, .int .u64 lt] 27 (0, 0)) from H1); clear hg hb H1 hB_2) | ((with_reducible refine gate_dst (N := 8) rfl ?_); refine box_event ?hg (N := 8) ?hd (cs := Ht.zero.cs) (t := 25) ?hr ?_; (case hd => rfl); (case hg => rfl); (case hr => first | (go_simp; done) | (go_simp; rfl)); intro gr hg w_5 H1 hb; have hB_6 := Lib.hid (below_step hB_4.out hb); have G_gr := Lib.hid (show w.heap.size ≤ gr by rw [hg]; exact (hB_4.out).size); have N_ga_gr := Lib.hid (show ga ≠ gr by rw [hg]; exact Nat.ne_of_lt (K_ga.out.lt)); have N_gt_gr := Lib.hid (show gt ≠ gr by rw [hg]; exact Nat.ne_of_lt (blk_lt K_gt.out)); replace K_ga := Lib.hid (K_ga.out.below hb); replace K_gt := Lib.hid (blk_below K_gt.out hb); have K_gr := Lib.hid (show Hb w_5 gr Ht.zero from H1); clear hg hb H1 hB_4; clear hu25 hu27))
  go_wp2_with (first | ((with_reducible refine gate_dst (N := 9) rfl ?_); (first | (refine gate_guard (by kernel_rfl) ?_) | skip); refine Kd.event_run rfl (v := .agg (h).cs) (w1 := w_5) ?hb ?_; (case hb => exact exec_load_hart rfl rfl K_ga.out)))
  refine (HM.out _).mono ?_
  rintro e_7 w_8 ⟨rfl, hb⟩
  have hB_9 := Lib.hid (below_step hB_6.out hb)
  replace K_ga := Lib.hid (K_ga.out.below hb)
  replace K_gr := Lib.hid (K_gr.out.below hb)
  clear hb hB_6
  have c_ga_45 := K_ga.out.u 45 rfl; have f_ga_45 := K_ga.out.fr 45
  go_upto_region 100 with (fail)
  refine wp_region_list ?_
  refine load_hart (h := _) rfl (.tmp 4) rfl ga rfl (by repeat (with_reducible first | exact K_ga.out | apply Hb.put | apply Hb.putP | apply Hb.putV | apply Hb.putW | apply Hb.putH | apply Hb.far N_ga_gr.out | apply Hb.drewN | apply Hb.drew)) ?_
  refine store_hart rfl (.tmp 8) (.tmp 324) rfl gr _ rfl rfl Ht.zero (by repeat (with_reducible first | exact K_gr.out | apply Hb.put | apply Hb.putP | apply Hb.putV | apply Hb.putW | apply Hb.putH | apply Hb.far (Ne.symm N_ga_gr.out) | apply Hb.drewN | apply Hb.drew)) ?_
  go_wp2
  refine bodyPost_ret (results_cell_row rfl _ _ gr 25 _ (0, 0) _ rfl (Hb.putAll _ (by repeat (with_reducible first | exact K_gr.out | apply Hb.put | apply Hb.putP | apply Hb.putV | apply Hb.putW | apply Hb.putH | apply Hb.far (Ne.symm N_ga_gr.out) | apply Hb.drewN | apply Hb.drew))) Tryd.underlying25 rfl (by rw [Ht.size]; exact hartSize)) rfl ?_
  exact ⟨by first | (rw [← HZ.out]; done) | (rw [← HZ.out]; rfl), setCells_below G_gr.out _ _ _ (by repeat (first | (with_reducible first | exact hB_9.out | apply pw_below_drewN | apply below_drew1 | refine below_set ?_ G_ga.out | refine below_set ?_ G_gr.out) | exact hB_9.out))⟩
set_option maxHeartbeats 16000000 in
set_option maxRecDepth 100000 in
theorem rw_833 (h : Ht) (hw : h.wf) (la lb lc ld : Bool) (lg lt : Int) (no v : Int) (hv : 0 ≤ v ∧ v < 18446744073709551616) (w : World) (hM : meantV h.v no = 833) : Calls Tryd.prog 20 #[.agg h.cs, .agg #[.bool la, .bool lb, .bool lc, .bool ld, .int .u64 lg, .int .u64 lt], .int .i64 no, .int .u64 v] w fun e w' => e = .returned (.agg (writeV h no v).cs) ∧ Below w.heap.size w w' := by
  have HM := Lib.hid (rmeant_c h no)
  have HPUT := Lib.hid (fun (a m : Int) (ha : 0 ≤ a ∧ a < 18446744073709551616) (hm : 0 ≤ m ∧ m < 18446744073709551616) => rput_c ha hm hv)
  have HPUT2 := Lib.hid (fun (a m : Int) (ha : 0 ≤ a ∧ a < 18446744073709551616) (hm : 0 ≤ m ∧ m < 18446744073709551616) => rput_c ha hm (shl2_rng v))
  have HWF := Lib.hid hw.1; have HV := Lib.hid hv
  obtain ⟨z, hz⟩ : ∃ z, writeV h no v = z := ⟨_, rfl⟩
  rw [hz]
  unfold writeV at hz
  clear hw hv
  rw [hM] at HM hz
  clear hM
  have hz1 : h.set 46 (putV (h.x 46) 18446744073709551612 v) = z := (wm_833 h v).symm.trans hz
  have HZ := Lib.hid hz1
  clear hz hz1
  have hu25 := Tryd.underlying25; have hu27 := Tryd.underlying27
  go_enter Tryd.func20, Tryd.ntmps20
  go_upto_region 1 with (first | ((with_reducible refine gate_dst (N := 4) rfl ?_); refine box_event ?hg (N := 4) ?hd (cs := h.cs) (t := 25) ?hr ?_; (case hd => rfl); (case hg => rfl); (case hr => first | (go_simp; done) | (go_simp; rfl)); intro ga hg w_1 H1 hb; have hB_2 := Lib.hid (below_step (Below.refl w.heap.size w) hb); have G_ga := Lib.hid (show w.heap.size ≤ ga by rw [hg]; exact ((Below.refl w.heap.size w)).size); have K_ga := Lib.hid (show Hb w_1 ga h from H1); clear hg hb H1) | ((with_reducible refine gate_dst (N := 5) rfl ?_); refine box_event ?hg (N := 5) ?hd (cs := #[.bool la, .bool lb, .bool lc, .bool ld, .int .u64 lg, .int .u64 lt]) (t := 27) ?hr ?_; (case hd => rfl); (case hg => rfl); (case hr => first | (go_simp; done) | (go_simp; rfl)); intro gt hg w_3 H1 hb; have hB_4 := Lib.hid (below_step hB_2.out hb); have G_gt := Lib.hid (show w.heap.size ≤ gt by rw [hg]; exact (hB_2.out).size); have N_ga_gt := Lib.hid (show ga ≠ gt by rw [hg]; exact Nat.ne_of_lt (K_ga.out.lt)); replace K_ga := Lib.hid (K_ga.out.below hb); have K_gt := Lib.hid (show w_3.heap[gt]? = some (.cells #[.bool la, .bool lb, .bool lc, .bool ld, .int .u64 lg, .int .u64 lt] 27 (0, 0)) from H1); clear hg hb H1 hB_2) | ((with_reducible refine gate_dst (N := 8) rfl ?_); refine box_event ?hg (N := 8) ?hd (cs := Ht.zero.cs) (t := 25) ?hr ?_; (case hd => rfl); (case hg => rfl); (case hr => first | (go_simp; done) | (go_simp; rfl)); intro gr hg w_5 H1 hb; have hB_6 := Lib.hid (below_step hB_4.out hb); have G_gr := Lib.hid (show w.heap.size ≤ gr by rw [hg]; exact (hB_4.out).size); have N_ga_gr := Lib.hid (show ga ≠ gr by rw [hg]; exact Nat.ne_of_lt (K_ga.out.lt)); have N_gt_gr := Lib.hid (show gt ≠ gr by rw [hg]; exact Nat.ne_of_lt (blk_lt K_gt.out)); replace K_ga := Lib.hid (K_ga.out.below hb); replace K_gt := Lib.hid (blk_below K_gt.out hb); have K_gr := Lib.hid (show Hb w_5 gr Ht.zero from H1); clear hg hb H1 hB_4; clear hu25 hu27))
  go_wp2_with (first | ((with_reducible refine gate_dst (N := 9) rfl ?_); (first | (refine gate_guard (by kernel_rfl) ?_) | skip); refine Kd.event_run rfl (v := .agg (h).cs) (w1 := w_5) ?hb ?_; (case hb => exact exec_load_hart rfl rfl K_ga.out)))
  refine (HM.out _).mono ?_
  rintro e_7 w_8 ⟨rfl, hb⟩
  have hB_9 := Lib.hid (below_step hB_6.out hb)
  replace K_ga := Lib.hid (K_ga.out.below hb)
  replace K_gr := Lib.hid (K_gr.out.below hb)
  clear hb hB_6
  have c_ga_46 := K_ga.out.u 46 rfl; have f_ga_46 := K_ga.out.fr 46
  go_upto_region 59 with (fail)
  refine start_ (n := 7) (S := fun w' => w'.cell? ⟨ga, 46, none⟩ = some (.int .u64 (h.x 46))) (ds := [6]) #[false, false, false, false, false, false, false] (by kernel_rfl) rfl rfl ((show World.cell? _ ⟨ga, 46, none⟩ = some (.int .u64 (h.x 46)) by first | (go_simp; done) | (go_simp; rfl))) (fun hHeld => ?_)
  have HH0 := Lib.hid hHeld
  clear hHeld
  refine world_any ga (by repeat (with_reducible first | exact K_ga.out | apply Hb.put | apply Hb.putP | apply Hb.putV | apply Hb.putW | apply Hb.putH | apply Hb.far N_ga_gr.out | apply Hb.drewN | apply Hb.drew)) (fun w' => Below w.heap.size w w' ∧ Hb w' gr Ht.zero ∧ (w'.cell? ⟨ga, 46, none⟩ = some (.int .u64 (h.x 46)))) ⟨(by repeat (first | (with_reducible first | exact hB_9.out | apply pw_below_drewN | apply below_drew1 | refine below_set ?_ G_ga.out | refine below_set ?_ G_gr.out) | exact hB_9.out)), (by repeat (with_reducible first | exact K_gr.out | apply Hb.put | apply Hb.putP | apply Hb.putV | apply Hb.putW | apply Hb.putH | apply Hb.far (Ne.symm N_ga_gr.out) | apply Hb.drewN | apply Hb.drew)), HH0.out⟩ ?_
  clear HH0
  clear c_ga_46 f_ga_46
  clear K_ga K_gr hB_9
  rintro w_10 q_ ⟨b_, q_gr, hHeld⟩
  have K_ga := Lib.hid q_; have hB_11 := Lib.hid b_; have K_gr := Lib.hid q_gr
  clear q_ b_ q_gr
  refine pure_ (i := 0) (N := some 204) (v := ?_) (a' := ?_) #[true, false, false, false, false, false, false] rfl rfl (by kernel_rfl) (fun _ _ _ h => h) (Or.inl ⟨by rfl, ?_⟩) ?_ ?_
  rotate_left
  · intro w'
    go_simp
    with_reducible rfl
  rotate_left
  · simp only [Act.put, List.setIfInBounds_toArray, List.set_cons_zero, List.set_cons_succ, i64_w, i32_w]
    rfl
  refine pure_ (i := 3) (N := some 207) (v := ?_) (a' := ?_) #[true, false, false, true, false, false, false] rfl rfl (by kernel_rfl) (fun _ _ _ h => h) (Or.inl ⟨by rfl, ?_⟩) ?_ ?_
  rotate_left
  · intro w'
    go_simp
    with_reducible rfl
  rotate_left
  · simp only [Act.put, List.setIfInBounds_toArray, List.set_cons_zero, List.set_cons_succ, i64_w, i32_w]
    rfl
  refine take_ (i := 1) (N := some 205) (v := ?_) (a' := ?_) #[true, true, false, true, false, false, false] rfl rfl (by kernel_rfl) (fun _ _ _ h => h) (Or.inl ⟨by rfl, ?_⟩) hHeld ?_ ?_
  rotate_left
  · intro w' s0
    go_simp
    with_reducible rfl
  rotate_left
  · simp only [Act.put, List.setIfInBounds_toArray, List.set_cons_zero, List.set_cons_succ, i64_w, i32_w]
    rfl
  have HH := Lib.hid hHeld
  clear hHeld
  refine one_ (i := 2) (N := some 206) #[true, true, true, true, false, false, false] rfl rfl (by kernel_rfl) (by decide) (fun K hK => ?_)
  refine goes_ Tryd.func36 (by kernel_rfl) rfl #[.int .u64 3] (by rfl) rfl rfl (by simp only [List.map_toArray, List.map_cons, List.map_nil]; rfl) ?_
  with_reducible refine (but_3 _).mono ?_
  rintro e_ w_ ⟨rfl, ⟨n_, rfl⟩⟩
  refine ⟨_, rfl, ?_⟩
  have q_ := Lib.hid (Hb.drewN n_ K_ga.out)
  have hB_13 := Lib.hid (pw_below_drewN hB_11.out n_)
  have q_gr := Lib.hid (Hb.drewN n_ K_gr.out)
  have s_0 := (cell_drewN n_ HH.out)
  clear HH K_ga K_gr hB_11
  generalize World.drewN w_10 n_ = w_12 at q_ hB_13 q_gr s_0 ⊢
  have K_ga := q_; clear q_
  have K_gr := q_gr; clear q_gr
  refine hK.out _ _ (s_0) (fun hHeld => ?_)
  have HH := Lib.hid hHeld
  clear hHeld s_0
  clear hK K
  refine norm_ (a' := ?_) ?_ ?_
  rotate_left
  · show Act.put _ (some 206) _ = _
    simp only [Act.put, List.setIfInBounds_toArray, List.set_cons_zero, List.set_cons_succ, i64_w, i32_w]
    rfl
  refine one_ (i := 4) (N := some 208) #[true, true, true, true, true, false, false] rfl rfl (by kernel_rfl) (by decide) (fun K hK => ?_)
  refine goes_ Tryd.func35 (by kernel_rfl) rfl #[.int .u64 (h.x 46), .int .u64 18446744073709551612, .int .u64 v] (by rfl) rfl rfl (by simp only [List.map_toArray, List.map_cons, List.map_nil]; rfl) ?_
  with_reducible refine (HPUT.out (h.x 46) 18446744073709551612 (HWF.out 46) ⟨by decide, by decide⟩ _).mono ?_
  rintro e_ w_ ⟨rfl, ⟨n_, rfl⟩⟩
  refine ⟨_, rfl, ?_⟩
  have q_ := Lib.hid (Hb.drewN n_ K_ga.out)
  have hB_15 := Lib.hid (pw_below_drewN hB_13.out n_)
  have q_gr := Lib.hid (Hb.drewN n_ K_gr.out)
  have s_0 := (cell_drewN n_ HH.out)
  clear HH K_ga K_gr hB_13
  generalize World.drewN w_12 n_ = w_14 at q_ hB_15 q_gr s_0 ⊢
  have K_ga := q_; clear q_
  have K_gr := q_gr; clear q_gr
  refine hK.out _ _ (s_0) (fun hHeld => ?_)
  have HH := Lib.hid hHeld
  clear hHeld s_0
  clear hK K
  refine norm_ (a' := ?_) ?_ ?_
  rotate_left
  · show Act.put _ (some 208) _ = _
    simp only [Act.put, List.setIfInBounds_toArray, List.set_cons_zero, List.set_cons_succ, i64_w, i32_w]
    rfl
  refine pure_ (i := 5) (N := some 209) (v := ?_) (a' := ?_) #[true, true, true, true, true, true, false] rfl rfl (by kernel_rfl) (fun _ _ _ h => h) (Or.inl ⟨by rfl, ?_⟩) ?_ ?_
  rotate_left
  · intro w'
    go_simp
    with_reducible rfl
  rotate_left
  · simp only [Act.put, List.setIfInBounds_toArray, List.set_cons_zero, List.set_cons_succ, i64_w, i32_w]
    rfl
  refine last_ (i := 6) (N := none) #[true, true, true, true, true, true, true] rfl rfl (by kernel_rfl) (by decide) (fun K hK => ?_)
  refine skipH (h := _) (v := .int .u64 (putV (h.x 46) 18446744073709551612 v)) (by rfl) rfl rfl rfl rfl (by kernel_rfl) rfl rfl K_ga.out (by decide) ?_
  have q_ := Lib.hid (Hb.put 46 ((putV (h.x 46) 18446744073709551612 v)) K_ga.out)
  have hB_17 := Lib.hid (below_set (j := 46) (v := (.int .u64 (putV (h.x 46) 18446744073709551612 v))) hB_15.out G_ga.out)
  have q_gr := Lib.hid (Hb.far (j := 46) (u := (.int .u64 (putV (h.x 46) 18446744073709551612 v))) (Ne.symm N_ga_gr.out) K_gr.out)
  clear HH K_ga K_gr hB_15
  generalize World.setCell w_14 ⟨ga, 46, none⟩ (.int .u64 (putV (h.x 46) 18446744073709551612 v)) = w_16 at q_ hB_17 q_gr ⊢
  have K_ga := q_; clear q_
  have K_gr := q_gr; clear q_gr
  refine hK.out _ _ ?_
  clear hK K
  refine done_ (by kernel_rfl) ?_
  try clear HH
  go_upto_region 100 with (fail)
  refine wp_region_list ?_
  refine load_hart (h := _) rfl (.tmp 4) rfl ga rfl (by repeat (with_reducible first | exact K_ga.out | apply Hb.put | apply Hb.putP | apply Hb.putV | apply Hb.putW | apply Hb.putH | apply Hb.far N_ga_gr.out | apply Hb.drewN | apply Hb.drew)) ?_
  refine store_hart rfl (.tmp 8) (.tmp 324) rfl gr _ rfl rfl Ht.zero (by repeat (with_reducible first | exact K_gr.out | apply Hb.put | apply Hb.putP | apply Hb.putV | apply Hb.putW | apply Hb.putH | apply Hb.far (Ne.symm N_ga_gr.out) | apply Hb.drewN | apply Hb.drew)) ?_
  go_wp2
  refine bodyPost_ret (results_cell_row rfl _ _ gr 25 _ (0, 0) _ rfl (Hb.putAll _ (by repeat (with_reducible first | exact K_gr.out | apply Hb.put | apply Hb.putP | apply Hb.putV | apply Hb.putW | apply Hb.putH | apply Hb.far (Ne.symm N_ga_gr.out) | apply Hb.drewN | apply Hb.drew))) Tryd.underlying25 rfl (by rw [Ht.size]; exact hartSize)) rfl ?_
  exact ⟨by first | (rw [← HZ.out]; done) | (rw [← HZ.out]; rfl), setCells_below G_gr.out _ _ _ (by repeat (first | (with_reducible first | exact hB_17.out | apply pw_below_drewN | apply below_drew1 | refine below_set ?_ G_ga.out | refine below_set ?_ G_gr.out) | exact hB_17.out))⟩
set_option maxHeartbeats 16000000 in
set_option maxRecDepth 100000 in
theorem rw_834 (h : Ht) (hw : h.wf) (la lb lc ld : Bool) (lg lt : Int) (no v : Int) (hv : 0 ≤ v ∧ v < 18446744073709551616) (w : World) (hM : meantV h.v no = 834) : Calls Tryd.prog 20 #[.agg h.cs, .agg #[.bool la, .bool lb, .bool lc, .bool ld, .int .u64 lg, .int .u64 lt], .int .i64 no, .int .u64 v] w fun e w' => e = .returned (.agg (writeV h no v).cs) ∧ Below w.heap.size w w' := by
  have HM := Lib.hid (rmeant_c h no)
  have HPUT := Lib.hid (fun (a m : Int) (ha : 0 ≤ a ∧ a < 18446744073709551616) (hm : 0 ≤ m ∧ m < 18446744073709551616) => rput_c ha hm hv)
  have HPUT2 := Lib.hid (fun (a m : Int) (ha : 0 ≤ a ∧ a < 18446744073709551616) (hm : 0 ≤ m ∧ m < 18446744073709551616) => rput_c ha hm (shl2_rng v))
  have HWF := Lib.hid hw.1; have HV := Lib.hid hv
  obtain ⟨z, hz⟩ : ∃ z, writeV h no v = z := ⟨_, rfl⟩
  rw [hz]
  unfold writeV at hz
  clear hw hv
  rw [hM] at HM hz
  clear hM
  have hz1 : h.set 47 v = z := by rw [← putV_all (h.x 47) HV.out]; exact (wm_834 h v).symm.trans hz
  have HZ := Lib.hid hz1
  clear hz hz1
  have hu25 := Tryd.underlying25; have hu27 := Tryd.underlying27
  go_enter Tryd.func20, Tryd.ntmps20
  go_upto_region 1 with (first | ((with_reducible refine gate_dst (N := 4) rfl ?_); refine box_event ?hg (N := 4) ?hd (cs := h.cs) (t := 25) ?hr ?_; (case hd => rfl); (case hg => rfl); (case hr => first | (go_simp; done) | (go_simp; rfl)); intro ga hg w_1 H1 hb; have hB_2 := Lib.hid (below_step (Below.refl w.heap.size w) hb); have G_ga := Lib.hid (show w.heap.size ≤ ga by rw [hg]; exact ((Below.refl w.heap.size w)).size); have K_ga := Lib.hid (show Hb w_1 ga h from H1); clear hg hb H1) | ((with_reducible refine gate_dst (N := 5) rfl ?_); refine box_event ?hg (N := 5) ?hd (cs := #[.bool la, .bool lb, .bool lc, .bool ld, .int .u64 lg, .int .u64 lt]) (t := 27) ?hr ?_; (case hd => rfl); (case hg => rfl); (case hr => first | (go_simp; done) | (go_simp; rfl)); intro gt hg w_3 H1 hb; have hB_4 := Lib.hid (below_step hB_2.out hb); have G_gt := Lib.hid (show w.heap.size ≤ gt by rw [hg]; exact (hB_2.out).size); have N_ga_gt := Lib.hid (show ga ≠ gt by rw [hg]; exact Nat.ne_of_lt (K_ga.out.lt)); replace K_ga := Lib.hid (K_ga.out.below hb); have K_gt := Lib.hid (show w_3.heap[gt]? = some (.cells #[.bool la, .bool lb, .bool lc, .bool ld, .int .u64 lg, .int .u64 lt] 27 (0, 0)) from H1); clear hg hb H1 hB_2) | ((with_reducible refine gate_dst (N := 8) rfl ?_); refine box_event ?hg (N := 8) ?hd (cs := Ht.zero.cs) (t := 25) ?hr ?_; (case hd => rfl); (case hg => rfl); (case hr => first | (go_simp; done) | (go_simp; rfl)); intro gr hg w_5 H1 hb; have hB_6 := Lib.hid (below_step hB_4.out hb); have G_gr := Lib.hid (show w.heap.size ≤ gr by rw [hg]; exact (hB_4.out).size); have N_ga_gr := Lib.hid (show ga ≠ gr by rw [hg]; exact Nat.ne_of_lt (K_ga.out.lt)); have N_gt_gr := Lib.hid (show gt ≠ gr by rw [hg]; exact Nat.ne_of_lt (blk_lt K_gt.out)); replace K_ga := Lib.hid (K_ga.out.below hb); replace K_gt := Lib.hid (blk_below K_gt.out hb); have K_gr := Lib.hid (show Hb w_5 gr Ht.zero from H1); clear hg hb H1 hB_4; clear hu25 hu27))
  go_wp2_with (first | ((with_reducible refine gate_dst (N := 9) rfl ?_); (first | (refine gate_guard (by kernel_rfl) ?_) | skip); refine Kd.event_run rfl (v := .agg (h).cs) (w1 := w_5) ?hb ?_; (case hb => exact exec_load_hart rfl rfl K_ga.out)))
  refine (HM.out _).mono ?_
  rintro e_7 w_8 ⟨rfl, hb⟩
  have hB_9 := Lib.hid (below_step hB_6.out hb)
  replace K_ga := Lib.hid (K_ga.out.below hb)
  replace K_gr := Lib.hid (K_gr.out.below hb)
  clear hb hB_6
  have c_ga_47 := K_ga.out.u 47 rfl; have f_ga_47 := K_ga.out.fr 47
  go_upto_region 100 with (fail)
  refine wp_region_list ?_
  refine load_hart (h := _) rfl (.tmp 4) rfl ga rfl (by repeat (with_reducible first | exact K_ga.out | apply Hb.put | apply Hb.putP | apply Hb.putV | apply Hb.putW | apply Hb.putH | apply Hb.far N_ga_gr.out | apply Hb.drewN | apply Hb.drew)) ?_
  refine store_hart rfl (.tmp 8) (.tmp 324) rfl gr _ rfl rfl Ht.zero (by repeat (with_reducible first | exact K_gr.out | apply Hb.put | apply Hb.putP | apply Hb.putV | apply Hb.putW | apply Hb.putH | apply Hb.far (Ne.symm N_ga_gr.out) | apply Hb.drewN | apply Hb.drew)) ?_
  go_wp2
  refine bodyPost_ret (results_cell_row rfl _ _ gr 25 _ (0, 0) _ rfl (Hb.putAll _ (by repeat (with_reducible first | exact K_gr.out | apply Hb.put | apply Hb.putP | apply Hb.putV | apply Hb.putW | apply Hb.putH | apply Hb.far (Ne.symm N_ga_gr.out) | apply Hb.drewN | apply Hb.drew))) Tryd.underlying25 rfl (by rw [Ht.size]; exact hartSize)) rfl ?_
  exact ⟨by first | (rw [← HZ.out]; done) | (rw [← HZ.out]; rfl), setCells_below G_gr.out _ _ _ (by repeat (first | (with_reducible first | exact hB_9.out | apply pw_below_drewN | apply below_drew1 | refine below_set ?_ G_ga.out | refine below_set ?_ G_gr.out) | exact hB_9.out))⟩
set_option maxHeartbeats 16000000 in
set_option maxRecDepth 100000 in
theorem rw_835 (h : Ht) (hw : h.wf) (la lb lc ld : Bool) (lg lt : Int) (no v : Int) (hv : 0 ≤ v ∧ v < 18446744073709551616) (w : World) (hM : meantV h.v no = 835) : Calls Tryd.prog 20 #[.agg h.cs, .agg #[.bool la, .bool lb, .bool lc, .bool ld, .int .u64 lg, .int .u64 lt], .int .i64 no, .int .u64 v] w fun e w' => e = .returned (.agg (writeV h no v).cs) ∧ Below w.heap.size w w' := by
  have HM := Lib.hid (rmeant_c h no)
  have HPUT := Lib.hid (fun (a m : Int) (ha : 0 ≤ a ∧ a < 18446744073709551616) (hm : 0 ≤ m ∧ m < 18446744073709551616) => rput_c ha hm hv)
  have HPUT2 := Lib.hid (fun (a m : Int) (ha : 0 ≤ a ∧ a < 18446744073709551616) (hm : 0 ≤ m ∧ m < 18446744073709551616) => rput_c ha hm (shl2_rng v))
  have HWF := Lib.hid hw.1; have HV := Lib.hid hv
  obtain ⟨z, hz⟩ : ∃ z, writeV h no v = z := ⟨_, rfl⟩
  rw [hz]
  unfold writeV at hz
  clear hw hv
  rw [hM] at HM hz
  clear hM
  have hz1 : h.set 48 v = z := by rw [← putV_all (h.x 48) HV.out]; exact (wm_835 h v).symm.trans hz
  have HZ := Lib.hid hz1
  clear hz hz1
  have hu25 := Tryd.underlying25; have hu27 := Tryd.underlying27
  go_enter Tryd.func20, Tryd.ntmps20
  go_upto_region 1 with (first | ((with_reducible refine gate_dst (N := 4) rfl ?_); refine box_event ?hg (N := 4) ?hd (cs := h.cs) (t := 25) ?hr ?_; (case hd => rfl); (case hg => rfl); (case hr => first | (go_simp; done) | (go_simp; rfl)); intro ga hg w_1 H1 hb; have hB_2 := Lib.hid (below_step (Below.refl w.heap.size w) hb); have G_ga := Lib.hid (show w.heap.size ≤ ga by rw [hg]; exact ((Below.refl w.heap.size w)).size); have K_ga := Lib.hid (show Hb w_1 ga h from H1); clear hg hb H1) | ((with_reducible refine gate_dst (N := 5) rfl ?_); refine box_event ?hg (N := 5) ?hd (cs := #[.bool la, .bool lb, .bool lc, .bool ld, .int .u64 lg, .int .u64 lt]) (t := 27) ?hr ?_; (case hd => rfl); (case hg => rfl); (case hr => first | (go_simp; done) | (go_simp; rfl)); intro gt hg w_3 H1 hb; have hB_4 := Lib.hid (below_step hB_2.out hb); have G_gt := Lib.hid (show w.heap.size ≤ gt by rw [hg]; exact (hB_2.out).size); have N_ga_gt := Lib.hid (show ga ≠ gt by rw [hg]; exact Nat.ne_of_lt (K_ga.out.lt)); replace K_ga := Lib.hid (K_ga.out.below hb); have K_gt := Lib.hid (show w_3.heap[gt]? = some (.cells #[.bool la, .bool lb, .bool lc, .bool ld, .int .u64 lg, .int .u64 lt] 27 (0, 0)) from H1); clear hg hb H1 hB_2) | ((with_reducible refine gate_dst (N := 8) rfl ?_); refine box_event ?hg (N := 8) ?hd (cs := Ht.zero.cs) (t := 25) ?hr ?_; (case hd => rfl); (case hg => rfl); (case hr => first | (go_simp; done) | (go_simp; rfl)); intro gr hg w_5 H1 hb; have hB_6 := Lib.hid (below_step hB_4.out hb); have G_gr := Lib.hid (show w.heap.size ≤ gr by rw [hg]; exact (hB_4.out).size); have N_ga_gr := Lib.hid (show ga ≠ gr by rw [hg]; exact Nat.ne_of_lt (K_ga.out.lt)); have N_gt_gr := Lib.hid (show gt ≠ gr by rw [hg]; exact Nat.ne_of_lt (blk_lt K_gt.out)); replace K_ga := Lib.hid (K_ga.out.below hb); replace K_gt := Lib.hid (blk_below K_gt.out hb); have K_gr := Lib.hid (show Hb w_5 gr Ht.zero from H1); clear hg hb H1 hB_4; clear hu25 hu27))
  go_wp2_with (first | ((with_reducible refine gate_dst (N := 9) rfl ?_); (first | (refine gate_guard (by kernel_rfl) ?_) | skip); refine Kd.event_run rfl (v := .agg (h).cs) (w1 := w_5) ?hb ?_; (case hb => exact exec_load_hart rfl rfl K_ga.out)))
  refine (HM.out _).mono ?_
  rintro e_7 w_8 ⟨rfl, hb⟩
  have hB_9 := Lib.hid (below_step hB_6.out hb)
  replace K_ga := Lib.hid (K_ga.out.below hb)
  replace K_gr := Lib.hid (K_gr.out.below hb)
  clear hb hB_6
  have c_ga_48 := K_ga.out.u 48 rfl; have f_ga_48 := K_ga.out.fr 48
  go_upto_region 100 with (fail)
  refine wp_region_list ?_
  refine load_hart (h := _) rfl (.tmp 4) rfl ga rfl (by repeat (with_reducible first | exact K_ga.out | apply Hb.put | apply Hb.putP | apply Hb.putV | apply Hb.putW | apply Hb.putH | apply Hb.far N_ga_gr.out | apply Hb.drewN | apply Hb.drew)) ?_
  refine store_hart rfl (.tmp 8) (.tmp 324) rfl gr _ rfl rfl Ht.zero (by repeat (with_reducible first | exact K_gr.out | apply Hb.put | apply Hb.putP | apply Hb.putV | apply Hb.putW | apply Hb.putH | apply Hb.far (Ne.symm N_ga_gr.out) | apply Hb.drewN | apply Hb.drew)) ?_
  go_wp2
  refine bodyPost_ret (results_cell_row rfl _ _ gr 25 _ (0, 0) _ rfl (Hb.putAll _ (by repeat (with_reducible first | exact K_gr.out | apply Hb.put | apply Hb.putP | apply Hb.putV | apply Hb.putW | apply Hb.putH | apply Hb.far (Ne.symm N_ga_gr.out) | apply Hb.drewN | apply Hb.drew))) Tryd.underlying25 rfl (by rw [Ht.size]; exact hartSize)) rfl ?_
  exact ⟨by first | (rw [← HZ.out]; done) | (rw [← HZ.out]; rfl), setCells_below G_gr.out _ _ _ (by repeat (first | (with_reducible first | exact hB_9.out | apply pw_below_drewN | apply below_drew1 | refine below_set ?_ G_ga.out | refine below_set ?_ G_gr.out) | exact hB_9.out))⟩
set_option maxHeartbeats 16000000 in
set_option maxRecDepth 100000 in
theorem rw_836 (h : Ht) (hw : h.wf) (la lb lc ld : Bool) (lg lt : Int) (no v : Int) (hv : 0 ≤ v ∧ v < 18446744073709551616) (w : World) (hM : meantV h.v no = 836) : Calls Tryd.prog 20 #[.agg h.cs, .agg #[.bool la, .bool lb, .bool lc, .bool ld, .int .u64 lg, .int .u64 lt], .int .i64 no, .int .u64 v] w fun e w' => e = .returned (.agg (writeV h no v).cs) ∧ Below w.heap.size w w' := by
  have HM := Lib.hid (rmeant_c h no)
  have HPUT := Lib.hid (fun (a m : Int) (ha : 0 ≤ a ∧ a < 18446744073709551616) (hm : 0 ≤ m ∧ m < 18446744073709551616) => rput_c ha hm hv)
  have HPUT2 := Lib.hid (fun (a m : Int) (ha : 0 ≤ a ∧ a < 18446744073709551616) (hm : 0 ≤ m ∧ m < 18446744073709551616) => rput_c ha hm (shl2_rng v))
  have HWF := Lib.hid hw.1; have HV := Lib.hid hv
  obtain ⟨z, hz⟩ : ∃ z, writeV h no v = z := ⟨_, rfl⟩
  rw [hz]
  unfold writeV at hz
  clear hw hv
  rw [hM] at HM hz
  clear hM
  have hz1 : (h.set 42 (putV (h.x 42) 546 v)).set 61 (putV (h.x 61) 4 v) = z := (wm_836 h v).symm.trans hz
  have HZ := Lib.hid hz1
  clear hz hz1
  have hu25 := Tryd.underlying25; have hu27 := Tryd.underlying27
  go_enter Tryd.func20, Tryd.ntmps20
  go_upto_region 1 with (first | ((with_reducible refine gate_dst (N := 4) rfl ?_); refine box_event ?hg (N := 4) ?hd (cs := h.cs) (t := 25) ?hr ?_; (case hd => rfl); (case hg => rfl); (case hr => first | (go_simp; done) | (go_simp; rfl)); intro ga hg w_1 H1 hb; have hB_2 := Lib.hid (below_step (Below.refl w.heap.size w) hb); have G_ga := Lib.hid (show w.heap.size ≤ ga by rw [hg]; exact ((Below.refl w.heap.size w)).size); have K_ga := Lib.hid (show Hb w_1 ga h from H1); clear hg hb H1) | ((with_reducible refine gate_dst (N := 5) rfl ?_); refine box_event ?hg (N := 5) ?hd (cs := #[.bool la, .bool lb, .bool lc, .bool ld, .int .u64 lg, .int .u64 lt]) (t := 27) ?hr ?_; (case hd => rfl); (case hg => rfl); (case hr => first | (go_simp; done) | (go_simp; rfl)); intro gt hg w_3 H1 hb; have hB_4 := Lib.hid (below_step hB_2.out hb); have G_gt := Lib.hid (show w.heap.size ≤ gt by rw [hg]; exact (hB_2.out).size); have N_ga_gt := Lib.hid (show ga ≠ gt by rw [hg]; exact Nat.ne_of_lt (K_ga.out.lt)); replace K_ga := Lib.hid (K_ga.out.below hb); have K_gt := Lib.hid (show w_3.heap[gt]? = some (.cells #[.bool la, .bool lb, .bool lc, .bool ld, .int .u64 lg, .int .u64 lt] 27 (0, 0)) from H1); clear hg hb H1 hB_2) | ((with_reducible refine gate_dst (N := 8) rfl ?_); refine box_event ?hg (N := 8) ?hd (cs := Ht.zero.cs) (t := 25) ?hr ?_; (case hd => rfl); (case hg => rfl); (case hr => first | (go_simp; done) | (go_simp; rfl)); intro gr hg w_5 H1 hb; have hB_6 := Lib.hid (below_step hB_4.out hb); have G_gr := Lib.hid (show w.heap.size ≤ gr by rw [hg]; exact (hB_4.out).size); have N_ga_gr := Lib.hid (show ga ≠ gr by rw [hg]; exact Nat.ne_of_lt (K_ga.out.lt)); have N_gt_gr := Lib.hid (show gt ≠ gr by rw [hg]; exact Nat.ne_of_lt (blk_lt K_gt.out)); replace K_ga := Lib.hid (K_ga.out.below hb); replace K_gt := Lib.hid (blk_below K_gt.out hb); have K_gr := Lib.hid (show Hb w_5 gr Ht.zero from H1); clear hg hb H1 hB_4; clear hu25 hu27))
  go_wp2_with (first | ((with_reducible refine gate_dst (N := 9) rfl ?_); (first | (refine gate_guard (by kernel_rfl) ?_) | skip); refine Kd.event_run rfl (v := .agg (h).cs) (w1 := w_5) ?hb ?_; (case hb => exact exec_load_hart rfl rfl K_ga.out)))
  refine (HM.out _).mono ?_
  rintro e_7 w_8 ⟨rfl, hb⟩
  have hB_9 := Lib.hid (below_step hB_6.out hb)
  replace K_ga := Lib.hid (K_ga.out.below hb)
  replace K_gr := Lib.hid (K_gr.out.below hb)
  clear hb hB_6
  have c_ga_42 := K_ga.out.u 42 rfl; have f_ga_42 := K_ga.out.fr 42
  have c_ga_61 := K_ga.out.u 61 rfl; have f_ga_61 := K_ga.out.fr 61
  go_wp2_with fail
  refine (HPUT.out (h.x 42) 546 (HWF.out 42) ⟨by decide, by decide⟩ _).mono ?_
  rintro e3 w3 ⟨rfl, n_, e3⟩
  clear c_ga_42 f_ga_42 c_ga_61 f_ga_61
  replace K_ga := Lib.hid (Hb.of e3.symm (K_ga.out.drewN n_))
  replace K_gr := Lib.hid (Hb.of e3.symm (K_gr.out.drewN n_))
  have hB_10 := Lib.hid (Below_of e3.symm (pw_below_drewN hB_9.out n_))
  clear e3 hB_9
  have c_ga_42 := K_ga.out.u 42 rfl; have f_ga_42 := K_ga.out.fr 42
  have c_ga_61 := K_ga.out.u 61 rfl; have f_ga_61 := K_ga.out.fr 61
  go_upto_region 66 with (fail)
  refine world_code ga (by repeat (with_reducible first | exact K_ga.out | apply Hb.put | apply Hb.putP | apply Hb.putV | apply Hb.putW | apply Hb.putH | apply Hb.far N_ga_gr.out | apply Hb.drewN | apply Hb.drew)) (fun w' => Below w.heap.size w w' ∧ Hb w' gr Ht.zero) ⟨(by repeat (first | (with_reducible first | exact hB_10.out | apply pw_below_drewN | apply below_drew1 | refine below_set ?_ G_ga.out | refine below_set ?_ G_gr.out) | exact hB_10.out)), (by repeat (with_reducible first | exact K_gr.out | apply Hb.put | apply Hb.putP | apply Hb.putV | apply Hb.putW | apply Hb.putH | apply Hb.far (Ne.symm N_ga_gr.out) | apply Hb.drewN | apply Hb.drew))⟩ ?_
  clear c_ga_42 f_ga_42 c_ga_61 f_ga_61
  clear K_ga K_gr hB_10
  rintro w_11 q_ ⟨b_, q_gr⟩
  have K_ga := Lib.hid q_; have hB_12 := Lib.hid b_; have K_gr := Lib.hid q_gr
  clear q_ b_ q_gr
  have c_ga_61 := (show World.cell? _ ⟨ga, 61, none⟩ = some (.int .u64 (h.x 61)) from (K_ga.out.u 61 rfl).trans rfl); have f_ga_61 := K_ga.out.fr 61
  go_wp2_with fail
  refine (HPUT.out (h.x 61) 4 (HWF.out 61) ⟨by decide, by decide⟩ _).mono ?_
  rintro e4 w4 ⟨rfl, n_, e4⟩
  clear c_ga_61 f_ga_61
  replace K_ga := Lib.hid (Hb.of e4.symm (K_ga.out.drewN n_))
  replace K_gr := Lib.hid (Hb.of e4.symm (K_gr.out.drewN n_))
  have hB_13 := Lib.hid (Below_of e4.symm (pw_below_drewN hB_12.out n_))
  clear e4 hB_12
  have c_ga_61 := (show World.cell? _ ⟨ga, 61, none⟩ = some (.int .u64 (h.x 61)) from (K_ga.out.u 61 rfl).trans rfl); have f_ga_61 := K_ga.out.fr 61
  go_upto_region 100 with (fail)
  refine wp_region_list ?_
  refine load_hart (h := _) rfl (.tmp 4) rfl ga rfl (by repeat (with_reducible first | exact K_ga.out | apply Hb.put | apply Hb.putP | apply Hb.putV | apply Hb.putW | apply Hb.putH | apply Hb.far N_ga_gr.out | apply Hb.drewN | apply Hb.drew)) ?_
  refine store_hart rfl (.tmp 8) (.tmp 324) rfl gr _ rfl rfl Ht.zero (by repeat (with_reducible first | exact K_gr.out | apply Hb.put | apply Hb.putP | apply Hb.putV | apply Hb.putW | apply Hb.putH | apply Hb.far (Ne.symm N_ga_gr.out) | apply Hb.drewN | apply Hb.drew)) ?_
  go_wp2
  refine bodyPost_ret (results_cell_row rfl _ _ gr 25 _ (0, 0) _ rfl (Hb.putAll _ (by repeat (with_reducible first | exact K_gr.out | apply Hb.put | apply Hb.putP | apply Hb.putV | apply Hb.putW | apply Hb.putH | apply Hb.far (Ne.symm N_ga_gr.out) | apply Hb.drewN | apply Hb.drew))) Tryd.underlying25 rfl (by rw [Ht.size]; exact hartSize)) rfl ?_
  exact ⟨by first | (rw [← HZ.out]; done) | (rw [← HZ.out]; rfl), setCells_below G_gr.out _ _ _ (by repeat (first | (with_reducible first | exact hB_13.out | apply pw_below_drewN | apply below_drew1 | refine below_set ?_ G_ga.out | refine below_set ?_ G_gr.out) | exact hB_13.out))⟩
set_option maxHeartbeats 16000000 in
set_option maxRecDepth 100000 in
theorem rw_842 (h : Ht) (hw : h.wf) (la lb lc ld : Bool) (lg lt : Int) (no v : Int) (hv : 0 ≤ v ∧ v < 18446744073709551616) (w : World) (hM : meantV h.v no = 842) : Calls Tryd.prog 20 #[.agg h.cs, .agg #[.bool la, .bool lb, .bool lc, .bool ld, .int .u64 lg, .int .u64 lt], .int .i64 no, .int .u64 v] w fun e w' => e = .returned (.agg (writeV h no v).cs) ∧ Below w.heap.size w w' := by
  have HM := Lib.hid (rmeant_c h no)
  have HPUT := Lib.hid (fun (a m : Int) (ha : 0 ≤ a ∧ a < 18446744073709551616) (hm : 0 ≤ m ∧ m < 18446744073709551616) => rput_c ha hm hv)
  have HPUT2 := Lib.hid (fun (a m : Int) (ha : 0 ≤ a ∧ a < 18446744073709551616) (hm : 0 ≤ m ∧ m < 18446744073709551616) => rput_c ha hm (shl2_rng v))
  have HWF := Lib.hid hw.1; have HV := Lib.hid hv
  obtain ⟨z, hz⟩ : ∃ z, writeV h no v = z := ⟨_, rfl⟩
  rw [hz]
  unfold writeV at hz
  clear hw hv
  rw [hM] at HM hz
  clear hM
  have hz1 : h.set 50 v = z := by rw [← putV_all (h.x 50) HV.out]; exact (wm_842 h v).symm.trans hz
  have HZ := Lib.hid hz1
  clear hz hz1
  have hu25 := Tryd.underlying25; have hu27 := Tryd.underlying27
  go_enter Tryd.func20, Tryd.ntmps20
  go_upto_region 1 with (first | ((with_reducible refine gate_dst (N := 4) rfl ?_); refine box_event ?hg (N := 4) ?hd (cs := h.cs) (t := 25) ?hr ?_; (case hd => rfl); (case hg => rfl); (case hr => first | (go_simp; done) | (go_simp; rfl)); intro ga hg w_1 H1 hb; have hB_2 := Lib.hid (below_step (Below.refl w.heap.size w) hb); have G_ga := Lib.hid (show w.heap.size ≤ ga by rw [hg]; exact ((Below.refl w.heap.size w)).size); have K_ga := Lib.hid (show Hb w_1 ga h from H1); clear hg hb H1) | ((with_reducible refine gate_dst (N := 5) rfl ?_); refine box_event ?hg (N := 5) ?hd (cs := #[.bool la, .bool lb, .bool lc, .bool ld, .int .u64 lg, .int .u64 lt]) (t := 27) ?hr ?_; (case hd => rfl); (case hg => rfl); (case hr => first | (go_simp; done) | (go_simp; rfl)); intro gt hg w_3 H1 hb; have hB_4 := Lib.hid (below_step hB_2.out hb); have G_gt := Lib.hid (show w.heap.size ≤ gt by rw [hg]; exact (hB_2.out).size); have N_ga_gt := Lib.hid (show ga ≠ gt by rw [hg]; exact Nat.ne_of_lt (K_ga.out.lt)); replace K_ga := Lib.hid (K_ga.out.below hb); have K_gt := Lib.hid (show w_3.heap[gt]? = some (.cells #[.bool la, .bool lb, .bool lc, .bool ld, .int .u64 lg, .int .u64 lt] 27 (0, 0)) from H1); clear hg hb H1 hB_2) | ((with_reducible refine gate_dst (N := 8) rfl ?_); refine box_event ?hg (N := 8) ?hd (cs := Ht.zero.cs) (t := 25) ?hr ?_; (case hd => rfl); (case hg => rfl); (case hr => first | (go_simp; done) | (go_simp; rfl)); intro gr hg w_5 H1 hb; have hB_6 := Lib.hid (below_step hB_4.out hb); have G_gr := Lib.hid (show w.heap.size ≤ gr by rw [hg]; exact (hB_4.out).size); have N_ga_gr := Lib.hid (show ga ≠ gr by rw [hg]; exact Nat.ne_of_lt (K_ga.out.lt)); have N_gt_gr := Lib.hid (show gt ≠ gr by rw [hg]; exact Nat.ne_of_lt (blk_lt K_gt.out)); replace K_ga := Lib.hid (K_ga.out.below hb); replace K_gt := Lib.hid (blk_below K_gt.out hb); have K_gr := Lib.hid (show Hb w_5 gr Ht.zero from H1); clear hg hb H1 hB_4; clear hu25 hu27))
  go_wp2_with (first | ((with_reducible refine gate_dst (N := 9) rfl ?_); (first | (refine gate_guard (by kernel_rfl) ?_) | skip); refine Kd.event_run rfl (v := .agg (h).cs) (w1 := w_5) ?hb ?_; (case hb => exact exec_load_hart rfl rfl K_ga.out)))
  refine (HM.out _).mono ?_
  rintro e_7 w_8 ⟨rfl, hb⟩
  have hB_9 := Lib.hid (below_step hB_6.out hb)
  replace K_ga := Lib.hid (K_ga.out.below hb)
  replace K_gr := Lib.hid (K_gr.out.below hb)
  clear hb hB_6
  have c_ga_50 := K_ga.out.u 50 rfl; have f_ga_50 := K_ga.out.fr 50
  go_upto_region 100 with (fail)
  refine wp_region_list ?_
  refine load_hart (h := _) rfl (.tmp 4) rfl ga rfl (by repeat (with_reducible first | exact K_ga.out | apply Hb.put | apply Hb.putP | apply Hb.putV | apply Hb.putW | apply Hb.putH | apply Hb.far N_ga_gr.out | apply Hb.drewN | apply Hb.drew)) ?_
  refine store_hart rfl (.tmp 8) (.tmp 324) rfl gr _ rfl rfl Ht.zero (by repeat (with_reducible first | exact K_gr.out | apply Hb.put | apply Hb.putP | apply Hb.putV | apply Hb.putW | apply Hb.putH | apply Hb.far (Ne.symm N_ga_gr.out) | apply Hb.drewN | apply Hb.drew)) ?_
  go_wp2
  refine bodyPost_ret (results_cell_row rfl _ _ gr 25 _ (0, 0) _ rfl (Hb.putAll _ (by repeat (with_reducible first | exact K_gr.out | apply Hb.put | apply Hb.putP | apply Hb.putV | apply Hb.putW | apply Hb.putH | apply Hb.far (Ne.symm N_ga_gr.out) | apply Hb.drewN | apply Hb.drew))) Tryd.underlying25 rfl (by rw [Ht.size]; exact hartSize)) rfl ?_
  exact ⟨by first | (rw [← HZ.out]; done) | (rw [← HZ.out]; rfl), setCells_below G_gr.out _ _ _ (by repeat (first | (with_reducible first | exact hB_9.out | apply pw_below_drewN | apply below_drew1 | refine below_set ?_ G_ga.out | refine below_set ?_ G_gr.out) | exact hB_9.out))⟩
set_option maxHeartbeats 16000000 in
set_option maxRecDepth 100000 in
theorem rw_843 (h : Ht) (hw : h.wf) (la lb lc ld : Bool) (lg lt : Int) (no v : Int) (hv : 0 ≤ v ∧ v < 18446744073709551616) (w : World) (hM : meantV h.v no = 843) : Calls Tryd.prog 20 #[.agg h.cs, .agg #[.bool la, .bool lb, .bool lc, .bool ld, .int .u64 lg, .int .u64 lt], .int .i64 no, .int .u64 v] w fun e w' => e = .returned (.agg (writeV h no v).cs) ∧ Below w.heap.size w w' := by
  have HM := Lib.hid (rmeant_c h no)
  have HPUT := Lib.hid (fun (a m : Int) (ha : 0 ≤ a ∧ a < 18446744073709551616) (hm : 0 ≤ m ∧ m < 18446744073709551616) => rput_c ha hm hv)
  have HPUT2 := Lib.hid (fun (a m : Int) (ha : 0 ≤ a ∧ a < 18446744073709551616) (hm : 0 ≤ m ∧ m < 18446744073709551616) => rput_c ha hm (shl2_rng v))
  have HWF := Lib.hid hw.1; have HV := Lib.hid hv
  obtain ⟨z, hz⟩ : ∃ z, writeV h no v = z := ⟨_, rfl⟩
  rw [hz]
  unfold writeV at hz
  clear hw hv
  rw [hM] at HM hz
  clear hM
  have hz1 : h.set 49 v = z := by rw [← putV_all (h.x 49) HV.out]; exact (wm_843 h v).symm.trans hz
  have HZ := Lib.hid hz1
  clear hz hz1
  have hu25 := Tryd.underlying25; have hu27 := Tryd.underlying27
  go_enter Tryd.func20, Tryd.ntmps20
  go_upto_region 1 with (first | ((with_reducible refine gate_dst (N := 4) rfl ?_); refine box_event ?hg (N := 4) ?hd (cs := h.cs) (t := 25) ?hr ?_; (case hd => rfl); (case hg => rfl); (case hr => first | (go_simp; done) | (go_simp; rfl)); intro ga hg w_1 H1 hb; have hB_2 := Lib.hid (below_step (Below.refl w.heap.size w) hb); have G_ga := Lib.hid (show w.heap.size ≤ ga by rw [hg]; exact ((Below.refl w.heap.size w)).size); have K_ga := Lib.hid (show Hb w_1 ga h from H1); clear hg hb H1) | ((with_reducible refine gate_dst (N := 5) rfl ?_); refine box_event ?hg (N := 5) ?hd (cs := #[.bool la, .bool lb, .bool lc, .bool ld, .int .u64 lg, .int .u64 lt]) (t := 27) ?hr ?_; (case hd => rfl); (case hg => rfl); (case hr => first | (go_simp; done) | (go_simp; rfl)); intro gt hg w_3 H1 hb; have hB_4 := Lib.hid (below_step hB_2.out hb); have G_gt := Lib.hid (show w.heap.size ≤ gt by rw [hg]; exact (hB_2.out).size); have N_ga_gt := Lib.hid (show ga ≠ gt by rw [hg]; exact Nat.ne_of_lt (K_ga.out.lt)); replace K_ga := Lib.hid (K_ga.out.below hb); have K_gt := Lib.hid (show w_3.heap[gt]? = some (.cells #[.bool la, .bool lb, .bool lc, .bool ld, .int .u64 lg, .int .u64 lt] 27 (0, 0)) from H1); clear hg hb H1 hB_2) | ((with_reducible refine gate_dst (N := 8) rfl ?_); refine box_event ?hg (N := 8) ?hd (cs := Ht.zero.cs) (t := 25) ?hr ?_; (case hd => rfl); (case hg => rfl); (case hr => first | (go_simp; done) | (go_simp; rfl)); intro gr hg w_5 H1 hb; have hB_6 := Lib.hid (below_step hB_4.out hb); have G_gr := Lib.hid (show w.heap.size ≤ gr by rw [hg]; exact (hB_4.out).size); have N_ga_gr := Lib.hid (show ga ≠ gr by rw [hg]; exact Nat.ne_of_lt (K_ga.out.lt)); have N_gt_gr := Lib.hid (show gt ≠ gr by rw [hg]; exact Nat.ne_of_lt (blk_lt K_gt.out)); replace K_ga := Lib.hid (K_ga.out.below hb); replace K_gt := Lib.hid (blk_below K_gt.out hb); have K_gr := Lib.hid (show Hb w_5 gr Ht.zero from H1); clear hg hb H1 hB_4; clear hu25 hu27))
  go_wp2_with (first | ((with_reducible refine gate_dst (N := 9) rfl ?_); (first | (refine gate_guard (by kernel_rfl) ?_) | skip); refine Kd.event_run rfl (v := .agg (h).cs) (w1 := w_5) ?hb ?_; (case hb => exact exec_load_hart rfl rfl K_ga.out)))
  refine (HM.out _).mono ?_
  rintro e_7 w_8 ⟨rfl, hb⟩
  have hB_9 := Lib.hid (below_step hB_6.out hb)
  replace K_ga := Lib.hid (K_ga.out.below hb)
  replace K_gr := Lib.hid (K_gr.out.below hb)
  clear hb hB_6
  have c_ga_49 := K_ga.out.u 49 rfl; have f_ga_49 := K_ga.out.fr 49
  go_upto_region 100 with (fail)
  refine wp_region_list ?_
  refine load_hart (h := _) rfl (.tmp 4) rfl ga rfl (by repeat (with_reducible first | exact K_ga.out | apply Hb.put | apply Hb.putP | apply Hb.putV | apply Hb.putW | apply Hb.putH | apply Hb.far N_ga_gr.out | apply Hb.drewN | apply Hb.drew)) ?_
  refine store_hart rfl (.tmp 8) (.tmp 324) rfl gr _ rfl rfl Ht.zero (by repeat (with_reducible first | exact K_gr.out | apply Hb.put | apply Hb.putP | apply Hb.putV | apply Hb.putW | apply Hb.putH | apply Hb.far (Ne.symm N_ga_gr.out) | apply Hb.drewN | apply Hb.drew)) ?_
  go_wp2
  refine bodyPost_ret (results_cell_row rfl _ _ gr 25 _ (0, 0) _ rfl (Hb.putAll _ (by repeat (with_reducible first | exact K_gr.out | apply Hb.put | apply Hb.putP | apply Hb.putV | apply Hb.putW | apply Hb.putH | apply Hb.far (Ne.symm N_ga_gr.out) | apply Hb.drewN | apply Hb.drew))) Tryd.underlying25 rfl (by rw [Ht.size]; exact hartSize)) rfl ?_
  exact ⟨by first | (rw [← HZ.out]; done) | (rw [← HZ.out]; rfl), setCells_below G_gr.out _ _ _ (by repeat (first | (with_reducible first | exact hB_9.out | apply pw_below_drewN | apply below_drew1 | refine below_set ?_ G_ga.out | refine below_set ?_ G_gr.out) | exact hB_9.out))⟩
set_option maxHeartbeats 16000000 in
set_option maxRecDepth 100000 in
theorem rw_1536 (h : Ht) (hw : h.wf) (la lb lc ld : Bool) (lg lt : Int) (no v : Int) (hv : 0 ≤ v ∧ v < 18446744073709551616) (w : World) (hM : meantV h.v no = 1536) : Calls Tryd.prog 20 #[.agg h.cs, .agg #[.bool la, .bool lb, .bool lc, .bool ld, .int .u64 lg, .int .u64 lt], .int .i64 no, .int .u64 v] w fun e w' => e = .returned (.agg (writeV h no v).cs) ∧ Below w.heap.size w w' := by
  have HM := Lib.hid (rmeant_c h no)
  have HPUT := Lib.hid (fun (a m : Int) (ha : 0 ≤ a ∧ a < 18446744073709551616) (hm : 0 ≤ m ∧ m < 18446744073709551616) => rput_c ha hm hv)
  have HPUT2 := Lib.hid (fun (a m : Int) (ha : 0 ≤ a ∧ a < 18446744073709551616) (hm : 0 ≤ m ∧ m < 18446744073709551616) => rput_c ha hm (shl2_rng v))
  have HWF := Lib.hid hw.1; have HV := Lib.hid hv
  obtain ⟨z, hz⟩ : ∃ z, writeV h no v = z := ⟨_, rfl⟩
  rw [hz]
  unfold writeV at hz
  clear hw hv
  rw [hM] at HM hz
  clear hM
  have hz1 : h.set 58 (putV (h.x 58) 7345088 v) = z := (wm_1536 h v).symm.trans hz
  have HZ := Lib.hid hz1
  clear hz hz1
  have hu25 := Tryd.underlying25; have hu27 := Tryd.underlying27
  go_enter Tryd.func20, Tryd.ntmps20
  go_upto_region 1 with (first | ((with_reducible refine gate_dst (N := 4) rfl ?_); refine box_event ?hg (N := 4) ?hd (cs := h.cs) (t := 25) ?hr ?_; (case hd => rfl); (case hg => rfl); (case hr => first | (go_simp; done) | (go_simp; rfl)); intro ga hg w_1 H1 hb; have hB_2 := Lib.hid (below_step (Below.refl w.heap.size w) hb); have G_ga := Lib.hid (show w.heap.size ≤ ga by rw [hg]; exact ((Below.refl w.heap.size w)).size); have K_ga := Lib.hid (show Hb w_1 ga h from H1); clear hg hb H1) | ((with_reducible refine gate_dst (N := 5) rfl ?_); refine box_event ?hg (N := 5) ?hd (cs := #[.bool la, .bool lb, .bool lc, .bool ld, .int .u64 lg, .int .u64 lt]) (t := 27) ?hr ?_; (case hd => rfl); (case hg => rfl); (case hr => first | (go_simp; done) | (go_simp; rfl)); intro gt hg w_3 H1 hb; have hB_4 := Lib.hid (below_step hB_2.out hb); have G_gt := Lib.hid (show w.heap.size ≤ gt by rw [hg]; exact (hB_2.out).size); have N_ga_gt := Lib.hid (show ga ≠ gt by rw [hg]; exact Nat.ne_of_lt (K_ga.out.lt)); replace K_ga := Lib.hid (K_ga.out.below hb); have K_gt := Lib.hid (show w_3.heap[gt]? = some (.cells #[.bool la, .bool lb, .bool lc, .bool ld, .int .u64 lg, .int .u64 lt] 27 (0, 0)) from H1); clear hg hb H1 hB_2) | ((with_reducible refine gate_dst (N := 8) rfl ?_); refine box_event ?hg (N := 8) ?hd (cs := Ht.zero.cs) (t := 25) ?hr ?_; (case hd => rfl); (case hg => rfl); (case hr => first | (go_simp; done) | (go_simp; rfl)); intro gr hg w_5 H1 hb; have hB_6 := Lib.hid (below_step hB_4.out hb); have G_gr := Lib.hid (show w.heap.size ≤ gr by rw [hg]; exact (hB_4.out).size); have N_ga_gr := Lib.hid (show ga ≠ gr by rw [hg]; exact Nat.ne_of_lt (K_ga.out.lt)); have N_gt_gr := Lib.hid (show gt ≠ gr by rw [hg]; exact Nat.ne_of_lt (blk_lt K_gt.out)); replace K_ga := Lib.hid (K_ga.out.below hb); replace K_gt := Lib.hid (blk_below K_gt.out hb); have K_gr := Lib.hid (show Hb w_5 gr Ht.zero from H1); clear hg hb H1 hB_4; clear hu25 hu27))
  go_wp2_with (first | ((with_reducible refine gate_dst (N := 9) rfl ?_); (first | (refine gate_guard (by kernel_rfl) ?_) | skip); refine Kd.event_run rfl (v := .agg (h).cs) (w1 := w_5) ?hb ?_; (case hb => exact exec_load_hart rfl rfl K_ga.out)))
  refine (HM.out _).mono ?_
  rintro e_7 w_8 ⟨rfl, hb⟩
  have hB_9 := Lib.hid (below_step hB_6.out hb)
  replace K_ga := Lib.hid (K_ga.out.below hb)
  replace K_gr := Lib.hid (K_gr.out.below hb)
  clear hb hB_6
  have c_ga_58 := K_ga.out.u 58 rfl; have f_ga_58 := K_ga.out.fr 58
  go_wp2_with fail
  refine (HPUT.out (h.x 58) 7345088 (HWF.out 58) ⟨by decide, by decide⟩ _).mono ?_
  rintro e3 w3 ⟨rfl, n_, e3⟩
  clear c_ga_58 f_ga_58
  replace K_ga := Lib.hid (Hb.of e3.symm (K_ga.out.drewN n_))
  replace K_gr := Lib.hid (Hb.of e3.symm (K_gr.out.drewN n_))
  have hB_10 := Lib.hid (Below_of e3.symm (pw_below_drewN hB_9.out n_))
  clear e3 hB_9
  have c_ga_58 := K_ga.out.u 58 rfl; have f_ga_58 := K_ga.out.fr 58
  go_upto_region 100 with (fail)
  refine wp_region_list ?_
  refine load_hart (h := _) rfl (.tmp 4) rfl ga rfl (by repeat (with_reducible first | exact K_ga.out | apply Hb.put | apply Hb.putP | apply Hb.putV | apply Hb.putW | apply Hb.putH | apply Hb.far N_ga_gr.out | apply Hb.drewN | apply Hb.drew)) ?_
  refine store_hart rfl (.tmp 8) (.tmp 324) rfl gr _ rfl rfl Ht.zero (by repeat (with_reducible first | exact K_gr.out | apply Hb.put | apply Hb.putP | apply Hb.putV | apply Hb.putW | apply Hb.putH | apply Hb.far (Ne.symm N_ga_gr.out) | apply Hb.drewN | apply Hb.drew)) ?_
  go_wp2
  refine bodyPost_ret (results_cell_row rfl _ _ gr 25 _ (0, 0) _ rfl (Hb.putAll _ (by repeat (with_reducible first | exact K_gr.out | apply Hb.put | apply Hb.putP | apply Hb.putV | apply Hb.putW | apply Hb.putH | apply Hb.far (Ne.symm N_ga_gr.out) | apply Hb.drewN | apply Hb.drew))) Tryd.underlying25 rfl (by rw [Ht.size]; exact hartSize)) rfl ?_
  exact ⟨by first | (rw [← HZ.out]; done) | (rw [← HZ.out]; rfl), setCells_below G_gr.out _ _ _ (by repeat (first | (with_reducible first | exact hB_10.out | apply pw_below_drewN | apply below_drew1 | refine below_set ?_ G_ga.out | refine below_set ?_ G_gr.out) | exact hB_10.out))⟩
set_option maxHeartbeats 16000000 in
set_option maxRecDepth 100000 in
theorem rw_1538 (h : Ht) (hw : h.wf) (la lb lc ld : Bool) (lg lt : Int) (no v : Int) (hv : 0 ≤ v ∧ v < 18446744073709551616) (w : World) (hM : meantV h.v no = 1538) : Calls Tryd.prog 20 #[.agg h.cs, .agg #[.bool la, .bool lb, .bool lc, .bool ld, .int .u64 lg, .int .u64 lt], .int .i64 no, .int .u64 v] w fun e w' => e = .returned (.agg (writeV h no v).cs) ∧ Below w.heap.size w w' := by
  have HM := Lib.hid (rmeant_c h no)
  have HPUT := Lib.hid (fun (a m : Int) (ha : 0 ≤ a ∧ a < 18446744073709551616) (hm : 0 ≤ m ∧ m < 18446744073709551616) => rput_c ha hm hv)
  have HPUT2 := Lib.hid (fun (a m : Int) (ha : 0 ≤ a ∧ a < 18446744073709551616) (hm : 0 ≤ m ∧ m < 18446744073709551616) => rput_c ha hm (shl2_rng v))
  have HWF := Lib.hid hw.1; have HV := Lib.hid hv
  obtain ⟨z, hz⟩ : ∃ z, writeV h no v = z := ⟨_, rfl⟩
  rw [hz]
  unfold writeV at hz
  clear hw hv
  rw [hM] at HM hz
  clear hM
  have hz1 : h.set 59 (putV (h.x 59) 45567 v) = z := (wm_1538 h v).symm.trans hz
  have HZ := Lib.hid hz1
  clear hz hz1
  have hu25 := Tryd.underlying25; have hu27 := Tryd.underlying27
  go_enter Tryd.func20, Tryd.ntmps20
  go_upto_region 1 with (first | ((with_reducible refine gate_dst (N := 4) rfl ?_); refine box_event ?hg (N := 4) ?hd (cs := h.cs) (t := 25) ?hr ?_; (case hd => rfl); (case hg => rfl); (case hr => first | (go_simp; done) | (go_simp; rfl)); intro ga hg w_1 H1 hb; have hB_2 := Lib.hid (below_step (Below.refl w.heap.size w) hb); have G_ga := Lib.hid (show w.heap.size ≤ ga by rw [hg]; exact ((Below.refl w.heap.size w)).size); have K_ga := Lib.hid (show Hb w_1 ga h from H1); clear hg hb H1) | ((with_reducible refine gate_dst (N := 5) rfl ?_); refine box_event ?hg (N := 5) ?hd (cs := #[.bool la, .bool lb, .bool lc, .bool ld, .int .u64 lg, .int .u64 lt]) (t := 27) ?hr ?_; (case hd => rfl); (case hg => rfl); (case hr => first | (go_simp; done) | (go_simp; rfl)); intro gt hg w_3 H1 hb; have hB_4 := Lib.hid (below_step hB_2.out hb); have G_gt := Lib.hid (show w.heap.size ≤ gt by rw [hg]; exact (hB_2.out).size); have N_ga_gt := Lib.hid (show ga ≠ gt by rw [hg]; exact Nat.ne_of_lt (K_ga.out.lt)); replace K_ga := Lib.hid (K_ga.out.below hb); have K_gt := Lib.hid (show w_3.heap[gt]? = some (.cells #[.bool la, .bool lb, .bool lc, .bool ld, .int .u64 lg, .int .u64 lt] 27 (0, 0)) from H1); clear hg hb H1 hB_2) | ((with_reducible refine gate_dst (N := 8) rfl ?_); refine box_event ?hg (N := 8) ?hd (cs := Ht.zero.cs) (t := 25) ?hr ?_; (case hd => rfl); (case hg => rfl); (case hr => first | (go_simp; done) | (go_simp; rfl)); intro gr hg w_5 H1 hb; have hB_6 := Lib.hid (below_step hB_4.out hb); have G_gr := Lib.hid (show w.heap.size ≤ gr by rw [hg]; exact (hB_4.out).size); have N_ga_gr := Lib.hid (show ga ≠ gr by rw [hg]; exact Nat.ne_of_lt (K_ga.out.lt)); have N_gt_gr := Lib.hid (show gt ≠ gr by rw [hg]; exact Nat.ne_of_lt (blk_lt K_gt.out)); replace K_ga := Lib.hid (K_ga.out.below hb); replace K_gt := Lib.hid (blk_below K_gt.out hb); have K_gr := Lib.hid (show Hb w_5 gr Ht.zero from H1); clear hg hb H1 hB_4; clear hu25 hu27))
  go_wp2_with (first | ((with_reducible refine gate_dst (N := 9) rfl ?_); (first | (refine gate_guard (by kernel_rfl) ?_) | skip); refine Kd.event_run rfl (v := .agg (h).cs) (w1 := w_5) ?hb ?_; (case hb => exact exec_load_hart rfl rfl K_ga.out)))
  refine (HM.out _).mono ?_
  rintro e_7 w_8 ⟨rfl, hb⟩
  have hB_9 := Lib.hid (below_step hB_6.out hb)
  replace K_ga := Lib.hid (K_ga.out.below hb)
  replace K_gr := Lib.hid (K_gr.out.below hb)
  clear hb hB_6
  have c_ga_59 := K_ga.out.u 59 rfl; have f_ga_59 := K_ga.out.fr 59
  go_wp2_with fail
  refine (HPUT.out (h.x 59) 45567 (HWF.out 59) ⟨by decide, by decide⟩ _).mono ?_
  rintro e3 w3 ⟨rfl, n_, e3⟩
  clear c_ga_59 f_ga_59
  replace K_ga := Lib.hid (Hb.of e3.symm (K_ga.out.drewN n_))
  replace K_gr := Lib.hid (Hb.of e3.symm (K_gr.out.drewN n_))
  have hB_10 := Lib.hid (Below_of e3.symm (pw_below_drewN hB_9.out n_))
  clear e3 hB_9
  have c_ga_59 := K_ga.out.u 59 rfl; have f_ga_59 := K_ga.out.fr 59
  go_upto_region 100 with (fail)
  refine wp_region_list ?_
  refine load_hart (h := _) rfl (.tmp 4) rfl ga rfl (by repeat (with_reducible first | exact K_ga.out | apply Hb.put | apply Hb.putP | apply Hb.putV | apply Hb.putW | apply Hb.putH | apply Hb.far N_ga_gr.out | apply Hb.drewN | apply Hb.drew)) ?_
  refine store_hart rfl (.tmp 8) (.tmp 324) rfl gr _ rfl rfl Ht.zero (by repeat (with_reducible first | exact K_gr.out | apply Hb.put | apply Hb.putP | apply Hb.putV | apply Hb.putW | apply Hb.putH | apply Hb.far (Ne.symm N_ga_gr.out) | apply Hb.drewN | apply Hb.drew)) ?_
  go_wp2
  refine bodyPost_ret (results_cell_row rfl _ _ gr 25 _ (0, 0) _ rfl (Hb.putAll _ (by repeat (with_reducible first | exact K_gr.out | apply Hb.put | apply Hb.putP | apply Hb.putV | apply Hb.putW | apply Hb.putH | apply Hb.far (Ne.symm N_ga_gr.out) | apply Hb.drewN | apply Hb.drew))) Tryd.underlying25 rfl (by rw [Ht.size]; exact hartSize)) rfl ?_
  exact ⟨by first | (rw [← HZ.out]; done) | (rw [← HZ.out]; rfl), setCells_below G_gr.out _ _ _ (by repeat (first | (with_reducible first | exact hB_10.out | apply pw_below_drewN | apply below_drew1 | refine below_set ?_ G_ga.out | refine below_set ?_ G_gr.out) | exact hB_10.out))⟩
set_option maxHeartbeats 16000000 in
set_option maxRecDepth 100000 in
theorem rw_1539 (h : Ht) (hw : h.wf) (la lb lc ld : Bool) (lg lt : Int) (no v : Int) (hv : 0 ≤ v ∧ v < 18446744073709551616) (w : World) (hM : meantV h.v no = 1539) : Calls Tryd.prog 20 #[.agg h.cs, .agg #[.bool la, .bool lb, .bool lc, .bool ld, .int .u64 lg, .int .u64 lt], .int .i64 no, .int .u64 v] w fun e w' => e = .returned (.agg (writeV h no v).cs) ∧ Below w.heap.size w w' := by
  have HM := Lib.hid (rmeant_c h no)
  have HPUT := Lib.hid (fun (a m : Int) (ha : 0 ≤ a ∧ a < 18446744073709551616) (hm : 0 ≤ m ∧ m < 18446744073709551616) => rput_c ha hm hv)
  have HPUT2 := Lib.hid (fun (a m : Int) (ha : 0 ≤ a ∧ a < 18446744073709551616) (hm : 0 ≤ m ∧ m < 18446744073709551616) => rput_c ha hm (shl2_rng v))
  have HWF := Lib.hid hw.1; have HV := Lib.hid hv
  obtain ⟨z, hz⟩ : ∃ z, writeV h no v = z := ⟨_, rfl⟩
  rw [hz]
  unfold writeV at hz
  clear hw hv
  rw [hM] at HM hz
  clear hM
  have hz1 : h.set 60 (putV (h.x 60) 1092 v) = z := (wm_1539 h v).symm.trans hz
  have HZ := Lib.hid hz1
  clear hz hz1
  have hu25 := Tryd.underlying25; have hu27 := Tryd.underlying27
  go_enter Tryd.func20, Tryd.ntmps20
  go_upto_region 1 with (first | ((with_reducible refine gate_dst (N := 4) rfl ?_); refine box_event ?hg (N := 4) ?hd (cs := h.cs) (t := 25) ?hr ?_; (case hd => rfl); (case hg => rfl); (case hr => first | (go_simp; done) | (go_simp; rfl)); intro ga hg w_1 H1 hb; have hB_2 := Lib.hid (below_step (Below.refl w.heap.size w) hb); have G_ga := Lib.hid (show w.heap.size ≤ ga by rw [hg]; exact ((Below.refl w.heap.size w)).size); have K_ga := Lib.hid (show Hb w_1 ga h from H1); clear hg hb H1) | ((with_reducible refine gate_dst (N := 5) rfl ?_); refine box_event ?hg (N := 5) ?hd (cs := #[.bool la, .bool lb, .bool lc, .bool ld, .int .u64 lg, .int .u64 lt]) (t := 27) ?hr ?_; (case hd => rfl); (case hg => rfl); (case hr => first | (go_simp; done) | (go_simp; rfl)); intro gt hg w_3 H1 hb; have hB_4 := Lib.hid (below_step hB_2.out hb); have G_gt := Lib.hid (show w.heap.size ≤ gt by rw [hg]; exact (hB_2.out).size); have N_ga_gt := Lib.hid (show ga ≠ gt by rw [hg]; exact Nat.ne_of_lt (K_ga.out.lt)); replace K_ga := Lib.hid (K_ga.out.below hb); have K_gt := Lib.hid (show w_3.heap[gt]? = some (.cells #[.bool la, .bool lb, .bool lc, .bool ld, .int .u64 lg, .int .u64 lt] 27 (0, 0)) from H1); clear hg hb H1 hB_2) | ((with_reducible refine gate_dst (N := 8) rfl ?_); refine box_event ?hg (N := 8) ?hd (cs := Ht.zero.cs) (t := 25) ?hr ?_; (case hd => rfl); (case hg => rfl); (case hr => first | (go_simp; done) | (go_simp; rfl)); intro gr hg w_5 H1 hb; have hB_6 := Lib.hid (below_step hB_4.out hb); have G_gr := Lib.hid (show w.heap.size ≤ gr by rw [hg]; exact (hB_4.out).size); have N_ga_gr := Lib.hid (show ga ≠ gr by rw [hg]; exact Nat.ne_of_lt (K_ga.out.lt)); have N_gt_gr := Lib.hid (show gt ≠ gr by rw [hg]; exact Nat.ne_of_lt (blk_lt K_gt.out)); replace K_ga := Lib.hid (K_ga.out.below hb); replace K_gt := Lib.hid (blk_below K_gt.out hb); have K_gr := Lib.hid (show Hb w_5 gr Ht.zero from H1); clear hg hb H1 hB_4; clear hu25 hu27))
  go_wp2_with (first | ((with_reducible refine gate_dst (N := 9) rfl ?_); (first | (refine gate_guard (by kernel_rfl) ?_) | skip); refine Kd.event_run rfl (v := .agg (h).cs) (w1 := w_5) ?hb ?_; (case hb => exact exec_load_hart rfl rfl K_ga.out)))
  refine (HM.out _).mono ?_
  rintro e_7 w_8 ⟨rfl, hb⟩
  have hB_9 := Lib.hid (below_step hB_6.out hb)
  replace K_ga := Lib.hid (K_ga.out.below hb)
  replace K_gr := Lib.hid (K_gr.out.below hb)
  clear hb hB_6
  have c_ga_60 := K_ga.out.u 60 rfl; have f_ga_60 := K_ga.out.fr 60
  go_wp2_with fail
  refine (HPUT.out (h.x 60) 1092 (HWF.out 60) ⟨by decide, by decide⟩ _).mono ?_
  rintro e3 w3 ⟨rfl, n_, e3⟩
  clear c_ga_60 f_ga_60
  replace K_ga := Lib.hid (Hb.of e3.symm (K_ga.out.drewN n_))
  replace K_gr := Lib.hid (Hb.of e3.symm (K_gr.out.drewN n_))
  have hB_10 := Lib.hid (Below_of e3.symm (pw_below_drewN hB_9.out n_))
  clear e3 hB_9
  have c_ga_60 := K_ga.out.u 60 rfl; have f_ga_60 := K_ga.out.fr 60
  go_upto_region 100 with (fail)
  refine wp_region_list ?_
  refine load_hart (h := _) rfl (.tmp 4) rfl ga rfl (by repeat (with_reducible first | exact K_ga.out | apply Hb.put | apply Hb.putP | apply Hb.putV | apply Hb.putW | apply Hb.putH | apply Hb.far N_ga_gr.out | apply Hb.drewN | apply Hb.drew)) ?_
  refine store_hart rfl (.tmp 8) (.tmp 324) rfl gr _ rfl rfl Ht.zero (by repeat (with_reducible first | exact K_gr.out | apply Hb.put | apply Hb.putP | apply Hb.putV | apply Hb.putW | apply Hb.putH | apply Hb.far (Ne.symm N_ga_gr.out) | apply Hb.drewN | apply Hb.drew)) ?_
  go_wp2
  refine bodyPost_ret (results_cell_row rfl _ _ gr 25 _ (0, 0) _ rfl (Hb.putAll _ (by repeat (with_reducible first | exact K_gr.out | apply Hb.put | apply Hb.putP | apply Hb.putV | apply Hb.putW | apply Hb.putH | apply Hb.far (Ne.symm N_ga_gr.out) | apply Hb.drewN | apply Hb.drew))) Tryd.underlying25 rfl (by rw [Ht.size]; exact hartSize)) rfl ?_
  exact ⟨by first | (rw [← HZ.out]; done) | (rw [← HZ.out]; rfl), setCells_below G_gr.out _ _ _ (by repeat (first | (with_reducible first | exact hB_10.out | apply pw_below_drewN | apply below_drew1 | refine below_set ?_ G_ga.out | refine below_set ?_ G_gr.out) | exact hB_10.out))⟩
set_option maxHeartbeats 16000000 in
set_option maxRecDepth 100000 in
theorem rw_1540 (h : Ht) (hw : h.wf) (la lb lc ld : Bool) (lg lt : Int) (no v : Int) (hv : 0 ≤ v ∧ v < 18446744073709551616) (w : World) (hM : meantV h.v no = 1540) : Calls Tryd.prog 20 #[.agg h.cs, .agg #[.bool la, .bool lb, .bool lc, .bool ld, .int .u64 lg, .int .u64 lt], .int .i64 no, .int .u64 v] w fun e w' => e = .returned (.agg (writeV h no v).cs) ∧ Below w.heap.size w w' := by
  have HM := Lib.hid (rmeant_c h no)
  have HPUT := Lib.hid (fun (a m : Int) (ha : 0 ≤ a ∧ a < 18446744073709551616) (hm : 0 ≤ m ∧ m < 18446744073709551616) => rput_c ha hm hv)
  have HPUT2 := Lib.hid (fun (a m : Int) (ha : 0 ≤ a ∧ a < 18446744073709551616) (hm : 0 ≤ m ∧ m < 18446744073709551616) => rput_c ha hm (shl2_rng v))
  have HWF := Lib.hid hw.1; have HV := Lib.hid hv
  obtain ⟨z, hz⟩ : ∃ z, writeV h no v = z := ⟨_, rfl⟩
  rw [hz]
  unfold writeV at hz
  clear hw hv
  rw [hM] at HM hz
  clear hM
  have hz1 : h.set 41 (putV (h.x 41) 5188 v) = z := (wm_1540 h v).symm.trans hz
  have HZ := Lib.hid hz1
  clear hz hz1
  have hu25 := Tryd.underlying25; have hu27 := Tryd.underlying27
  go_enter Tryd.func20, Tryd.ntmps20
  go_upto_region 1 with (first | ((with_reducible refine gate_dst (N := 4) rfl ?_); refine box_event ?hg (N := 4) ?hd (cs := h.cs) (t := 25) ?hr ?_; (case hd => rfl); (case hg => rfl); (case hr => first | (go_simp; done) | (go_simp; rfl)); intro ga hg w_1 H1 hb; have hB_2 := Lib.hid (below_step (Below.refl w.heap.size w) hb); have G_ga := Lib.hid (show w.heap.size ≤ ga by rw [hg]; exact ((Below.refl w.heap.size w)).size); have K_ga := Lib.hid (show Hb w_1 ga h from H1); clear hg hb H1) | ((with_reducible refine gate_dst (N := 5) rfl ?_); refine box_event ?hg (N := 5) ?hd (cs := #[.bool la, .bool lb, .bool lc, .bool ld, .int .u64 lg, .int .u64 lt]) (t := 27) ?hr ?_; (case hd => rfl); (case hg => rfl); (case hr => first | (go_simp; done) | (go_simp; rfl)); intro gt hg w_3 H1 hb; have hB_4 := Lib.hid (below_step hB_2.out hb); have G_gt := Lib.hid (show w.heap.size ≤ gt by rw [hg]; exact (hB_2.out).size); have N_ga_gt := Lib.hid (show ga ≠ gt by rw [hg]; exact Nat.ne_of_lt (K_ga.out.lt)); replace K_ga := Lib.hid (K_ga.out.below hb); have K_gt := Lib.hid (show w_3.heap[gt]? = some (.cells #[.bool la, .bool lb, .bool lc, .bool ld, .int .u64 lg, .int .u64 lt] 27 (0, 0)) from H1); clear hg hb H1 hB_2) | ((with_reducible refine gate_dst (N := 8) rfl ?_); refine box_event ?hg (N := 8) ?hd (cs := Ht.zero.cs) (t := 25) ?hr ?_; (case hd => rfl); (case hg => rfl); (case hr => first | (go_simp; done) | (go_simp; rfl)); intro gr hg w_5 H1 hb; have hB_6 := Lib.hid (below_step hB_4.out hb); have G_gr := Lib.hid (show w.heap.size ≤ gr by rw [hg]; exact (hB_4.out).size); have N_ga_gr := Lib.hid (show ga ≠ gr by rw [hg]; exact Nat.ne_of_lt (K_ga.out.lt)); have N_gt_gr := Lib.hid (show gt ≠ gr by rw [hg]; exact Nat.ne_of_lt (blk_lt K_gt.out)); replace K_ga := Lib.hid (K_ga.out.below hb); replace K_gt := Lib.hid (blk_below K_gt.out hb); have K_gr := Lib.hid (show Hb w_5 gr Ht.zero from H1); clear hg hb H1 hB_4; clear hu25 hu27))
  go_wp2_with (first | ((with_reducible refine gate_dst (N := 9) rfl ?_); (first | (refine gate_guard (by kernel_rfl) ?_) | skip); refine Kd.event_run rfl (v := .agg (h).cs) (w1 := w_5) ?hb ?_; (case hb => exact exec_load_hart rfl rfl K_ga.out)))
  refine (HM.out _).mono ?_
  rintro e_7 w_8 ⟨rfl, hb⟩
  have hB_9 := Lib.hid (below_step hB_6.out hb)
  replace K_ga := Lib.hid (K_ga.out.below hb)
  replace K_gr := Lib.hid (K_gr.out.below hb)
  clear hb hB_6
  have c_ga_41 := K_ga.out.u 41 rfl; have f_ga_41 := K_ga.out.fr 41
  go_wp2_with fail
  refine (HPUT.out (h.x 41) 5188 (HWF.out 41) ⟨by decide, by decide⟩ _).mono ?_
  rintro e3 w3 ⟨rfl, n_, e3⟩
  clear c_ga_41 f_ga_41
  replace K_ga := Lib.hid (Hb.of e3.symm (K_ga.out.drewN n_))
  replace K_gr := Lib.hid (Hb.of e3.symm (K_gr.out.drewN n_))
  have hB_10 := Lib.hid (Below_of e3.symm (pw_below_drewN hB_9.out n_))
  clear e3 hB_9
  have c_ga_41 := K_ga.out.u 41 rfl; have f_ga_41 := K_ga.out.fr 41
  go_upto_region 100 with (fail)
  refine wp_region_list ?_
  refine load_hart (h := _) rfl (.tmp 4) rfl ga rfl (by repeat (with_reducible first | exact K_ga.out | apply Hb.put | apply Hb.putP | apply Hb.putV | apply Hb.putW | apply Hb.putH | apply Hb.far N_ga_gr.out | apply Hb.drewN | apply Hb.drew)) ?_
  refine store_hart rfl (.tmp 8) (.tmp 324) rfl gr _ rfl rfl Ht.zero (by repeat (with_reducible first | exact K_gr.out | apply Hb.put | apply Hb.putP | apply Hb.putV | apply Hb.putW | apply Hb.putH | apply Hb.far (Ne.symm N_ga_gr.out) | apply Hb.drewN | apply Hb.drew)) ?_
  go_wp2
  refine bodyPost_ret (results_cell_row rfl _ _ gr 25 _ (0, 0) _ rfl (Hb.putAll _ (by repeat (with_reducible first | exact K_gr.out | apply Hb.put | apply Hb.putP | apply Hb.putV | apply Hb.putW | apply Hb.putH | apply Hb.far (Ne.symm N_ga_gr.out) | apply Hb.drewN | apply Hb.drew))) Tryd.underlying25 rfl (by rw [Ht.size]; exact hartSize)) rfl ?_
  exact ⟨by first | (rw [← HZ.out]; done) | (rw [← HZ.out]; rfl), setCells_below G_gr.out _ _ _ (by repeat (first | (with_reducible first | exact hB_10.out | apply pw_below_drewN | apply below_drew1 | refine below_set ?_ G_ga.out | refine below_set ?_ G_gr.out) | exact hB_10.out))⟩
set_option maxHeartbeats 16000000 in
set_option maxRecDepth 100000 in
theorem rw_1541 (h : Ht) (hw : h.wf) (la lb lc ld : Bool) (lg lt : Int) (no v : Int) (hv : 0 ≤ v ∧ v < 18446744073709551616) (w : World) (hM : meantV h.v no = 1541) : Calls Tryd.prog 20 #[.agg h.cs, .agg #[.bool la, .bool lb, .bool lc, .bool ld, .int .u64 lg, .int .u64 lt], .int .i64 no, .int .u64 v] w fun e w' => e = .returned (.agg (writeV h no v).cs) ∧ Below w.heap.size w w' := by
  have HM := Lib.hid (rmeant_c h no)
  have HPUT := Lib.hid (fun (a m : Int) (ha : 0 ≤ a ∧ a < 18446744073709551616) (hm : 0 ≤ m ∧ m < 18446744073709551616) => rput_c ha hm hv)
  have HPUT2 := Lib.hid (fun (a m : Int) (ha : 0 ≤ a ∧ a < 18446744073709551616) (hm : 0 ≤ m ∧ m < 18446744073709551616) => rput_c ha hm (shl2_rng v))
  have HWF := Lib.hid hw.1; have HV := Lib.hid hv
  obtain ⟨z, hz⟩ : ∃ z, writeV h no v = z := ⟨_, rfl⟩
  rw [hz]
  unfold writeV at hz
  clear hw hv
  rw [hM] at HM hz
  clear hM
  have hz1 : h.set 67 v = z := by rw [← putV_all (h.x 67) HV.out]; exact (wm_1541 h v).symm.trans hz
  have HZ := Lib.hid hz1
  clear hz hz1
  have hu25 := Tryd.underlying25; have hu27 := Tryd.underlying27
  go_enter Tryd.func20, Tryd.ntmps20
  go_upto_region 1 with (first | ((with_reducible refine gate_dst (N := 4) rfl ?_); refine box_event ?hg (N := 4) ?hd (cs := h.cs) (t := 25) ?hr ?_; (case hd => rfl); (case hg => rfl); (case hr => first | (go_simp; done) | (go_simp; rfl)); intro ga hg w_1 H1 hb; have hB_2 := Lib.hid (below_step (Below.refl w.heap.size w) hb); have G_ga := Lib.hid (show w.heap.size ≤ ga by rw [hg]; exact ((Below.refl w.heap.size w)).size); have K_ga := Lib.hid (show Hb w_1 ga h from H1); clear hg hb H1) | ((with_reducible refine gate_dst (N := 5) rfl ?_); refine box_event ?hg (N := 5) ?hd (cs := #[.bool la, .bool lb, .bool lc, .bool ld, .int .u64 lg, .int .u64 lt]) (t := 27) ?hr ?_; (case hd => rfl); (case hg => rfl); (case hr => first | (go_simp; done) | (go_simp; rfl)); intro gt hg w_3 H1 hb; have hB_4 := Lib.hid (below_step hB_2.out hb); have G_gt := Lib.hid (show w.heap.size ≤ gt by rw [hg]; exact (hB_2.out).size); have N_ga_gt := Lib.hid (show ga ≠ gt by rw [hg]; exact Nat.ne_of_lt (K_ga.out.lt)); replace K_ga := Lib.hid (K_ga.out.below hb); have K_gt := Lib.hid (show w_3.heap[gt]? = some (.cells #[.bool la, .bool lb, .bool lc, .bool ld, .int .u64 lg, .int .u64 lt] 27 (0, 0)) from H1); clear hg hb H1 hB_2) | ((with_reducible refine gate_dst (N := 8) rfl ?_); refine box_event ?hg (N := 8) ?hd (cs := Ht.zero.cs) (t := 25) ?hr ?_; (case hd => rfl); (case hg => rfl); (case hr => first | (go_simp; done) | (go_simp; rfl)); intro gr hg w_5 H1 hb; have hB_6 := Lib.hid (below_step hB_4.out hb); have G_gr := Lib.hid (show w.heap.size ≤ gr by rw [hg]; exact (hB_4.out).size); have N_ga_gr := Lib.hid (show ga ≠ gr by rw [hg]; exact Nat.ne_of_lt (K_ga.out.lt)); have N_gt_gr := Lib.hid (show gt ≠ gr by rw [hg]; exact Nat.ne_of_lt (blk_lt K_gt.out)); replace K_ga := Lib.hid (K_ga.out.below hb); replace K_gt := Lib.hid (blk_below K_gt.out hb); have K_gr := Lib.hid (show Hb w_5 gr Ht.zero from H1); clear hg hb H1 hB_4; clear hu25 hu27))
  go_wp2_with (first | ((with_reducible refine gate_dst (N := 9) rfl ?_); (first | (refine gate_guard (by kernel_rfl) ?_) | skip); refine Kd.event_run rfl (v := .agg (h).cs) (w1 := w_5) ?hb ?_; (case hb => exact exec_load_hart rfl rfl K_ga.out)))
  refine (HM.out _).mono ?_
  rintro e_7 w_8 ⟨rfl, hb⟩
  have hB_9 := Lib.hid (below_step hB_6.out hb)
  replace K_ga := Lib.hid (K_ga.out.below hb)
  replace K_gr := Lib.hid (K_gr.out.below hb)
  clear hb hB_6
  have c_ga_67 := K_ga.out.u 67 rfl; have f_ga_67 := K_ga.out.fr 67
  go_upto_region 100 with (fail)
  refine wp_region_list ?_
  refine load_hart (h := _) rfl (.tmp 4) rfl ga rfl (by repeat (with_reducible first | exact K_ga.out | apply Hb.put | apply Hb.putP | apply Hb.putV | apply Hb.putW | apply Hb.putH | apply Hb.far N_ga_gr.out | apply Hb.drewN | apply Hb.drew)) ?_
  refine store_hart rfl (.tmp 8) (.tmp 324) rfl gr _ rfl rfl Ht.zero (by repeat (with_reducible first | exact K_gr.out | apply Hb.put | apply Hb.putP | apply Hb.putV | apply Hb.putW | apply Hb.putH | apply Hb.far (Ne.symm N_ga_gr.out) | apply Hb.drewN | apply Hb.drew)) ?_
  go_wp2
  refine bodyPost_ret (results_cell_row rfl _ _ gr 25 _ (0, 0) _ rfl (Hb.putAll _ (by repeat (with_reducible first | exact K_gr.out | apply Hb.put | apply Hb.putP | apply Hb.putV | apply Hb.putW | apply Hb.putH | apply Hb.far (Ne.symm N_ga_gr.out) | apply Hb.drewN | apply Hb.drew))) Tryd.underlying25 rfl (by rw [Ht.size]; exact hartSize)) rfl ?_
  exact ⟨by first | (rw [← HZ.out]; done) | (rw [← HZ.out]; rfl), setCells_below G_gr.out _ _ _ (by repeat (first | (with_reducible first | exact hB_9.out | apply pw_below_drewN | apply below_drew1 | refine below_set ?_ G_ga.out | refine below_set ?_ G_gr.out) | exact hB_9.out))⟩
set_option maxHeartbeats 16000000 in
set_option maxRecDepth 100000 in
theorem rw_1542 (h : Ht) (hw : h.wf) (la lb lc ld : Bool) (lg lt : Int) (no v : Int) (hv : 0 ≤ v ∧ v < 18446744073709551616) (w : World) (hM : meantV h.v no = 1542) : Calls Tryd.prog 20 #[.agg h.cs, .agg #[.bool la, .bool lb, .bool lc, .bool ld, .int .u64 lg, .int .u64 lt], .int .i64 no, .int .u64 v] w fun e w' => e = .returned (.agg (writeV h no v).cs) ∧ Below w.heap.size w w' := by
  have HM := Lib.hid (rmeant_c h no)
  have HPUT := Lib.hid (fun (a m : Int) (ha : 0 ≤ a ∧ a < 18446744073709551616) (hm : 0 ≤ m ∧ m < 18446744073709551616) => rput_c ha hm hv)
  have HPUT2 := Lib.hid (fun (a m : Int) (ha : 0 ≤ a ∧ a < 18446744073709551616) (hm : 0 ≤ m ∧ m < 18446744073709551616) => rput_c ha hm (shl2_rng v))
  have HWF := Lib.hid hw.1; have HV := Lib.hid hv
  obtain ⟨z, hz⟩ : ∃ z, writeV h no v = z := ⟨_, rfl⟩
  rw [hz]
  unfold writeV at hz
  clear hw hv
  rw [hM] at HM hz
  clear hM
  have hz1 : h.set 62 (putV (h.x 62) 7 v) = z := (wm_1542 h v).symm.trans hz
  have HZ := Lib.hid hz1
  clear hz hz1
  have hu25 := Tryd.underlying25; have hu27 := Tryd.underlying27
  go_enter Tryd.func20, Tryd.ntmps20
  go_upto_region 1 with (first | ((with_reducible refine gate_dst (N := 4) rfl ?_); refine box_event ?hg (N := 4) ?hd (cs := h.cs) (t := 25) ?hr ?_; (case hd => rfl); (case hg => rfl); (case hr => first | (go_simp; done) | (go_simp; rfl)); intro ga hg w_1 H1 hb; have hB_2 := Lib.hid (below_step (Below.refl w.heap.size w) hb); have G_ga := Lib.hid (show w.heap.size ≤ ga by rw [hg]; exact ((Below.refl w.heap.size w)).size); have K_ga := Lib.hid (show Hb w_1 ga h from H1); clear hg hb H1) | ((with_reducible refine gate_dst (N := 5) rfl ?_); refine box_event ?hg (N := 5) ?hd (cs := #[.bool la, .bool lb, .bool lc, .bool ld, .int .u64 lg, .int .u64 lt]) (t := 27) ?hr ?_; (case hd => rfl); (case hg => rfl); (case hr => first | (go_simp; done) | (go_simp; rfl)); intro gt hg w_3 H1 hb; have hB_4 := Lib.hid (below_step hB_2.out hb); have G_gt := Lib.hid (show w.heap.size ≤ gt by rw [hg]; exact (hB_2.out).size); have N_ga_gt := Lib.hid (show ga ≠ gt by rw [hg]; exact Nat.ne_of_lt (K_ga.out.lt)); replace K_ga := Lib.hid (K_ga.out.below hb); have K_gt := Lib.hid (show w_3.heap[gt]? = some (.cells #[.bool la, .bool lb, .bool lc, .bool ld, .int .u64 lg, .int .u64 lt] 27 (0, 0)) from H1); clear hg hb H1 hB_2) | ((with_reducible refine gate_dst (N := 8) rfl ?_); refine box_event ?hg (N := 8) ?hd (cs := Ht.zero.cs) (t := 25) ?hr ?_; (case hd => rfl); (case hg => rfl); (case hr => first | (go_simp; done) | (go_simp; rfl)); intro gr hg w_5 H1 hb; have hB_6 := Lib.hid (below_step hB_4.out hb); have G_gr := Lib.hid (show w.heap.size ≤ gr by rw [hg]; exact (hB_4.out).size); have N_ga_gr := Lib.hid (show ga ≠ gr by rw [hg]; exact Nat.ne_of_lt (K_ga.out.lt)); have N_gt_gr := Lib.hid (show gt ≠ gr by rw [hg]; exact Nat.ne_of_lt (blk_lt K_gt.out)); replace K_ga := Lib.hid (K_ga.out.below hb); replace K_gt := Lib.hid (blk_below K_gt.out hb); have K_gr := Lib.hid (show Hb w_5 gr Ht.zero from H1); clear hg hb H1 hB_4; clear hu25 hu27))
  go_wp2_with (first | ((with_reducible refine gate_dst (N := 9) rfl ?_); (first | (refine gate_guard (by kernel_rfl) ?_) | skip); refine Kd.event_run rfl (v := .agg (h).cs) (w1 := w_5) ?hb ?_; (case hb => exact exec_load_hart rfl rfl K_ga.out)))
  refine (HM.out _).mono ?_
  rintro e_7 w_8 ⟨rfl, hb⟩
  have hB_9 := Lib.hid (below_step hB_6.out hb)
  replace K_ga := Lib.hid (K_ga.out.below hb)
  replace K_gr := Lib.hid (K_gr.out.below hb)
  clear hb hB_6
  have c_ga_62 := K_ga.out.u 62 rfl; have f_ga_62 := K_ga.out.fr 62
  go_wp2_with fail
  refine (HPUT.out (h.x 62) 7 (HWF.out 62) ⟨by decide, by decide⟩ _).mono ?_
  rintro e3 w3 ⟨rfl, n_, e3⟩
  clear c_ga_62 f_ga_62
  replace K_ga := Lib.hid (Hb.of e3.symm (K_ga.out.drewN n_))
  replace K_gr := Lib.hid (Hb.of e3.symm (K_gr.out.drewN n_))
  have hB_10 := Lib.hid (Below_of e3.symm (pw_below_drewN hB_9.out n_))
  clear e3 hB_9
  have c_ga_62 := K_ga.out.u 62 rfl; have f_ga_62 := K_ga.out.fr 62
  go_upto_region 100 with (fail)
  refine wp_region_list ?_
  refine load_hart (h := _) rfl (.tmp 4) rfl ga rfl (by repeat (with_reducible first | exact K_ga.out | apply Hb.put | apply Hb.putP | apply Hb.putV | apply Hb.putW | apply Hb.putH | apply Hb.far N_ga_gr.out | apply Hb.drewN | apply Hb.drew)) ?_
  refine store_hart rfl (.tmp 8) (.tmp 324) rfl gr _ rfl rfl Ht.zero (by repeat (with_reducible first | exact K_gr.out | apply Hb.put | apply Hb.putP | apply Hb.putV | apply Hb.putW | apply Hb.putH | apply Hb.far (Ne.symm N_ga_gr.out) | apply Hb.drewN | apply Hb.drew)) ?_
  go_wp2
  refine bodyPost_ret (results_cell_row rfl _ _ gr 25 _ (0, 0) _ rfl (Hb.putAll _ (by repeat (with_reducible first | exact K_gr.out | apply Hb.put | apply Hb.putP | apply Hb.putV | apply Hb.putW | apply Hb.putH | apply Hb.far (Ne.symm N_ga_gr.out) | apply Hb.drewN | apply Hb.drew))) Tryd.underlying25 rfl (by rw [Ht.size]; exact hartSize)) rfl ?_
  exact ⟨by first | (rw [← HZ.out]; done) | (rw [← HZ.out]; rfl), setCells_below G_gr.out _ _ _ (by repeat (first | (with_reducible first | exact hB_10.out | apply pw_below_drewN | apply below_drew1 | refine below_set ?_ G_ga.out | refine below_set ?_ G_gr.out) | exact hB_10.out))⟩
set_option maxHeartbeats 16000000 in
set_option maxRecDepth 100000 in
theorem rw_1543 (h : Ht) (hw : h.wf) (la lb lc ld : Bool) (lg lt : Int) (no v : Int) (hv : 0 ≤ v ∧ v < 18446744073709551616) (w : World) (hM : meantV h.v no = 1543) : Calls Tryd.prog 20 #[.agg h.cs, .agg #[.bool la, .bool lb, .bool lc, .bool ld, .int .u64 lg, .int .u64 lt], .int .i64 no, .int .u64 v] w fun e w' => e = .returned (.agg (writeV h no v).cs) ∧ Below w.heap.size w w' := by
  have HM := Lib.hid (rmeant_c h no)
  have HPUT := Lib.hid (fun (a m : Int) (ha : 0 ≤ a ∧ a < 18446744073709551616) (hm : 0 ≤ m ∧ m < 18446744073709551616) => rput_c ha hm hv)
  have HPUT2 := Lib.hid (fun (a m : Int) (ha : 0 ≤ a ∧ a < 18446744073709551616) (hm : 0 ≤ m ∧ m < 18446744073709551616) => rput_c ha hm (shl2_rng v))
  have HWF := Lib.hid hw.1; have HV := Lib.hid hv
  obtain ⟨z, hz⟩ : ∃ z, writeV h no v = z := ⟨_, rfl⟩
  rw [hz]
  unfold writeV at hz
  clear hw hv
  rw [hM] at HM hz
  clear hM
  have hz1 : h.set 63 (putV (h.x 63) 2 v) = z := (wm_1543 h v).symm.trans hz
  have HZ := Lib.hid hz1
  clear hz hz1
  have hu25 := Tryd.underlying25; have hu27 := Tryd.underlying27
  go_enter Tryd.func20, Tryd.ntmps20
  go_upto_region 1 with (first | ((with_reducible refine gate_dst (N := 4) rfl ?_); refine box_event ?hg (N := 4) ?hd (cs := h.cs) (t := 25) ?hr ?_; (case hd => rfl); (case hg => rfl); (case hr => first | (go_simp; done) | (go_simp; rfl)); intro ga hg w_1 H1 hb; have hB_2 := Lib.hid (below_step (Below.refl w.heap.size w) hb); have G_ga := Lib.hid (show w.heap.size ≤ ga by rw [hg]; exact ((Below.refl w.heap.size w)).size); have K_ga := Lib.hid (show Hb w_1 ga h from H1); clear hg hb H1) | ((with_reducible refine gate_dst (N := 5) rfl ?_); refine box_event ?hg (N := 5) ?hd (cs := #[.bool la, .bool lb, .bool lc, .bool ld, .int .u64 lg, .int .u64 lt]) (t := 27) ?hr ?_; (case hd => rfl); (case hg => rfl); (case hr => first | (go_simp; done) | (go_simp; rfl)); intro gt hg w_3 H1 hb; have hB_4 := Lib.hid (below_step hB_2.out hb); have G_gt := Lib.hid (show w.heap.size ≤ gt by rw [hg]; exact (hB_2.out).size); have N_ga_gt := Lib.hid (show ga ≠ gt by rw [hg]; exact Nat.ne_of_lt (K_ga.out.lt)); replace K_ga := Lib.hid (K_ga.out.below hb); have K_gt := Lib.hid (show w_3.heap[gt]? = some (.cells #[.bool la, .bool lb, .bool lc, .bool ld, .int .u64 lg, .int .u64 lt] 27 (0, 0)) from H1); clear hg hb H1 hB_2) | ((with_reducible refine gate_dst (N := 8) rfl ?_); refine box_event ?hg (N := 8) ?hd (cs := Ht.zero.cs) (t := 25) ?hr ?_; (case hd => rfl); (case hg => rfl); (case hr => first | (go_simp; done) | (go_simp; rfl)); intro gr hg w_5 H1 hb; have hB_6 := Lib.hid (below_step hB_4.out hb); have G_gr := Lib.hid (show w.heap.size ≤ gr by rw [hg]; exact (hB_4.out).size); have N_ga_gr := Lib.hid (show ga ≠ gr by rw [hg]; exact Nat.ne_of_lt (K_ga.out.lt)); have N_gt_gr := Lib.hid (show gt ≠ gr by rw [hg]; exact Nat.ne_of_lt (blk_lt K_gt.out)); replace K_ga := Lib.hid (K_ga.out.below hb); replace K_gt := Lib.hid (blk_below K_gt.out hb); have K_gr := Lib.hid (show Hb w_5 gr Ht.zero from H1); clear hg hb H1 hB_4; clear hu25 hu27))
  go_wp2_with (first | ((with_reducible refine gate_dst (N := 9) rfl ?_); (first | (refine gate_guard (by kernel_rfl) ?_) | skip); refine Kd.event_run rfl (v := .agg (h).cs) (w1 := w_5) ?hb ?_; (case hb => exact exec_load_hart rfl rfl K_ga.out)))
  refine (HM.out _).mono ?_
  rintro e_7 w_8 ⟨rfl, hb⟩
  have hB_9 := Lib.hid (below_step hB_6.out hb)
  replace K_ga := Lib.hid (K_ga.out.below hb)
  replace K_gr := Lib.hid (K_gr.out.below hb)
  clear hb hB_6
  have c_ga_63 := K_ga.out.u 63 rfl; have f_ga_63 := K_ga.out.fr 63
  go_wp2_with fail
  refine (HPUT.out (h.x 63) 2 (HWF.out 63) ⟨by decide, by decide⟩ _).mono ?_
  rintro e3 w3 ⟨rfl, n_, e3⟩
  clear c_ga_63 f_ga_63
  replace K_ga := Lib.hid (Hb.of e3.symm (K_ga.out.drewN n_))
  replace K_gr := Lib.hid (Hb.of e3.symm (K_gr.out.drewN n_))
  have hB_10 := Lib.hid (Below_of e3.symm (pw_below_drewN hB_9.out n_))
  clear e3 hB_9
  have c_ga_63 := K_ga.out.u 63 rfl; have f_ga_63 := K_ga.out.fr 63
  go_upto_region 100 with (fail)
  refine wp_region_list ?_
  refine load_hart (h := _) rfl (.tmp 4) rfl ga rfl (by repeat (with_reducible first | exact K_ga.out | apply Hb.put | apply Hb.putP | apply Hb.putV | apply Hb.putW | apply Hb.putH | apply Hb.far N_ga_gr.out | apply Hb.drewN | apply Hb.drew)) ?_
  refine store_hart rfl (.tmp 8) (.tmp 324) rfl gr _ rfl rfl Ht.zero (by repeat (with_reducible first | exact K_gr.out | apply Hb.put | apply Hb.putP | apply Hb.putV | apply Hb.putW | apply Hb.putH | apply Hb.far (Ne.symm N_ga_gr.out) | apply Hb.drewN | apply Hb.drew)) ?_
  go_wp2
  refine bodyPost_ret (results_cell_row rfl _ _ gr 25 _ (0, 0) _ rfl (Hb.putAll _ (by repeat (with_reducible first | exact K_gr.out | apply Hb.put | apply Hb.putP | apply Hb.putV | apply Hb.putW | apply Hb.putH | apply Hb.far (Ne.symm N_ga_gr.out) | apply Hb.drewN | apply Hb.drew))) Tryd.underlying25 rfl (by rw [Ht.size]; exact hartSize)) rfl ?_
  exact ⟨by first | (rw [← HZ.out]; done) | (rw [← HZ.out]; rfl), setCells_below G_gr.out _ _ _ (by repeat (first | (with_reducible first | exact hB_10.out | apply pw_below_drewN | apply below_drew1 | refine below_set ?_ G_ga.out | refine below_set ?_ G_gr.out) | exact hB_10.out))⟩
set_option maxHeartbeats 16000000 in
set_option maxRecDepth 100000 in
theorem rw_1603 (h : Ht) (hw : h.wf) (la lb lc ld : Bool) (lg lt : Int) (no v : Int) (hv : 0 ≤ v ∧ v < 18446744073709551616) (w : World) (hM : meantV h.v no = 1603) : Calls Tryd.prog 20 #[.agg h.cs, .agg #[.bool la, .bool lb, .bool lc, .bool ld, .int .u64 lg, .int .u64 lt], .int .i64 no, .int .u64 v] w fun e w' => e = .returned (.agg (writeV h no v).cs) ∧ Below w.heap.size w w' := by
  have HM := Lib.hid (rmeant_c h no)
  have HPUT := Lib.hid (fun (a m : Int) (ha : 0 ≤ a ∧ a < 18446744073709551616) (hm : 0 ≤ m ∧ m < 18446744073709551616) => rput_c ha hm hv)
  have HPUT2 := Lib.hid (fun (a m : Int) (ha : 0 ≤ a ∧ a < 18446744073709551616) (hm : 0 ≤ m ∧ m < 18446744073709551616) => rput_c ha hm (shl2_rng v))
  have HWF := Lib.hid hw.1; have HV := Lib.hid hv
  obtain ⟨z, hz⟩ : ∃ z, writeV h no v = z := ⟨_, rfl⟩
  rw [hz]
  unfold writeV at hz
  clear hw hv
  rw [hM] at HM hz
  clear hM
  have hz1 : h.set 64 v = z := by rw [← putV_all (h.x 64) HV.out]; exact (wm_1603 h v).symm.trans hz
  have HZ := Lib.hid hz1
  clear hz hz1
  have hu25 := Tryd.underlying25; have hu27 := Tryd.underlying27
  go_enter Tryd.func20, Tryd.ntmps20
  go_upto_region 1 with (first | ((with_reducible refine gate_dst (N := 4) rfl ?_); refine box_event ?hg (N := 4) ?hd (cs := h.cs) (t := 25) ?hr ?_; (case hd => rfl); (case hg => rfl); (case hr => first | (go_simp; done) | (go_simp; rfl)); intro ga hg w_1 H1 hb; have hB_2 := Lib.hid (below_step (Below.refl w.heap.size w) hb); have G_ga := Lib.hid (show w.heap.size ≤ ga by rw [hg]; exact ((Below.refl w.heap.size w)).size); have K_ga := Lib.hid (show Hb w_1 ga h from H1); clear hg hb H1) | ((with_reducible refine gate_dst (N := 5) rfl ?_); refine box_event ?hg (N := 5) ?hd (cs := #[.bool la, .bool lb, .bool lc, .bool ld, .int .u64 lg, .int .u64 lt]) (t := 27) ?hr ?_; (case hd => rfl); (case hg => rfl); (case hr => first | (go_simp; done) | (go_simp; rfl)); intro gt hg w_3 H1 hb; have hB_4 := Lib.hid (below_step hB_2.out hb); have G_gt := Lib.hid (show w.heap.size ≤ gt by rw [hg]; exact (hB_2.out).size); have N_ga_gt := Lib.hid (show ga ≠ gt by rw [hg]; exact Nat.ne_of_lt (K_ga.out.lt)); replace K_ga := Lib.hid (K_ga.out.below hb); have K_gt := Lib.hid (show w_3.heap[gt]? = some (.cells #[.bool la, .bool lb, .bool lc, .bool ld, .int .u64 lg, .int .u64 lt] 27 (0, 0)) from H1); clear hg hb H1 hB_2) | ((with_reducible refine gate_dst (N := 8) rfl ?_); refine box_event ?hg (N := 8) ?hd (cs := Ht.zero.cs) (t := 25) ?hr ?_; (case hd => rfl); (case hg => rfl); (case hr => first | (go_simp; done) | (go_simp; rfl)); intro gr hg w_5 H1 hb; have hB_6 := Lib.hid (below_step hB_4.out hb); have G_gr := Lib.hid (show w.heap.size ≤ gr by rw [hg]; exact (hB_4.out).size); have N_ga_gr := Lib.hid (show ga ≠ gr by rw [hg]; exact Nat.ne_of_lt (K_ga.out.lt)); have N_gt_gr := Lib.hid (show gt ≠ gr by rw [hg]; exact Nat.ne_of_lt (blk_lt K_gt.out)); replace K_ga := Lib.hid (K_ga.out.below hb); replace K_gt := Lib.hid (blk_below K_gt.out hb); have K_gr := Lib.hid (show Hb w_5 gr Ht.zero from H1); clear hg hb H1 hB_4; clear hu25 hu27))
  go_wp2_with (first | ((with_reducible refine gate_dst (N := 9) rfl ?_); (first | (refine gate_guard (by kernel_rfl) ?_) | skip); refine Kd.event_run rfl (v := .agg (h).cs) (w1 := w_5) ?hb ?_; (case hb => exact exec_load_hart rfl rfl K_ga.out)))
  refine (HM.out _).mono ?_
  rintro e_7 w_8 ⟨rfl, hb⟩
  have hB_9 := Lib.hid (below_step hB_6.out hb)
  replace K_ga := Lib.hid (K_ga.out.below hb)
  replace K_gr := Lib.hid (K_gr.out.below hb)
  clear hb hB_6
  have c_ga_64 := K_ga.out.u 64 rfl; have f_ga_64 := K_ga.out.fr 64
  go_upto_region 100 with (fail)
  refine wp_region_list ?_
  refine load_hart (h := _) rfl (.tmp 4) rfl ga rfl (by repeat (with_reducible first | exact K_ga.out | apply Hb.put | apply Hb.putP | apply Hb.putV | apply Hb.putW | apply Hb.putH | apply Hb.far N_ga_gr.out | apply Hb.drewN | apply Hb.drew)) ?_
  refine store_hart rfl (.tmp 8) (.tmp 324) rfl gr _ rfl rfl Ht.zero (by repeat (with_reducible first | exact K_gr.out | apply Hb.put | apply Hb.putP | apply Hb.putV | apply Hb.putW | apply Hb.putH | apply Hb.far (Ne.symm N_ga_gr.out) | apply Hb.drewN | apply Hb.drew)) ?_
  go_wp2
  refine bodyPost_ret (results_cell_row rfl _ _ gr 25 _ (0, 0) _ rfl (Hb.putAll _ (by repeat (with_reducible first | exact K_gr.out | apply Hb.put | apply Hb.putP | apply Hb.putV | apply Hb.putW | apply Hb.putH | apply Hb.far (Ne.symm N_ga_gr.out) | apply Hb.drewN | apply Hb.drew))) Tryd.underlying25 rfl (by rw [Ht.size]; exact hartSize)) rfl ?_
  exact ⟨by first | (rw [← HZ.out]; done) | (rw [← HZ.out]; rfl), setCells_below G_gr.out _ _ _ (by repeat (first | (with_reducible first | exact hB_9.out | apply pw_below_drewN | apply below_drew1 | refine below_set ?_ G_ga.out | refine below_set ?_ G_gr.out) | exact hB_9.out))⟩
set_option maxHeartbeats 16000000 in
set_option maxRecDepth 100000 in
theorem rw_1604 (h : Ht) (hw : h.wf) (la lb lc ld : Bool) (lg lt : Int) (no v : Int) (hv : 0 ≤ v ∧ v < 18446744073709551616) (w : World) (hM : meantV h.v no = 1604) : Calls Tryd.prog 20 #[.agg h.cs, .agg #[.bool la, .bool lb, .bool lc, .bool ld, .int .u64 lg, .int .u64 lt], .int .i64 no, .int .u64 v] w fun e w' => e = .returned (.agg (writeV h no v).cs) ∧ Below w.heap.size w w' := by
  have HM := Lib.hid (rmeant_c h no)
  have HPUT := Lib.hid (fun (a m : Int) (ha : 0 ≤ a ∧ a < 18446744073709551616) (hm : 0 ≤ m ∧ m < 18446744073709551616) => rput_c ha hm hv)
  have HPUT2 := Lib.hid (fun (a m : Int) (ha : 0 ≤ a ∧ a < 18446744073709551616) (hm : 0 ≤ m ∧ m < 18446744073709551616) => rput_c ha hm (shl2_rng v))
  have HWF := Lib.hid hw.1; have HV := Lib.hid hv
  obtain ⟨z, hz⟩ : ∃ z, writeV h no v = z := ⟨_, rfl⟩
  rw [hz]
  unfold writeV at hz
  clear hw hv
  rw [hM] at HM hz
  clear hM
  have hz1 : h.set 61 (putV (h.x 61) 4 v) = z := (wm_1604 h v).symm.trans hz
  have HZ := Lib.hid hz1
  clear hz hz1
  have hu25 := Tryd.underlying25; have hu27 := Tryd.underlying27
  go_enter Tryd.func20, Tryd.ntmps20
  go_upto_region 1 with (first | ((with_reducible refine gate_dst (N := 4) rfl ?_); refine box_event ?hg (N := 4) ?hd (cs := h.cs) (t := 25) ?hr ?_; (case hd => rfl); (case hg => rfl); (case hr => first | (go_simp; done) | (go_simp; rfl)); intro ga hg w_1 H1 hb; have hB_2 := Lib.hid (below_step (Below.refl w.heap.size w) hb); have G_ga := Lib.hid (show w.heap.size ≤ ga by rw [hg]; exact ((Below.refl w.heap.size w)).size); have K_ga := Lib.hid (show Hb w_1 ga h from H1); clear hg hb H1) | ((with_reducible refine gate_dst (N := 5) rfl ?_); refine box_event ?hg (N := 5) ?hd (cs := #[.bool la, .bool lb, .bool lc, .bool ld, .int .u64 lg, .int .u64 lt]) (t := 27) ?hr ?_; (case hd => rfl); (case hg => rfl); (case hr => first | (go_simp; done) | (go_simp; rfl)); intro gt hg w_3 H1 hb; have hB_4 := Lib.hid (below_step hB_2.out hb); have G_gt := Lib.hid (show w.heap.size ≤ gt by rw [hg]; exact (hB_2.out).size); have N_ga_gt := Lib.hid (show ga ≠ gt by rw [hg]; exact Nat.ne_of_lt (K_ga.out.lt)); replace K_ga := Lib.hid (K_ga.out.below hb); have K_gt := Lib.hid (show w_3.heap[gt]? = some (.cells #[.bool la, .bool lb, .bool lc, .bool ld, .int .u64 lg, .int .u64 lt] 27 (0, 0)) from H1); clear hg hb H1 hB_2) | ((with_reducible refine gate_dst (N := 8) rfl ?_); refine box_event ?hg (N := 8) ?hd (cs := Ht.zero.cs) (t := 25) ?hr ?_; (case hd => rfl); (case hg => rfl); (case hr => first | (go_simp; done) | (go_simp; rfl)); intro gr hg w_5 H1 hb; have hB_6 := Lib.hid (below_step hB_4.out hb); have G_gr := Lib.hid (show w.heap.size ≤ gr by rw [hg]; exact (hB_4.out).size); have N_ga_gr := Lib.hid (show ga ≠ gr by rw [hg]; exact Nat.ne_of_lt (K_ga.out.lt)); have N_gt_gr := Lib.hid (show gt ≠ gr by rw [hg]; exact Nat.ne_of_lt (blk_lt K_gt.out)); replace K_ga := Lib.hid (K_ga.out.below hb); replace K_gt := Lib.hid (blk_below K_gt.out hb); have K_gr := Lib.hid (show Hb w_5 gr Ht.zero from H1); clear hg hb H1 hB_4; clear hu25 hu27))
  go_wp2_with (first | ((with_reducible refine gate_dst (N := 9) rfl ?_); (first | (refine gate_guard (by kernel_rfl) ?_) | skip); refine Kd.event_run rfl (v := .agg (h).cs) (w1 := w_5) ?hb ?_; (case hb => exact exec_load_hart rfl rfl K_ga.out)))
  refine (HM.out _).mono ?_
  rintro e_7 w_8 ⟨rfl, hb⟩
  have hB_9 := Lib.hid (below_step hB_6.out hb)
  replace K_ga := Lib.hid (K_ga.out.below hb)
  replace K_gr := Lib.hid (K_gr.out.below hb)
  clear hb hB_6
  have c_ga_61 := K_ga.out.u 61 rfl; have f_ga_61 := K_ga.out.fr 61
  go_wp2_with fail
  refine (HPUT.out (h.x 61) 4 (HWF.out 61) ⟨by decide, by decide⟩ _).mono ?_
  rintro e3 w3 ⟨rfl, n_, e3⟩
  clear c_ga_61 f_ga_61
  replace K_ga := Lib.hid (Hb.of e3.symm (K_ga.out.drewN n_))
  replace K_gr := Lib.hid (Hb.of e3.symm (K_gr.out.drewN n_))
  have hB_10 := Lib.hid (Below_of e3.symm (pw_below_drewN hB_9.out n_))
  clear e3 hB_9
  have c_ga_61 := K_ga.out.u 61 rfl; have f_ga_61 := K_ga.out.fr 61
  go_upto_region 100 with (fail)
  refine wp_region_list ?_
  refine load_hart (h := _) rfl (.tmp 4) rfl ga rfl (by repeat (with_reducible first | exact K_ga.out | apply Hb.put | apply Hb.putP | apply Hb.putV | apply Hb.putW | apply Hb.putH | apply Hb.far N_ga_gr.out | apply Hb.drewN | apply Hb.drew)) ?_
  refine store_hart rfl (.tmp 8) (.tmp 324) rfl gr _ rfl rfl Ht.zero (by repeat (with_reducible first | exact K_gr.out | apply Hb.put | apply Hb.putP | apply Hb.putV | apply Hb.putW | apply Hb.putH | apply Hb.far (Ne.symm N_ga_gr.out) | apply Hb.drewN | apply Hb.drew)) ?_
  go_wp2
  refine bodyPost_ret (results_cell_row rfl _ _ gr 25 _ (0, 0) _ rfl (Hb.putAll _ (by repeat (with_reducible first | exact K_gr.out | apply Hb.put | apply Hb.putP | apply Hb.putV | apply Hb.putW | apply Hb.putH | apply Hb.far (Ne.symm N_ga_gr.out) | apply Hb.drewN | apply Hb.drew))) Tryd.underlying25 rfl (by rw [Ht.size]; exact hartSize)) rfl ?_
  exact ⟨by first | (rw [← HZ.out]; done) | (rw [← HZ.out]; rfl), setCells_below G_gr.out _ _ _ (by repeat (first | (with_reducible first | exact hB_10.out | apply pw_below_drewN | apply below_drew1 | refine below_set ?_ G_ga.out | refine below_set ?_ G_gr.out) | exact hB_10.out))⟩
set_option maxHeartbeats 16000000 in
set_option maxRecDepth 100000 in
theorem rw_1605 (h : Ht) (hw : h.wf) (la lb lc ld : Bool) (lg lt : Int) (no v : Int) (hv : 0 ≤ v ∧ v < 18446744073709551616) (w : World) (hM : meantV h.v no = 1605) : Calls Tryd.prog 20 #[.agg h.cs, .agg #[.bool la, .bool lb, .bool lc, .bool ld, .int .u64 lg, .int .u64 lt], .int .i64 no, .int .u64 v] w fun e w' => e = .returned (.agg (writeV h no v).cs) ∧ Below w.heap.size w w' := by
  have HM := Lib.hid (rmeant_c h no)
  have HPUT := Lib.hid (fun (a m : Int) (ha : 0 ≤ a ∧ a < 18446744073709551616) (hm : 0 ≤ m ∧ m < 18446744073709551616) => rput_c ha hm hv)
  have HPUT2 := Lib.hid (fun (a m : Int) (ha : 0 ≤ a ∧ a < 18446744073709551616) (hm : 0 ≤ m ∧ m < 18446744073709551616) => rput_c ha hm (shl2_rng v))
  have HWF := Lib.hid hw.1; have HV := Lib.hid hv
  obtain ⟨z, hz⟩ : ∃ z, writeV h no v = z := ⟨_, rfl⟩
  rw [hz]
  unfold writeV at hz
  clear hw hv
  rw [hM] at HM hz
  clear hM
  have hz1 : h.set 61 (putV (h.x 61) 1092 v) = z := (wm_1605 h v).symm.trans hz
  have HZ := Lib.hid hz1
  clear hz hz1
  have hu25 := Tryd.underlying25; have hu27 := Tryd.underlying27
  go_enter Tryd.func20, Tryd.ntmps20
  go_upto_region 1 with (first | ((with_reducible refine gate_dst (N := 4) rfl ?_); refine box_event ?hg (N := 4) ?hd (cs := h.cs) (t := 25) ?hr ?_; (case hd => rfl); (case hg => rfl); (case hr => first | (go_simp; done) | (go_simp; rfl)); intro ga hg w_1 H1 hb; have hB_2 := Lib.hid (below_step (Below.refl w.heap.size w) hb); have G_ga := Lib.hid (show w.heap.size ≤ ga by rw [hg]; exact ((Below.refl w.heap.size w)).size); have K_ga := Lib.hid (show Hb w_1 ga h from H1); clear hg hb H1) | ((with_reducible refine gate_dst (N := 5) rfl ?_); refine box_event ?hg (N := 5) ?hd (cs := #[.bool la, .bool lb, .bool lc, .bool ld, .int .u64 lg, .int .u64 lt]) (t := 27) ?hr ?_; (case hd => rfl); (case hg => rfl); (case hr => first | (go_simp; done) | (go_simp; rfl)); intro gt hg w_3 H1 hb; have hB_4 := Lib.hid (below_step hB_2.out hb); have G_gt := Lib.hid (show w.heap.size ≤ gt by rw [hg]; exact (hB_2.out).size); have N_ga_gt := Lib.hid (show ga ≠ gt by rw [hg]; exact Nat.ne_of_lt (K_ga.out.lt)); replace K_ga := Lib.hid (K_ga.out.below hb); have K_gt := Lib.hid (show w_3.heap[gt]? = some (.cells #[.bool la, .bool lb, .bool lc, .bool ld, .int .u64 lg, .int .u64 lt] 27 (0, 0)) from H1); clear hg hb H1 hB_2) | ((with_reducible refine gate_dst (N := 8) rfl ?_); refine box_event ?hg (N := 8) ?hd (cs := Ht.zero.cs) (t := 25) ?hr ?_; (case hd => rfl); (case hg => rfl); (case hr => first | (go_simp; done) | (go_simp; rfl)); intro gr hg w_5 H1 hb; have hB_6 := Lib.hid (below_step hB_4.out hb); have G_gr := Lib.hid (show w.heap.size ≤ gr by rw [hg]; exact (hB_4.out).size); have N_ga_gr := Lib.hid (show ga ≠ gr by rw [hg]; exact Nat.ne_of_lt (K_ga.out.lt)); have N_gt_gr := Lib.hid (show gt ≠ gr by rw [hg]; exact Nat.ne_of_lt (blk_lt K_gt.out)); replace K_ga := Lib.hid (K_ga.out.below hb); replace K_gt := Lib.hid (blk_below K_gt.out hb); have K_gr := Lib.hid (show Hb w_5 gr Ht.zero from H1); clear hg hb H1 hB_4; clear hu25 hu27))
  go_wp2_with (first | ((with_reducible refine gate_dst (N := 9) rfl ?_); (first | (refine gate_guard (by kernel_rfl) ?_) | skip); refine Kd.event_run rfl (v := .agg (h).cs) (w1 := w_5) ?hb ?_; (case hb => exact exec_load_hart rfl rfl K_ga.out)))
  refine (HM.out _).mono ?_
  rintro e_7 w_8 ⟨rfl, hb⟩
  have hB_9 := Lib.hid (below_step hB_6.out hb)
  replace K_ga := Lib.hid (K_ga.out.below hb)
  replace K_gr := Lib.hid (K_gr.out.below hb)
  clear hb hB_6
  have c_ga_61 := K_ga.out.u 61 rfl; have f_ga_61 := K_ga.out.fr 61
  go_wp2_with fail
  refine (HPUT.out (h.x 61) 1092 (HWF.out 61) ⟨by decide, by decide⟩ _).mono ?_
  rintro e3 w3 ⟨rfl, n_, e3⟩
  clear c_ga_61 f_ga_61
  replace K_ga := Lib.hid (Hb.of e3.symm (K_ga.out.drewN n_))
  replace K_gr := Lib.hid (Hb.of e3.symm (K_gr.out.drewN n_))
  have hB_10 := Lib.hid (Below_of e3.symm (pw_below_drewN hB_9.out n_))
  clear e3 hB_9
  have c_ga_61 := K_ga.out.u 61 rfl; have f_ga_61 := K_ga.out.fr 61
  go_upto_region 100 with (fail)
  refine wp_region_list ?_
  refine load_hart (h := _) rfl (.tmp 4) rfl ga rfl (by repeat (with_reducible first | exact K_ga.out | apply Hb.put | apply Hb.putP | apply Hb.putV | apply Hb.putW | apply Hb.putH | apply Hb.far N_ga_gr.out | apply Hb.drewN | apply Hb.drew)) ?_
  refine store_hart rfl (.tmp 8) (.tmp 324) rfl gr _ rfl rfl Ht.zero (by repeat (with_reducible first | exact K_gr.out | apply Hb.put | apply Hb.putP | apply Hb.putV | apply Hb.putW | apply Hb.putH | apply Hb.far (Ne.symm N_ga_gr.out) | apply Hb.drewN | apply Hb.drew)) ?_
  go_wp2
  refine bodyPost_ret (results_cell_row rfl _ _ gr 25 _ (0, 0) _ rfl (Hb.putAll _ (by repeat (with_reducible first | exact K_gr.out | apply Hb.put | apply Hb.putP | apply Hb.putV | apply Hb.putW | apply Hb.putH | apply Hb.far (Ne.symm N_ga_gr.out) | apply Hb.drewN | apply Hb.drew))) Tryd.underlying25 rfl (by rw [Ht.size]; exact hartSize)) rfl ?_
  exact ⟨by first | (rw [← HZ.out]; done) | (rw [← HZ.out]; rfl), setCells_below G_gr.out _ _ _ (by repeat (first | (with_reducible first | exact hB_10.out | apply pw_below_drewN | apply below_drew1 | refine below_set ?_ G_ga.out | refine below_set ?_ G_gr.out) | exact hB_10.out))⟩
set_option maxHeartbeats 16000000 in
set_option maxRecDepth 100000 in
theorem rw_1610 (h : Ht) (hw : h.wf) (la lb lc ld : Bool) (lg lt : Int) (no v : Int) (hv : 0 ≤ v ∧ v < 18446744073709551616) (w : World) (hM : meantV h.v no = 1610) : Calls Tryd.prog 20 #[.agg h.cs, .agg #[.bool la, .bool lb, .bool lc, .bool ld, .int .u64 lg, .int .u64 lt], .int .i64 no, .int .u64 v] w fun e w' => e = .returned (.agg (writeV h no v).cs) ∧ Below w.heap.size w w' := by
  have HM := Lib.hid (rmeant_c h no)
  have HPUT := Lib.hid (fun (a m : Int) (ha : 0 ≤ a ∧ a < 18446744073709551616) (hm : 0 ≤ m ∧ m < 18446744073709551616) => rput_c ha hm hv)
  have HPUT2 := Lib.hid (fun (a m : Int) (ha : 0 ≤ a ∧ a < 18446744073709551616) (hm : 0 ≤ m ∧ m < 18446744073709551616) => rput_c ha hm (shl2_rng v))
  have HWF := Lib.hid hw.1; have HV := Lib.hid hv
  obtain ⟨z, hz⟩ : ∃ z, writeV h no v = z := ⟨_, rfl⟩
  rw [hz]
  unfold writeV at hz
  clear hw hv
  rw [hM] at HM hz
  clear hM
  have hz1 : h.set 65 v = z := by rw [← putV_all (h.x 65) HV.out]; exact (wm_1610 h v).symm.trans hz
  have HZ := Lib.hid hz1
  clear hz hz1
  have hu25 := Tryd.underlying25; have hu27 := Tryd.underlying27
  go_enter Tryd.func20, Tryd.ntmps20
  go_upto_region 1 with (first | ((with_reducible refine gate_dst (N := 4) rfl ?_); refine box_event ?hg (N := 4) ?hd (cs := h.cs) (t := 25) ?hr ?_; (case hd => rfl); (case hg => rfl); (case hr => first | (go_simp; done) | (go_simp; rfl)); intro ga hg w_1 H1 hb; have hB_2 := Lib.hid (below_step (Below.refl w.heap.size w) hb); have G_ga := Lib.hid (show w.heap.size ≤ ga by rw [hg]; exact ((Below.refl w.heap.size w)).size); have K_ga := Lib.hid (show Hb w_1 ga h from H1); clear hg hb H1) | ((with_reducible refine gate_dst (N := 5) rfl ?_); refine box_event ?hg (N := 5) ?hd (cs := #[.bool la, .bool lb, .bool lc, .bool ld, .int .u64 lg, .int .u64 lt]) (t := 27) ?hr ?_; (case hd => rfl); (case hg => rfl); (case hr => first | (go_simp; done) | (go_simp; rfl)); intro gt hg w_3 H1 hb; have hB_4 := Lib.hid (below_step hB_2.out hb); have G_gt := Lib.hid (show w.heap.size ≤ gt by rw [hg]; exact (hB_2.out).size); have N_ga_gt := Lib.hid (show ga ≠ gt by rw [hg]; exact Nat.ne_of_lt (K_ga.out.lt)); replace K_ga := Lib.hid (K_ga.out.below hb); have K_gt := Lib.hid (show w_3.heap[gt]? = some (.cells #[.bool la, .bool lb, .bool lc, .bool ld, .int .u64 lg, .int .u64 lt] 27 (0, 0)) from H1); clear hg hb H1 hB_2) | ((with_reducible refine gate_dst (N := 8) rfl ?_); refine box_event ?hg (N := 8) ?hd (cs := Ht.zero.cs) (t := 25) ?hr ?_; (case hd => rfl); (case hg => rfl); (case hr => first | (go_simp; done) | (go_simp; rfl)); intro gr hg w_5 H1 hb; have hB_6 := Lib.hid (below_step hB_4.out hb); have G_gr := Lib.hid (show w.heap.size ≤ gr by rw [hg]; exact (hB_4.out).size); have N_ga_gr := Lib.hid (show ga ≠ gr by rw [hg]; exact Nat.ne_of_lt (K_ga.out.lt)); have N_gt_gr := Lib.hid (show gt ≠ gr by rw [hg]; exact Nat.ne_of_lt (blk_lt K_gt.out)); replace K_ga := Lib.hid (K_ga.out.below hb); replace K_gt := Lib.hid (blk_below K_gt.out hb); have K_gr := Lib.hid (show Hb w_5 gr Ht.zero from H1); clear hg hb H1 hB_4; clear hu25 hu27))
  go_wp2_with (first | ((with_reducible refine gate_dst (N := 9) rfl ?_); (first | (refine gate_guard (by kernel_rfl) ?_) | skip); refine Kd.event_run rfl (v := .agg (h).cs) (w1 := w_5) ?hb ?_; (case hb => exact exec_load_hart rfl rfl K_ga.out)))
  refine (HM.out _).mono ?_
  rintro e_7 w_8 ⟨rfl, hb⟩
  have hB_9 := Lib.hid (below_step hB_6.out hb)
  replace K_ga := Lib.hid (K_ga.out.below hb)
  replace K_gr := Lib.hid (K_gr.out.below hb)
  clear hb hB_6
  have c_ga_65 := K_ga.out.u 65 rfl; have f_ga_65 := K_ga.out.fr 65
  go_upto_region 100 with (fail)
  refine wp_region_list ?_
  refine load_hart (h := _) rfl (.tmp 4) rfl ga rfl (by repeat (with_reducible first | exact K_ga.out | apply Hb.put | apply Hb.putP | apply Hb.putV | apply Hb.putW | apply Hb.putH | apply Hb.far N_ga_gr.out | apply Hb.drewN | apply Hb.drew)) ?_
  refine store_hart rfl (.tmp 8) (.tmp 324) rfl gr _ rfl rfl Ht.zero (by repeat (with_reducible first | exact K_gr.out | apply Hb.put | apply Hb.putP | apply Hb.putV | apply Hb.putW | apply Hb.putH | apply Hb.far (Ne.symm N_ga_gr.out) | apply Hb.drewN | apply Hb.drew)) ?_
  go_wp2
  refine bodyPost_ret (results_cell_row rfl _ _ gr 25 _ (0, 0) _ rfl (Hb.putAll _ (by repeat (with_reducible first | exact K_gr.out | apply Hb.put | apply Hb.putP | apply Hb.putV | apply Hb.putW | apply Hb.putH | apply Hb.far (Ne.symm N_ga_gr.out) | apply Hb.drewN | apply Hb.drew))) Tryd.underlying25 rfl (by rw [Ht.size]; exact hartSize)) rfl ?_
  exact ⟨by first | (rw [← HZ.out]; done) | (rw [← HZ.out]; rfl), setCells_below G_gr.out _ _ _ (by repeat (first | (with_reducible first | exact hB_9.out | apply pw_below_drewN | apply below_drew1 | refine below_set ?_ G_ga.out | refine below_set ?_ G_gr.out) | exact hB_9.out))⟩
set_option maxHeartbeats 16000000 in
set_option maxRecDepth 100000 in
theorem rw_1664 (h : Ht) (hw : h.wf) (la lb lc ld : Bool) (lg lt : Int) (no v : Int) (hv : 0 ≤ v ∧ v < 18446744073709551616) (w : World) (hM : meantV h.v no = 1664) : Calls Tryd.prog 20 #[.agg h.cs, .agg #[.bool la, .bool lb, .bool lc, .bool ld, .int .u64 lg, .int .u64 lt], .int .i64 no, .int .u64 v] w fun e w' => e = .returned (.agg (writeV h no v).cs) ∧ Below w.heap.size w w' := by
  have HM := Lib.hid (rmeant_c h no)
  have HPUT := Lib.hid (fun (a m : Int) (ha : 0 ≤ a ∧ a < 18446744073709551616) (hm : 0 ≤ m ∧ m < 18446744073709551616) => rput_c ha hm hv)
  have HPUT2 := Lib.hid (fun (a m : Int) (ha : 0 ≤ a ∧ a < 18446744073709551616) (hm : 0 ≤ m ∧ m < 18446744073709551616) => rput_c ha hm (shl2_rng v))
  have HWF := Lib.hid hw.1; have HV := Lib.hid hv
  obtain ⟨z, hz⟩ : ∃ z, writeV h no v = z := ⟨_, rfl⟩
  rw [hz]
  unfold writeV at hz
  clear hw hv
  rw [hM] at HM hz
  clear hM
  rw [wm_1664] at hz
  have hmo := rmode_c v
  cases hmv : modeV v
  · rw [hmv] at hmo hz
    have HMO := Lib.hid hmo
    have hz1 : h = z := hz
    have HZ := Lib.hid hz1
    clear hz hz1
    clear hmo hmv
    have hu25 := Tryd.underlying25; have hu27 := Tryd.underlying27
    go_enter Tryd.func20, Tryd.ntmps20
    go_upto_region 1 with (first | ((with_reducible refine gate_dst (N := 4) rfl ?_); refine box_event ?hg (N := 4) ?hd (cs := h.cs) (t := 25) ?hr ?_; (case hd => rfl); (case hg => rfl); (case hr => first | (go_simp; done) | (go_simp; rfl)); intro ga hg w_1 H1 hb; have hB_2 := Lib.hid (below_step (Below.refl w.heap.size w) hb); have G_ga := Lib.hid (show w.heap.size ≤ ga by rw [hg]; exact ((Below.refl w.heap.size w)).size); have K_ga := Lib.hid (show Hb w_1 ga h from H1); clear hg hb H1) | ((with_reducible refine gate_dst (N := 5) rfl ?_); refine box_event ?hg (N := 5) ?hd (cs := #[.bool la, .bool lb, .bool lc, .bool ld, .int .u64 lg, .int .u64 lt]) (t := 27) ?hr ?_; (case hd => rfl); (case hg => rfl); (case hr => first | (go_simp; done) | (go_simp; rfl)); intro gt hg w_3 H1 hb; have hB_4 := Lib.hid (below_step hB_2.out hb); have G_gt := Lib.hid (show w.heap.size ≤ gt by rw [hg]; exact (hB_2.out).size); have N_ga_gt := Lib.hid (show ga ≠ gt by rw [hg]; exact Nat.ne_of_lt (K_ga.out.lt)); replace K_ga := Lib.hid (K_ga.out.below hb); have K_gt := Lib.hid (show w_3.heap[gt]? = some (.cells #[.bool la, .bool lb, .bool lc, .bool ld, .int .u64 lg, .int .u64 lt] 27 (0, 0)) from H1); clear hg hb H1 hB_2) | ((with_reducible refine gate_dst (N := 8) rfl ?_); refine box_event ?hg (N := 8) ?hd (cs := Ht.zero.cs) (t := 25) ?hr ?_; (case hd => rfl); (case hg => rfl); (case hr => first | (go_simp; done) | (go_simp; rfl)); intro gr hg w_5 H1 hb; have hB_6 := Lib.hid (below_step hB_4.out hb); have G_gr := Lib.hid (show w.heap.size ≤ gr by rw [hg]; exact (hB_4.out).size); have N_ga_gr := Lib.hid (show ga ≠ gr by rw [hg]; exact Nat.ne_of_lt (K_ga.out.lt)); have N_gt_gr := Lib.hid (show gt ≠ gr by rw [hg]; exact Nat.ne_of_lt (blk_lt K_gt.out)); replace K_ga := Lib.hid (K_ga.out.below hb); replace K_gt := Lib.hid (blk_below K_gt.out hb); have K_gr := Lib.hid (show Hb w_5 gr Ht.zero from H1); clear hg hb H1 hB_4; clear hu25 hu27))
    go_wp2_with (first | ((with_reducible refine gate_dst (N := 9) rfl ?_); (first | (refine gate_guard (by kernel_rfl) ?_) | skip); refine Kd.event_run rfl (v := .agg (h).cs) (w1 := w_5) ?hb ?_; (case hb => exact exec_load_hart rfl rfl K_ga.out)))
    refine (HM.out _).mono ?_
    rintro e_7 w_8 ⟨rfl, hb⟩
    have hB_9 := Lib.hid (below_step hB_6.out hb)
    replace K_ga := Lib.hid (K_ga.out.below hb)
    replace K_gr := Lib.hid (K_gr.out.below hb)
    clear hb hB_6
    have c_ga_66 := K_ga.out.u 66 rfl; have f_ga_66 := K_ga.out.fr 66
    go_wp2_with fail
    refine (HMO.out _).mono ?_
    rintro e3 w3 ⟨rfl, n_, e3⟩
    clear c_ga_66 f_ga_66
    replace K_ga := Lib.hid (Hb.of e3.symm (K_ga.out.drewN n_))
    replace K_gr := Lib.hid (Hb.of e3.symm (K_gr.out.drewN n_))
    have hB_10 := Lib.hid (Below_of e3.symm (pw_below_drewN hB_9.out n_))
    clear e3 hB_9
    have c_ga_66 := K_ga.out.u 66 rfl; have f_ga_66 := K_ga.out.fr 66
    go_upto_region 100 with (fail)
    refine wp_region_list ?_
    refine load_hart (h := _) rfl (.tmp 4) rfl ga rfl (by repeat (with_reducible first | exact K_ga.out | apply Hb.put | apply Hb.putP | apply Hb.putV | apply Hb.putW | apply Hb.putH | apply Hb.far N_ga_gr.out | apply Hb.drewN | apply Hb.drew)) ?_
    refine store_hart rfl (.tmp 8) (.tmp 324) rfl gr _ rfl rfl Ht.zero (by repeat (with_reducible first | exact K_gr.out | apply Hb.put | apply Hb.putP | apply Hb.putV | apply Hb.putW | apply Hb.putH | apply Hb.far (Ne.symm N_ga_gr.out) | apply Hb.drewN | apply Hb.drew)) ?_
    go_wp2
    refine bodyPost_ret (results_cell_row rfl _ _ gr 25 _ (0, 0) _ rfl (Hb.putAll _ (by repeat (with_reducible first | exact K_gr.out | apply Hb.put | apply Hb.putP | apply Hb.putV | apply Hb.putW | apply Hb.putH | apply Hb.far (Ne.symm N_ga_gr.out) | apply Hb.drewN | apply Hb.drew))) Tryd.underlying25 rfl (by rw [Ht.size]; exact hartSize)) rfl ?_
    exact ⟨by first | (rw [← HZ.out]; done) | (rw [← HZ.out]; rfl), setCells_below G_gr.out _ _ _ (by repeat (first | (with_reducible first | exact hB_10.out | apply pw_below_drewN | apply below_drew1 | refine below_set ?_ G_ga.out | refine below_set ?_ G_gr.out) | exact hB_10.out))⟩
  · rw [hmv] at hmo hz
    have HMO := Lib.hid hmo
    have hz1 : h.set 66 (putV (h.x 66) 17582052945254416380 v) = z := hz
    have HZ := Lib.hid hz1
    clear hz hz1
    clear hmo hmv
    have hu25 := Tryd.underlying25; have hu27 := Tryd.underlying27
    go_enter Tryd.func20, Tryd.ntmps20
    go_upto_region 1 with (first | ((with_reducible refine gate_dst (N := 4) rfl ?_); refine box_event ?hg (N := 4) ?hd (cs := h.cs) (t := 25) ?hr ?_; (case hd => rfl); (case hg => rfl); (case hr => first | (go_simp; done) | (go_simp; rfl)); intro ga hg w_1 H1 hb; have hB_2 := Lib.hid (below_step (Below.refl w.heap.size w) hb); have G_ga := Lib.hid (show w.heap.size ≤ ga by rw [hg]; exact ((Below.refl w.heap.size w)).size); have K_ga := Lib.hid (show Hb w_1 ga h from H1); clear hg hb H1) | ((with_reducible refine gate_dst (N := 5) rfl ?_); refine box_event ?hg (N := 5) ?hd (cs := #[.bool la, .bool lb, .bool lc, .bool ld, .int .u64 lg, .int .u64 lt]) (t := 27) ?hr ?_; (case hd => rfl); (case hg => rfl); (case hr => first | (go_simp; done) | (go_simp; rfl)); intro gt hg w_3 H1 hb; have hB_4 := Lib.hid (below_step hB_2.out hb); have G_gt := Lib.hid (show w.heap.size ≤ gt by rw [hg]; exact (hB_2.out).size); have N_ga_gt := Lib.hid (show ga ≠ gt by rw [hg]; exact Nat.ne_of_lt (K_ga.out.lt)); replace K_ga := Lib.hid (K_ga.out.below hb); have K_gt := Lib.hid (show w_3.heap[gt]? = some (.cells #[.bool la, .bool lb, .bool lc, .bool ld, .int .u64 lg, .int .u64 lt] 27 (0, 0)) from H1); clear hg hb H1 hB_2) | ((with_reducible refine gate_dst (N := 8) rfl ?_); refine box_event ?hg (N := 8) ?hd (cs := Ht.zero.cs) (t := 25) ?hr ?_; (case hd => rfl); (case hg => rfl); (case hr => first | (go_simp; done) | (go_simp; rfl)); intro gr hg w_5 H1 hb; have hB_6 := Lib.hid (below_step hB_4.out hb); have G_gr := Lib.hid (show w.heap.size ≤ gr by rw [hg]; exact (hB_4.out).size); have N_ga_gr := Lib.hid (show ga ≠ gr by rw [hg]; exact Nat.ne_of_lt (K_ga.out.lt)); have N_gt_gr := Lib.hid (show gt ≠ gr by rw [hg]; exact Nat.ne_of_lt (blk_lt K_gt.out)); replace K_ga := Lib.hid (K_ga.out.below hb); replace K_gt := Lib.hid (blk_below K_gt.out hb); have K_gr := Lib.hid (show Hb w_5 gr Ht.zero from H1); clear hg hb H1 hB_4; clear hu25 hu27))
    go_wp2_with (first | ((with_reducible refine gate_dst (N := 9) rfl ?_); (first | (refine gate_guard (by kernel_rfl) ?_) | skip); refine Kd.event_run rfl (v := .agg (h).cs) (w1 := w_5) ?hb ?_; (case hb => exact exec_load_hart rfl rfl K_ga.out)))
    refine (HM.out _).mono ?_
    rintro e_7 w_8 ⟨rfl, hb⟩
    have hB_9 := Lib.hid (below_step hB_6.out hb)
    replace K_ga := Lib.hid (K_ga.out.below hb)
    replace K_gr := Lib.hid (K_gr.out.below hb)
    clear hb hB_6
    have c_ga_66 := K_ga.out.u 66 rfl; have f_ga_66 := K_ga.out.fr 66
    go_wp2_with fail
    refine (HMO.out _).mono ?_
    rintro e3 w3 ⟨rfl, n_, e3⟩
    clear c_ga_66 f_ga_66
    replace K_ga := Lib.hid (Hb.of e3.symm (K_ga.out.drewN n_))
    replace K_gr := Lib.hid (Hb.of e3.symm (K_gr.out.drewN n_))
    have hB_10 := Lib.hid (Below_of e3.symm (pw_below_drewN hB_9.out n_))
    clear e3 hB_9
    have c_ga_66 := K_ga.out.u 66 rfl; have f_ga_66 := K_ga.out.fr 66
    go_upto_region 95 with (fail)
    refine start_ (n := 7) (S := fun w' => w'.cell? ⟨ga, 66, none⟩ = some (.int .u64 (h.x 66))) (ds := [6]) #[false, false, false, false, false, false, false] (by kernel_rfl) rfl rfl ((show World.cell? _ ⟨ga, 66, none⟩ = some (.int .u64 (h.x 66)) by first | (go_simp; done) | (go_simp; rfl))) (fun hHeld => ?_)
    have HH0 := Lib.hid hHeld
    clear hHeld
    refine world_any ga (by repeat (with_reducible first | exact K_ga.out | apply Hb.put | apply Hb.putP | apply Hb.putV | apply Hb.putW | apply Hb.putH | apply Hb.far N_ga_gr.out | apply Hb.drewN | apply Hb.drew)) (fun w' => Below w.heap.size w w' ∧ Hb w' gr Ht.zero ∧ (w'.cell? ⟨ga, 66, none⟩ = some (.int .u64 (h.x 66)))) ⟨(by repeat (first | (with_reducible first | exact hB_10.out | apply pw_below_drewN | apply below_drew1 | refine below_set ?_ G_ga.out | refine below_set ?_ G_gr.out) | exact hB_10.out)), (by repeat (with_reducible first | exact K_gr.out | apply Hb.put | apply Hb.putP | apply Hb.putV | apply Hb.putW | apply Hb.putH | apply Hb.far (Ne.symm N_ga_gr.out) | apply Hb.drewN | apply Hb.drew)), HH0.out⟩ ?_
    clear HH0
    clear c_ga_66 f_ga_66
    clear K_ga K_gr hB_10
    rintro w_11 q_ ⟨b_, q_gr, hHeld⟩
    have K_ga := Lib.hid q_; have hB_12 := Lib.hid b_; have K_gr := Lib.hid q_gr
    clear q_ b_ q_gr
    refine pure_ (i := 0) (N := some 310) (v := ?_) (a' := ?_) #[true, false, false, false, false, false, false] rfl rfl (by kernel_rfl) (fun _ _ _ h => h) (Or.inl ⟨by rfl, ?_⟩) ?_ ?_
    rotate_left
    · intro w'
      go_simp
      with_reducible rfl
    rotate_left
    · simp only [Act.put, List.setIfInBounds_toArray, List.set_cons_zero, List.set_cons_succ, i64_w, i32_w]
      rfl
    refine pure_ (i := 3) (N := some 313) (v := ?_) (a' := ?_) #[true, false, false, true, false, false, false] rfl rfl (by kernel_rfl) (fun _ _ _ h => h) (Or.inl ⟨by rfl, ?_⟩) ?_ ?_
    rotate_left
    · intro w'
      go_simp
      with_reducible rfl
    rotate_left
    · simp only [Act.put, List.setIfInBounds_toArray, List.set_cons_zero, List.set_cons_succ, i64_w, i32_w]
      rfl
    refine take_ (i := 1) (N := some 311) (v := ?_) (a' := ?_) #[true, true, false, true, false, false, false] rfl rfl (by kernel_rfl) (fun _ _ _ h => h) (Or.inl ⟨by rfl, ?_⟩) hHeld ?_ ?_
    rotate_left
    · intro w' s0
      go_simp
      with_reducible rfl
    rotate_left
    · simp only [Act.put, List.setIfInBounds_toArray, List.set_cons_zero, List.set_cons_succ, i64_w, i32_w]
      rfl
    have HH := Lib.hid hHeld
    clear hHeld
    refine one_ (i := 2) (N := some 312) #[true, true, true, true, false, false, false] rfl rfl (by kernel_rfl) (by decide) (fun K hK => ?_)
    refine goes_ Tryd.func36 (by kernel_rfl) rfl #[.int .u64 864691128455135235] (by rfl) rfl rfl (by simp only [List.map_toArray, List.map_cons, List.map_nil]; rfl) ?_
    with_reducible refine (but_v _).mono ?_
    rintro e_ w_ ⟨rfl, ⟨n_, rfl⟩⟩
    refine ⟨_, rfl, ?_⟩
    have q_ := Lib.hid (Hb.drewN n_ K_ga.out)
    have hB_14 := Lib.hid (pw_below_drewN hB_12.out n_)
    have q_gr := Lib.hid (Hb.drewN n_ K_gr.out)
    have s_0 := (cell_drewN n_ HH.out)
    clear HH K_ga K_gr hB_12
    generalize World.drewN w_11 n_ = w_13 at q_ hB_14 q_gr s_0 ⊢
    have K_ga := q_; clear q_
    have K_gr := q_gr; clear q_gr
    refine hK.out _ _ (s_0) (fun hHeld => ?_)
    have HH := Lib.hid hHeld
    clear hHeld s_0
    clear hK K
    refine norm_ (a' := ?_) ?_ ?_
    rotate_left
    · show Act.put _ (some 312) _ = _
      simp only [Act.put, List.setIfInBounds_toArray, List.set_cons_zero, List.set_cons_succ, i64_w, i32_w]
      rfl
    refine one_ (i := 4) (N := some 314) #[true, true, true, true, true, false, false] rfl rfl (by kernel_rfl) (by decide) (fun K hK => ?_)
    refine goes_ Tryd.func35 (by kernel_rfl) rfl #[.int .u64 (h.x 66), .int .u64 17582052945254416380, .int .u64 v] (by rfl) rfl rfl (by simp only [List.map_toArray, List.map_cons, List.map_nil]; rfl) ?_
    with_reducible refine (HPUT.out (h.x 66) 17582052945254416380 (HWF.out 66) ⟨by decide, by decide⟩ _).mono ?_
    rintro e_ w_ ⟨rfl, ⟨n_, rfl⟩⟩
    refine ⟨_, rfl, ?_⟩
    have q_ := Lib.hid (Hb.drewN n_ K_ga.out)
    have hB_16 := Lib.hid (pw_below_drewN hB_14.out n_)
    have q_gr := Lib.hid (Hb.drewN n_ K_gr.out)
    have s_0 := (cell_drewN n_ HH.out)
    clear HH K_ga K_gr hB_14
    generalize World.drewN w_13 n_ = w_15 at q_ hB_16 q_gr s_0 ⊢
    have K_ga := q_; clear q_
    have K_gr := q_gr; clear q_gr
    refine hK.out _ _ (s_0) (fun hHeld => ?_)
    have HH := Lib.hid hHeld
    clear hHeld s_0
    clear hK K
    refine norm_ (a' := ?_) ?_ ?_
    rotate_left
    · show Act.put _ (some 314) _ = _
      simp only [Act.put, List.setIfInBounds_toArray, List.set_cons_zero, List.set_cons_succ, i64_w, i32_w]
      rfl
    refine pure_ (i := 5) (N := some 315) (v := ?_) (a' := ?_) #[true, true, true, true, true, true, false] rfl rfl (by kernel_rfl) (fun _ _ _ h => h) (Or.inl ⟨by rfl, ?_⟩) ?_ ?_
    rotate_left
    · intro w'
      go_simp
      with_reducible rfl
    rotate_left
    · simp only [Act.put, List.setIfInBounds_toArray, List.set_cons_zero, List.set_cons_succ, i64_w, i32_w]
      rfl
    refine last_ (i := 6) (N := none) #[true, true, true, true, true, true, true] rfl rfl (by kernel_rfl) (by decide) (fun K hK => ?_)
    refine skipH (h := _) (v := .int .u64 (putV (h.x 66) 17582052945254416380 v)) (by rfl) rfl rfl rfl rfl (by kernel_rfl) rfl rfl K_ga.out (by decide) ?_
    have q_ := Lib.hid (Hb.put 66 ((putV (h.x 66) 17582052945254416380 v)) K_ga.out)
    have hB_18 := Lib.hid (below_set (j := 66) (v := (.int .u64 (putV (h.x 66) 17582052945254416380 v))) hB_16.out G_ga.out)
    have q_gr := Lib.hid (Hb.far (j := 66) (u := (.int .u64 (putV (h.x 66) 17582052945254416380 v))) (Ne.symm N_ga_gr.out) K_gr.out)
    clear HH K_ga K_gr hB_16
    generalize World.setCell w_15 ⟨ga, 66, none⟩ (.int .u64 (putV (h.x 66) 17582052945254416380 v)) = w_17 at q_ hB_18 q_gr ⊢
    have K_ga := q_; clear q_
    have K_gr := q_gr; clear q_gr
    refine hK.out _ _ ?_
    clear hK K
    refine done_ (by kernel_rfl) ?_
    try clear HH
    go_upto_region 100 with (fail)
    refine wp_region_list ?_
    refine load_hart (h := _) rfl (.tmp 4) rfl ga rfl (by repeat (with_reducible first | exact K_ga.out | apply Hb.put | apply Hb.putP | apply Hb.putV | apply Hb.putW | apply Hb.putH | apply Hb.far N_ga_gr.out | apply Hb.drewN | apply Hb.drew)) ?_
    refine store_hart rfl (.tmp 8) (.tmp 324) rfl gr _ rfl rfl Ht.zero (by repeat (with_reducible first | exact K_gr.out | apply Hb.put | apply Hb.putP | apply Hb.putV | apply Hb.putW | apply Hb.putH | apply Hb.far (Ne.symm N_ga_gr.out) | apply Hb.drewN | apply Hb.drew)) ?_
    go_wp2
    refine bodyPost_ret (results_cell_row rfl _ _ gr 25 _ (0, 0) _ rfl (Hb.putAll _ (by repeat (with_reducible first | exact K_gr.out | apply Hb.put | apply Hb.putP | apply Hb.putV | apply Hb.putW | apply Hb.putH | apply Hb.far (Ne.symm N_ga_gr.out) | apply Hb.drewN | apply Hb.drew))) Tryd.underlying25 rfl (by rw [Ht.size]; exact hartSize)) rfl ?_
    exact ⟨by first | (rw [← HZ.out]; done) | (rw [← HZ.out]; rfl), setCells_below G_gr.out _ _ _ (by repeat (first | (with_reducible first | exact hB_18.out | apply pw_below_drewN | apply below_drew1 | refine below_set ?_ G_ga.out | refine below_set ?_ G_gr.out) | exact hB_18.out))⟩
set_option maxHeartbeats 16000000 in
set_option maxRecDepth 100000 in
theorem rw_2816 (h : Ht) (hw : h.wf) (la lb lc ld : Bool) (lg lt : Int) (no v : Int) (hv : 0 ≤ v ∧ v < 18446744073709551616) (w : World) (hM : meantV h.v no = 2816) : Calls Tryd.prog 20 #[.agg h.cs, .agg #[.bool la, .bool lb, .bool lc, .bool ld, .int .u64 lg, .int .u64 lt], .int .i64 no, .int .u64 v] w fun e w' => e = .returned (.agg (writeV h no v).cs) ∧ Below w.heap.size w w' := by
  have HM := Lib.hid (rmeant_c h no)
  have HPUT := Lib.hid (fun (a m : Int) (ha : 0 ≤ a ∧ a < 18446744073709551616) (hm : 0 ≤ m ∧ m < 18446744073709551616) => rput_c ha hm hv)
  have HPUT2 := Lib.hid (fun (a m : Int) (ha : 0 ≤ a ∧ a < 18446744073709551616) (hm : 0 ≤ m ∧ m < 18446744073709551616) => rput_c ha hm (shl2_rng v))
  have HWF := Lib.hid hw.1; have HV := Lib.hid hv
  obtain ⟨z, hz⟩ : ∃ z, writeV h no v = z := ⟨_, rfl⟩
  rw [hz]
  unfold writeV at hz
  clear hw hv
  rw [hM] at HM hz
  clear hM
  have hz1 : h.set 75 v = z := by rw [← putV_all (h.x 75) HV.out]; exact (wm_2816 h v).symm.trans hz
  have HZ := Lib.hid hz1
  clear hz hz1
  have hu25 := Tryd.underlying25; have hu27 := Tryd.underlying27
  go_enter Tryd.func20, Tryd.ntmps20
  go_upto_region 1 with (first | ((with_reducible refine gate_dst (N := 4) rfl ?_); refine box_event ?hg (N := 4) ?hd (cs := h.cs) (t := 25) ?hr ?_; (case hd => rfl); (case hg => rfl); (case hr => first | (go_simp; done) | (go_simp; rfl)); intro ga hg w_1 H1 hb; have hB_2 := Lib.hid (below_step (Below.refl w.heap.size w) hb); have G_ga := Lib.hid (show w.heap.size ≤ ga by rw [hg]; exact ((Below.refl w.heap.size w)).size); have K_ga := Lib.hid (show Hb w_1 ga h from H1); clear hg hb H1) | ((with_reducible refine gate_dst (N := 5) rfl ?_); refine box_event ?hg (N := 5) ?hd (cs := #[.bool la, .bool lb, .bool lc, .bool ld, .int .u64 lg, .int .u64 lt]) (t := 27) ?hr ?_; (case hd => rfl); (case hg => rfl); (case hr => first | (go_simp; done) | (go_simp; rfl)); intro gt hg w_3 H1 hb; have hB_4 := Lib.hid (below_step hB_2.out hb); have G_gt := Lib.hid (show w.heap.size ≤ gt by rw [hg]; exact (hB_2.out).size); have N_ga_gt := Lib.hid (show ga ≠ gt by rw [hg]; exact Nat.ne_of_lt (K_ga.out.lt)); replace K_ga := Lib.hid (K_ga.out.below hb); have K_gt := Lib.hid (show w_3.heap[gt]? = some (.cells #[.bool la, .bool lb, .bool lc, .bool ld, .int .u64 lg, .int .u64 lt] 27 (0, 0)) from H1); clear hg hb H1 hB_2) | ((with_reducible refine gate_dst (N := 8) rfl ?_); refine box_event ?hg (N := 8) ?hd (cs := Ht.zero.cs) (t := 25) ?hr ?_; (case hd => rfl); (case hg => rfl); (case hr => first | (go_simp; done) | (go_simp; rfl)); intro gr hg w_5 H1 hb; have hB_6 := Lib.hid (below_step hB_4.out hb); have G_gr := Lib.hid (show w.heap.size ≤ gr by rw [hg]; exact (hB_4.out).size); have N_ga_gr := Lib.hid (show ga ≠ gr by rw [hg]; exact Nat.ne_of_lt (K_ga.out.lt)); have N_gt_gr := Lib.hid (show gt ≠ gr by rw [hg]; exact Nat.ne_of_lt (blk_lt K_gt.out)); replace K_ga := Lib.hid (K_ga.out.below hb); replace K_gt := Lib.hid (blk_below K_gt.out hb); have K_gr := Lib.hid (show Hb w_5 gr Ht.zero from H1); clear hg hb H1 hB_4; clear hu25 hu27))
  go_wp2_with (first | ((with_reducible refine gate_dst (N := 9) rfl ?_); (first | (refine gate_guard (by kernel_rfl) ?_) | skip); refine Kd.event_run rfl (v := .agg (h).cs) (w1 := w_5) ?hb ?_; (case hb => exact exec_load_hart rfl rfl K_ga.out)))
  refine (HM.out _).mono ?_
  rintro e_7 w_8 ⟨rfl, hb⟩
  have hB_9 := Lib.hid (below_step hB_6.out hb)
  replace K_ga := Lib.hid (K_ga.out.below hb)
  replace K_gr := Lib.hid (K_gr.out.below hb)
  clear hb hB_6
  have c_ga_75 := K_ga.out.u 75 rfl; have f_ga_75 := K_ga.out.fr 75
  go_upto_region 100 with (fail)
  refine wp_region_list ?_
  refine load_hart (h := _) rfl (.tmp 4) rfl ga rfl (by repeat (with_reducible first | exact K_ga.out | apply Hb.put | apply Hb.putP | apply Hb.putV | apply Hb.putW | apply Hb.putH | apply Hb.far N_ga_gr.out | apply Hb.drewN | apply Hb.drew)) ?_
  refine store_hart rfl (.tmp 8) (.tmp 324) rfl gr _ rfl rfl Ht.zero (by repeat (with_reducible first | exact K_gr.out | apply Hb.put | apply Hb.putP | apply Hb.putV | apply Hb.putW | apply Hb.putH | apply Hb.far (Ne.symm N_ga_gr.out) | apply Hb.drewN | apply Hb.drew)) ?_
  go_wp2
  refine bodyPost_ret (results_cell_row rfl _ _ gr 25 _ (0, 0) _ rfl (Hb.putAll _ (by repeat (with_reducible first | exact K_gr.out | apply Hb.put | apply Hb.putP | apply Hb.putV | apply Hb.putW | apply Hb.putH | apply Hb.far (Ne.symm N_ga_gr.out) | apply Hb.drewN | apply Hb.drew))) Tryd.underlying25 rfl (by rw [Ht.size]; exact hartSize)) rfl ?_
  exact ⟨by first | (rw [← HZ.out]; done) | (rw [← HZ.out]; rfl), setCells_below G_gr.out _ _ _ (by repeat (first | (with_reducible first | exact hB_9.out | apply pw_below_drewN | apply below_drew1 | refine below_set ?_ G_ga.out | refine below_set ?_ G_gr.out) | exact hB_9.out))⟩
set_option maxHeartbeats 16000000 in
set_option maxRecDepth 100000 in
theorem rw_2818 (h : Ht) (hw : h.wf) (la lb lc ld : Bool) (lg lt : Int) (no v : Int) (hv : 0 ≤ v ∧ v < 18446744073709551616) (w : World) (hM : meantV h.v no = 2818) : Calls Tryd.prog 20 #[.agg h.cs, .agg #[.bool la, .bool lb, .bool lc, .bool ld, .int .u64 lg, .int .u64 lt], .int .i64 no, .int .u64 v] w fun e w' => e = .returned (.agg (writeV h no v).cs) ∧ Below w.heap.size w w' := by
  have HM := Lib.hid (rmeant_c h no)
  have HPUT := Lib.hid (fun (a m : Int) (ha : 0 ≤ a ∧ a < 18446744073709551616) (hm : 0 ≤ m ∧ m < 18446744073709551616) => rput_c ha hm hv)
  have HPUT2 := Lib.hid (fun (a m : Int) (ha : 0 ≤ a ∧ a < 18446744073709551616) (hm : 0 ≤ m ∧ m < 18446744073709551616) => rput_c ha hm (shl2_rng v))
  have HWF := Lib.hid hw.1; have HV := Lib.hid hv
  obtain ⟨z, hz⟩ : ∃ z, writeV h no v = z := ⟨_, rfl⟩
  rw [hz]
  unfold writeV at hz
  clear hw hv
  rw [hM] at HM hz
  clear hM
  have hz1 : h.set 76 v = z := by rw [← putV_all (h.x 76) HV.out]; exact (wm_2818 h v).symm.trans hz
  have HZ := Lib.hid hz1
  clear hz hz1
  have hu25 := Tryd.underlying25; have hu27 := Tryd.underlying27
  go_enter Tryd.func20, Tryd.ntmps20
  go_upto_region 1 with (first | ((with_reducible refine gate_dst (N := 4) rfl ?_); refine box_event ?hg (N := 4) ?hd (cs := h.cs) (t := 25) ?hr ?_; (case hd => rfl); (case hg => rfl); (case hr => first | (go_simp; done) | (go_simp; rfl)); intro ga hg w_1 H1 hb; have hB_2 := Lib.hid (below_step (Below.refl w.heap.size w) hb); have G_ga := Lib.hid (show w.heap.size ≤ ga by rw [hg]; exact ((Below.refl w.heap.size w)).size); have K_ga := Lib.hid (show Hb w_1 ga h from H1); clear hg hb H1) | ((with_reducible refine gate_dst (N := 5) rfl ?_); refine box_event ?hg (N := 5) ?hd (cs := #[.bool la, .bool lb, .bool lc, .bool ld, .int .u64 lg, .int .u64 lt]) (t := 27) ?hr ?_; (case hd => rfl); (case hg => rfl); (case hr => first | (go_simp; done) | (go_simp; rfl)); intro gt hg w_3 H1 hb; have hB_4 := Lib.hid (below_step hB_2.out hb); have G_gt := Lib.hid (show w.heap.size ≤ gt by rw [hg]; exact (hB_2.out).size); have N_ga_gt := Lib.hid (show ga ≠ gt by rw [hg]; exact Nat.ne_of_lt (K_ga.out.lt)); replace K_ga := Lib.hid (K_ga.out.below hb); have K_gt := Lib.hid (show w_3.heap[gt]? = some (.cells #[.bool la, .bool lb, .bool lc, .bool ld, .int .u64 lg, .int .u64 lt] 27 (0, 0)) from H1); clear hg hb H1 hB_2) | ((with_reducible refine gate_dst (N := 8) rfl ?_); refine box_event ?hg (N := 8) ?hd (cs := Ht.zero.cs) (t := 25) ?hr ?_; (case hd => rfl); (case hg => rfl); (case hr => first | (go_simp; done) | (go_simp; rfl)); intro gr hg w_5 H1 hb; have hB_6 := Lib.hid (below_step hB_4.out hb); have G_gr := Lib.hid (show w.heap.size ≤ gr by rw [hg]; exact (hB_4.out).size); have N_ga_gr := Lib.hid (show ga ≠ gr by rw [hg]; exact Nat.ne_of_lt (K_ga.out.lt)); have N_gt_gr := Lib.hid (show gt ≠ gr by rw [hg]; exact Nat.ne_of_lt (blk_lt K_gt.out)); replace K_ga := Lib.hid (K_ga.out.below hb); replace K_gt := Lib.hid (blk_below K_gt.out hb); have K_gr := Lib.hid (show Hb w_5 gr Ht.zero from H1); clear hg hb H1 hB_4; clear hu25 hu27))
  go_wp2_with (first | ((with_reducible refine gate_dst (N := 9) rfl ?_); (first | (refine gate_guard (by kernel_rfl) ?_) | skip); refine Kd.event_run rfl (v := .agg (h).cs) (w1 := w_5) ?hb ?_; (case hb => exact exec_load_hart rfl rfl K_ga.out)))
  refine (HM.out _).mono ?_
  rintro e_7 w_8 ⟨rfl, hb⟩
  have hB_9 := Lib.hid (below_step hB_6.out hb)
  replace K_ga := Lib.hid (K_ga.out.below hb)
  replace K_gr := Lib.hid (K_gr.out.below hb)
  clear hb hB_6
  have c_ga_76 := K_ga.out.u 76 rfl; have f_ga_76 := K_ga.out.fr 76
  go_upto_region 100 with (fail)
  refine wp_region_list ?_
  refine load_hart (h := _) rfl (.tmp 4) rfl ga rfl (by repeat (with_reducible first | exact K_ga.out | apply Hb.put | apply Hb.putP | apply Hb.putV | apply Hb.putW | apply Hb.putH | apply Hb.far N_ga_gr.out | apply Hb.drewN | apply Hb.drew)) ?_
  refine store_hart rfl (.tmp 8) (.tmp 324) rfl gr _ rfl rfl Ht.zero (by repeat (with_reducible first | exact K_gr.out | apply Hb.put | apply Hb.putP | apply Hb.putV | apply Hb.putW | apply Hb.putH | apply Hb.far (Ne.symm N_ga_gr.out) | apply Hb.drewN | apply Hb.drew)) ?_
  go_wp2
  refine bodyPost_ret (results_cell_row rfl _ _ gr 25 _ (0, 0) _ rfl (Hb.putAll _ (by repeat (with_reducible first | exact K_gr.out | apply Hb.put | apply Hb.putP | apply Hb.putV | apply Hb.putW | apply Hb.putH | apply Hb.far (Ne.symm N_ga_gr.out) | apply Hb.drewN | apply Hb.drew))) Tryd.underlying25 rfl (by rw [Ht.size]; exact hartSize)) rfl ?_
  exact ⟨by first | (rw [← HZ.out]; done) | (rw [← HZ.out]; rfl), setCells_below G_gr.out _ _ _ (by repeat (first | (with_reducible first | exact hB_9.out | apply pw_below_drewN | apply below_drew1 | refine below_set ?_ G_ga.out | refine below_set ?_ G_gr.out) | exact hB_9.out))⟩
set_option maxHeartbeats 16000000 in
set_option maxRecDepth 100000 in
theorem rw_miss (h : Ht) (hw : h.wf) (la lb lc ld : Bool) (lg lt : Int) (no v : Int) (hv : 0 ≤ v ∧ v < 18446744073709551616) (w : World) (hM : meantV h.v no ≠ 256 ∧ meantV h.v no ≠ 260 ∧ meantV h.v no ≠ 261 ∧ meantV h.v no ≠ 262 ∧ meantV h.v no ≠ 320 ∧ meantV h.v no ≠ 321 ∧ meantV h.v no ≠ 322 ∧ meantV h.v no ≠ 323 ∧ meantV h.v no ≠ 324 ∧ meantV h.v no ≠ 384 ∧ meantV h.v no ≠ 512 ∧ meantV h.v no ≠ 516 ∧ meantV h.v no ≠ 517 ∧ meantV h.v no ≠ 576 ∧ meantV h.v no ≠ 577 ∧ meantV h.v no ≠ 578 ∧ meantV h.v no ≠ 579 ∧ meantV h.v no ≠ 580 ∧ meantV h.v no ≠ 640 ∧ meantV h.v no ≠ 768 ∧ meantV h.v no ≠ 770 ∧ meantV h.v no ≠ 771 ∧ meantV h.v no ≠ 772 ∧ meantV h.v no ≠ 773 ∧ meantV h.v no ≠ 774 ∧ meantV h.v no ≠ 832 ∧ meantV h.v no ≠ 833 ∧ meantV h.v no ≠ 834 ∧ meantV h.v no ≠ 835 ∧ meantV h.v no ≠ 836 ∧ meantV h.v no ≠ 842 ∧ meantV h.v no ≠ 843 ∧ meantV h.v no ≠ 1536 ∧ meantV h.v no ≠ 1538 ∧ meantV h.v no ≠ 1539 ∧ meantV h.v no ≠ 1540 ∧ meantV h.v no ≠ 1541 ∧ meantV h.v no ≠ 1542 ∧ meantV h.v no ≠ 1543 ∧ meantV h.v no ≠ 1603 ∧ meantV h.v no ≠ 1604 ∧ meantV h.v no ≠ 1605 ∧ meantV h.v no ≠ 1610 ∧ meantV h.v no ≠ 1664 ∧ meantV h.v no ≠ 2816 ∧ meantV h.v no ≠ 2818) : Calls Tryd.prog 20 #[.agg h.cs, .agg #[.bool la, .bool lb, .bool lc, .bool ld, .int .u64 lg, .int .u64 lt], .int .i64 no, .int .u64 v] w fun e w' => e = .returned (.agg (writeV h no v).cs) ∧ Below w.heap.size w w' := by
  have HM := Lib.hid (rmeant_c h no)
  have HPUT := Lib.hid (fun (a m : Int) (ha : 0 ≤ a ∧ a < 18446744073709551616) (hm : 0 ≤ m ∧ m < 18446744073709551616) => rput_c ha hm hv)
  have HPUT2 := Lib.hid (fun (a m : Int) (ha : 0 ≤ a ∧ a < 18446744073709551616) (hm : 0 ≤ m ∧ m < 18446744073709551616) => rput_c ha hm (shl2_rng v))
  have HWF := Lib.hid hw.1; have HV := Lib.hid hv
  obtain ⟨z, hz⟩ : ∃ z, writeV h no v = z := ⟨_, rfl⟩
  rw [hz]
  unfold writeV at hz
  clear hw hv
  generalize meantV h.v no = no2 at HM hz hM
  obtain ⟨h_256, h_260, h_261, h_262, h_320, h_321, h_322, h_323, h_324, h_384, h_512, h_516, h_517, h_576, h_577, h_578, h_579, h_580, h_640, h_768, h_770, h_771, h_772, h_773, h_774, h_832, h_833, h_834, h_835, h_836, h_842, h_843, h_1536, h_1538, h_1539, h_1540, h_1541, h_1542, h_1543, h_1603, h_1604, h_1605, h_1610, h_1664, h_2816, h_2818⟩ := hM
  have e_256 : (no2 == 256) = false := beq_eq_false_iff_ne.2 h_256
  have e_260 : (no2 == 260) = false := beq_eq_false_iff_ne.2 h_260
  have e_261 : (no2 == 261) = false := beq_eq_false_iff_ne.2 h_261
  have e_262 : (no2 == 262) = false := beq_eq_false_iff_ne.2 h_262
  have e_320 : (no2 == 320) = false := beq_eq_false_iff_ne.2 h_320
  have e_321 : (no2 == 321) = false := beq_eq_false_iff_ne.2 h_321
  have e_322 : (no2 == 322) = false := beq_eq_false_iff_ne.2 h_322
  have e_323 : (no2 == 323) = false := beq_eq_false_iff_ne.2 h_323
  have e_324 : (no2 == 324) = false := beq_eq_false_iff_ne.2 h_324
  have e_384 : (no2 == 384) = false := beq_eq_false_iff_ne.2 h_384
  have e_512 : (no2 == 512) = false := beq_eq_false_iff_ne.2 h_512
  have e_516 : (no2 == 516) = false := beq_eq_false_iff_ne.2 h_516
  have e_517 : (no2 == 517) = false := beq_eq_false_iff_ne.2 h_517
  have e_576 : (no2 == 576) = false := beq_eq_false_iff_ne.2 h_576
  have e_577 : (no2 == 577) = false := beq_eq_false_iff_ne.2 h_577
  have e_578 : (no2 == 578) = false := beq_eq_false_iff_ne.2 h_578
  have e_579 : (no2 == 579) = false := beq_eq_false_iff_ne.2 h_579
  have e_580 : (no2 == 580) = false := beq_eq_false_iff_ne.2 h_580
  have e_640 : (no2 == 640) = false := beq_eq_false_iff_ne.2 h_640
  have e_768 : (no2 == 768) = false := beq_eq_false_iff_ne.2 h_768
  have e_770 : (no2 == 770) = false := beq_eq_false_iff_ne.2 h_770
  have e_771 : (no2 == 771) = false := beq_eq_false_iff_ne.2 h_771
  have e_772 : (no2 == 772) = false := beq_eq_false_iff_ne.2 h_772
  have e_773 : (no2 == 773) = false := beq_eq_false_iff_ne.2 h_773
  have e_774 : (no2 == 774) = false := beq_eq_false_iff_ne.2 h_774
  have e_832 : (no2 == 832) = false := beq_eq_false_iff_ne.2 h_832
  have e_833 : (no2 == 833) = false := beq_eq_false_iff_ne.2 h_833
  have e_834 : (no2 == 834) = false := beq_eq_false_iff_ne.2 h_834
  have e_835 : (no2 == 835) = false := beq_eq_false_iff_ne.2 h_835
  have e_836 : (no2 == 836) = false := beq_eq_false_iff_ne.2 h_836
  have e_842 : (no2 == 842) = false := beq_eq_false_iff_ne.2 h_842
  have e_843 : (no2 == 843) = false := beq_eq_false_iff_ne.2 h_843
  have e_1536 : (no2 == 1536) = false := beq_eq_false_iff_ne.2 h_1536
  have e_1538 : (no2 == 1538) = false := beq_eq_false_iff_ne.2 h_1538
  have e_1539 : (no2 == 1539) = false := beq_eq_false_iff_ne.2 h_1539
  have e_1540 : (no2 == 1540) = false := beq_eq_false_iff_ne.2 h_1540
  have e_1541 : (no2 == 1541) = false := beq_eq_false_iff_ne.2 h_1541
  have e_1542 : (no2 == 1542) = false := beq_eq_false_iff_ne.2 h_1542
  have e_1543 : (no2 == 1543) = false := beq_eq_false_iff_ne.2 h_1543
  have e_1603 : (no2 == 1603) = false := beq_eq_false_iff_ne.2 h_1603
  have e_1604 : (no2 == 1604) = false := beq_eq_false_iff_ne.2 h_1604
  have e_1605 : (no2 == 1605) = false := beq_eq_false_iff_ne.2 h_1605
  have e_1610 : (no2 == 1610) = false := beq_eq_false_iff_ne.2 h_1610
  have e_1664 : (no2 == 1664) = false := beq_eq_false_iff_ne.2 h_1664
  have e_2816 : (no2 == 2816) = false := beq_eq_false_iff_ne.2 h_2816
  have e_2818 : (no2 == 2818) = false := beq_eq_false_iff_ne.2 h_2818
  have hm := write_cases no2
  simp only [h_256, h_260, h_261, h_262, h_320, h_321, h_322, h_323, h_324, h_384, h_512, h_516, h_517, h_576, h_577, h_578, h_579, h_580, h_640, h_768, h_770, h_771, h_772, h_773, h_774, h_832, h_833, h_834, h_835, h_836, h_842, h_843, h_1536, h_1538, h_1539, h_1540, h_1541, h_1542, h_1543, h_1603, h_1604, h_1605, h_1610, h_1664, h_2816, h_2818, false_or] at hm
  have hz1 : h = z := (hm h v).symm.trans hz
  have HZ := Lib.hid hz1
  clear hz hz1 hm h_256 h_260 h_261 h_262 h_320 h_321 h_322 h_323 h_324 h_384 h_512 h_516 h_517 h_576 h_577 h_578 h_579 h_580 h_640 h_768 h_770 h_771 h_772 h_773 h_774 h_832 h_833 h_834 h_835 h_836 h_842 h_843 h_1536 h_1538 h_1539 h_1540 h_1541 h_1542 h_1543 h_1603 h_1604 h_1605 h_1610 h_1664 h_2816 h_2818
  have hu25 := Tryd.underlying25; have hu27 := Tryd.underlying27
  go_enter Tryd.func20, Tryd.ntmps20
  go_upto_region 1 with (first | ((with_reducible refine gate_dst (N := 4) rfl ?_); refine box_event ?hg (N := 4) ?hd (cs := h.cs) (t := 25) ?hr ?_; (case hd => rfl); (case hg => rfl); (case hr => first | (go_simp; done) | (go_simp; rfl)); intro ga hg w_1 H1 hb; have hB_2 := Lib.hid (below_step (Below.refl w.heap.size w) hb); have G_ga := Lib.hid (show w.heap.size ≤ ga by rw [hg]; exact ((Below.refl w.heap.size w)).size); have K_ga := Lib.hid (show Hb w_1 ga h from H1); clear hg hb H1) | ((with_reducible refine gate_dst (N := 5) rfl ?_); refine box_event ?hg (N := 5) ?hd (cs := #[.bool la, .bool lb, .bool lc, .bool ld, .int .u64 lg, .int .u64 lt]) (t := 27) ?hr ?_; (case hd => rfl); (case hg => rfl); (case hr => first | (go_simp; done) | (go_simp; rfl)); intro gt hg w_3 H1 hb; have hB_4 := Lib.hid (below_step hB_2.out hb); have G_gt := Lib.hid (show w.heap.size ≤ gt by rw [hg]; exact (hB_2.out).size); have N_ga_gt := Lib.hid (show ga ≠ gt by rw [hg]; exact Nat.ne_of_lt (K_ga.out.lt)); replace K_ga := Lib.hid (K_ga.out.below hb); have K_gt := Lib.hid (show w_3.heap[gt]? = some (.cells #[.bool la, .bool lb, .bool lc, .bool ld, .int .u64 lg, .int .u64 lt] 27 (0, 0)) from H1); clear hg hb H1 hB_2) | ((with_reducible refine gate_dst (N := 8) rfl ?_); refine box_event ?hg (N := 8) ?hd (cs := Ht.zero.cs) (t := 25) ?hr ?_; (case hd => rfl); (case hg => rfl); (case hr => first | (go_simp; done) | (go_simp; rfl)); intro gr hg w_5 H1 hb; have hB_6 := Lib.hid (below_step hB_4.out hb); have G_gr := Lib.hid (show w.heap.size ≤ gr by rw [hg]; exact (hB_4.out).size); have N_ga_gr := Lib.hid (show ga ≠ gr by rw [hg]; exact Nat.ne_of_lt (K_ga.out.lt)); have N_gt_gr := Lib.hid (show gt ≠ gr by rw [hg]; exact Nat.ne_of_lt (blk_lt K_gt.out)); replace K_ga := Lib.hid (K_ga.out.below hb); replace K_gt := Lib.hid (blk_below K_gt.out hb); have K_gr := Lib.hid (show Hb w_5 gr Ht.zero from H1); clear hg hb H1 hB_4; clear hu25 hu27))
  go_wp2_with (first | ((with_reducible refine gate_dst (N := 9) rfl ?_); (first | (refine gate_guard (by kernel_rfl) ?_) | skip); refine Kd.event_run rfl (v := .agg (h).cs) (w1 := w_5) ?hb ?_; (case hb => exact exec_load_hart rfl rfl K_ga.out)))
  refine (HM.out _).mono ?_
  rintro e_7 w_8 ⟨rfl, hb⟩
  have hB_9 := Lib.hid (below_step hB_6.out hb)
  replace K_ga := Lib.hid (K_ga.out.below hb)
  replace K_gr := Lib.hid (K_gr.out.below hb)
  clear hb hB_6
  go_upto_region 100 with (fail)
  refine wp_region_list ?_
  refine load_hart (h := _) rfl (.tmp 4) rfl ga rfl (by repeat (with_reducible first | exact K_ga.out | apply Hb.put | apply Hb.putP | apply Hb.putV | apply Hb.putW | apply Hb.putH | apply Hb.far N_ga_gr.out | apply Hb.drewN | apply Hb.drew)) ?_
  refine store_hart rfl (.tmp 8) (.tmp 324) rfl gr _ rfl rfl Ht.zero (by repeat (with_reducible first | exact K_gr.out | apply Hb.put | apply Hb.putP | apply Hb.putV | apply Hb.putW | apply Hb.putH | apply Hb.far (Ne.symm N_ga_gr.out) | apply Hb.drewN | apply Hb.drew)) ?_
  go_wp2
  refine bodyPost_ret (results_cell_row rfl _ _ gr 25 _ (0, 0) _ rfl (Hb.putAll _ (by repeat (with_reducible first | exact K_gr.out | apply Hb.put | apply Hb.putP | apply Hb.putV | apply Hb.putW | apply Hb.putH | apply Hb.far (Ne.symm N_ga_gr.out) | apply Hb.drewN | apply Hb.drew))) Tryd.underlying25 rfl (by rw [Ht.size]; exact hartSize)) rfl ?_
  exact ⟨by first | (rw [← HZ.out]; done) | (rw [← HZ.out]; rfl), setCells_below G_gr.out _ _ _ (by repeat (first | (with_reducible first | exact hB_9.out | apply pw_below_drewN | apply below_drew1 | refine below_set ?_ G_ga.out | refine below_set ?_ G_gr.out) | exact hB_9.out))⟩
set_option maxHeartbeats 16000000 in
set_option maxRecDepth 100000 in
theorem rwrite_c (h : Ht) (hw : h.wf) (la lb lc ld : Bool) (lg lt : Int) (no v : Int) (hv : 0 ≤ v ∧ v < 18446744073709551616) (w : World) : Calls Tryd.prog 20 #[.agg h.cs, .agg #[.bool la, .bool lb, .bool lc, .bool ld, .int .u64 lg, .int .u64 lt], .int .i64 no, .int .u64 v] w fun e w' => e = .returned (.agg (writeV h no v).cs) ∧ Below w.heap.size w w' := by
  by_cases h_256 : meantV h.v no = 256
  · exact rw_256 h hw la lb lc ld lg lt no v hv w h_256
  by_cases h_260 : meantV h.v no = 260
  · exact rw_260 h hw la lb lc ld lg lt no v hv w h_260
  by_cases h_261 : meantV h.v no = 261
  · exact rw_261 h hw la lb lc ld lg lt no v hv w h_261
  by_cases h_262 : meantV h.v no = 262
  · exact rw_262 h hw la lb lc ld lg lt no v hv w h_262
  by_cases h_320 : meantV h.v no = 320
  · exact rw_320 h hw la lb lc ld lg lt no v hv w h_320
  by_cases h_321 : meantV h.v no = 321
  · exact rw_321 h hw la lb lc ld lg lt no v hv w h_321
  by_cases h_322 : meantV h.v no = 322
  · exact rw_322 h hw la lb lc ld lg lt no v hv w h_322
  by_cases h_323 : meantV h.v no = 323
  · exact rw_323 h hw la lb lc ld lg lt no v hv w h_323
  by_cases h_324 : meantV h.v no = 324
  · exact rw_324 h hw la lb lc ld lg lt no v hv w h_324
  by_cases h_384 : meantV h.v no = 384
  · exact rw_384 h hw la lb lc ld lg lt no v hv w h_384
  by_cases h_512 : meantV h.v no = 512
  · exact rw_512 h hw la lb lc ld lg lt no v hv w h_512
  by_cases h_516 : meantV h.v no = 516
  · exact rw_516 h hw la lb lc ld lg lt no v hv w h_516
  by_cases h_517 : meantV h.v no = 517
  · exact rw_517 h hw la lb lc ld lg lt no v hv w h_517
  by_cases h_576 : meantV h.v no = 576
  · exact rw_576 h hw la lb lc ld lg lt no v hv w h_576
  by_cases h_577 : meantV h.v no = 577
  · exact rw_577 h hw la lb lc ld lg lt no v hv w h_577
  by_cases h_578 : meantV h.v no = 578
  · exact rw_578 h hw la lb lc ld lg lt no v hv w h_578
  by_cases h_579 : meantV h.v no = 579
  · exact rw_579 h hw la lb lc ld lg lt no v hv w h_579
  by_cases h_580 : meantV h.v no = 580
  · exact rw_580 h hw la lb lc ld lg lt no v hv w h_580
  by_cases h_640 : meantV h.v no = 640
  · exact rw_640 h hw la lb lc ld lg lt no v hv w h_640
  by_cases h_768 : meantV h.v no = 768
  · exact rw_768 h hw la lb lc ld lg lt no v hv w h_768
  by_cases h_770 : meantV h.v no = 770
  · exact rw_770 h hw la lb lc ld lg lt no v hv w h_770
  by_cases h_771 : meantV h.v no = 771
  · exact rw_771 h hw la lb lc ld lg lt no v hv w h_771
  by_cases h_772 : meantV h.v no = 772
  · exact rw_772 h hw la lb lc ld lg lt no v hv w h_772
  by_cases h_773 : meantV h.v no = 773
  · exact rw_773 h hw la lb lc ld lg lt no v hv w h_773
  by_cases h_774 : meantV h.v no = 774
  · exact rw_774 h hw la lb lc ld lg lt no v hv w h_774
  by_cases h_832 : meantV h.v no = 832
  · exact rw_832 h hw la lb lc ld lg lt no v hv w h_832
  by_cases h_833 : meantV h.v no = 833
  · exact rw_833 h hw la lb lc ld lg lt no v hv w h_833
  by_cases h_834 : meantV h.v no = 834
  · exact rw_834 h hw la lb lc ld lg lt no v hv w h_834
  by_cases h_835 : meantV h.v no = 835
  · exact rw_835 h hw la lb lc ld lg lt no v hv w h_835
  by_cases h_836 : meantV h.v no = 836
  · exact rw_836 h hw la lb lc ld lg lt no v hv w h_836
  by_cases h_842 : meantV h.v no = 842
  · exact rw_842 h hw la lb lc ld lg lt no v hv w h_842
  by_cases h_843 : meantV h.v no = 843
  · exact rw_843 h hw la lb lc ld lg lt no v hv w h_843
  by_cases h_1536 : meantV h.v no = 1536
  · exact rw_1536 h hw la lb lc ld lg lt no v hv w h_1536
  by_cases h_1538 : meantV h.v no = 1538
  · exact rw_1538 h hw la lb lc ld lg lt no v hv w h_1538
  by_cases h_1539 : meantV h.v no = 1539
  · exact rw_1539 h hw la lb lc ld lg lt no v hv w h_1539
  by_cases h_1540 : meantV h.v no = 1540
  · exact rw_1540 h hw la lb lc ld lg lt no v hv w h_1540
  by_cases h_1541 : meantV h.v no = 1541
  · exact rw_1541 h hw la lb lc ld lg lt no v hv w h_1541
  by_cases h_1542 : meantV h.v no = 1542
  · exact rw_1542 h hw la lb lc ld lg lt no v hv w h_1542
  by_cases h_1543 : meantV h.v no = 1543
  · exact rw_1543 h hw la lb lc ld lg lt no v hv w h_1543
  by_cases h_1603 : meantV h.v no = 1603
  · exact rw_1603 h hw la lb lc ld lg lt no v hv w h_1603
  by_cases h_1604 : meantV h.v no = 1604
  · exact rw_1604 h hw la lb lc ld lg lt no v hv w h_1604
  by_cases h_1605 : meantV h.v no = 1605
  · exact rw_1605 h hw la lb lc ld lg lt no v hv w h_1605
  by_cases h_1610 : meantV h.v no = 1610
  · exact rw_1610 h hw la lb lc ld lg lt no v hv w h_1610
  by_cases h_1664 : meantV h.v no = 1664
  · exact rw_1664 h hw la lb lc ld lg lt no v hv w h_1664
  by_cases h_2816 : meantV h.v no = 2816
  · exact rw_2816 h hw la lb lc ld lg lt no v hv w h_2816
  by_cases h_2818 : meantV h.v no = 2818
  · exact rw_2818 h hw la lb lc ld lg lt no v hv w h_2818
  exact rw_miss h hw la lb lc ld lg lt no v hv w ⟨h_256, h_260, h_261, h_262, h_320, h_321, h_322, h_323, h_324, h_384, h_512, h_516, h_517, h_576, h_577, h_578, h_579, h_580, h_640, h_768, h_770, h_771, h_772, h_773, h_774, h_832, h_833, h_834, h_835, h_836, h_842, h_843, h_1536, h_1538, h_1539, h_1540, h_1541, h_1542, h_1543, h_1603, h_1604, h_1605, h_1610, h_1664, h_2816, h_2818⟩

set_option maxHeartbeats 16000000 in
set_option maxRecDepth 100000 in
theorem writes_c (h : Ht) (hw : h.wf) (la lb lc ld : Bool) (lg lt : Int) (no v : Int) (hv : 0 ≤ v ∧ v < 18446744073709551616) (w : World) (hT : Tab w) : Calls Tryd.prog 5 #[.agg h.cs, .agg #[.bool la, .bool lb, .bool lc, .bool ld, .int .u64 lg, .int .u64 lt], .int .i64 no, .int .u64 v] w fun e w' => e = .returned (.bool true) ∧ Below w.heap.size w w' := by
  have hf := write_c h la lb lc ld lg lt no v; have hf2 := rwrite_c h hw la lb lc ld lg lt no v hv
  generalize writeV h no v = f at *
  have HT := Lib.hid hT; have HF := Lib.hid hf; have HF2 := Lib.hid hf2
  clear hf hf2 hT hw hv
  have hu25 := Tryd.underlying25; have hu27 := Tryd.underlying27
  go_enter Tryd.func5, Tryd.ntmps5
  go_upto_region 1 with (first | ((with_reducible refine gate_dst (N := 4) rfl ?_); refine box_event ?hg (N := 4) ?hd (cs := h.cs) (t := 25) ?hr ?_; (case hd => rfl); (case hg => rfl); (case hr => first | (go_simp; done) | (go_simp; rfl)); intro ga hg w_1 H1 hb; have hB_2 := Lib.hid (below_step (Below.refl w.heap.size w) hb); have G_ga := Lib.hid (show w.heap.size ≤ ga by rw [hg]; exact ((Below.refl w.heap.size w)).size); have K_ga := Lib.hid (show Hb w_1 ga h from H1); clear hg hb H1) | ((with_reducible refine gate_dst (N := 5) rfl ?_); refine box_event ?hg (N := 5) ?hd (cs := #[.bool la, .bool lb, .bool lc, .bool ld, .int .u64 lg, .int .u64 lt]) (t := 27) ?hr ?_; (case hd => rfl); (case hg => rfl); (case hr => first | (go_simp; done) | (go_simp; rfl)); intro gt hg w_3 H1 hb; have hB_4 := Lib.hid (below_step hB_2.out hb); have G_gt := Lib.hid (show w.heap.size ≤ gt by rw [hg]; exact (hB_2.out).size); have N_ga_gt := Lib.hid (show ga ≠ gt by rw [hg]; exact Nat.ne_of_lt (K_ga.out.lt)); replace K_ga := Lib.hid (K_ga.out.below hb); have K_gt := Lib.hid (show w_3.heap[gt]? = some (.cells #[.bool la, .bool lb, .bool lc, .bool ld, .int .u64 lg, .int .u64 lt] 27 (0, 0)) from H1); clear hg hb H1 hB_2; clear hu25 hu27))
  refine start_ (n := 15) (S := fun w' => Hb w' ga h ∧ w'.heap[gt]? = some (.cells #[.bool la, .bool lb, .bool lc, .bool ld, .int .u64 lg, .int .u64 lt] 27 (0, 0)) ∧ Tab w') (ds := []) #[false, false, false, false, false, false, false, false, false, false, false, false, false, false, false] (by kernel_rfl) rfl rfl ⟨K_ga.out.drew, blk_drew K_gt.out, (Tab.from HT.out (below_drew1 hB_4.out))⟩ (fun hHeld => ?_)
  replace K_ga := Lib.hid (K_ga.out.drew)
  replace K_gt := Lib.hid (blk_drew K_gt.out)
  have hB_6 := Lib.hid (below_drew1 hB_4.out)
  clear hB_4
  generalize World.drew w_3 = w_5 at K_ga K_gt hB_6 hHeld ⊢
  refine pure_ (i := 2) (N := some 11) (v := ?_) (a' := ?_) #[false, false, true, false, false, false, false, false, false, false, false, false, false, false, false] rfl rfl (by kernel_rfl) (fun _ _ _ h => h) (Or.inl ⟨by rfl, ?_⟩) ?_ ?_
  rotate_left
  · intro w'
    go_simp
    with_reducible rfl
  rotate_left
  · simp only [Act.put, List.setIfInBounds_toArray, List.set_cons_zero, List.set_cons_succ, i64_w, i32_w]
    rfl
  refine pure_ (i := 3) (N := some 12) (v := ?_) (a' := ?_) #[false, false, true, true, false, false, false, false, false, false, false, false, false, false, false] rfl rfl (by kernel_rfl) (fun _ _ _ h => h) (Or.inl ⟨by rfl, ?_⟩) ?_ ?_
  rotate_left
  · intro w'
    go_simp
    with_reducible rfl
  rotate_left
  · simp only [Act.put, List.setIfInBounds_toArray, List.set_cons_zero, List.set_cons_succ, i64_w, i32_w]
    rfl
  refine pure_ (i := 7) (N := some 16) (v := ?_) (a' := ?_) #[false, false, true, true, false, false, false, true, false, false, false, false, false, false, false] rfl rfl (by kernel_rfl) (fun _ _ _ h => h) (Or.inl ⟨by rfl, ?_⟩) ?_ ?_
  rotate_left
  · intro w'
    go_simp
    with_reducible rfl
  rotate_left
  · simp only [Act.put, List.setIfInBounds_toArray, List.set_cons_zero, List.set_cons_succ, i64_w, i32_w]
    rfl
  refine pure_ (i := 8) (N := some 17) (v := ?_) (a' := ?_) #[false, false, true, true, false, false, false, true, true, false, false, false, false, false, false] rfl rfl (by kernel_rfl) (fun _ _ _ h => h) (Or.inl ⟨by rfl, ?_⟩) ?_ ?_
  rotate_left
  · intro w'
    go_simp
    with_reducible rfl
  rotate_left
  · simp only [Act.put, List.setIfInBounds_toArray, List.set_cons_zero, List.set_cons_succ, i64_w, i32_w]
    rfl
  refine take_ (i := 0) (N := some 9) (v := .agg h.cs) (a' := ?_) #[true, false, true, true, false, false, false, true, true, false, false, false, false, false, false] rfl rfl (by kernel_rfl) (fun _ _ _ h => h) (Or.inl ⟨by rfl, ?_⟩) hHeld ?_ ?_
  · rintro w' ⟨s0, s1, s2⟩; exact exec_load_hart rfl rfl s0
  rotate_left
  · simp only [Act.put, List.setIfInBounds_toArray, List.set_cons_zero, List.set_cons_succ, i64_w, i32_w]
    rfl
  refine take_ (i := 1) (N := some 10) (v := .agg #[.bool la, .bool lb, .bool lc, .bool ld, .int .u64 lg, .int .u64 lt]) (a' := ?_) #[true, true, true, true, false, false, false, true, true, false, false, false, false, false, false] rfl rfl (by kernel_rfl) (fun _ _ _ h => h) (Or.inl ⟨by rfl, ?_⟩) hHeld ?_ ?_
  · rintro w' ⟨s0, s1, s2⟩; exact exec_load_blk rfl rfl s1 Tryd.underlying27 rfl (by kernel_rfl)
  rotate_left
  · simp only [Act.put, List.setIfInBounds_toArray, List.set_cons_zero, List.set_cons_succ, i64_w, i32_w]
    rfl
  refine take_ (i := 5) (N := some 14) (v := .agg h.cs) (a' := ?_) #[true, true, true, true, false, true, false, true, true, false, false, false, false, false, false] rfl rfl (by kernel_rfl) (fun _ _ _ h => h) (Or.inl ⟨by rfl, ?_⟩) hHeld ?_ ?_
  · rintro w' ⟨s0, s1, s2⟩; exact exec_load_hart rfl rfl s0
  rotate_left
  · simp only [Act.put, List.setIfInBounds_toArray, List.set_cons_zero, List.set_cons_succ, i64_w, i32_w]
    rfl
  refine take_ (i := 6) (N := some 15) (v := .agg #[.bool la, .bool lb, .bool lc, .bool ld, .int .u64 lg, .int .u64 lt]) (a' := ?_) #[true, true, true, true, false, true, true, true, true, false, false, false, false, false, false] rfl rfl (by kernel_rfl) (fun _ _ _ h => h) (Or.inl ⟨by rfl, ?_⟩) hHeld ?_ ?_
  · rintro w' ⟨s0, s1, s2⟩; exact exec_load_blk rfl rfl s1 Tryd.underlying27 rfl (by kernel_rfl)
  rotate_left
  · simp only [Act.put, List.setIfInBounds_toArray, List.set_cons_zero, List.set_cons_succ, i64_w, i32_w]
    rfl
  have HH := Lib.hid hHeld
  clear hHeld
  refine one_ (i := 4) (N := some 13) #[true, true, true, true, true, true, true, true, true, false, false, false, false, false, false] rfl rfl (by kernel_rfl) (by decide) (fun K hK => ?_)
  refine goes_ Tryd.func19 (by kernel_rfl) rfl #[.agg h.cs, .agg #[.bool la, .bool lb, .bool lc, .bool ld, .int .u64 lg, .int .u64 lt], .int .i64 no, .int .u64 v] (by rfl) rfl rfl (by simp only [List.map_toArray, List.map_cons, List.map_nil]; rfl) ?_
  with_reducible refine (HF.out _ HH.out.2.2).mono ?_
  rintro e_ w_7 ⟨rfl, hb⟩
  refine ⟨_, rfl, ?_⟩
  have s_0 := Hb.below (HH.out.1) hb
  have s_1 := blk_below (HH.out.2.1) hb
  have s_2 := Tab.from (HH.out.2.2) hb
  replace K_ga := Lib.hid (K_ga.out.below hb)
  replace K_gt := Lib.hid (blk_below K_gt.out hb)
  have hB_8 := Lib.hid (below_step hB_6.out hb)
  clear HH hb hB_6
  refine hK.out _ _ ⟨s_0, s_1, s_2⟩ (fun hHeld => ?_)
  have HH := Lib.hid hHeld
  clear hHeld s_0 s_1 s_2
  clear hK K
  refine norm_ (a' := ?_) ?_ ?_
  rotate_left
  · show Act.put _ (some 13) _ = _
    simp only [Act.put, List.setIfInBounds_toArray, List.set_cons_zero, List.set_cons_succ, i64_w, i32_w]
    rfl
  refine one_ (i := 9) (N := some 18) #[true, true, true, true, true, true, true, true, true, true, false, false, false, false, false] rfl rfl (by kernel_rfl) (by decide) (fun K hK => ?_)
  refine goes_ Tryd.func20 (by kernel_rfl) rfl #[.agg h.cs, .agg #[.bool la, .bool lb, .bool lc, .bool ld, .int .u64 lg, .int .u64 lt], .int .i64 no, .int .u64 v] (by rfl) rfl rfl (by simp only [List.map_toArray, List.map_cons, List.map_nil]; rfl) ?_
  with_reducible refine (HF2.out _).mono ?_
  rintro e_ w_9 ⟨rfl, hb⟩
  refine ⟨_, rfl, ?_⟩
  have s_0 := Hb.below (HH.out.1) hb
  have s_1 := blk_below (HH.out.2.1) hb
  have s_2 := Tab.from (HH.out.2.2) hb
  replace K_ga := Lib.hid (K_ga.out.below hb)
  replace K_gt := Lib.hid (blk_below K_gt.out hb)
  have hB_10 := Lib.hid (below_step hB_8.out hb)
  clear HH hb hB_8
  refine hK.out _ _ ⟨s_0, s_1, s_2⟩ (fun hHeld => ?_)
  have HH := Lib.hid hHeld
  clear hHeld s_0 s_1 s_2
  clear hK K
  refine norm_ (a' := ?_) ?_ ?_
  rotate_left
  · show Act.put _ (some 18) _ = _
    simp only [Act.put, List.setIfInBounds_toArray, List.set_cons_zero, List.set_cons_succ, i64_w, i32_w]
    rfl
  refine pure_ (i := 10) (N := some 19) (v := .bool true) (a' := ?_) #[true, true, true, true, true, true, true, true, true, true, true, false, false, false, false] rfl rfl (by kernel_rfl) (fun _ _ _ h => h) (Or.inl ⟨by rfl, ?_⟩) ?_ ?_
  · intro w'; exact exec_eqT (h := f) rfl rfl rfl
  rotate_left
  · simp only [Act.put, List.setIfInBounds_toArray, List.set_cons_zero, List.set_cons_succ, i64_w, i32_w]
    rfl
  refine pure_ (i := 11) (N := some 20) (v := ?_) (a' := ?_) #[true, true, true, true, true, true, true, true, true, true, true, true, false, false, false] rfl rfl (by kernel_rfl) (fun _ _ _ h => h) (Or.inl ⟨by rfl, ?_⟩) ?_ ?_
  rotate_left
  · intro w'
    go_simp
    with_reducible rfl
  rotate_left
  · simp only [Act.put, List.setIfInBounds_toArray, List.set_cons_zero, List.set_cons_succ, i64_w, i32_w]
    rfl
  refine one_ (i := 12) (N := some 21) #[true, true, true, true, true, true, true, true, true, true, true, true, true, false, false] rfl rfl (by kernel_rfl) (by decide) (fun K hK => ?_)
  refine goes_ Tryd.func17 (by kernel_rfl) rfl #[] (by rfl) rfl rfl (by simp) ?_
  with_reducible refine (wakes_c _ HH.out.2.2).mono ?_
  rintro e_ w_11 ⟨rfl, hb⟩
  refine ⟨_, rfl, ?_⟩
  have s_0 := Hb.below (HH.out.1) hb
  have s_1 := blk_below (HH.out.2.1) hb
  have s_2 := Tab.from (HH.out.2.2) hb
  replace K_ga := Lib.hid (K_ga.out.below hb)
  replace K_gt := Lib.hid (blk_below K_gt.out hb)
  have hB_12 := Lib.hid (below_step hB_10.out hb)
  clear HH hb hB_10
  refine hK.out _ _ ⟨s_0, s_1, s_2⟩ (fun hHeld => ?_)
  have HH := Lib.hid hHeld
  clear hHeld s_0 s_1 s_2
  clear hK K
  refine norm_ (a' := ?_) ?_ ?_
  rotate_left
  · show Act.put _ (some 21) _ = _
    simp only [Act.put, List.setIfInBounds_toArray, List.set_cons_zero, List.set_cons_succ, i64_w, i32_w]
    rfl
  refine pure_ (i := 13) (N := some 22) (v := ?_) (a' := ?_) #[true, true, true, true, true, true, true, true, true, true, true, true, true, true, false] rfl rfl (by kernel_rfl) (fun _ _ _ h => h) (Or.inl ⟨by rfl, ?_⟩) ?_ ?_
  rotate_left
  · intro w'
    go_simp
    with_reducible rfl
  rotate_left
  · simp only [Act.put, List.setIfInBounds_toArray, List.set_cons_zero, List.set_cons_succ, i64_w, i32_w]
    rfl
  refine pure_ (i := 14) (N := some 8) (v := ?_) (a' := ?_) #[true, true, true, true, true, true, true, true, true, true, true, true, true, true, true] rfl rfl (by kernel_rfl) (fun _ _ _ h => h) (Or.inl ⟨by rfl, ?_⟩) ?_ ?_
  rotate_left
  · intro w'
    go_simp
    with_reducible rfl
  rotate_left
  · simp only [Act.put, List.setIfInBounds_toArray, List.set_cons_zero, List.set_cons_succ, i64_w, i32_w]
    rfl
  refine done_ (by kernel_rfl) ?_
  try clear HH
  go_wp2
  go_ret
  exact ⟨rfl, hB_12.out⟩
end Go.Proofs.YtlopmcakfalkpaaDoor.Hx
namespace Go.Proofs.YtlopmcakfalkpaaDoor.Pure
open Go.RowKit Go.Proofs.YtlopmcakfalkpaaDoor.Hx Go.Proofs.YtlopmcakfalkpaaDoor.Bv Go.Proofs.YtlopmcakfalkpaaDoor.Q
theorem CsrWrites (h : Ht) (la lb lc ld : Bool) (lg lt : Int) (no : Int) (v : Int) (w : World) (hw : h.wf) (wg : (Lit.int .u64 lg).wf = true) (wt : (Lit.int .u64 lt).wf = true) (w_no : (Lit.int .i64 no).wf = true) (w_v : (Lit.int .u64 v).wf = true) (hT : Tab w) :
    Calls Tryd.prog 5 #[.agg h.cs, .agg #[.bool la, .bool lb, .bool lc, .bool ld, .int .u64 lg, .int .u64 lt], .int .i64 no, .int .u64 v] w fun e w' => e = .returned (.bool true) ∧ Below w.heap.size w w' :=
  writes_c h hw la lb lc ld lg lt no v (u64_in w_v) w hT
end Go.Proofs.YtlopmcakfalkpaaDoor.Pure
