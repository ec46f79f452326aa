/- The hart that came back by sret. (Walked; by a program of this session.) -/
import Derived.Test.YtfehchhmghpfpaaHBase

set_option linter.unusedSimpArgs false
set_option linter.unusedVariables false
namespace Go.Proofs.Ytfehchhmghpfpaa.Hx
open Go.RowKit Go.Proofs.Ytfehchhmghpfpaa.Q Go.Proofs.YtfehchhmghpfpaaW.PrintWords Go.Proofs.YtfehchhmghpfpaaW.PrintLast Go.Proofs.YtfehchhmghpfpaaW.PrintMore Go.Proofs.Ytfehchhmghpfpaa.Rg

/-- The hart that came back by sret. -/
def sret (h : Ht) : Ht :=
  let h0 := ({ h with hl := false } : Ht).set 37 0
  if h.v = true then
    (((h0.set 68 (givenS (h.x 68))).set 33 (givenP (h.x 68))).set 0 (h.x 71)).set 38 (setV (h.x 38) 17 false)
  else
    let h1 := ((h0.set 38 (givenS (h.x 38))).set 33 (givenP (h.x 38))).set 0 (h.x 54)
    ((({ h1 with v := onV (h.x 58) 7 } : Ht)).set 58 (setV (h.x 58) 7 false)).set 38 (setV (givenS (h.x 38)) 17 false)

set_option maxHeartbeats 16000000 in
set_option maxRecDepth 100000 in
theorem sret_c (h : Ht) (w : World) : Calls Try.prog 13 #[.agg h.cs] w fun e w' => e = .returned (.agg (sret h).cs) ∧ Below w.heap.size w w' := by
  cases hv : h.v
  · skip
    have hu25 := Try.underlying25
    go_enter Try.func13, Try.ntmps13
    go_wp2_with (first | ((with_reducible refine gate_dst (N := 1) rfl ?_); refine box_event ?hg (N := 1) ?hd (cs := h.cs) (t := 25) ?hr ?_; (case hd => rfl); (case hg => rfl); (case hr => first | (go_simp; done) | (go_simp; rfl)); intro ga hg w_1 H1 hb; have hB_2 := Lib.hid (below_step (Below.refl w.heap.size w) hb); have G_ga := Lib.hid (show w.heap.size ≤ ga by rw [hg]; exact ((Below.refl w.heap.size w)).size); have K_ga := Lib.hid (show Hb w_1 ga h from H1); clear hg hb H1) | ((with_reducible refine gate_dst (N := 2) rfl ?_); refine box_event ?hg (N := 2) ?hd (cs := Ht.zero.cs) (t := 25) ?hr ?_; (case hd => rfl); (case hg => rfl); (case hr => first | (go_simp; done) | (go_simp; rfl)); intro gr hg w_3 H1 hb; have hB_4 := Lib.hid (below_step hB_2.out hb); have G_gr := Lib.hid (show w.heap.size ≤ gr by rw [hg]; exact (hB_2.out).size); have N_ga_gr := Lib.hid (show ga ≠ gr by rw [hg]; exact Nat.ne_of_lt (K_ga.out.lt)); replace K_ga := Lib.hid (K_ga.out.below hb); have K_gr := Lib.hid (show Hb w_3 gr Ht.zero from H1); clear hg hb H1 hB_2; have c_ga_0 := K_ga.out.u 0 rfl; have f_ga_0 := K_ga.out.fr 0; have c_ga_33 := K_ga.out.p; have f_ga_33 := K_ga.out.fr 33; have c_ga_34 := K_ga.out.cv; have f_ga_34 := K_ga.out.fr 34; have c_ga_36 := K_ga.out.ch; have f_ga_36 := K_ga.out.fr 36; have c_ga_37 := K_ga.out.u 37 rfl; have f_ga_37 := K_ga.out.fr 37; have c_ga_38 := K_ga.out.u 38 rfl; have f_ga_38 := K_ga.out.fr 38; have c_ga_54 := K_ga.out.u 54 rfl; have f_ga_54 := K_ga.out.fr 54; have c_ga_58 := K_ga.out.u 58 rfl; have f_ga_58 := K_ga.out.fr 58; have c_ga_68 := K_ga.out.u 68 rfl; have f_ga_68 := K_ga.out.fr 68; have c_ga_71 := K_ga.out.u 71 rfl; have f_ga_71 := K_ga.out.fr 71; clear hu25))
    go_upto_region 6 with (first | (go_at_call 16; refine (on_c _ _ _ (by decide)).mono ?_; rintro e_ w_ ⟨rfl, ⟨n_, rfl⟩⟩) | (go_at_call 18; refine (set_c _ _ _ _ (by decide)).mono ?_; rintro e_ w_ ⟨rfl, ⟨n_, rfl⟩⟩) | (go_at_call 23; refine (given_c _ _).mono ?_; rintro e_ w_ ⟨rfl, ⟨n_, rfl⟩⟩))
    refine start_ (n := 9) (S := fun w' => w'.cell? ⟨ga, 54, none⟩ = some (.int .u64 (h.x 54)) ∧ w'.cell? ⟨ga, 58, none⟩ = some (.int .u64 (h.x 58))) (ds := []) #[false, false, false, false, false, false, false, false, false] (by kernel_rfl) rfl rfl ⟨(show World.cell? _ ⟨ga, 54, none⟩ = some (.int .u64 (h.x 54)) by first | (go_simp; done) | (go_simp; rfl)), (show World.cell? _ ⟨ga, 58, none⟩ = some (.int .u64 (h.x 58)) by first | (go_simp; done) | (go_simp; rfl))⟩ (fun hHeld => ?_)
    have HH0 := Lib.hid hHeld
    clear hHeld
    refine world_any ga (by repeat (with_reducible first | exact K_ga.out | apply Hb.put | apply Hb.putP | apply Hb.putV | apply Hb.putW | apply Hb.putH | apply Hb.far N_ga_gr.out | apply Hb.drewN | apply Hb.drew)) (fun w' => Below w.heap.size w w' ∧ Hb w' gr Ht.zero ∧ (w'.cell? ⟨ga, 54, none⟩ = some (.int .u64 (h.x 54)) ∧ w'.cell? ⟨ga, 58, none⟩ = some (.int .u64 (h.x 58)))) ⟨(by repeat (first | (with_reducible first | exact hB_4.out | apply pw_below_drewN | apply below_drew1 | refine below_set ?_ G_ga.out | refine below_set ?_ G_gr.out) | exact hB_4.out)), (by repeat (with_reducible first | exact K_gr.out | apply Hb.put | apply Hb.putP | apply Hb.putV | apply Hb.putW | apply Hb.putH | apply Hb.far (Ne.symm N_ga_gr.out) | apply Hb.drewN | apply Hb.drew)), HH0.out⟩ ?_
    clear HH0
    clear c_ga_0 f_ga_0 c_ga_33 f_ga_33 c_ga_34 f_ga_34 c_ga_36 f_ga_36 c_ga_37 f_ga_37 c_ga_38 f_ga_38 c_ga_54 f_ga_54 c_ga_58 f_ga_58 c_ga_68 f_ga_68 c_ga_71 f_ga_71
    clear K_ga K_gr hB_4
    rintro w_5 q_ ⟨b_, q_gr, hHeld⟩
    have K_ga := Lib.hid q_; have hB_6 := Lib.hid b_; have K_gr := Lib.hid q_gr
    clear q_ b_ q_gr
    refine pure_ (i := 0) (N := some 26) (v := ?_) (a' := ?_) #[true, false, false, false, false, false, false, false, false] rfl rfl (by kernel_rfl) (fun _ _ _ h => h) (Or.inl ⟨by rfl, ?_⟩) ?_ ?_
    rotate_left
    · intro w'
      go_simp
      with_reducible rfl
    rotate_left
    · simp only [Act.put, List.setIfInBounds_toArray, List.set_cons_zero, List.set_cons_succ, i64_w, i32_w]
      rfl
    refine pure_ (i := 2) (N := some 28) (v := ?_) (a' := ?_) #[true, false, true, false, false, false, false, false, false] rfl rfl (by kernel_rfl) (fun _ _ _ h => h) (Or.inl ⟨by rfl, ?_⟩) ?_ ?_
    rotate_left
    · intro w'
      go_simp
      with_reducible rfl
    rotate_left
    · simp only [Act.put, List.setIfInBounds_toArray, List.set_cons_zero, List.set_cons_succ, i64_w, i32_w]
      rfl
    refine take_ (i := 1) (N := some 27) (v := ?_) (a' := ?_) #[true, true, true, false, false, false, false, false, false] rfl rfl (by kernel_rfl) (fun _ _ _ h => h) (Or.inl ⟨by rfl, ?_⟩) hHeld ?_ ?_
    rotate_left
    · rintro w' ⟨s0, s1⟩
      go_simp
      with_reducible rfl
    rotate_left
    · simp only [Act.put, List.setIfInBounds_toArray, List.set_cons_zero, List.set_cons_succ, i64_w, i32_w]
      rfl
    refine take_ (i := 3) (N := some 29) (v := ?_) (a' := ?_) #[true, true, true, true, false, false, false, false, false] rfl rfl (by kernel_rfl) (fun _ _ _ h => h) (Or.inl ⟨by rfl, ?_⟩) hHeld ?_ ?_
    rotate_left
    · rintro w' ⟨s0, s1⟩
      go_simp
      with_reducible rfl
    rotate_left
    · simp only [Act.put, List.setIfInBounds_toArray, List.set_cons_zero, List.set_cons_succ, i64_w, i32_w]
      rfl
    refine pure_ (i := 5) (N := some 31) (v := ?_) (a' := ?_) #[true, true, true, true, false, true, false, false, false] rfl rfl (by kernel_rfl) (fun _ _ _ h => h) (Or.inl ⟨by rfl, ?_⟩) ?_ ?_
    rotate_left
    · intro w'
      go_simp
      with_reducible rfl
    rotate_left
    · simp only [Act.put, List.setIfInBounds_toArray, List.set_cons_zero, List.set_cons_succ, i64_w, i32_w]
      rfl
    have HH := Lib.hid hHeld
    clear hHeld
    refine one_ (i := 4) (N := some 30) #[true, true, true, true, true, true, false, false, false] rfl rfl (by kernel_rfl) (by decide) (fun K hK => ?_)
    refine goes_ Try.func16 (by kernel_rfl) rfl #[.int .u64 (h.x 58), .int .i64 7] (by rfl) rfl rfl (by simp only [List.map_toArray, List.map_cons, List.map_nil]; rfl) ?_
    with_reducible refine (on_c (h.x 58) 7 _ (by decide)).mono ?_
    rintro e_ w_ ⟨rfl, ⟨n_, rfl⟩⟩
    refine ⟨_, rfl, ?_⟩
    have q_ := Lib.hid (Hb.drewN n_ K_ga.out)
    have hB_8 := Lib.hid (pw_below_drewN hB_6.out n_)
    have q_gr := Lib.hid (Hb.drewN n_ K_gr.out)
    have s_0 := (cell_drewN n_ HH.out.1)
    have s_1 := (cell_drewN n_ HH.out.2)
    clear HH K_ga K_gr hB_6
    generalize World.drewN w_5 n_ = w_7 at q_ hB_8 q_gr s_0 s_1 ⊢
    have K_ga := q_; clear q_
    have K_gr := q_gr; clear q_gr
    refine hK.out _ _ ⟨s_0, s_1⟩ (fun hHeld => ?_)
    have HH := Lib.hid hHeld
    clear hHeld s_0 s_1
    clear hK K
    refine norm_ (a' := ?_) ?_ ?_
    rotate_left
    · show Act.put _ (some 30) _ = _
      simp only [Act.put, List.setIfInBounds_toArray, List.set_cons_zero, List.set_cons_succ, i64_w, i32_w]
      rfl
    refine one_ (i := 6) (N := none) #[true, true, true, true, true, true, true, false, false] rfl rfl (by kernel_rfl) (by decide) (fun K hK => ?_)
    refine skipH (h := _) (v := .int .u64 (h.x 54)) (by rfl) rfl rfl rfl rfl (by kernel_rfl) rfl rfl K_ga.out (by decide) ?_
    have q_ := Lib.hid (Hb.put 0 ((h.x 54)) K_ga.out)
    have hB_10 := Lib.hid (below_set (j := 0) (v := (.int .u64 (h.x 54))) hB_8.out G_ga.out)
    have q_gr := Lib.hid (Hb.far (j := 0) (u := (.int .u64 (h.x 54))) (Ne.symm N_ga_gr.out) K_gr.out)
    have s_0 := (cell_ne (u := (.int .u64 (h.x 54))) HH.out.1 (show 54 ≠ 0 by decide))
    have s_1 := (cell_ne (u := (.int .u64 (h.x 54))) HH.out.2 (show 58 ≠ 0 by decide))
    clear HH K_ga K_gr hB_8
    generalize World.setCell w_7 ⟨ga, 0, none⟩ (.int .u64 (h.x 54)) = w_9 at q_ hB_10 q_gr s_0 s_1 ⊢
    have K_ga := q_; clear q_
    have K_gr := q_gr; clear q_gr
    refine hK.out _ _ ⟨s_0, s_1⟩ (fun hHeld => ?_)
    have HH := Lib.hid hHeld
    clear hHeld s_0 s_1
    clear hK K
    refine pure_ (i := 7) (N := some 32) (v := ?_) (a' := ?_) #[true, true, true, true, true, true, true, true, false] rfl rfl (by kernel_rfl) (fun _ _ _ h => h) (Or.inl ⟨by rfl, ?_⟩) ?_ ?_
    rotate_left
    · intro w'
      go_simp
      with_reducible rfl
    rotate_left
    · simp only [Act.put, List.setIfInBounds_toArray, List.set_cons_zero, List.set_cons_succ, i64_w, i32_w]
      rfl
    refine one_ (i := 8) (N := none) #[true, true, true, true, true, true, true, true, true] rfl rfl (by kernel_rfl) (by decide) (fun K hK => ?_)
    refine skipH (h := _) (v := .bool (onV (h.x 58) 7)) (by rfl) rfl rfl rfl rfl (by kernel_rfl) rfl rfl K_ga.out (by decide) ?_
    have q_ := Lib.hid (Hb.putV ((onV (h.x 58) 7)) K_ga.out)
    have hB_12 := Lib.hid (below_set (j := 34) (v := (.bool (onV (h.x 58) 7))) hB_10.out G_ga.out)
    have q_gr := Lib.hid (Hb.far (j := 34) (u := (.bool (onV (h.x 58) 7))) (Ne.symm N_ga_gr.out) K_gr.out)
    have s_0 := (cell_ne (u := (.bool (onV (h.x 58) 7))) HH.out.1 (show 54 ≠ 34 by decide))
    have s_1 := (cell_ne (u := (.bool (onV (h.x 58) 7))) HH.out.2 (show 58 ≠ 34 by decide))
    clear HH K_ga K_gr hB_10
    generalize World.setCell w_9 ⟨ga, 34, none⟩ (.bool (onV (h.x 58) 7)) = w_11 at q_ hB_12 q_gr s_0 s_1 ⊢
    have K_ga := q_; clear q_
    have K_gr := q_gr; clear q_gr
    refine hK.out _ _ ⟨s_0, s_1⟩ (fun hHeld => ?_)
    have HH := Lib.hid hHeld
    clear hHeld s_0 s_1
    clear hK K
    refine done_ (by kernel_rfl) ?_
    try clear HH
    have c_ga_38 := (show World.cell? _ ⟨ga, 38, none⟩ = some (.int .u64 (givenS (h.x 38))) from (K_ga.out.u 38 rfl).trans rfl); have f_ga_38 := K_ga.out.fr 38
    have c_ga_58 := (show World.cell? _ ⟨ga, 58, none⟩ = some (.int .u64 (h.x 58)) from (K_ga.out.u 58 rfl).trans rfl); have f_ga_58 := K_ga.out.fr 58
    go_upto_region 9 with (first | (go_at_call 16; refine (on_c _ _ _ (by decide)).mono ?_; rintro e_ w_ ⟨rfl, ⟨n_, rfl⟩⟩) | (go_at_call 18; refine (set_c _ _ _ _ (by decide)).mono ?_; rintro e_ w_ ⟨rfl, ⟨n_, rfl⟩⟩) | (go_at_call 23; refine (given_c _ _).mono ?_; rintro e_ w_ ⟨rfl, ⟨n_, rfl⟩⟩))
    refine wp_region_list ?_
    refine load_hart (h := _) rfl (.tmp 1) rfl ga rfl (by repeat (with_reducible first | exact K_ga.out | apply Hb.put | apply Hb.putP | apply Hb.putV | apply Hb.putW | apply Hb.putH | apply Hb.far N_ga_gr.out | apply Hb.drewN | apply Hb.drew)) ?_
    refine store_hart rfl (.tmp 2) (.tmp 41) rfl gr _ rfl rfl Ht.zero (by repeat (with_reducible first | exact K_gr.out | apply Hb.put | apply Hb.putP | apply Hb.putV | apply Hb.putW | apply Hb.putH | apply Hb.far (Ne.symm N_ga_gr.out) | apply Hb.drewN | apply Hb.drew)) ?_
    go_wp2
    refine bodyPost_ret (results_cell_row rfl _ _ gr 25 _ (0, 0) _ rfl (Hb.putAll _ (by repeat (with_reducible first | exact K_gr.out | apply Hb.put | apply Hb.putP | apply Hb.putV | apply Hb.putW | apply Hb.putH | apply Hb.far (Ne.symm N_ga_gr.out) | apply Hb.drewN | apply Hb.drew))) Try.underlying25 rfl (by rw [Ht.size]; exact hartSize)) rfl ?_
    exact ⟨by (first | rfl | (simp only [sret, hv, if_true, if_false, Bool.false_eq_true, cond_true, cond_false]; done) | (simp only [sret, hv, if_true, if_false, Bool.false_eq_true, cond_true, cond_false]; rfl)), setCells_below G_gr.out _ _ _ (by repeat (first | (with_reducible first | exact hB_12.out | apply pw_below_drewN | apply below_drew1 | refine below_set ?_ G_ga.out | refine below_set ?_ G_gr.out) | exact hB_12.out))⟩
  · skip
    have hu25 := Try.underlying25
    go_enter Try.func13, Try.ntmps13
    go_wp2_with (first | ((with_reducible refine gate_dst (N := 1) rfl ?_); refine box_event ?hg (N := 1) ?hd (cs := h.cs) (t := 25) ?hr ?_; (case hd => rfl); (case hg => rfl); (case hr => first | (go_simp; done) | (go_simp; rfl)); intro ga hg w_1 H1 hb; have hB_2 := Lib.hid (below_step (Below.refl w.heap.size w) hb); have G_ga := Lib.hid (show w.heap.size ≤ ga by rw [hg]; exact ((Below.refl w.heap.size w)).size); have K_ga := Lib.hid (show Hb w_1 ga h from H1); clear hg hb H1) | ((with_reducible refine gate_dst (N := 2) rfl ?_); refine box_event ?hg (N := 2) ?hd (cs := Ht.zero.cs) (t := 25) ?hr ?_; (case hd => rfl); (case hg => rfl); (case hr => first | (go_simp; done) | (go_simp; rfl)); intro gr hg w_3 H1 hb; have hB_4 := Lib.hid (below_step hB_2.out hb); have G_gr := Lib.hid (show w.heap.size ≤ gr by rw [hg]; exact (hB_2.out).size); have N_ga_gr := Lib.hid (show ga ≠ gr by rw [hg]; exact Nat.ne_of_lt (K_ga.out.lt)); replace K_ga := Lib.hid (K_ga.out.below hb); have K_gr := Lib.hid (show Hb w_3 gr Ht.zero from H1); clear hg hb H1 hB_2; have c_ga_0 := K_ga.out.u 0 rfl; have f_ga_0 := K_ga.out.fr 0; have c_ga_33 := K_ga.out.p; have f_ga_33 := K_ga.out.fr 33; have c_ga_34 := K_ga.out.cv; have f_ga_34 := K_ga.out.fr 34; have c_ga_36 := K_ga.out.ch; have f_ga_36 := K_ga.out.fr 36; have c_ga_37 := K_ga.out.u 37 rfl; have f_ga_37 := K_ga.out.fr 37; have c_ga_38 := K_ga.out.u 38 rfl; have f_ga_38 := K_ga.out.fr 38; have c_ga_54 := K_ga.out.u 54 rfl; have f_ga_54 := K_ga.out.fr 54; have c_ga_58 := K_ga.out.u 58 rfl; have f_ga_58 := K_ga.out.fr 58; have c_ga_68 := K_ga.out.u 68 rfl; have f_ga_68 := K_ga.out.fr 68; have c_ga_71 := K_ga.out.u 71 rfl; have f_ga_71 := K_ga.out.fr 71; clear hu25))
    go_upto_region 9 with (first | (go_at_call 16; refine (on_c _ _ _ (by decide)).mono ?_; rintro e_ w_ ⟨rfl, ⟨n_, rfl⟩⟩) | (go_at_call 18; refine (set_c _ _ _ _ (by decide)).mono ?_; rintro e_ w_ ⟨rfl, ⟨n_, rfl⟩⟩) | (go_at_call 23; refine (given_c _ _).mono ?_; rintro e_ w_ ⟨rfl, ⟨n_, rfl⟩⟩))
    refine wp_region_list ?_
    refine load_hart (h := _) rfl (.tmp 1) rfl ga rfl (by repeat (with_reducible first | exact K_ga.out | apply Hb.put | apply Hb.putP | apply Hb.putV | apply Hb.putW | apply Hb.putH | apply Hb.far N_ga_gr.out | apply Hb.drewN | apply Hb.drew)) ?_
    refine store_hart rfl (.tmp 2) (.tmp 41) rfl gr _ rfl rfl Ht.zero (by repeat (with_reducible first | exact K_gr.out | apply Hb.put | apply Hb.putP | apply Hb.putV | apply Hb.putW | apply Hb.putH | apply Hb.far (Ne.symm N_ga_gr.out) | apply Hb.drewN | apply Hb.drew)) ?_
    go_wp2
    refine bodyPost_ret (results_cell_row rfl _ _ gr 25 _ (0, 0) _ rfl (Hb.putAll _ (by repeat (with_reducible first | exact K_gr.out | apply Hb.put | apply Hb.putP | apply Hb.putV | apply Hb.putW | apply Hb.putH | apply Hb.far (Ne.symm N_ga_gr.out) | apply Hb.drewN | apply Hb.drew))) Try.underlying25 rfl (by rw [Ht.size]; exact hartSize)) rfl ?_
    exact ⟨by (first | rfl | (simp only [sret, hv, if_true, if_false, Bool.false_eq_true, cond_true, cond_false]; done) | (simp only [sret, hv, if_true, if_false, Bool.false_eq_true, cond_true, cond_false]; rfl)), setCells_below G_gr.out _ _ _ (by repeat (first | (with_reducible first | exact hB_4.out | apply pw_below_drewN | apply below_drew1 | refine below_set ?_ G_ga.out | refine below_set ?_ G_gr.out) | exact hB_4.out))⟩
end Go.Proofs.Ytfehchhmghpfpaa.Hx
