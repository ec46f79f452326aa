/- What is fixed is legal, and fixed again the same; whatever is written into a legal hart, it is legal. (By a program of this session.) -/
import Derived.Test.YtlopmcakfalkpaaDoorCLegals
import Derived.Test.YtlopmcakfalkpaaDoorHrow
import Derived.Test.YtlopmcakfalkpaaDoorCWakes
set_option linter.unusedSimpArgs false
set_option linter.unusedVariables false
namespace Go.Proofs.YtlopmcakfalkpaaDoor.Hx
open Go.RowKit Go.Proofs.YtlopmcakfalkpaaDoor.Q Go.Proofs.YtlopmcakfalkpaaDoorW.PrintWords Go.Proofs.YtlopmcakfalkpaaDoorW.PrintLast Go.Proofs.YtlopmcakfalkpaaDoorW.PrintMore Go.Proofs.YtlopmcakfalkpaaDoor.Rg


set_option maxHeartbeats 16000000 in
set_option maxRecDepth 100000 in
theorem legals_c (h : Ht) (hw : h.wf) (la lb lc ld : Bool) (lg lt : Int) (no v : Int) (hv : 0 ≤ v ∧ v < 18446744073709551616) (w : World) (hT : Tab w) : Calls Tryd.prog 7 #[.agg h.cs, .agg #[.bool la, .bool lb, .bool lc, .bool ld, .int .u64 lg, .int .u64 lt], .int .i64 no, .int .u64 v] w fun e w' => e = .returned (.bool true) ∧ Below w.heap.size w w' := by
  obtain ⟨l1, l2, l3, l4⟩ := legals_law h hw no v hv
  have hlh := legal_c h
  rw [show legalV h = heq (fix h) h from rfl] at hlh
  have hf := fix_c h
  generalize fix h = f at *
  have hlf := legal_c f
  rw [l1] at hlf
  have hg := fix_c f
  generalize fix f = g at *
  have hwr := write_c f la lb lc ld lg lt no v
  generalize writeV f no v = k at *
  have hlk := legal_c k
  rw [l3] at hlk
  have hkn : ∀ w, Tab w → Calls Tryd.prog 24 #[.int .i64 no] w fun e w' => e = .returned (.bool (knownV no)) ∧ Drawn0 w w' := fun w t => known_c no w t
  have HLF := Lib.hid hlf; have HF := Lib.hid hf; have HG := Lib.hid hg; have HW := Lib.hid hwr; have HLK := Lib.hid hlk; have HT := Lib.hid hT; have HNE := Lib.hid l2
  clear hlf hf hg hwr hlk hT l1 l2 l3 hw hv
  cases hb : heq f h
  · skip
    cases hk : knownV no
    · skip
      rw [hb] at hlh
      have l5 := l4 hk
      rw [hk] at hkn
      have HLH := Lib.hid hlh; have HKN := Lib.hid hkn; have HEQ := Lib.hid hb; have HKF := Lib.hid l5
      clear hlh hkn hb l4 l5 hk
      have hu25 := Tryd.underlying25; have hu27 := Tryd.underlying27
      go_enter Tryd.func7, Tryd.ntmps7
      go_upto_region 1 with (first | ((with_reducible refine gate_dst (N := 4) rfl ?_); refine box_event ?hg (N := 4) ?hd (cs := h.cs) (t := 25) ?hr ?_; (case hd => rfl); (case hg => rfl); (case hr => first | (go_simp; done) | (go_simp; rfl)); intro ga hg w_1 H1 hb; have hB_2 := Lib.hid (below_step (Below.refl w.heap.size w) hb); have G_ga := Lib.hid (show w.heap.size ≤ ga by rw [hg]; exact ((Below.refl w.heap.size w)).size); have K_ga := Lib.hid (show Hb w_1 ga h from H1); clear hg hb H1) | ((with_reducible refine gate_dst (N := 5) rfl ?_); refine box_event ?hg (N := 5) ?hd (cs := #[.bool la, .bool lb, .bool lc, .bool ld, .int .u64 lg, .int .u64 lt]) (t := 27) ?hr ?_; (case hd => rfl); (case hg => rfl); (case hr => first | (go_simp; done) | (go_simp; rfl)); intro gt hg w_3 H1 hb; have hB_4 := Lib.hid (below_step hB_2.out hb); have G_gt := Lib.hid (show w.heap.size ≤ gt by rw [hg]; exact (hB_2.out).size); have N_ga_gt := Lib.hid (show ga ≠ gt by rw [hg]; exact Nat.ne_of_lt (K_ga.out.lt)); replace K_ga := Lib.hid (K_ga.out.below hb); have K_gt := Lib.hid (show w_3.heap[gt]? = some (.cells #[.bool la, .bool lb, .bool lc, .bool ld, .int .u64 lg, .int .u64 lt] 27 (0, 0)) from H1); clear hg hb H1 hB_2; clear hu27))
      go_wp2_with (first | ((with_reducible refine gate_dst (N := 12) rfl ?_); (first | (refine gate_guard (by kernel_rfl) ?_) | skip); refine Kd.event_run rfl (v := .agg (h).cs) (w1 := w_3) ?hb ?_; (case hb => exact exec_load_hart rfl rfl K_ga.out)))
      refine (HF.out _ (Tab.from HT.out hB_4.out)).mono ?_
      rintro e_5 w_6 ⟨rfl, hb⟩
      have hB_7 := Lib.hid (below_step hB_4.out hb)
      replace K_ga := Lib.hid (K_ga.out.below hb)
      replace K_gt := Lib.hid (blk_below K_gt.out hb)
      clear hb hB_4
      go_upto_region 2 with (first | ((with_reducible refine gate_dst (N := 9) rfl ?_); refine box_event ?hg (N := 9) ?hd (cs := Ht.zero.cs) (t := 25) ?hr ?_; (case hd => rfl); (case hg => rfl); (case hr => first | (go_simp; done) | (go_simp; rfl)); intro gf hg w_8 H1 hb; have hB_10 := Lib.hid (below_step hB_7.out hb); have G_gf := Lib.hid (show w.heap.size ≤ gf by rw [hg]; exact (hB_7.out).size); have N_ga_gf := Lib.hid (show ga ≠ gf by rw [hg]; exact Nat.ne_of_lt (K_ga.out.lt)); have N_gt_gf := Lib.hid (show gt ≠ gf by rw [hg]; exact Nat.ne_of_lt (blk_lt K_gt.out)); replace K_ga := Lib.hid (K_ga.out.below hb); replace K_gt := Lib.hid (blk_below K_gt.out hb); have K_gf := Lib.hid (show Hb w_8 gf Ht.zero from H1); clear hg hb H1 hB_7) | (refine store_hart rfl (.tmp 9) (.tmp 13) rfl gf f rfl rfl Ht.zero K_gf.out ?_; have hB_11 := Lib.hid (setCells_below G_gf.out (Ht.cs f).toList 0 _ hB_10.out); replace K_ga := Lib.hid (Hb.farAll (vs := (Ht.cs f).toList) (o := 0) N_ga_gf.out K_ga.out); replace K_gt := Lib.hid (setCells_far' (vs := (Ht.cs f).toList) (o := 0) N_gt_gf.out K_gt.out); replace K_gf := Lib.hid (Hb.putAll f K_gf.out); clear hB_10; generalize World.setCells w_8 gf 0 (Ht.cs f).toList = w_9 at K_ga K_gt K_gf hB_11 ⊢))
      go_wp2_with (first | ((with_reducible refine gate_dst (N := 14) rfl ?_); (first | (refine gate_guard (by kernel_rfl) ?_) | skip); refine Kd.event_run rfl (v := .agg (f).cs) (w1 := w_9) ?hb ?_; (case hb => exact exec_load_hart rfl rfl K_gf.out)))
      refine (HG.out _ (Tab.from HT.out hB_11.out)).mono ?_
      rintro e_12 w_13 ⟨rfl, hb⟩
      have hB_14 := Lib.hid (below_step hB_11.out hb)
      replace K_ga := Lib.hid (K_ga.out.below hb)
      replace K_gt := Lib.hid (blk_below K_gt.out hb)
      replace K_gf := Lib.hid (K_gf.out.below hb)
      clear hb hB_11
      go_upto_region 3 with (first | ((with_reducible refine gate_dst (N := 10) rfl ?_); refine box_event ?hg (N := 10) ?hd (cs := Ht.zero.cs) (t := 25) ?hr ?_; (case hd => rfl); (case hg => rfl); (case hr => first | (go_simp; done) | (go_simp; rfl)); intro gg hg w_15 H1 hb; have hB_17 := Lib.hid (below_step hB_14.out hb); have G_gg := Lib.hid (show w.heap.size ≤ gg by rw [hg]; exact (hB_14.out).size); have N_ga_gg := Lib.hid (show ga ≠ gg by rw [hg]; exact Nat.ne_of_lt (K_ga.out.lt)); have N_gt_gg := Lib.hid (show gt ≠ gg by rw [hg]; exact Nat.ne_of_lt (blk_lt K_gt.out)); have N_gf_gg := Lib.hid (show gf ≠ gg by rw [hg]; exact Nat.ne_of_lt (K_gf.out.lt)); replace K_ga := Lib.hid (K_ga.out.below hb); replace K_gt := Lib.hid (blk_below K_gt.out hb); replace K_gf := Lib.hid (K_gf.out.below hb); have K_gg := Lib.hid (show Hb w_15 gg Ht.zero from H1); clear hg hb H1 hB_14) | (refine store_hart rfl (.tmp 10) (.tmp 15) rfl gg g rfl rfl Ht.zero K_gg.out ?_; have hB_18 := Lib.hid (setCells_below G_gg.out (Ht.cs g).toList 0 _ hB_17.out); replace K_ga := Lib.hid (Hb.farAll (vs := (Ht.cs g).toList) (o := 0) N_ga_gg.out K_ga.out); replace K_gt := Lib.hid (setCells_far' (vs := (Ht.cs g).toList) (o := 0) N_gt_gg.out K_gt.out); replace K_gf := Lib.hid (Hb.farAll (vs := (Ht.cs g).toList) (o := 0) N_gf_gg.out K_gf.out); replace K_gg := Lib.hid (Hb.putAll g K_gg.out); clear hB_17; generalize World.setCells w_15 gg 0 (Ht.cs g).toList = w_16 at K_ga K_gt K_gf K_gg hB_18 ⊢))
      refine start_ (n := 16) (S := fun w' => Hb w' gf f ∧ Hb w' gg g ∧ Hb w' ga h ∧ Tab w') (ds := []) #[false, false, false, false, false, false, false, false, false, false, false, false, false, false, false, false] (by kernel_rfl) rfl rfl ⟨K_gf.out.drew, K_gg.out.drew, K_ga.out.drew, (Tab.from HT.out (below_drew1 hB_18.out))⟩ (fun hHeld => ?_)
      replace K_ga := Lib.hid (K_ga.out.drew)
      replace K_gt := Lib.hid (blk_drew K_gt.out)
      replace K_gf := Lib.hid (K_gf.out.drew)
      replace K_gg := Lib.hid (K_gg.out.drew)
      have hB_20 := Lib.hid (below_drew1 hB_18.out)
      clear hB_18
      generalize World.drew w_16 = w_19 at K_ga K_gt K_gf K_gg hB_20 hHeld ⊢
      refine take_ (i := 0) (N := some 16) (v := .agg f.cs) (a' := ?_) #[true, false, false, false, false, false, false, false, false, false, false, false, false, false, false, false] rfl rfl (by kernel_rfl) (fun _ _ _ h => h) (Or.inl ⟨by rfl, ?_⟩) hHeld ?_ ?_
      · rintro w' ⟨s0, s1, s2, s3⟩; exact exec_load_hart rfl rfl s0
      rotate_left
      · simp only [Act.put, List.setIfInBounds_toArray, List.set_cons_zero, List.set_cons_succ, i64_w, i32_w]
        rfl
      have HH := Lib.hid hHeld
      clear hHeld
      refine one_ (i := 1) (N := some 17) #[true, true, false, false, false, false, false, false, false, false, false, false, false, false, false, false] rfl rfl (by kernel_rfl) (by decide) (fun K hK => ?_)
      refine goes_ Tryd.func22 (by kernel_rfl) rfl #[.agg f.cs] (by rfl) rfl rfl (by simp only [List.map_toArray, List.map_cons, List.map_nil]; rfl) ?_
      with_reducible refine (HLF.out _ HH.out.2.2.2).mono ?_
      rintro e_ w_21 ⟨rfl, hb⟩
      refine ⟨_, rfl, ?_⟩
      have s_0 := Hb.below (HH.out.1) hb
      have s_1 := Hb.below (HH.out.2.1) hb
      have s_2 := Hb.below (HH.out.2.2.1) hb
      have s_3 := Tab.from (HH.out.2.2.2) hb
      replace K_ga := Lib.hid (K_ga.out.below hb)
      replace K_gt := Lib.hid (blk_below K_gt.out hb)
      replace K_gf := Lib.hid (K_gf.out.below hb)
      replace K_gg := Lib.hid (K_gg.out.below hb)
      have hB_22 := Lib.hid (below_step hB_20.out hb)
      clear HH hb hB_20
      refine hK.out _ _ ⟨s_0, s_1, s_2, s_3⟩ (fun hHeld => ?_)
      have HH := Lib.hid hHeld
      clear hHeld s_0 s_1 s_2 s_3
      clear hK K
      refine norm_ (a' := ?_) ?_ ?_
      rotate_left
      · show Act.put _ (some 17) _ = _
        simp only [Act.put, List.setIfInBounds_toArray, List.set_cons_zero, List.set_cons_succ, i64_w, i32_w]
        rfl
      refine pure_ (i := 2) (N := some 18) (v := ?_) (a' := ?_) #[true, true, true, false, false, false, false, false, false, false, false, false, false, false, false, false] rfl rfl (by kernel_rfl) (fun _ _ _ h => h) (Or.inl ⟨by rfl, ?_⟩) ?_ ?_
      rotate_left
      · intro w'
        go_simp
        with_reducible rfl
      rotate_left
      · simp only [Act.put, List.setIfInBounds_toArray, List.set_cons_zero, List.set_cons_succ, i64_w, i32_w]
        rfl
      refine pure_ (i := 3) (N := some 19) (v := ?_) (a' := ?_) #[true, true, true, true, false, false, false, false, false, false, false, false, false, false, false, false] rfl rfl (by kernel_rfl) (fun _ _ _ h => h) (Or.inl ⟨by rfl, ?_⟩) ?_ ?_
      rotate_left
      · intro w'
        go_simp
        with_reducible rfl
      rotate_left
      · simp only [Act.put, List.setIfInBounds_toArray, List.set_cons_zero, List.set_cons_succ, i64_w, i32_w]
        rfl
      refine take_ (i := 4) (N := some 20) (v := .agg g.cs) (a' := ?_) #[true, true, true, true, true, false, false, false, false, false, false, false, false, false, false, false] rfl rfl (by kernel_rfl) (fun _ _ _ h => h) (Or.inl ⟨by rfl, ?_⟩) HH.out ?_ ?_
      · rintro w' ⟨s0, s1, s2, s3⟩; exact exec_load_hart rfl rfl s1
      rotate_left
      · simp only [Act.put, List.setIfInBounds_toArray, List.set_cons_zero, List.set_cons_succ, i64_w, i32_w]
        rfl
      refine take_ (i := 5) (N := some 21) (v := .agg f.cs) (a' := ?_) #[true, true, true, true, true, true, false, false, false, false, false, false, false, false, false, false] rfl rfl (by kernel_rfl) (fun _ _ _ h => h) (Or.inl ⟨by rfl, ?_⟩) HH.out ?_ ?_
      · rintro w' ⟨s0, s1, s2, s3⟩; exact exec_load_hart rfl rfl s0
      rotate_left
      · simp only [Act.put, List.setIfInBounds_toArray, List.set_cons_zero, List.set_cons_succ, i64_w, i32_w]
        rfl
      refine pure_ (i := 6) (N := some 22) (v := .bool false) (a' := ?_) #[true, true, true, true, true, true, true, false, false, false, false, false, false, false, false, false] rfl rfl (by kernel_rfl) (fun _ _ _ h => h) (Or.inl ⟨by rfl, ?_⟩) ?_ ?_
      · intro w'; exact exec_neB (h := g) (k := f) rfl rfl rfl HNE.out
      rotate_left
      · simp only [Act.put, List.setIfInBounds_toArray, List.set_cons_zero, List.set_cons_succ, i64_w, i32_w]
        rfl
      refine pure_ (i := 7) (N := some 23) (v := ?_) (a' := ?_) #[true, true, true, true, true, true, true, true, false, false, false, false, false, false, false, false] rfl rfl (by kernel_rfl) (fun _ _ _ h => h) (Or.inl ⟨by rfl, ?_⟩) ?_ ?_
      rotate_left
      · intro w'
        go_simp
        with_reducible rfl
      rotate_left
      · simp only [Act.put, List.setIfInBounds_toArray, List.set_cons_zero, List.set_cons_succ, i64_w, i32_w]
        rfl
      refine pure_ (i := 8) (N := some 24) (v := ?_) (a' := ?_) #[true, true, true, true, true, true, true, true, true, false, false, false, false, false, false, false] rfl rfl (by kernel_rfl) (fun _ _ _ h => h) (Or.inl ⟨by rfl, ?_⟩) ?_ ?_
      rotate_left
      · intro w'
        go_simp
        with_reducible rfl
      rotate_left
      · simp only [Act.put, List.setIfInBounds_toArray, List.set_cons_zero, List.set_cons_succ, i64_w, i32_w]
        rfl
      refine take_ (i := 9) (N := some 25) (v := .agg h.cs) (a' := ?_) #[true, true, true, true, true, true, true, true, true, true, false, false, false, false, false, false] rfl rfl (by kernel_rfl) (fun _ _ _ h => h) (Or.inl ⟨by rfl, ?_⟩) HH.out ?_ ?_
      · rintro w' ⟨s0, s1, s2, s3⟩; exact exec_load_hart rfl rfl s2
      rotate_left
      · simp only [Act.put, List.setIfInBounds_toArray, List.set_cons_zero, List.set_cons_succ, i64_w, i32_w]
        rfl
      refine take_ (i := 11) (N := some 27) (v := .agg f.cs) (a' := ?_) #[true, true, true, true, true, true, true, true, true, true, false, true, false, false, false, false] rfl rfl (by kernel_rfl) (fun _ _ _ h => h) (Or.inl ⟨by rfl, ?_⟩) HH.out ?_ ?_
      · rintro w' ⟨s0, s1, s2, s3⟩; exact exec_load_hart rfl rfl s0
      rotate_left
      · simp only [Act.put, List.setIfInBounds_toArray, List.set_cons_zero, List.set_cons_succ, i64_w, i32_w]
        rfl
      refine take_ (i := 12) (N := some 28) (v := .agg h.cs) (a' := ?_) #[true, true, true, true, true, true, true, true, true, true, false, true, true, false, false, false] rfl rfl (by kernel_rfl) (fun _ _ _ h => h) (Or.inl ⟨by rfl, ?_⟩) HH.out ?_ ?_
      · rintro w' ⟨s0, s1, s2, s3⟩; exact exec_load_hart rfl rfl s2
      rotate_left
      · simp only [Act.put, List.setIfInBounds_toArray, List.set_cons_zero, List.set_cons_succ, i64_w, i32_w]
        rfl
      refine pure_ (i := 13) (N := some 29) (v := .bool false) (a' := ?_) #[true, true, true, true, true, true, true, true, true, true, false, true, true, true, false, false] rfl rfl (by kernel_rfl) (fun _ _ _ h => h) (Or.inl ⟨by rfl, ?_⟩) ?_ ?_
      · intro w'; exact exec_eqB (h := f) (k := h) rfl rfl rfl HEQ.out
      rotate_left
      · simp only [Act.put, List.setIfInBounds_toArray, List.set_cons_zero, List.set_cons_succ, i64_w, i32_w]
        rfl
      refine one_ (i := 10) (N := some 26) #[true, true, true, true, true, true, true, true, true, true, true, true, true, true, false, false] rfl rfl (by kernel_rfl) (by decide) (fun K hK => ?_)
      refine goes_ Tryd.func22 (by kernel_rfl) rfl #[.agg h.cs] (by rfl) rfl rfl (by simp only [List.map_toArray, List.map_cons, List.map_nil]; rfl) ?_
      with_reducible refine (HLH.out _ HH.out.2.2.2).mono ?_
      rintro e_ w_23 ⟨rfl, hb⟩
      refine ⟨_, rfl, ?_⟩
      have s_0 := Hb.below (HH.out.1) hb
      have s_1 := Hb.below (HH.out.2.1) hb
      have s_2 := Hb.below (HH.out.2.2.1) hb
      have s_3 := Tab.from (HH.out.2.2.2) hb
      replace K_ga := Lib.hid (K_ga.out.below hb)
      replace K_gt := Lib.hid (blk_below K_gt.out hb)
      replace K_gf := Lib.hid (K_gf.out.below hb)
      replace K_gg := Lib.hid (K_gg.out.below hb)
      have hB_24 := Lib.hid (below_step hB_22.out hb)
      clear HH hb hB_22
      refine hK.out _ _ ⟨s_0, s_1, s_2, s_3⟩ (fun hHeld => ?_)
      have HH := Lib.hid hHeld
      clear hHeld s_0 s_1 s_2 s_3
      clear hK K
      refine norm_ (a' := ?_) ?_ ?_
      rotate_left
      · show Act.put _ (some 26) _ = _
        simp only [Act.put, List.setIfInBounds_toArray, List.set_cons_zero, List.set_cons_succ, i64_w, i32_w]
        rfl
      refine pure_ (i := 14) (N := some 30) (v := ?_) (a' := ?_) #[true, true, true, true, true, true, true, true, true, true, true, true, true, true, true, false] rfl rfl (by kernel_rfl) (fun _ _ _ h => h) (Or.inl ⟨by rfl, ?_⟩) ?_ ?_
      rotate_left
      · intro w'
        go_simp
        with_reducible rfl
      rotate_left
      · simp only [Act.put, List.setIfInBounds_toArray, List.set_cons_zero, List.set_cons_succ, i64_w, i32_w]
        rfl
      refine pure_ (i := 15) (N := some 31) (v := ?_) (a' := ?_) #[true, true, true, true, true, true, true, true, true, true, true, true, true, true, true, true] rfl rfl (by kernel_rfl) (fun _ _ _ h => h) (Or.inl ⟨by rfl, ?_⟩) ?_ ?_
      rotate_left
      · intro w'
        go_simp
        with_reducible rfl
      rotate_left
      · simp only [Act.put, List.setIfInBounds_toArray, List.set_cons_zero, List.set_cons_succ, i64_w, i32_w]
        rfl
      refine done_ (by kernel_rfl) ?_
      try clear HH
      go_upto_region 5 with fail
      go_wp2_with (first | ((with_reducible refine gate_dst (N := 32) rfl ?_); (first | (refine gate_guard (by kernel_rfl) ?_) | skip); refine Kd.event_run rfl (v := .agg (f).cs) (w1 := w_23) ?hb ?_; (case hb => exact exec_load_hart rfl rfl K_gf.out)) | ((with_reducible refine gate_dst (N := 33) rfl ?_); (first | (refine gate_guard (by kernel_rfl) ?_) | skip); refine Kd.event_run rfl (v := .agg #[.bool la, .bool lb, .bool lc, .bool ld, .int .u64 lg, .int .u64 lt]) (w1 := w_23) ?hb ?_; (case hb => exact exec_load_blk rfl rfl K_gt.out Tryd.underlying27 rfl (by kernel_rfl))))
      refine (HW.out _ (Tab.from HT.out hB_24.out)).mono ?_
      rintro e_25 w_26 ⟨rfl, hb⟩
      have hB_27 := Lib.hid (below_step hB_24.out hb)
      replace K_ga := Lib.hid (K_ga.out.below hb)
      replace K_gt := Lib.hid (blk_below K_gt.out hb)
      replace K_gf := Lib.hid (K_gf.out.below hb)
      replace K_gg := Lib.hid (K_gg.out.below hb)
      clear hb hB_24
      go_upto_region 6 with (first | ((with_reducible refine gate_dst (N := 11) rfl ?_); refine box_event ?hg (N := 11) ?hd (cs := Ht.zero.cs) (t := 25) ?hr ?_; (case hd => rfl); (case hg => rfl); (case hr => first | (go_simp; done) | (go_simp; rfl)); intro gk hg w_28 H1 hb; have hB_30 := Lib.hid (below_step hB_27.out hb); have G_gk := Lib.hid (show w.heap.size ≤ gk by rw [hg]; exact (hB_27.out).size); have N_ga_gk := Lib.hid (show ga ≠ gk by rw [hg]; exact Nat.ne_of_lt (K_ga.out.lt)); have N_gt_gk := Lib.hid (show gt ≠ gk by rw [hg]; exact Nat.ne_of_lt (blk_lt K_gt.out)); have N_gf_gk := Lib.hid (show gf ≠ gk by rw [hg]; exact Nat.ne_of_lt (K_gf.out.lt)); have N_gg_gk := Lib.hid (show gg ≠ gk by rw [hg]; exact Nat.ne_of_lt (K_gg.out.lt)); replace K_ga := Lib.hid (K_ga.out.below hb); replace K_gt := Lib.hid (blk_below K_gt.out hb); replace K_gf := Lib.hid (K_gf.out.below hb); replace K_gg := Lib.hid (K_gg.out.below hb); have K_gk := Lib.hid (show Hb w_28 gk Ht.zero from H1); clear hg hb H1 hB_27) | (refine store_hart rfl (.tmp 11) (.tmp 36) rfl gk k rfl rfl Ht.zero K_gk.out ?_; have hB_31 := Lib.hid (setCells_below G_gk.out (Ht.cs k).toList 0 _ hB_30.out); replace K_ga := Lib.hid (Hb.farAll (vs := (Ht.cs k).toList) (o := 0) N_ga_gk.out K_ga.out); replace K_gt := Lib.hid (setCells_far' (vs := (Ht.cs k).toList) (o := 0) N_gt_gk.out K_gt.out); replace K_gf := Lib.hid (Hb.farAll (vs := (Ht.cs k).toList) (o := 0) N_gf_gk.out K_gf.out); replace K_gg := Lib.hid (Hb.farAll (vs := (Ht.cs k).toList) (o := 0) N_gg_gk.out K_gg.out); replace K_gk := Lib.hid (Hb.putAll k K_gk.out); clear hB_30; generalize World.setCells w_28 gk 0 (Ht.cs k).toList = w_29 at K_ga K_gt K_gf K_gg K_gk hB_31 ⊢))
      clear hu25
      go_wp2_with (first | ((with_reducible refine gate_dst (N := 37) rfl ?_); (first | (refine gate_guard (by kernel_rfl) ?_) | skip); refine Kd.event_run rfl (v := .agg (k).cs) (w1 := w_29) ?hb ?_; (case hb => exact exec_load_hart rfl rfl K_gk.out)))
      refine (HLK.out _ (Tab.from HT.out hB_31.out)).mono ?_
      rintro e_32 w_33 ⟨rfl, hb⟩
      have hB_34 := Lib.hid (below_step hB_31.out hb)
      replace K_ga := Lib.hid (K_ga.out.below hb)
      replace K_gt := Lib.hid (blk_below K_gt.out hb)
      replace K_gf := Lib.hid (K_gf.out.below hb)
      replace K_gg := Lib.hid (K_gg.out.below hb)
      replace K_gk := Lib.hid (K_gk.out.below hb)
      clear hb hB_31
      go_wp2_with fail
      refine (HKN.out _ (Tab.from HT.out hB_34.out)).mono ?_
      rintro e9 w9 ⟨rfl, n_, e9⟩
      replace K_ga := Lib.hid (Hb.of e9.symm (K_ga.out.drewN n_))
      replace K_gt := Lib.hid (show w9.heap[gt]? = some (.cells #[.bool la, .bool lb, .bool lc, .bool ld, .int .u64 lg, .int .u64 lt] 27 (0, 0)) from by rw [e9]; exact blk_drewN K_gt.out n_)
      replace K_gf := Lib.hid (Hb.of e9.symm (K_gf.out.drewN n_))
      replace K_gg := Lib.hid (Hb.of e9.symm (K_gg.out.drewN n_))
      replace K_gk := Lib.hid (Hb.of e9.symm (K_gk.out.drewN n_))
      have hB_35 := Lib.hid (Below_of e9.symm (pw_below_drewN hB_34.out n_))
      clear e9 hB_34
      go_wp2_with (first | ((with_reducible refine gate_dst (N := 43) rfl ?_); (first | (refine gate_guard (by kernel_rfl) ?_) | skip); refine Kd.event_run rfl (v := .agg (k).cs) (w1 := w9) ?hb ?_; (case hb => exact exec_load_hart rfl rfl K_gk.out)) | ((with_reducible refine gate_dst (N := 44) rfl ?_); (first | (refine gate_guard (by kernel_rfl) ?_) | skip); refine Kd.event_run rfl (v := .agg (f).cs) (w1 := w9) ?hb ?_; (case hb => exact exec_load_hart rfl rfl K_gf.out)) | ((with_reducible refine gate_dst (N := 45) rfl ?_); (first | (refine gate_guard (by kernel_rfl) ?_) | skip); refine Kd.event_run rfl (v := .bool true) (w1 := w9) ?hb ?_; (case hb => exact exec_eqB (h := k) (k := f) rfl rfl rfl (HKF.out))))
      refine (wakes_c _ (Tab.from HT.out hB_35.out)).mono ?_
      rintro e_36 w_37 ⟨rfl, hb⟩
      have hB_38 := Lib.hid (below_step hB_35.out hb)
      replace K_ga := Lib.hid (K_ga.out.below hb)
      replace K_gt := Lib.hid (blk_below K_gt.out hb)
      replace K_gf := Lib.hid (K_gf.out.below hb)
      replace K_gg := Lib.hid (K_gg.out.below hb)
      replace K_gk := Lib.hid (K_gk.out.below hb)
      clear hb hB_35
      go_wp2
      go_ret
      exact ⟨rfl, hB_38.out⟩
    · skip
      rw [hb] at hlh
      have l5 := l4
      rw [hk] at hkn
      have HLH := Lib.hid hlh; have HKN := Lib.hid hkn; have HEQ := Lib.hid hb; have HKF := Lib.hid l5
      clear hlh hkn hb l4 l5 hk
      have hu25 := Tryd.underlying25; have hu27 := Tryd.underlying27
      go_enter Tryd.func7, Tryd.ntmps7
      go_upto_region 1 with (first | ((with_reducible refine gate_dst (N := 4) rfl ?_); refine box_event ?hg (N := 4) ?hd (cs := h.cs) (t := 25) ?hr ?_; (case hd => rfl); (case hg => rfl); (case hr => first | (go_simp; done) | (go_simp; rfl)); intro ga hg w_1 H1 hb; have hB_2 := Lib.hid (below_step (Below.refl w.heap.size w) hb); have G_ga := Lib.hid (show w.heap.size ≤ ga by rw [hg]; exact ((Below.refl w.heap.size w)).size); have K_ga := Lib.hid (show Hb w_1 ga h from H1); clear hg hb H1) | ((with_reducible refine gate_dst (N := 5) rfl ?_); refine box_event ?hg (N := 5) ?hd (cs := #[.bool la, .bool lb, .bool lc, .bool ld, .int .u64 lg, .int .u64 lt]) (t := 27) ?hr ?_; (case hd => rfl); (case hg => rfl); (case hr => first | (go_simp; done) | (go_simp; rfl)); intro gt hg w_3 H1 hb; have hB_4 := Lib.hid (below_step hB_2.out hb); have G_gt := Lib.hid (show w.heap.size ≤ gt by rw [hg]; exact (hB_2.out).size); have N_ga_gt := Lib.hid (show ga ≠ gt by rw [hg]; exact Nat.ne_of_lt (K_ga.out.lt)); replace K_ga := Lib.hid (K_ga.out.below hb); have K_gt := Lib.hid (show w_3.heap[gt]? = some (.cells #[.bool la, .bool lb, .bool lc, .bool ld, .int .u64 lg, .int .u64 lt] 27 (0, 0)) from H1); clear hg hb H1 hB_2; clear hu27))
      go_wp2_with (first | ((with_reducible refine gate_dst (N := 12) rfl ?_); (first | (refine gate_guard (by kernel_rfl) ?_) | skip); refine Kd.event_run rfl (v := .agg (h).cs) (w1 := w_3) ?hb ?_; (case hb => exact exec_load_hart rfl rfl K_ga.out)))
      refine (HF.out _ (Tab.from HT.out hB_4.out)).mono ?_
      rintro e_5 w_6 ⟨rfl, hb⟩
      have hB_7 := Lib.hid (below_step hB_4.out hb)
      replace K_ga := Lib.hid (K_ga.out.below hb)
      replace K_gt := Lib.hid (blk_below K_gt.out hb)
      clear hb hB_4
      go_upto_region 2 with (first | ((with_reducible refine gate_dst (N := 9) rfl ?_); refine box_event ?hg (N := 9) ?hd (cs := Ht.zero.cs) (t := 25) ?hr ?_; (case hd => rfl); (case hg => rfl); (case hr => first | (go_simp; done) | (go_simp; rfl)); intro gf hg w_8 H1 hb; have hB_10 := Lib.hid (below_step hB_7.out hb); have G_gf := Lib.hid (show w.heap.size ≤ gf by rw [hg]; exact (hB_7.out).size); have N_ga_gf := Lib.hid (show ga ≠ gf by rw [hg]; exact Nat.ne_of_lt (K_ga.out.lt)); have N_gt_gf := Lib.hid (show gt ≠ gf by rw [hg]; exact Nat.ne_of_lt (blk_lt K_gt.out)); replace K_ga := Lib.hid (K_ga.out.below hb); replace K_gt := Lib.hid (blk_below K_gt.out hb); have K_gf := Lib.hid (show Hb w_8 gf Ht.zero from H1); clear hg hb H1 hB_7) | (refine store_hart rfl (.tmp 9) (.tmp 13) rfl gf f rfl rfl Ht.zero K_gf.out ?_; have hB_11 := Lib.hid (setCells_below G_gf.out (Ht.cs f).toList 0 _ hB_10.out); replace K_ga := Lib.hid (Hb.farAll (vs := (Ht.cs f).toList) (o := 0) N_ga_gf.out K_ga.out); replace K_gt := Lib.hid (setCells_far' (vs := (Ht.cs f).toList) (o := 0) N_gt_gf.out K_gt.out); replace K_gf := Lib.hid (Hb.putAll f K_gf.out); clear hB_10; generalize World.setCells w_8 gf 0 (Ht.cs f).toList = w_9 at K_ga K_gt K_gf hB_11 ⊢))
      go_wp2_with (first | ((with_reducible refine gate_dst (N := 14) rfl ?_); (first | (refine gate_guard (by kernel_rfl) ?_) | skip); refine Kd.event_run rfl (v := .agg (f).cs) (w1 := w_9) ?hb ?_; (case hb => exact exec_load_hart rfl rfl K_gf.out)))
      refine (HG.out _ (Tab.from HT.out hB_11.out)).mono ?_
      rintro e_12 w_13 ⟨rfl, hb⟩
      have hB_14 := Lib.hid (below_step hB_11.out hb)
      replace K_ga := Lib.hid (K_ga.out.below hb)
      replace K_gt := Lib.hid (blk_below K_gt.out hb)
      replace K_gf := Lib.hid (K_gf.out.below hb)
      clear hb hB_11
      go_upto_region 3 with (first | ((with_reducible refine gate_dst (N := 10) rfl ?_); refine box_event ?hg (N := 10) ?hd (cs := Ht.zero.cs) (t := 25) ?hr ?_; (case hd => rfl); (case hg => rfl); (case hr => first | (go_simp; done) | (go_simp; rfl)); intro gg hg w_15 H1 hb; have hB_17 := Lib.hid (below_step hB_14.out hb); have G_gg := Lib.hid (show w.heap.size ≤ gg by rw [hg]; exact (hB_14.out).size); have N_ga_gg := Lib.hid (show ga ≠ gg by rw [hg]; exact Nat.ne_of_lt (K_ga.out.lt)); have N_gt_gg := Lib.hid (show gt ≠ gg by rw [hg]; exact Nat.ne_of_lt (blk_lt K_gt.out)); have N_gf_gg := Lib.hid (show gf ≠ gg by rw [hg]; exact Nat.ne_of_lt (K_gf.out.lt)); replace K_ga := Lib.hid (K_ga.out.below hb); replace K_gt := Lib.hid (blk_below K_gt.out hb); replace K_gf := Lib.hid (K_gf.out.below hb); have K_gg := Lib.hid (show Hb w_15 gg Ht.zero from H1); clear hg hb H1 hB_14) | (refine store_hart rfl (.tmp 10) (.tmp 15) rfl gg g rfl rfl Ht.zero K_gg.out ?_; have hB_18 := Lib.hid (setCells_below G_gg.out (Ht.cs g).toList 0 _ hB_17.out); replace K_ga := Lib.hid (Hb.farAll (vs := (Ht.cs g).toList) (o := 0) N_ga_gg.out K_ga.out); replace K_gt := Lib.hid (setCells_far' (vs := (Ht.cs g).toList) (o := 0) N_gt_gg.out K_gt.out); replace K_gf := Lib.hid (Hb.farAll (vs := (Ht.cs g).toList) (o := 0) N_gf_gg.out K_gf.out); replace K_gg := Lib.hid (Hb.putAll g K_gg.out); clear hB_17; generalize World.setCells w_15 gg 0 (Ht.cs g).toList = w_16 at K_ga K_gt K_gf K_gg hB_18 ⊢))
      refine start_ (n := 16) (S := fun w' => Hb w' gf f ∧ Hb w' gg g ∧ Hb w' ga h ∧ Tab w') (ds := []) #[false, false, false, false, false, false, false, false, false, false, false, false, false, false, false, false] (by kernel_rfl) rfl rfl ⟨K_gf.out.drew, K_gg.out.drew, K_ga.out.drew, (Tab.from HT.out (below_drew1 hB_18.out))⟩ (fun hHeld => ?_)
      replace K_ga := Lib.hid (K_ga.out.drew)
      replace K_gt := Lib.hid (blk_drew K_gt.out)
      replace K_gf := Lib.hid (K_gf.out.drew)
      replace K_gg := Lib.hid (K_gg.out.drew)
      have hB_20 := Lib.hid (below_drew1 hB_18.out)
      clear hB_18
      generalize World.drew w_16 = w_19 at K_ga K_gt K_gf K_gg hB_20 hHeld ⊢
      refine take_ (i := 0) (N := some 16) (v := .agg f.cs) (a' := ?_) #[true, false, false, false, false, false, false, false, false, false, false, false, false, false, false, false] rfl rfl (by kernel_rfl) (fun _ _ _ h => h) (Or.inl ⟨by rfl, ?_⟩) hHeld ?_ ?_
      · rintro w' ⟨s0, s1, s2, s3⟩; exact exec_load_hart rfl rfl s0
      rotate_left
      · simp only [Act.put, List.setIfInBounds_toArray, List.set_cons_zero, List.set_cons_succ, i64_w, i32_w]
        rfl
      have HH := Lib.hid hHeld
      clear hHeld
      refine one_ (i := 1) (N := some 17) #[true, true, false, false, false, false, false, false, false, false, false, false, false, false, false, false] rfl rfl (by kernel_rfl) (by decide) (fun K hK => ?_)
      refine goes_ Tryd.func22 (by kernel_rfl) rfl #[.agg f.cs] (by rfl) rfl rfl (by simp only [List.map_toArray, List.map_cons, List.map_nil]; rfl) ?_
      with_reducible refine (HLF.out _ HH.out.2.2.2).mono ?_
      rintro e_ w_21 ⟨rfl, hb⟩
      refine ⟨_, rfl, ?_⟩
      have s_0 := Hb.below (HH.out.1) hb
      have s_1 := Hb.below (HH.out.2.1) hb
      have s_2 := Hb.below (HH.out.2.2.1) hb
      have s_3 := Tab.from (HH.out.2.2.2) hb
      replace K_ga := Lib.hid (K_ga.out.below hb)
      replace K_gt := Lib.hid (blk_below K_gt.out hb)
      replace K_gf := Lib.hid (K_gf.out.below hb)
      replace K_gg := Lib.hid (K_gg.out.below hb)
      have hB_22 := Lib.hid (below_step hB_20.out hb)
      clear HH hb hB_20
      refine hK.out _ _ ⟨s_0, s_1, s_2, s_3⟩ (fun hHeld => ?_)
      have HH := Lib.hid hHeld
      clear hHeld s_0 s_1 s_2 s_3
      clear hK K
      refine norm_ (a' := ?_) ?_ ?_
      rotate_left
      · show Act.put _ (some 17) _ = _
        simp only [Act.put, List.setIfInBounds_toArray, List.set_cons_zero, List.set_cons_succ, i64_w, i32_w]
        rfl
      refine pure_ (i := 2) (N := some 18) (v := ?_) (a' := ?_) #[true, true, true, false, false, false, false, false, false, false, false, false, false, false, false, false] rfl rfl (by kernel_rfl) (fun _ _ _ h => h) (Or.inl ⟨by rfl, ?_⟩) ?_ ?_
      rotate_left
      · intro w'
        go_simp
        with_reducible rfl
      rotate_left
      · simp only [Act.put, List.setIfInBounds_toArray, List.set_cons_zero, List.set_cons_succ, i64_w, i32_w]
        rfl
      refine pure_ (i := 3) (N := some 19) (v := ?_) (a' := ?_) #[true, true, true, true, false, false, false, false, false, false, false, false, false, false, false, false] rfl rfl (by kernel_rfl) (fun _ _ _ h => h) (Or.inl ⟨by rfl, ?_⟩) ?_ ?_
      rotate_left
      · intro w'
        go_simp
        with_reducible rfl
      rotate_left
      · simp only [Act.put, List.setIfInBounds_toArray, List.set_cons_zero, List.set_cons_succ, i64_w, i32_w]
        rfl
      refine take_ (i := 4) (N := some 20) (v := .agg g.cs) (a' := ?_) #[true, true, true, true, true, false, false, false, false, false, false, false, false, false, false, false] rfl rfl (by kernel_rfl) (fun _ _ _ h => h) (Or.inl ⟨by rfl, ?_⟩) HH.out ?_ ?_
      · rintro w' ⟨s0, s1, s2, s3⟩; exact exec_load_hart rfl rfl s1
      rotate_left
      · simp only [Act.put, List.setIfInBounds_toArray, List.set_cons_zero, List.set_cons_succ, i64_w, i32_w]
        rfl
      refine take_ (i := 5) (N := some 21) (v := .agg f.cs) (a' := ?_) #[true, true, true, true, true, true, false, false, false, false, false, false, false, false, false, false] rfl rfl (by kernel_rfl) (fun _ _ _ h => h) (Or.inl ⟨by rfl, ?_⟩) HH.out ?_ ?_
      · rintro w' ⟨s0, s1, s2, s3⟩; exact exec_load_hart rfl rfl s0
      rotate_left
      · simp only [Act.put, List.setIfInBounds_toArray, List.set_cons_zero, List.set_cons_succ, i64_w, i32_w]
        rfl
      refine pure_ (i := 6) (N := some 22) (v := .bool false) (a' := ?_) #[true, true, true, true, true, true, true, false, false, false, false, false, false, false, false, false] rfl rfl (by kernel_rfl) (fun _ _ _ h => h) (Or.inl ⟨by rfl, ?_⟩) ?_ ?_
      · intro w'; exact exec_neB (h := g) (k := f) rfl rfl rfl HNE.out
      rotate_left
      · simp only [Act.put, List.setIfInBounds_toArray, List.set_cons_zero, List.set_cons_succ, i64_w, i32_w]
        rfl
      refine pure_ (i := 7) (N := some 23) (v := ?_) (a' := ?_) #[true, true, true, true, true, true, true, true, false, false, false, false, false, false, false, false] rfl rfl (by kernel_rfl) (fun _ _ _ h => h) (Or.inl ⟨by rfl, ?_⟩) ?_ ?_
      rotate_left
      · intro w'
        go_simp
        with_reducible rfl
      rotate_left
      · simp only [Act.put, List.setIfInBounds_toArray, List.set_cons_zero, List.set_cons_succ, i64_w, i32_w]
        rfl
      refine pure_ (i := 8) (N := some 24) (v := ?_) (a' := ?_) #[true, true, true, true, true, true, true, true, true, false, false, false, false, false, false, false] rfl rfl (by kernel_rfl) (fun _ _ _ h => h) (Or.inl ⟨by rfl, ?_⟩) ?_ ?_
      rotate_left
      · intro w'
        go_simp
        with_reducible rfl
      rotate_left
      · simp only [Act.put, List.setIfInBounds_toArray, List.set_cons_zero, List.set_cons_succ, i64_w, i32_w]
        rfl
      refine take_ (i := 9) (N := some 25) (v := .agg h.cs) (a' := ?_) #[true, true, true, true, true, true, true, true, true, true, false, false, false, false, false, false] rfl rfl (by kernel_rfl) (fun _ _ _ h => h) (Or.inl ⟨by rfl, ?_⟩) HH.out ?_ ?_
      · rintro w' ⟨s0, s1, s2, s3⟩; exact exec_load_hart rfl rfl s2
      rotate_left
      · simp only [Act.put, List.setIfInBounds_toArray, List.set_cons_zero, List.set_cons_succ, i64_w, i32_w]
        rfl
      refine take_ (i := 11) (N := some 27) (v := .agg f.cs) (a' := ?_) #[true, true, true, true, true, true, true, true, true, true, false, true, false, false, false, false] rfl rfl (by kernel_rfl) (fun _ _ _ h => h) (Or.inl ⟨by rfl, ?_⟩) HH.out ?_ ?_
      · rintro w' ⟨s0, s1, s2, s3⟩; exact exec_load_hart rfl rfl s0
      rotate_left
      · simp only [Act.put, List.setIfInBounds_toArray, List.set_cons_zero, List.set_cons_succ, i64_w, i32_w]
        rfl
      refine take_ (i := 12) (N := some 28) (v := .agg h.cs) (a' := ?_) #[true, true, true, true, true, true, true, true, true, true, false, true, true, false, false, false] rfl rfl (by kernel_rfl) (fun _ _ _ h => h) (Or.inl ⟨by rfl, ?_⟩) HH.out ?_ ?_
      · rintro w' ⟨s0, s1, s2, s3⟩; exact exec_load_hart rfl rfl s2
      rotate_left
      · simp only [Act.put, List.setIfInBounds_toArray, List.set_cons_zero, List.set_cons_succ, i64_w, i32_w]
        rfl
      refine pure_ (i := 13) (N := some 29) (v := .bool false) (a' := ?_) #[true, true, true, true, true, true, true, true, true, true, false, true, true, true, false, false] rfl rfl (by kernel_rfl) (fun _ _ _ h => h) (Or.inl ⟨by rfl, ?_⟩) ?_ ?_
      · intro w'; exact exec_eqB (h := f) (k := h) rfl rfl rfl HEQ.out
      rotate_left
      · simp only [Act.put, List.setIfInBounds_toArray, List.set_cons_zero, List.set_cons_succ, i64_w, i32_w]
        rfl
      refine one_ (i := 10) (N := some 26) #[true, true, true, true, true, true, true, true, true, true, true, true, true, true, false, false] rfl rfl (by kernel_rfl) (by decide) (fun K hK => ?_)
      refine goes_ Tryd.func22 (by kernel_rfl) rfl #[.agg h.cs] (by rfl) rfl rfl (by simp only [List.map_toArray, List.map_cons, List.map_nil]; rfl) ?_
      with_reducible refine (HLH.out _ HH.out.2.2.2).mono ?_
      rintro e_ w_23 ⟨rfl, hb⟩
      refine ⟨_, rfl, ?_⟩
      have s_0 := Hb.below (HH.out.1) hb
      have s_1 := Hb.below (HH.out.2.1) hb
      have s_2 := Hb.below (HH.out.2.2.1) hb
      have s_3 := Tab.from (HH.out.2.2.2) hb
      replace K_ga := Lib.hid (K_ga.out.below hb)
      replace K_gt := Lib.hid (blk_below K_gt.out hb)
      replace K_gf := Lib.hid (K_gf.out.below hb)
      replace K_gg := Lib.hid (K_gg.out.below hb)
      have hB_24 := Lib.hid (below_step hB_22.out hb)
      clear HH hb hB_22
      refine hK.out _ _ ⟨s_0, s_1, s_2, s_3⟩ (fun hHeld => ?_)
      have HH := Lib.hid hHeld
      clear hHeld s_0 s_1 s_2 s_3
      clear hK K
      refine norm_ (a' := ?_) ?_ ?_
      rotate_left
      · show Act.put _ (some 26) _ = _
        simp only [Act.put, List.setIfInBounds_toArray, List.set_cons_zero, List.set_cons_succ, i64_w, i32_w]
        rfl
      refine pure_ (i := 14) (N := some 30) (v := ?_) (a' := ?_) #[true, true, true, true, true, true, true, true, true, true, true, true, true, true, true, false] rfl rfl (by kernel_rfl) (fun _ _ _ h => h) (Or.inl ⟨by rfl, ?_⟩) ?_ ?_
      rotate_left
      · intro w'
        go_simp
        with_reducible rfl
      rotate_left
      · simp only [Act.put, List.setIfInBounds_toArray, List.set_cons_zero, List.set_cons_succ, i64_w, i32_w]
        rfl
      refine pure_ (i := 15) (N := some 31) (v := ?_) (a' := ?_) #[true, true, true, true, true, true, true, true, true, true, true, true, true, true, true, true] rfl rfl (by kernel_rfl) (fun _ _ _ h => h) (Or.inl ⟨by rfl, ?_⟩) ?_ ?_
      rotate_left
      · intro w'
        go_simp
        with_reducible rfl
      rotate_left
      · simp only [Act.put, List.setIfInBounds_toArray, List.set_cons_zero, List.set_cons_succ, i64_w, i32_w]
        rfl
      refine done_ (by kernel_rfl) ?_
      try clear HH
      go_upto_region 5 with fail
      go_wp2_with (first | ((with_reducible refine gate_dst (N := 32) rfl ?_); (first | (refine gate_guard (by kernel_rfl) ?_) | skip); refine Kd.event_run rfl (v := .agg (f).cs) (w1 := w_23) ?hb ?_; (case hb => exact exec_load_hart rfl rfl K_gf.out)) | ((with_reducible refine gate_dst (N := 33) rfl ?_); (first | (refine gate_guard (by kernel_rfl) ?_) | skip); refine Kd.event_run rfl (v := .agg #[.bool la, .bool lb, .bool lc, .bool ld, .int .u64 lg, .int .u64 lt]) (w1 := w_23) ?hb ?_; (case hb => exact exec_load_blk rfl rfl K_gt.out Tryd.underlying27 rfl (by kernel_rfl))))
      refine (HW.out _ (Tab.from HT.out hB_24.out)).mono ?_
      rintro e_25 w_26 ⟨rfl, hb⟩
      have hB_27 := Lib.hid (below_step hB_24.out hb)
      replace K_ga := Lib.hid (K_ga.out.below hb)
      replace K_gt := Lib.hid (blk_below K_gt.out hb)
      replace K_gf := Lib.hid (K_gf.out.below hb)
      replace K_gg := Lib.hid (K_gg.out.below hb)
      clear hb hB_24
      go_upto_region 6 with (first | ((with_reducible refine gate_dst (N := 11) rfl ?_); refine box_event ?hg (N := 11) ?hd (cs := Ht.zero.cs) (t := 25) ?hr ?_; (case hd => rfl); (case hg => rfl); (case hr => first | (go_simp; done) | (go_simp; rfl)); intro gk hg w_28 H1 hb; have hB_30 := Lib.hid (below_step hB_27.out hb); have G_gk := Lib.hid (show w.heap.size ≤ gk by rw [hg]; exact (hB_27.out).size); have N_ga_gk := Lib.hid (show ga ≠ gk by rw [hg]; exact Nat.ne_of_lt (K_ga.out.lt)); have N_gt_gk := Lib.hid (show gt ≠ gk by rw [hg]; exact Nat.ne_of_lt (blk_lt K_gt.out)); have N_gf_gk := Lib.hid (show gf ≠ gk by rw [hg]; exact Nat.ne_of_lt (K_gf.out.lt)); have N_gg_gk := Lib.hid (show gg ≠ gk by rw [hg]; exact Nat.ne_of_lt (K_gg.out.lt)); replace K_ga := Lib.hid (K_ga.out.below hb); replace K_gt := Lib.hid (blk_below K_gt.out hb); replace K_gf := Lib.hid (K_gf.out.below hb); replace K_gg := Lib.hid (K_gg.out.below hb); have K_gk := Lib.hid (show Hb w_28 gk Ht.zero from H1); clear hg hb H1 hB_27) | (refine store_hart rfl (.tmp 11) (.tmp 36) rfl gk k rfl rfl Ht.zero K_gk.out ?_; have hB_31 := Lib.hid (setCells_below G_gk.out (Ht.cs k).toList 0 _ hB_30.out); replace K_ga := Lib.hid (Hb.farAll (vs := (Ht.cs k).toList) (o := 0) N_ga_gk.out K_ga.out); replace K_gt := Lib.hid (setCells_far' (vs := (Ht.cs k).toList) (o := 0) N_gt_gk.out K_gt.out); replace K_gf := Lib.hid (Hb.farAll (vs := (Ht.cs k).toList) (o := 0) N_gf_gk.out K_gf.out); replace K_gg := Lib.hid (Hb.farAll (vs := (Ht.cs k).toList) (o := 0) N_gg_gk.out K_gg.out); replace K_gk := Lib.hid (Hb.putAll k K_gk.out); clear hB_30; generalize World.setCells w_28 gk 0 (Ht.cs k).toList = w_29 at K_ga K_gt K_gf K_gg K_gk hB_31 ⊢))
      clear hu25
      go_wp2_with (first | ((with_reducible refine gate_dst (N := 37) rfl ?_); (first | (refine gate_guard (by kernel_rfl) ?_) | skip); refine Kd.event_run rfl (v := .agg (k).cs) (w1 := w_29) ?hb ?_; (case hb => exact exec_load_hart rfl rfl K_gk.out)))
      refine (HLK.out _ (Tab.from HT.out hB_31.out)).mono ?_
      rintro e_32 w_33 ⟨rfl, hb⟩
      have hB_34 := Lib.hid (below_step hB_31.out hb)
      replace K_ga := Lib.hid (K_ga.out.below hb)
      replace K_gt := Lib.hid (blk_below K_gt.out hb)
      replace K_gf := Lib.hid (K_gf.out.below hb)
      replace K_gg := Lib.hid (K_gg.out.below hb)
      replace K_gk := Lib.hid (K_gk.out.below hb)
      clear hb hB_31
      go_wp2_with fail
      refine (HKN.out _ (Tab.from HT.out hB_34.out)).mono ?_
      rintro e9 w9 ⟨rfl, n_, e9⟩
      replace K_ga := Lib.hid (Hb.of e9.symm (K_ga.out.drewN n_))
      replace K_gt := Lib.hid (show w9.heap[gt]? = some (.cells #[.bool la, .bool lb, .bool lc, .bool ld, .int .u64 lg, .int .u64 lt] 27 (0, 0)) from by rw [e9]; exact blk_drewN K_gt.out n_)
      replace K_gf := Lib.hid (Hb.of e9.symm (K_gf.out.drewN n_))
      replace K_gg := Lib.hid (Hb.of e9.symm (K_gg.out.drewN n_))
      replace K_gk := Lib.hid (Hb.of e9.symm (K_gk.out.drewN n_))
      have hB_35 := Lib.hid (Below_of e9.symm (pw_below_drewN hB_34.out n_))
      clear e9 hB_34
      go_wp2_with fail
      refine (wakes_c _ (Tab.from HT.out hB_35.out)).mono ?_
      rintro e_36 w_37 ⟨rfl, hb⟩
      have hB_38 := Lib.hid (below_step hB_35.out hb)
      replace K_ga := Lib.hid (K_ga.out.below hb)
      replace K_gt := Lib.hid (blk_below K_gt.out hb)
      replace K_gf := Lib.hid (K_gf.out.below hb)
      replace K_gg := Lib.hid (K_gg.out.below hb)
      replace K_gk := Lib.hid (K_gk.out.below hb)
      clear hb hB_35
      go_wp2
      go_ret
      exact ⟨rfl, hB_38.out⟩
  · skip
    cases hk : knownV no
    · skip
      rw [hb] at hlh
      have l5 := l4 hk
      rw [hk] at hkn
      have HLH := Lib.hid hlh; have HKN := Lib.hid hkn; have HEQ := Lib.hid hb; have HKF := Lib.hid l5
      clear hlh hkn hb l4 l5 hk
      have hu25 := Tryd.underlying25; have hu27 := Tryd.underlying27
      go_enter Tryd.func7, Tryd.ntmps7
      go_upto_region 1 with (first | ((with_reducible refine gate_dst (N := 4) rfl ?_); refine box_event ?hg (N := 4) ?hd (cs := h.cs) (t := 25) ?hr ?_; (case hd => rfl); (case hg => rfl); (case hr => first | (go_simp; done) | (go_simp; rfl)); intro ga hg w_1 H1 hb; have hB_2 := Lib.hid (below_step (Below.refl w.heap.size w) hb); have G_ga := Lib.hid (show w.heap.size ≤ ga by rw [hg]; exact ((Below.refl w.heap.size w)).size); have K_ga := Lib.hid (show Hb w_1 ga h from H1); clear hg hb H1) | ((with_reducible refine gate_dst (N := 5) rfl ?_); refine box_event ?hg (N := 5) ?hd (cs := #[.bool la, .bool lb, .bool lc, .bool ld, .int .u64 lg, .int .u64 lt]) (t := 27) ?hr ?_; (case hd => rfl); (case hg => rfl); (case hr => first | (go_simp; done) | (go_simp; rfl)); intro gt hg w_3 H1 hb; have hB_4 := Lib.hid (below_step hB_2.out hb); have G_gt := Lib.hid (show w.heap.size ≤ gt by rw [hg]; exact (hB_2.out).size); have N_ga_gt := Lib.hid (show ga ≠ gt by rw [hg]; exact Nat.ne_of_lt (K_ga.out.lt)); replace K_ga := Lib.hid (K_ga.out.below hb); have K_gt := Lib.hid (show w_3.heap[gt]? = some (.cells #[.bool la, .bool lb, .bool lc, .bool ld, .int .u64 lg, .int .u64 lt] 27 (0, 0)) from H1); clear hg hb H1 hB_2; clear hu27))
      go_wp2_with (first | ((with_reducible refine gate_dst (N := 12) rfl ?_); (first | (refine gate_guard (by kernel_rfl) ?_) | skip); refine Kd.event_run rfl (v := .agg (h).cs) (w1 := w_3) ?hb ?_; (case hb => exact exec_load_hart rfl rfl K_ga.out)))
      refine (HF.out _ (Tab.from HT.out hB_4.out)).mono ?_
      rintro e_5 w_6 ⟨rfl, hb⟩
      have hB_7 := Lib.hid (below_step hB_4.out hb)
      replace K_ga := Lib.hid (K_ga.out.below hb)
      replace K_gt := Lib.hid (blk_below K_gt.out hb)
      clear hb hB_4
      go_upto_region 2 with (first | ((with_reducible refine gate_dst (N := 9) rfl ?_); refine box_event ?hg (N := 9) ?hd (cs := Ht.zero.cs) (t := 25) ?hr ?_; (case hd => rfl); (case hg => rfl); (case hr => first | (go_simp; done) | (go_simp; rfl)); intro gf hg w_8 H1 hb; have hB_10 := Lib.hid (below_step hB_7.out hb); have G_gf := Lib.hid (show w.heap.size ≤ gf by rw [hg]; exact (hB_7.out).size); have N_ga_gf := Lib.hid (show ga ≠ gf by rw [hg]; exact Nat.ne_of_lt (K_ga.out.lt)); have N_gt_gf := Lib.hid (show gt ≠ gf by rw [hg]; exact Nat.ne_of_lt (blk_lt K_gt.out)); replace K_ga := Lib.hid (K_ga.out.below hb); replace K_gt := Lib.hid (blk_below K_gt.out hb); have K_gf := Lib.hid (show Hb w_8 gf Ht.zero from H1); clear hg hb H1 hB_7) | (refine store_hart rfl (.tmp 9) (.tmp 13) rfl gf f rfl rfl Ht.zero K_gf.out ?_; have hB_11 := Lib.hid (setCells_below G_gf.out (Ht.cs f).toList 0 _ hB_10.out); replace K_ga := Lib.hid (Hb.farAll (vs := (Ht.cs f).toList) (o := 0) N_ga_gf.out K_ga.out); replace K_gt := Lib.hid (setCells_far' (vs := (Ht.cs f).toList) (o := 0) N_gt_gf.out K_gt.out); replace K_gf := Lib.hid (Hb.putAll f K_gf.out); clear hB_10; generalize World.setCells w_8 gf 0 (Ht.cs f).toList = w_9 at K_ga K_gt K_gf hB_11 ⊢))
      go_wp2_with (first | ((with_reducible refine gate_dst (N := 14) rfl ?_); (first | (refine gate_guard (by kernel_rfl) ?_) | skip); refine Kd.event_run rfl (v := .agg (f).cs) (w1 := w_9) ?hb ?_; (case hb => exact exec_load_hart rfl rfl K_gf.out)))
      refine (HG.out _ (Tab.from HT.out hB_11.out)).mono ?_
      rintro e_12 w_13 ⟨rfl, hb⟩
      have hB_14 := Lib.hid (below_step hB_11.out hb)
      replace K_ga := Lib.hid (K_ga.out.below hb)
      replace K_gt := Lib.hid (blk_below K_gt.out hb)
      replace K_gf := Lib.hid (K_gf.out.below hb)
      clear hb hB_11
      go_upto_region 3 with (first | ((with_reducible refine gate_dst (N := 10) rfl ?_); refine box_event ?hg (N := 10) ?hd (cs := Ht.zero.cs) (t := 25) ?hr ?_; (case hd => rfl); (case hg => rfl); (case hr => first | (go_simp; done) | (go_simp; rfl)); intro gg hg w_15 H1 hb; have hB_17 := Lib.hid (below_step hB_14.out hb); have G_gg := Lib.hid (show w.heap.size ≤ gg by rw [hg]; exact (hB_14.out).size); have N_ga_gg := Lib.hid (show ga ≠ gg by rw [hg]; exact Nat.ne_of_lt (K_ga.out.lt)); have N_gt_gg := Lib.hid (show gt ≠ gg by rw [hg]; exact Nat.ne_of_lt (blk_lt K_gt.out)); have N_gf_gg := Lib.hid (show gf ≠ gg by rw [hg]; exact Nat.ne_of_lt (K_gf.out.lt)); replace K_ga := Lib.hid (K_ga.out.below hb); replace K_gt := Lib.hid (blk_below K_gt.out hb); replace K_gf := Lib.hid (K_gf.out.below hb); have K_gg := Lib.hid (show Hb w_15 gg Ht.zero from H1); clear hg hb H1 hB_14) | (refine store_hart rfl (.tmp 10) (.tmp 15) rfl gg g rfl rfl Ht.zero K_gg.out ?_; have hB_18 := Lib.hid (setCells_below G_gg.out (Ht.cs g).toList 0 _ hB_17.out); replace K_ga := Lib.hid (Hb.farAll (vs := (Ht.cs g).toList) (o := 0) N_ga_gg.out K_ga.out); replace K_gt := Lib.hid (setCells_far' (vs := (Ht.cs g).toList) (o := 0) N_gt_gg.out K_gt.out); replace K_gf := Lib.hid (Hb.farAll (vs := (Ht.cs g).toList) (o := 0) N_gf_gg.out K_gf.out); replace K_gg := Lib.hid (Hb.putAll g K_gg.out); clear hB_17; generalize World.setCells w_15 gg 0 (Ht.cs g).toList = w_16 at K_ga K_gt K_gf K_gg hB_18 ⊢))
      refine start_ (n := 16) (S := fun w' => Hb w' gf f ∧ Hb w' gg g ∧ Hb w' ga h ∧ Tab w') (ds := []) #[false, false, false, false, false, false, false, false, false, false, false, false, false, false, false, false] (by kernel_rfl) rfl rfl ⟨K_gf.out.drew, K_gg.out.drew, K_ga.out.drew, (Tab.from HT.out (below_drew1 hB_18.out))⟩ (fun hHeld => ?_)
      replace K_ga := Lib.hid (K_ga.out.drew)
      replace K_gt := Lib.hid (blk_drew K_gt.out)
      replace K_gf := Lib.hid (K_gf.out.drew)
      replace K_gg := Lib.hid (K_gg.out.drew)
      have hB_20 := Lib.hid (below_drew1 hB_18.out)
      clear hB_18
      generalize World.drew w_16 = w_19 at K_ga K_gt K_gf K_gg hB_20 hHeld ⊢
      refine take_ (i := 0) (N := some 16) (v := .agg f.cs) (a' := ?_) #[true, false, false, false, false, false, false, false, false, false, false, false, false, false, false, false] rfl rfl (by kernel_rfl) (fun _ _ _ h => h) (Or.inl ⟨by rfl, ?_⟩) hHeld ?_ ?_
      · rintro w' ⟨s0, s1, s2, s3⟩; exact exec_load_hart rfl rfl s0
      rotate_left
      · simp only [Act.put, List.setIfInBounds_toArray, List.set_cons_zero, List.set_cons_succ, i64_w, i32_w]
        rfl
      have HH := Lib.hid hHeld
      clear hHeld
      refine one_ (i := 1) (N := some 17) #[true, true, false, false, false, false, false, false, false, false, false, false, false, false, false, false] rfl rfl (by kernel_rfl) (by decide) (fun K hK => ?_)
      refine goes_ Tryd.func22 (by kernel_rfl) rfl #[.agg f.cs] (by rfl) rfl rfl (by simp only [List.map_toArray, List.map_cons, List.map_nil]; rfl) ?_
      with_reducible refine (HLF.out _ HH.out.2.2.2).mono ?_
      rintro e_ w_21 ⟨rfl, hb⟩
      refine ⟨_, rfl, ?_⟩
      have s_0 := Hb.below (HH.out.1) hb
      have s_1 := Hb.below (HH.out.2.1) hb
      have s_2 := Hb.below (HH.out.2.2.1) hb
      have s_3 := Tab.from (HH.out.2.2.2) hb
      replace K_ga := Lib.hid (K_ga.out.below hb)
      replace K_gt := Lib.hid (blk_below K_gt.out hb)
      replace K_gf := Lib.hid (K_gf.out.below hb)
      replace K_gg := Lib.hid (K_gg.out.below hb)
      have hB_22 := Lib.hid (below_step hB_20.out hb)
      clear HH hb hB_20
      refine hK.out _ _ ⟨s_0, s_1, s_2, s_3⟩ (fun hHeld => ?_)
      have HH := Lib.hid hHeld
      clear hHeld s_0 s_1 s_2 s_3
      clear hK K
      refine norm_ (a' := ?_) ?_ ?_
      rotate_left
      · show Act.put _ (some 17) _ = _
        simp only [Act.put, List.setIfInBounds_toArray, List.set_cons_zero, List.set_cons_succ, i64_w, i32_w]
        rfl
      refine pure_ (i := 2) (N := some 18) (v := ?_) (a' := ?_) #[true, true, true, false, false, false, false, false, false, false, false, false, false, false, false, false] rfl rfl (by kernel_rfl) (fun _ _ _ h => h) (Or.inl ⟨by rfl, ?_⟩) ?_ ?_
      rotate_left
      · intro w'
        go_simp
        with_reducible rfl
      rotate_left
      · simp only [Act.put, List.setIfInBounds_toArray, List.set_cons_zero, List.set_cons_succ, i64_w, i32_w]
        rfl
      refine pure_ (i := 3) (N := some 19) (v := ?_) (a' := ?_) #[true, true, true, true, false, false, false, false, false, false, false, false, false, false, false, false] rfl rfl (by kernel_rfl) (fun _ _ _ h => h) (Or.inl ⟨by rfl, ?_⟩) ?_ ?_
      rotate_left
      · intro w'
        go_simp
        with_reducible rfl
      rotate_left
      · simp only [Act.put, List.setIfInBounds_toArray, List.set_cons_zero, List.set_cons_succ, i64_w, i32_w]
        rfl
      refine take_ (i := 4) (N := some 20) (v := .agg g.cs) (a' := ?_) #[true, true, true, true, true, false, false, false, false, false, false, false, false, false, false, false] rfl rfl (by kernel_rfl) (fun _ _ _ h => h) (Or.inl ⟨by rfl, ?_⟩) HH.out ?_ ?_
      · rintro w' ⟨s0, s1, s2, s3⟩; exact exec_load_hart rfl rfl s1
      rotate_left
      · simp only [Act.put, List.setIfInBounds_toArray, List.set_cons_zero, List.set_cons_succ, i64_w, i32_w]
        rfl
      refine take_ (i := 5) (N := some 21) (v := .agg f.cs) (a' := ?_) #[true, true, true, true, true, true, false, false, false, false, false, false, false, false, false, false] rfl rfl (by kernel_rfl) (fun _ _ _ h => h) (Or.inl ⟨by rfl, ?_⟩) HH.out ?_ ?_
      · rintro w' ⟨s0, s1, s2, s3⟩; exact exec_load_hart rfl rfl s0
      rotate_left
      · simp only [Act.put, List.setIfInBounds_toArray, List.set_cons_zero, List.set_cons_succ, i64_w, i32_w]
        rfl
      refine pure_ (i := 6) (N := some 22) (v := .bool false) (a' := ?_) #[true, true, true, true, true, true, true, false, false, false, false, false, false, false, false, false] rfl rfl (by kernel_rfl) (fun _ _ _ h => h) (Or.inl ⟨by rfl, ?_⟩) ?_ ?_
      · intro w'; exact exec_neB (h := g) (k := f) rfl rfl rfl HNE.out
      rotate_left
      · simp only [Act.put, List.setIfInBounds_toArray, List.set_cons_zero, List.set_cons_succ, i64_w, i32_w]
        rfl
      refine pure_ (i := 7) (N := some 23) (v := ?_) (a' := ?_) #[true, true, true, true, true, true, true, true, false, false, false, false, false, false, false, false] rfl rfl (by kernel_rfl) (fun _ _ _ h => h) (Or.inl ⟨by rfl, ?_⟩) ?_ ?_
      rotate_left
      · intro w'
        go_simp
        with_reducible rfl
      rotate_left
      · simp only [Act.put, List.setIfInBounds_toArray, List.set_cons_zero, List.set_cons_succ, i64_w, i32_w]
        rfl
      refine pure_ (i := 8) (N := some 24) (v := ?_) (a' := ?_) #[true, true, true, true, true, true, true, true, true, false, false, false, false, false, false, false] rfl rfl (by kernel_rfl) (fun _ _ _ h => h) (Or.inl ⟨by rfl, ?_⟩) ?_ ?_
      rotate_left
      · intro w'
        go_simp
        with_reducible rfl
      rotate_left
      · simp only [Act.put, List.setIfInBounds_toArray, List.set_cons_zero, List.set_cons_succ, i64_w, i32_w]
        rfl
      refine take_ (i := 9) (N := some 25) (v := .agg h.cs) (a' := ?_) #[true, true, true, true, true, true, true, true, true, true, false, false, false, false, false, false] rfl rfl (by kernel_rfl) (fun _ _ _ h => h) (Or.inl ⟨by rfl, ?_⟩) HH.out ?_ ?_
      · rintro w' ⟨s0, s1, s2, s3⟩; exact exec_load_hart rfl rfl s2
      rotate_left
      · simp only [Act.put, List.setIfInBounds_toArray, List.set_cons_zero, List.set_cons_succ, i64_w, i32_w]
        rfl
      refine take_ (i := 11) (N := some 27) (v := .agg f.cs) (a' := ?_) #[true, true, true, true, true, true, true, true, true, true, false, true, false, false, false, false] rfl rfl (by kernel_rfl) (fun _ _ _ h => h) (Or.inl ⟨by rfl, ?_⟩) HH.out ?_ ?_
      · rintro w' ⟨s0, s1, s2, s3⟩; exact exec_load_hart rfl rfl s0
      rotate_left
      · simp only [Act.put, List.setIfInBounds_toArray, List.set_cons_zero, List.set_cons_succ, i64_w, i32_w]
        rfl
      refine take_ (i := 12) (N := some 28) (v := .agg h.cs) (a' := ?_) #[true, true, true, true, true, true, true, true, true, true, false, true, true, false, false, false] rfl rfl (by kernel_rfl) (fun _ _ _ h => h) (Or.inl ⟨by rfl, ?_⟩) HH.out ?_ ?_
      · rintro w' ⟨s0, s1, s2, s3⟩; exact exec_load_hart rfl rfl s2
      rotate_left
      · simp only [Act.put, List.setIfInBounds_toArray, List.set_cons_zero, List.set_cons_succ, i64_w, i32_w]
        rfl
      refine pure_ (i := 13) (N := some 29) (v := .bool true) (a' := ?_) #[true, true, true, true, true, true, true, true, true, true, false, true, true, true, false, false] rfl rfl (by kernel_rfl) (fun _ _ _ h => h) (Or.inl ⟨by rfl, ?_⟩) ?_ ?_
      · intro w'; exact exec_eqB (h := f) (k := h) rfl rfl rfl HEQ.out
      rotate_left
      · simp only [Act.put, List.setIfInBounds_toArray, List.set_cons_zero, List.set_cons_succ, i64_w, i32_w]
        rfl
      refine one_ (i := 10) (N := some 26) #[true, true, true, true, true, true, true, true, true, true, true, true, true, true, false, false] rfl rfl (by kernel_rfl) (by decide) (fun K hK => ?_)
      refine goes_ Tryd.func22 (by kernel_rfl) rfl #[.agg h.cs] (by rfl) rfl rfl (by simp only [List.map_toArray, List.map_cons, List.map_nil]; rfl) ?_
      with_reducible refine (HLH.out _ HH.out.2.2.2).mono ?_
      rintro e_ w_23 ⟨rfl, hb⟩
      refine ⟨_, rfl, ?_⟩
      have s_0 := Hb.below (HH.out.1) hb
      have s_1 := Hb.below (HH.out.2.1) hb
      have s_2 := Hb.below (HH.out.2.2.1) hb
      have s_3 := Tab.from (HH.out.2.2.2) hb
      replace K_ga := Lib.hid (K_ga.out.below hb)
      replace K_gt := Lib.hid (blk_below K_gt.out hb)
      replace K_gf := Lib.hid (K_gf.out.below hb)
      replace K_gg := Lib.hid (K_gg.out.below hb)
      have hB_24 := Lib.hid (below_step hB_22.out hb)
      clear HH hb hB_22
      refine hK.out _ _ ⟨s_0, s_1, s_2, s_3⟩ (fun hHeld => ?_)
      have HH := Lib.hid hHeld
      clear hHeld s_0 s_1 s_2 s_3
      clear hK K
      refine norm_ (a' := ?_) ?_ ?_
      rotate_left
      · show Act.put _ (some 26) _ = _
        simp only [Act.put, List.setIfInBounds_toArray, List.set_cons_zero, List.set_cons_succ, i64_w, i32_w]
        rfl
      refine pure_ (i := 14) (N := some 30) (v := ?_) (a' := ?_) #[true, true, true, true, true, true, true, true, true, true, true, true, true, true, true, false] rfl rfl (by kernel_rfl) (fun _ _ _ h => h) (Or.inl ⟨by rfl, ?_⟩) ?_ ?_
      rotate_left
      · intro w'
        go_simp
        with_reducible rfl
      rotate_left
      · simp only [Act.put, List.setIfInBounds_toArray, List.set_cons_zero, List.set_cons_succ, i64_w, i32_w]
        rfl
      refine pure_ (i := 15) (N := some 31) (v := ?_) (a' := ?_) #[true, true, true, true, true, true, true, true, true, true, true, true, true, true, true, true] rfl rfl (by kernel_rfl) (fun _ _ _ h => h) (Or.inl ⟨by rfl, ?_⟩) ?_ ?_
      rotate_left
      · intro w'
        go_simp
        with_reducible rfl
      rotate_left
      · simp only [Act.put, List.setIfInBounds_toArray, List.set_cons_zero, List.set_cons_succ, i64_w, i32_w]
        rfl
      refine done_ (by kernel_rfl) ?_
      try clear HH
      go_upto_region 5 with fail
      go_wp2_with (first | ((with_reducible refine gate_dst (N := 32) rfl ?_); (first | (refine gate_guard (by kernel_rfl) ?_) | skip); refine Kd.event_run rfl (v := .agg (f).cs) (w1 := w_23) ?hb ?_; (case hb => exact exec_load_hart rfl rfl K_gf.out)) | ((with_reducible refine gate_dst (N := 33) rfl ?_); (first | (refine gate_guard (by kernel_rfl) ?_) | skip); refine Kd.event_run rfl (v := .agg #[.bool la, .bool lb, .bool lc, .bool ld, .int .u64 lg, .int .u64 lt]) (w1 := w_23) ?hb ?_; (case hb => exact exec_load_blk rfl rfl K_gt.out Tryd.underlying27 rfl (by kernel_rfl))))
      refine (HW.out _ (Tab.from HT.out hB_24.out)).mono ?_
      rintro e_25 w_26 ⟨rfl, hb⟩
      have hB_27 := Lib.hid (below_step hB_24.out hb)
      replace K_ga := Lib.hid (K_ga.out.below hb)
      replace K_gt := Lib.hid (blk_below K_gt.out hb)
      replace K_gf := Lib.hid (K_gf.out.below hb)
      replace K_gg := Lib.hid (K_gg.out.below hb)
      clear hb hB_24
      go_upto_region 6 with (first | ((with_reducible refine gate_dst (N := 11) rfl ?_); refine box_event ?hg (N := 11) ?hd (cs := Ht.zero.cs) (t := 25) ?hr ?_; (case hd => rfl); (case hg => rfl); (case hr => first | (go_simp; done) | (go_simp; rfl)); intro gk hg w_28 H1 hb; have hB_30 := Lib.hid (below_step hB_27.out hb); have G_gk := Lib.hid (show w.heap.size ≤ gk by rw [hg]; exact (hB_27.out).size); have N_ga_gk := Lib.hid (show ga ≠ gk by rw [hg]; exact Nat.ne_of_lt (K_ga.out.lt)); have N_gt_gk := Lib.hid (show gt ≠ gk by rw [hg]; exact Nat.ne_of_lt (blk_lt K_gt.out)); have N_gf_gk := Lib.hid (show gf ≠ gk by rw [hg]; exact Nat.ne_of_lt (K_gf.out.lt)); have N_gg_gk := Lib.hid (show gg ≠ gk by rw [hg]; exact Nat.ne_of_lt (K_gg.out.lt)); replace K_ga := Lib.hid (K_ga.out.below hb); replace K_gt := Lib.hid (blk_below K_gt.out hb); replace K_gf := Lib.hid (K_gf.out.below hb); replace K_gg := Lib.hid (K_gg.out.below hb); have K_gk := Lib.hid (show Hb w_28 gk Ht.zero from H1); clear hg hb H1 hB_27) | (refine store_hart rfl (.tmp 11) (.tmp 36) rfl gk k rfl rfl Ht.zero K_gk.out ?_; have hB_31 := Lib.hid (setCells_below G_gk.out (Ht.cs k).toList 0 _ hB_30.out); replace K_ga := Lib.hid (Hb.farAll (vs := (Ht.cs k).toList) (o := 0) N_ga_gk.out K_ga.out); replace K_gt := Lib.hid (setCells_far' (vs := (Ht.cs k).toList) (o := 0) N_gt_gk.out K_gt.out); replace K_gf := Lib.hid (Hb.farAll (vs := (Ht.cs k).toList) (o := 0) N_gf_gk.out K_gf.out); replace K_gg := Lib.hid (Hb.farAll (vs := (Ht.cs k).toList) (o := 0) N_gg_gk.out K_gg.out); replace K_gk := Lib.hid (Hb.putAll k K_gk.out); clear hB_30; generalize World.setCells w_28 gk 0 (Ht.cs k).toList = w_29 at K_ga K_gt K_gf K_gg K_gk hB_31 ⊢))
      clear hu25
      go_wp2_with (first | ((with_reducible refine gate_dst (N := 37) rfl ?_); (first | (refine gate_guard (by kernel_rfl) ?_) | skip); refine Kd.event_run rfl (v := .agg (k).cs) (w1 := w_29) ?hb ?_; (case hb => exact exec_load_hart rfl rfl K_gk.out)))
      refine (HLK.out _ (Tab.from HT.out hB_31.out)).mono ?_
      rintro e_32 w_33 ⟨rfl, hb⟩
      have hB_34 := Lib.hid (below_step hB_31.out hb)
      replace K_ga := Lib.hid (K_ga.out.below hb)
      replace K_gt := Lib.hid (blk_below K_gt.out hb)
      replace K_gf := Lib.hid (K_gf.out.below hb)
      replace K_gg := Lib.hid (K_gg.out.below hb)
      replace K_gk := Lib.hid (K_gk.out.below hb)
      clear hb hB_31
      go_wp2_with fail
      refine (HKN.out _ (Tab.from HT.out hB_34.out)).mono ?_
      rintro e9 w9 ⟨rfl, n_, e9⟩
      replace K_ga := Lib.hid (Hb.of e9.symm (K_ga.out.drewN n_))
      replace K_gt := Lib.hid (show w9.heap[gt]? = some (.cells #[.bool la, .bool lb, .bool lc, .bool ld, .int .u64 lg, .int .u64 lt] 27 (0, 0)) from by rw [e9]; exact blk_drewN K_gt.out n_)
      replace K_gf := Lib.hid (Hb.of e9.symm (K_gf.out.drewN n_))
      replace K_gg := Lib.hid (Hb.of e9.symm (K_gg.out.drewN n_))
      replace K_gk := Lib.hid (Hb.of e9.symm (K_gk.out.drewN n_))
      have hB_35 := Lib.hid (Below_of e9.symm (pw_below_drewN hB_34.out n_))
      clear e9 hB_34
      go_wp2_with (first | ((with_reducible refine gate_dst (N := 43) rfl ?_); (first | (refine gate_guard (by kernel_rfl) ?_) | skip); refine Kd.event_run rfl (v := .agg (k).cs) (w1 := w9) ?hb ?_; (case hb => exact exec_load_hart rfl rfl K_gk.out)) | ((with_reducible refine gate_dst (N := 44) rfl ?_); (first | (refine gate_guard (by kernel_rfl) ?_) | skip); refine Kd.event_run rfl (v := .agg (f).cs) (w1 := w9) ?hb ?_; (case hb => exact exec_load_hart rfl rfl K_gf.out)) | ((with_reducible refine gate_dst (N := 45) rfl ?_); (first | (refine gate_guard (by kernel_rfl) ?_) | skip); refine Kd.event_run rfl (v := .bool true) (w1 := w9) ?hb ?_; (case hb => exact exec_eqB (h := k) (k := f) rfl rfl rfl (HKF.out))))
      refine (wakes_c _ (Tab.from HT.out hB_35.out)).mono ?_
      rintro e_36 w_37 ⟨rfl, hb⟩
      have hB_38 := Lib.hid (below_step hB_35.out hb)
      replace K_ga := Lib.hid (K_ga.out.below hb)
      replace K_gt := Lib.hid (blk_below K_gt.out hb)
      replace K_gf := Lib.hid (K_gf.out.below hb)
      replace K_gg := Lib.hid (K_gg.out.below hb)
      replace K_gk := Lib.hid (K_gk.out.below hb)
      clear hb hB_35
      go_wp2
      go_ret
      exact ⟨rfl, hB_38.out⟩
    · skip
      rw [hb] at hlh
      have l5 := l4
      rw [hk] at hkn
      have HLH := Lib.hid hlh; have HKN := Lib.hid hkn; have HEQ := Lib.hid hb; have HKF := Lib.hid l5
      clear hlh hkn hb l4 l5 hk
      have hu25 := Tryd.underlying25; have hu27 := Tryd.underlying27
      go_enter Tryd.func7, Tryd.ntmps7
      go_upto_region 1 with (first | ((with_reducible refine gate_dst (N := 4) rfl ?_); refine box_event ?hg (N := 4) ?hd (cs := h.cs) (t := 25) ?hr ?_; (case hd => rfl); (case hg => rfl); (case hr => first | (go_simp; done) | (go_simp; rfl)); intro ga hg w_1 H1 hb; have hB_2 := Lib.hid (below_step (Below.refl w.heap.size w) hb); have G_ga := Lib.hid (show w.heap.size ≤ ga by rw [hg]; exact ((Below.refl w.heap.size w)).size); have K_ga := Lib.hid (show Hb w_1 ga h from H1); clear hg hb H1) | ((with_reducible refine gate_dst (N := 5) rfl ?_); refine box_event ?hg (N := 5) ?hd (cs := #[.bool la, .bool lb, .bool lc, .bool ld, .int .u64 lg, .int .u64 lt]) (t := 27) ?hr ?_; (case hd => rfl); (case hg => rfl); (case hr => first | (go_simp; done) | (go_simp; rfl)); intro gt hg w_3 H1 hb; have hB_4 := Lib.hid (below_step hB_2.out hb); have G_gt := Lib.hid (show w.heap.size ≤ gt by rw [hg]; exact (hB_2.out).size); have N_ga_gt := Lib.hid (show ga ≠ gt by rw [hg]; exact Nat.ne_of_lt (K_ga.out.lt)); replace K_ga := Lib.hid (K_ga.out.below hb); have K_gt := Lib.hid (show w_3.heap[gt]? = some (.cells #[.bool la, .bool lb, .bool lc, .bool ld, .int .u64 lg, .int .u64 lt] 27 (0, 0)) from H1); clear hg hb H1 hB_2; clear hu27))
      go_wp2_with (first | ((with_reducible refine gate_dst (N := 12) rfl ?_); (first | (refine gate_guard (by kernel_rfl) ?_) | skip); refine Kd.event_run rfl (v := .agg (h).cs) (w1 := w_3) ?hb ?_; (case hb => exact exec_load_hart rfl rfl K_ga.out)))
      refine (HF.out _ (Tab.from HT.out hB_4.out)).mono ?_
      rintro e_5 w_6 ⟨rfl, hb⟩
      have hB_7 := Lib.hid (below_step hB_4.out hb)
      replace K_ga := Lib.hid (K_ga.out.below hb)
      replace K_gt := Lib.hid (blk_below K_gt.out hb)
      clear hb hB_4
      go_upto_region 2 with (first | ((with_reducible refine gate_dst (N := 9) rfl ?_); refine box_event ?hg (N := 9) ?hd (cs := Ht.zero.cs) (t := 25) ?hr ?_; (case hd => rfl); (case hg => rfl); (case hr => first | (go_simp; done) | (go_simp; rfl)); intro gf hg w_8 H1 hb; have hB_10 := Lib.hid (below_step hB_7.out hb); have G_gf := Lib.hid (show w.heap.size ≤ gf by rw [hg]; exact (hB_7.out).size); have N_ga_gf := Lib.hid (show ga ≠ gf by rw [hg]; exact Nat.ne_of_lt (K_ga.out.lt)); have N_gt_gf := Lib.hid (show gt ≠ gf by rw [hg]; exact Nat.ne_of_lt (blk_lt K_gt.out)); replace K_ga := Lib.hid (K_ga.out.below hb); replace K_gt := Lib.hid (blk_below K_gt.out hb); have K_gf := Lib.hid (show Hb w_8 gf Ht.zero from H1); clear hg hb H1 hB_7) | (refine store_hart rfl (.tmp 9) (.tmp 13) rfl gf f rfl rfl Ht.zero K_gf.out ?_; have hB_11 := Lib.hid (setCells_below G_gf.out (Ht.cs f).toList 0 _ hB_10.out); replace K_ga := Lib.hid (Hb.farAll (vs := (Ht.cs f).toList) (o := 0) N_ga_gf.out K_ga.out); replace K_gt := Lib.hid (setCells_far' (vs := (Ht.cs f).toList) (o := 0) N_gt_gf.out K_gt.out); replace K_gf := Lib.hid (Hb.putAll f K_gf.out); clear hB_10; generalize World.setCells w_8 gf 0 (Ht.cs f).toList = w_9 at K_ga K_gt K_gf hB_11 ⊢))
      go_wp2_with (first | ((with_reducible refine gate_dst (N := 14) rfl ?_); (first | (refine gate_guard (by kernel_rfl) ?_) | skip); refine Kd.event_run rfl (v := .agg (f).cs) (w1 := w_9) ?hb ?_; (case hb => exact exec_load_hart rfl rfl K_gf.out)))
      refine (HG.out _ (Tab.from HT.out hB_11.out)).mono ?_
      rintro e_12 w_13 ⟨rfl, hb⟩
      have hB_14 := Lib.hid (below_step hB_11.out hb)
      replace K_ga := Lib.hid (K_ga.out.below hb)
      replace K_gt := Lib.hid (blk_below K_gt.out hb)
      replace K_gf := Lib.hid (K_gf.out.below hb)
      clear hb hB_11
      go_upto_region 3 with (first | ((with_reducible refine gate_dst (N := 10) rfl ?_); refine box_event ?hg (N := 10) ?hd (cs := Ht.zero.cs) (t := 25) ?hr ?_; (case hd => rfl); (case hg => rfl); (case hr => first | (go_simp; done) | (go_simp; rfl)); intro gg hg w_15 H1 hb; have hB_17 := Lib.hid (below_step hB_14.out hb); have G_gg := Lib.hid (show w.heap.size ≤ gg by rw [hg]; exact (hB_14.out).size); have N_ga_gg := Lib.hid (show ga ≠ gg by rw [hg]; exact Nat.ne_of_lt (K_ga.out.lt)); have N_gt_gg := Lib.hid (show gt ≠ gg by rw [hg]; exact Nat.ne_of_lt (blk_lt K_gt.out)); have N_gf_gg := Lib.hid (show gf ≠ gg by rw [hg]; exact Nat.ne_of_lt (K_gf.out.lt)); replace K_ga := Lib.hid (K_ga.out.below hb); replace K_gt := Lib.hid (blk_below K_gt.out hb); replace K_gf := Lib.hid (K_gf.out.below hb); have K_gg := Lib.hid (show Hb w_15 gg Ht.zero from H1); clear hg hb H1 hB_14) | (refine store_hart rfl (.tmp 10) (.tmp 15) rfl gg g rfl rfl Ht.zero K_gg.out ?_; have hB_18 := Lib.hid (setCells_below G_gg.out (Ht.cs g).toList 0 _ hB_17.out); replace K_ga := Lib.hid (Hb.farAll (vs := (Ht.cs g).toList) (o := 0) N_ga_gg.out K_ga.out); replace K_gt := Lib.hid (setCells_far' (vs := (Ht.cs g).toList) (o := 0) N_gt_gg.out K_gt.out); replace K_gf := Lib.hid (Hb.farAll (vs := (Ht.cs g).toList) (o := 0) N_gf_gg.out K_gf.out); replace K_gg := Lib.hid (Hb.putAll g K_gg.out); clear hB_17; generalize World.setCells w_15 gg 0 (Ht.cs g).toList = w_16 at K_ga K_gt K_gf K_gg hB_18 ⊢))
      refine start_ (n := 16) (S := fun w' => Hb w' gf f ∧ Hb w' gg g ∧ Hb w' ga h ∧ Tab w') (ds := []) #[false, false, false, false, false, false, false, false, false, false, false, false, false, false, false, false] (by kernel_rfl) rfl rfl ⟨K_gf.out.drew, K_gg.out.drew, K_ga.out.drew, (Tab.from HT.out (below_drew1 hB_18.out))⟩ (fun hHeld => ?_)
      replace K_ga := Lib.hid (K_ga.out.drew)
      replace K_gt := Lib.hid (blk_drew K_gt.out)
      replace K_gf := Lib.hid (K_gf.out.drew)
      replace K_gg := Lib.hid (K_gg.out.drew)
      have hB_20 := Lib.hid (below_drew1 hB_18.out)
      clear hB_18
      generalize World.drew w_16 = w_19 at K_ga K_gt K_gf K_gg hB_20 hHeld ⊢
      refine take_ (i := 0) (N := some 16) (v := .agg f.cs) (a' := ?_) #[true, false, false, false, false, false, false, false, false, false, false, false, false, false, false, false] rfl rfl (by kernel_rfl) (fun _ _ _ h => h) (Or.inl ⟨by rfl, ?_⟩) hHeld ?_ ?_
      · rintro w' ⟨s0, s1, s2, s3⟩; exact exec_load_hart rfl rfl s0
      rotate_left
      · simp only [Act.put, List.setIfInBounds_toArray, List.set_cons_zero, List.set_cons_succ, i64_w, i32_w]
        rfl
      have HH := Lib.hid hHeld
      clear hHeld
      refine one_ (i := 1) (N := some 17) #[true, true, false, false, false, false, false, false, false, false, false, false, false, false, false, false] rfl rfl (by kernel_rfl) (by decide) (fun K hK => ?_)
      refine goes_ Tryd.func22 (by kernel_rfl) rfl #[.agg f.cs] (by rfl) rfl rfl (by simp only [List.map_toArray, List.map_cons, List.map_nil]; rfl) ?_
      with_reducible refine (HLF.out _ HH.out.2.2.2).mono ?_
      rintro e_ w_21 ⟨rfl, hb⟩
      refine ⟨_, rfl, ?_⟩
      have s_0 := Hb.below (HH.out.1) hb
      have s_1 := Hb.below (HH.out.2.1) hb
      have s_2 := Hb.below (HH.out.2.2.1) hb
      have s_3 := Tab.from (HH.out.2.2.2) hb
      replace K_ga := Lib.hid (K_ga.out.below hb)
      replace K_gt := Lib.hid (blk_below K_gt.out hb)
      replace K_gf := Lib.hid (K_gf.out.below hb)
      replace K_gg := Lib.hid (K_gg.out.below hb)
      have hB_22 := Lib.hid (below_step hB_20.out hb)
      clear HH hb hB_20
      refine hK.out _ _ ⟨s_0, s_1, s_2, s_3⟩ (fun hHeld => ?_)
      have HH := Lib.hid hHeld
      clear hHeld s_0 s_1 s_2 s_3
      clear hK K
      refine norm_ (a' := ?_) ?_ ?_
      rotate_left
      · show Act.put _ (some 17) _ = _
        simp only [Act.put, List.setIfInBounds_toArray, List.set_cons_zero, List.set_cons_succ, i64_w, i32_w]
        rfl
      refine pure_ (i := 2) (N := some 18) (v := ?_) (a' := ?_) #[true, true, true, false, false, false, false, false, false, false, false, false, false, false, false, false] rfl rfl (by kernel_rfl) (fun _ _ _ h => h) (Or.inl ⟨by rfl, ?_⟩) ?_ ?_
      rotate_left
      · intro w'
        go_simp
        with_reducible rfl
      rotate_left
      · simp only [Act.put, List.setIfInBounds_toArray, List.set_cons_zero, List.set_cons_succ, i64_w, i32_w]
        rfl
      refine pure_ (i := 3) (N := some 19) (v := ?_) (a' := ?_) #[true, true, true, true, false, false, false, false, false, false, false, false, false, false, false, false] rfl rfl (by kernel_rfl) (fun _ _ _ h => h) (Or.inl ⟨by rfl, ?_⟩) ?_ ?_
      rotate_left
      · intro w'
        go_simp
        with_reducible rfl
      rotate_left
      · simp only [Act.put, List.setIfInBounds_toArray, List.set_cons_zero, List.set_cons_succ, i64_w, i32_w]
        rfl
      refine take_ (i := 4) (N := some 20) (v := .agg g.cs) (a' := ?_) #[true, true, true, true, true, false, false, false, false, false, false, false, false, false, false, false] rfl rfl (by kernel_rfl) (fun _ _ _ h => h) (Or.inl ⟨by rfl, ?_⟩) HH.out ?_ ?_
      · rintro w' ⟨s0, s1, s2, s3⟩; exact exec_load_hart rfl rfl s1
      rotate_left
      · simp only [Act.put, List.setIfInBounds_toArray, List.set_cons_zero, List.set_cons_succ, i64_w, i32_w]
        rfl
      refine take_ (i := 5) (N := some 21) (v := .agg f.cs) (a' := ?_) #[true, true, true, true, true, true, false, false, false, false, false, false, false, false, false, false] rfl rfl (by kernel_rfl) (fun _ _ _ h => h) (Or.inl ⟨by rfl, ?_⟩) HH.out ?_ ?_
      · rintro w' ⟨s0, s1, s2, s3⟩; exact exec_load_hart rfl rfl s0
      rotate_left
      · simp only [Act.put, List.setIfInBounds_toArray, List.set_cons_zero, List.set_cons_succ, i64_w, i32_w]
        rfl
      refine pure_ (i := 6) (N := some 22) (v := .bool false) (a' := ?_) #[true, true, true, true, true, true, true, false, false, false, false, false, false, false, false, false] rfl rfl (by kernel_rfl) (fun _ _ _ h => h) (Or.inl ⟨by rfl, ?_⟩) ?_ ?_
      · intro w'; exact exec_neB (h := g) (k := f) rfl rfl rfl HNE.out
      rotate_left
      · simp only [Act.put, List.setIfInBounds_toArray, List.set_cons_zero, List.set_cons_succ, i64_w, i32_w]
        rfl
      refine pure_ (i := 7) (N := some 23) (v := ?_) (a' := ?_) #[true, true, true, true, true, true, true, true, false, false, false, false, false, false, false, false] rfl rfl (by kernel_rfl) (fun _ _ _ h => h) (Or.inl ⟨by rfl, ?_⟩) ?_ ?_
      rotate_left
      · intro w'
        go_simp
        with_reducible rfl
      rotate_left
      · simp only [Act.put, List.setIfInBounds_toArray, List.set_cons_zero, List.set_cons_succ, i64_w, i32_w]
        rfl
      refine pure_ (i := 8) (N := some 24) (v := ?_) (a' := ?_) #[true, true, true, true, true, true, true, true, true, false, false, false, false, false, false, false] rfl rfl (by kernel_rfl) (fun _ _ _ h => h) (Or.inl ⟨by rfl, ?_⟩) ?_ ?_
      rotate_left
      · intro w'
        go_simp
        with_reducible rfl
      rotate_left
      · simp only [Act.put, List.setIfInBounds_toArray, List.set_cons_zero, List.set_cons_succ, i64_w, i32_w]
        rfl
      refine take_ (i := 9) (N := some 25) (v := .agg h.cs) (a' := ?_) #[true, true, true, true, true, true, true, true, true, true, false, false, false, false, false, false] rfl rfl (by kernel_rfl) (fun _ _ _ h => h) (Or.inl ⟨by rfl, ?_⟩) HH.out ?_ ?_
      · rintro w' ⟨s0, s1, s2, s3⟩; exact exec_load_hart rfl rfl s2
      rotate_left
      · simp only [Act.put, List.setIfInBounds_toArray, List.set_cons_zero, List.set_cons_succ, i64_w, i32_w]
        rfl
      refine take_ (i := 11) (N := some 27) (v := .agg f.cs) (a' := ?_) #[true, true, true, true, true, true, true, true, true, true, false, true, false, false, false, false] rfl rfl (by kernel_rfl) (fun _ _ _ h => h) (Or.inl ⟨by rfl, ?_⟩) HH.out ?_ ?_
      · rintro w' ⟨s0, s1, s2, s3⟩; exact exec_load_hart rfl rfl s0
      rotate_left
      · simp only [Act.put, List.setIfInBounds_toArray, List.set_cons_zero, List.set_cons_succ, i64_w, i32_w]
        rfl
      refine take_ (i := 12) (N := some 28) (v := .agg h.cs) (a' := ?_) #[true, true, true, true, true, true, true, true, true, true, false, true, true, false, false, false] rfl rfl (by kernel_rfl) (fun _ _ _ h => h) (Or.inl ⟨by rfl, ?_⟩) HH.out ?_ ?_
      · rintro w' ⟨s0, s1, s2, s3⟩; exact exec_load_hart rfl rfl s2
      rotate_left
      · simp only [Act.put, List.setIfInBounds_toArray, List.set_cons_zero, List.set_cons_succ, i64_w, i32_w]
        rfl
      refine pure_ (i := 13) (N := some 29) (v := .bool true) (a' := ?_) #[true, true, true, true, true, true, true, true, true, true, false, true, true, true, false, false] rfl rfl (by kernel_rfl) (fun _ _ _ h => h) (Or.inl ⟨by rfl, ?_⟩) ?_ ?_
      · intro w'; exact exec_eqB (h := f) (k := h) rfl rfl rfl HEQ.out
      rotate_left
      · simp only [Act.put, List.setIfInBounds_toArray, List.set_cons_zero, List.set_cons_succ, i64_w, i32_w]
        rfl
      refine one_ (i := 10) (N := some 26) #[true, true, true, true, true, true, true, true, true, true, true, true, true, true, false, false] rfl rfl (by kernel_rfl) (by decide) (fun K hK => ?_)
      refine goes_ Tryd.func22 (by kernel_rfl) rfl #[.agg h.cs] (by rfl) rfl rfl (by simp only [List.map_toArray, List.map_cons, List.map_nil]; rfl) ?_
      with_reducible refine (HLH.out _ HH.out.2.2.2).mono ?_
      rintro e_ w_23 ⟨rfl, hb⟩
      refine ⟨_, rfl, ?_⟩
      have s_0 := Hb.below (HH.out.1) hb
      have s_1 := Hb.below (HH.out.2.1) hb
      have s_2 := Hb.below (HH.out.2.2.1) hb
      have s_3 := Tab.from (HH.out.2.2.2) hb
      replace K_ga := Lib.hid (K_ga.out.below hb)
      replace K_gt := Lib.hid (blk_below K_gt.out hb)
      replace K_gf := Lib.hid (K_gf.out.below hb)
      replace K_gg := Lib.hid (K_gg.out.below hb)
      have hB_24 := Lib.hid (below_step hB_22.out hb)
      clear HH hb hB_22
      refine hK.out _ _ ⟨s_0, s_1, s_2, s_3⟩ (fun hHeld => ?_)
      have HH := Lib.hid hHeld
      clear hHeld s_0 s_1 s_2 s_3
      clear hK K
      refine norm_ (a' := ?_) ?_ ?_
      rotate_left
      · show Act.put _ (some 26) _ = _
        simp only [Act.put, List.setIfInBounds_toArray, List.set_cons_zero, List.set_cons_succ, i64_w, i32_w]
        rfl
      refine pure_ (i := 14) (N := some 30) (v := ?_) (a' := ?_) #[true, true, true, true, true, true, true, true, true, true, true, true, true, true, true, false] rfl rfl (by kernel_rfl) (fun _ _ _ h => h) (Or.inl ⟨by rfl, ?_⟩) ?_ ?_
      rotate_left
      · intro w'
        go_simp
        with_reducible rfl
      rotate_left
      · simp only [Act.put, List.setIfInBounds_toArray, List.set_cons_zero, List.set_cons_succ, i64_w, i32_w]
        rfl
      refine pure_ (i := 15) (N := some 31) (v := ?_) (a' := ?_) #[true, true, true, true, true, true, true, true, true, true, true, true, true, true, true, true] rfl rfl (by kernel_rfl) (fun _ _ _ h => h) (Or.inl ⟨by rfl, ?_⟩) ?_ ?_
      rotate_left
      · intro w'
        go_simp
        with_reducible rfl
      rotate_left
      · simp only [Act.put, List.setIfInBounds_toArray, List.set_cons_zero, List.set_cons_succ, i64_w, i32_w]
        rfl
      refine done_ (by kernel_rfl) ?_
      try clear HH
      go_upto_region 5 with fail
      go_wp2_with (first | ((with_reducible refine gate_dst (N := 32) rfl ?_); (first | (refine gate_guard (by kernel_rfl) ?_) | skip); refine Kd.event_run rfl (v := .agg (f).cs) (w1 := w_23) ?hb ?_; (case hb => exact exec_load_hart rfl rfl K_gf.out)) | ((with_reducible refine gate_dst (N := 33) rfl ?_); (first | (refine gate_guard (by kernel_rfl) ?_) | skip); refine Kd.event_run rfl (v := .agg #[.bool la, .bool lb, .bool lc, .bool ld, .int .u64 lg, .int .u64 lt]) (w1 := w_23) ?hb ?_; (case hb => exact exec_load_blk rfl rfl K_gt.out Tryd.underlying27 rfl (by kernel_rfl))))
      refine (HW.out _ (Tab.from HT.out hB_24.out)).mono ?_
      rintro e_25 w_26 ⟨rfl, hb⟩
      have hB_27 := Lib.hid (below_step hB_24.out hb)
      replace K_ga := Lib.hid (K_ga.out.below hb)
      replace K_gt := Lib.hid (blk_below K_gt.out hb)
      replace K_gf := Lib.hid (K_gf.out.below hb)
      replace K_gg := Lib.hid (K_gg.out.below hb)
      clear hb hB_24
      go_upto_region 6 with (first | ((with_reducible refine gate_dst (N := 11) rfl ?_); refine box_event ?hg (N := 11) ?hd (cs := Ht.zero.cs) (t := 25) ?hr ?_; (case hd => rfl); (case hg => rfl); (case hr => first | (go_simp; done) | (go_simp; rfl)); intro gk hg w_28 H1 hb; have hB_30 := Lib.hid (below_step hB_27.out hb); have G_gk := Lib.hid (show w.heap.size ≤ gk by rw [hg]; exact (hB_27.out).size); have N_ga_gk := Lib.hid (show ga ≠ gk by rw [hg]; exact Nat.ne_of_lt (K_ga.out.lt)); have N_gt_gk := Lib.hid (show gt ≠ gk by rw [hg]; exact Nat.ne_of_lt (blk_lt K_gt.out)); have N_gf_gk := Lib.hid (show gf ≠ gk by rw [hg]; exact Nat.ne_of_lt (K_gf.out.lt)); have N_gg_gk := Lib.hid (show gg ≠ gk by rw [hg]; exact Nat.ne_of_lt (K_gg.out.lt)); replace K_ga := Lib.hid (K_ga.out.below hb); replace K_gt := Lib.hid (blk_below K_gt.out hb); replace K_gf := Lib.hid (K_gf.out.below hb); replace K_gg := Lib.hid (K_gg.out.below hb); have K_gk := Lib.hid (show Hb w_28 gk Ht.zero from H1); clear hg hb H1 hB_27) | (refine store_hart rfl (.tmp 11) (.tmp 36) rfl gk k rfl rfl Ht.zero K_gk.out ?_; have hB_31 := Lib.hid (setCells_below G_gk.out (Ht.cs k).toList 0 _ hB_30.out); replace K_ga := Lib.hid (Hb.farAll (vs := (Ht.cs k).toList) (o := 0) N_ga_gk.out K_ga.out); replace K_gt := Lib.hid (setCells_far' (vs := (Ht.cs k).toList) (o := 0) N_gt_gk.out K_gt.out); replace K_gf := Lib.hid (Hb.farAll (vs := (Ht.cs k).toList) (o := 0) N_gf_gk.out K_gf.out); replace K_gg := Lib.hid (Hb.farAll (vs := (Ht.cs k).toList) (o := 0) N_gg_gk.out K_gg.out); replace K_gk := Lib.hid (Hb.putAll k K_gk.out); clear hB_30; generalize World.setCells w_28 gk 0 (Ht.cs k).toList = w_29 at K_ga K_gt K_gf K_gg K_gk hB_31 ⊢))
      clear hu25
      go_wp2_with (first | ((with_reducible refine gate_dst (N := 37) rfl ?_); (first | (refine gate_guard (by kernel_rfl) ?_) | skip); refine Kd.event_run rfl (v := .agg (k).cs) (w1 := w_29) ?hb ?_; (case hb => exact exec_load_hart rfl rfl K_gk.out)))
      refine (HLK.out _ (Tab.from HT.out hB_31.out)).mono ?_
      rintro e_32 w_33 ⟨rfl, hb⟩
      have hB_34 := Lib.hid (below_step hB_31.out hb)
      replace K_ga := Lib.hid (K_ga.out.below hb)
      replace K_gt := Lib.hid (blk_below K_gt.out hb)
      replace K_gf := Lib.hid (K_gf.out.below hb)
      replace K_gg := Lib.hid (K_gg.out.below hb)
      replace K_gk := Lib.hid (K_gk.out.below hb)
      clear hb hB_31
      go_wp2_with fail
      refine (HKN.out _ (Tab.from HT.out hB_34.out)).mono ?_
      rintro e9 w9 ⟨rfl, n_, e9⟩
      replace K_ga := Lib.hid (Hb.of e9.symm (K_ga.out.drewN n_))
      replace K_gt := Lib.hid (show w9.heap[gt]? = some (.cells #[.bool la, .bool lb, .bool lc, .bool ld, .int .u64 lg, .int .u64 lt] 27 (0, 0)) from by rw [e9]; exact blk_drewN K_gt.out n_)
      replace K_gf := Lib.hid (Hb.of e9.symm (K_gf.out.drewN n_))
      replace K_gg := Lib.hid (Hb.of e9.symm (K_gg.out.drewN n_))
      replace K_gk := Lib.hid (Hb.of e9.symm (K_gk.out.drewN n_))
      have hB_35 := Lib.hid (Below_of e9.symm (pw_below_drewN hB_34.out n_))
      clear e9 hB_34
      go_wp2_with fail
      refine (wakes_c _ (Tab.from HT.out hB_35.out)).mono ?_
      rintro e_36 w_37 ⟨rfl, hb⟩
      have hB_38 := Lib.hid (below_step hB_35.out hb)
      replace K_ga := Lib.hid (K_ga.out.below hb)
      replace K_gt := Lib.hid (blk_below K_gt.out hb)
      replace K_gf := Lib.hid (K_gf.out.below hb)
      replace K_gg := Lib.hid (K_gg.out.below hb)
      replace K_gk := Lib.hid (K_gk.out.below hb)
      clear hb hB_35
      go_wp2
      go_ret
      exact ⟨rfl, hB_38.out⟩
end Go.Proofs.YtlopmcakfalkpaaDoor.Hx
namespace Go.Proofs.YtlopmcakfalkpaaDoor.Pure
open Go.RowKit Go.Proofs.YtlopmcakfalkpaaDoor.Hx Go.Proofs.YtlopmcakfalkpaaDoor.Bv Go.Proofs.YtlopmcakfalkpaaDoor.Q
theorem CsrLegals (h : Ht) (la lb lc ld : Bool) (lg lt : Int) (no : Int) (v : Int) (w : World) (hw : h.wf) (wg : (Lit.int .u64 lg).wf = true) (wt : (Lit.int .u64 lt).wf = true) (w_no : (Lit.int .i64 no).wf = true) (w_v : (Lit.int .u64 v).wf = true) (hT : Tab w) :
    Calls Tryd.prog 7 #[.agg h.cs, .agg #[.bool la, .bool lb, .bool lc, .bool ld, .int .u64 lg, .int .u64 lt], .int .i64 no, .int .u64 v] w fun e w' => e = .returned (.bool true) ∧ Below w.heap.size w w' :=
  legals_c h hw la lb lc ld lg lt no v (u64_in w_v) w hT
end Go.Proofs.YtlopmcakfalkpaaDoor.Pure
