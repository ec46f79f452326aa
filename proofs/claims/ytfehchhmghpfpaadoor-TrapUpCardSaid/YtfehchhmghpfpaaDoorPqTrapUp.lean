/- A trap never goes to a mode that may do less; a legal hart stays legal, there and back. (By a program of this session.) -/
import Derived.Test.YtfehchhmghpfpaaDoorHUp
import Derived.Test.YtfehchhmghpfpaaDoorHWakes
import Derived.Test.YtfehchhmghpfpaaDoorCLegal
import Derived.Test.YtfehchhmghpfpaaDoorHrow
set_option linter.unusedSimpArgs false
set_option linter.unusedVariables false
namespace Go.Proofs.YtfehchhmghpfpaaDoor.Hx
open Go.Proofs.YtfehchhmghpfpaaDoor.Bv Go.RowKit Go.Proofs.YtfehchhmghpfpaaDoor.Q Go.Proofs.YtfehchhmghpfpaaDoorW.PrintWords Go.Proofs.YtfehchhmghpfpaaDoorW.PrintLast Go.Proofs.YtfehchhmghpfpaaDoorW.PrintMore Go.Proofs.YtfehchhmghpfpaaDoor.Rg

theorem toV_up (f : Ht) (tc : Int) : ((f.x 33 == 3) = true → (toV f tc != 0) = false) ∧ (f.v = false → (toV f tc == 2) = false) := by
  refine ⟨fun h => ?_, fun h => ?_⟩
  · have e : f.x 33 = 3 := eq_of_beq h
    unfold toV; rw [if_pos (Or.inl e)]; rfl
  · have z : ∀ (A B : Prop) [Decidable A] [Decidable B], ¬ B → ((if A then (0 : Int) else if B then 2 else 1) == 2) = false := by
      intro A B _ _ hb; rw [if_neg hb]; split <;> rfl
    exact z _ _ (fun q => by rw [h] at q; exact absurd q.1 (by decide))
theorem wf_enter {h : Ht} (hw : h.wf) (L : Leg h) (ti : Bool) (tc tv tv2 tn : Int) (tg : Bool) (c : 0 ≤ tc ∧ tc < 18446744073709551616) (cv : 0 ≤ tv ∧ tv < 18446744073709551616) (cv2 : 0 ≤ tv2 ∧ tv2 < 18446744073709551616) (cn : 0 ≤ tn ∧ tn < 18446744073709551616) : (enter h ti tc tv tv2 tn tg).wf := by
  have r0 : (0 : Int) ≤ 0 ∧ (0 : Int) < 18446744073709551616 := ⟨by decide, by decide⟩
  have h0 : (({ ({ h with wt := false } : Ht) with hl := false } : Ht).set 37 0).wf := wf_set (wf_hl hw false false) 37 0 r0 (by decide)
  have sr : ∀ (s b : Int) (is : Bool), 0 ≤ setV s b is ∧ setV s b is < 18446744073709551616 := fun s b is => by unfold setV; split <;> exact rng _ _ _
  have p3 : ∀ (k : Ht) (y : Int), k.wf → 0 ≤ y → y < 256 → (k.set 33 y).wf := by
    intro k y hk h1 h2
    refine ⟨fun i => ?_, h2⟩
    show 0 ≤ (bif Nat.beq i 33 then y else k.x i) ∧ (bif Nat.beq i 33 then y else k.x i) < _
    cases Nat.beq i 33
    · exact hk.1 i
    · exact ⟨h1, by simp only [cond_true]; omega⟩
  unfold enter
  split
  · simp only
    split
    · unfold enterM; simp only
      exact wf_set (wf_v (p3 _ 3 (wf_set (wf_set (wf_set (wf_set (wf_set (wf_set h0 46 _ (hw.1 0) (by decide)) 47 _ c (by decide)) 48 _ cv (by decide)) 49 _ cv2 (by decide)) 50 _ cn (by decide)) 38 _ (sr _ _ _) (by decide)) (by decide) (by decide)) false) 0 _ (place_rng _ _) (by decide)
    · split
      · unfold enterH; simp only
        have h2 := wf_set (wf_set (wf_set (wf_set (wf_set (wf_set h0 54 _ (hw.1 0) (by decide)) 55 _ c (by decide)) 56 _ cv (by decide)) 64 _ cv2 (by decide)) 65 _ cn (by decide)) 38 (takenV (h.x 38) (h.x 33 == 1)) (sr _ _ _) (by decide)
        have h3 : ∀ k : Ht, k.wf → (if h.v = true then k.set 58 (setV (h.x 58) 8 (h.x 33 == 1)) else k).wf := by
          intro k hk
          split
          · exact wf_set hk 58 _ (sr _ _ _) (by decide)
          · exact hk
        exact wf_set (wf_v (p3 _ 1 (wf_set (h3 _ h2) 58 _ (sr _ _ _) (by decide)) (by decide) (by decide)) false) 0 _ (place_rng _ _) (by decide)
      · split
        · unfold enterG; simp only
          exact wf_set (p3 _ 1 (wf_set (wf_set (wf_set (wf_set h0 71 _ (hw.1 0) (by decide)) 72 _ (guest_rng c) (by decide)) 73 _ cv (by decide)) 68 _ (sr _ _ _) (by decide)) (by decide) (by decide)) 0 _ (place_rng _ _) (by decide)
        · exact h0
  · exact hw

set_option maxHeartbeats 16000000 in
set_option maxRecDepth 100000 in
theorem up_c (h : Ht) (hw : h.wf) (ti : Bool) (tc tv tv2 tn : Int) (tg : Bool) (c_tc : 0 ≤ tc ∧ tc < 18446744073709551616) (c_tv : 0 ≤ tv ∧ tv < 18446744073709551616) (c_tv2 : 0 ≤ tv2 ∧ tv2 < 18446744073709551616) (c_tn : 0 ≤ tn ∧ tn < 18446744073709551616) (w : World) (hT : Tab w) : Calls Tryd.prog 4 #[.agg h.cs, .agg #[.bool ti, .int .u64 tc, .int .u64 tv, .int .u64 tv2, .int .u64 tn, .bool tg]] w fun e w' => e = .returned (.bool true) ∧ Below w.heap.size w w' := by
  have hf := fix_c h
  have L := leg_fix h hw
  have hw2 := wf_fix hw
  generalize fix h = f at *
  have hto := fun w => to_c f tc w c_tc.1 c_tc.2
  have ht := toV_up f tc
  generalize toV f tc = t at hto ht
  obtain ⟨ht1, ht2⟩ := ht
  have hen := fun w => enter_c f ti tc tv tv2 tn tg c_tc.1 c_tc.2 w
  have Lk := leg_enter hw2 L ti tc tv tv2 tn tg c_tc c_tv c_tv2 c_tn
  have wk := wf_enter hw2 L ti tc tv tv2 tn tg c_tc c_tv c_tv2 c_tn
  have hke : ti = false → heq (enter f ti tc tv tv2 tn tg) f = true := fun e => by rw [show enter f ti tc tv tv2 tn tg = f from by rw [e]; exact if_neg (by decide)]; exact heq_self _
  generalize enter f ti tc tv tv2 tn tg = k at *
  have hmr := mret_c k; have hsr := sret_c k
  have Lm := (leg_mret wk Lk).legal; have Ls := (leg_sret wk Lk).legal; have Lk := Lk.legal
  generalize mret k = m at *
  generalize sret k = n at *
  have hlk := legal_c k; have hlm := legal_c m; have hln := legal_c n
  rw [Lk] at hlk; rw [Lm] at hlm; rw [Ls] at hln
  have HF := Lib.hid hf; have HTO := Lib.hid hto; have HEN := Lib.hid hen; have HMR := Lib.hid hmr; have HSR := Lib.hid hsr; have HLK := Lib.hid hlk; have HLM := Lib.hid hlm; have HLN := Lib.hid hln; have HT := Lib.hid hT; have HKE := Lib.hid hke; have H1 := Lib.hid ht1; have H2 := Lib.hid ht2
  clear hf hto hen hmr hsr hlk hlm hln hT hke ht1 ht2 L hw2 Lk wk Lm Ls hw c_tc c_tv c_tv2 c_tn
  cases d1 : (f.x 33 == 3)
  · skip
    cases d3 : f.v
    · skip
      cases d5 : ti
      · skip
        have d4 := H2.out d3
        subst d5
        have hke := HKE.out rfl
        have HE := Lib.hid hke
        clear hke
        clear HKE H1 H2
        have hu25 := Tryd.underlying25; have hu27 := Tryd.underlying27
        go_enter Tryd.func4, Tryd.ntmps4
        go_upto_region 1 with (first | ((with_reducible refine gate_dst (N := 2) rfl ?_); refine box_event ?hg (N := 2) ?hd (cs := h.cs) (t := 25) ?hr ?_; (case hd => rfl); (case hg => rfl); (case hr => first | (go_simp; done) | (go_simp; rfl)); intro ga hg w_1 H1 hb; have hB_2 := Lib.hid (below_step (Below.refl w.heap.size w) hb); have G_ga := Lib.hid (show w.heap.size ≤ ga by rw [hg]; exact ((Below.refl w.heap.size w)).size); have K_ga := Lib.hid (show Hb w_1 ga h from H1); clear hg hb H1) | ((with_reducible refine gate_dst (N := 3) rfl ?_); refine box_event ?hg (N := 3) ?hd (cs := #[.bool false, .int .u64 tc, .int .u64 tv, .int .u64 tv2, .int .u64 tn, .bool tg]) (t := 27) ?hr ?_; (case hd => rfl); (case hg => rfl); (case hr => first | (go_simp; done) | (go_simp; rfl)); intro gt hg w_3 H1 hb; have hB_4 := Lib.hid (below_step hB_2.out hb); have G_gt := Lib.hid (show w.heap.size ≤ gt by rw [hg]; exact (hB_2.out).size); have N_ga_gt := Lib.hid (show ga ≠ gt by rw [hg]; exact Nat.ne_of_lt (K_ga.out.lt)); replace K_ga := Lib.hid (K_ga.out.below hb); have K_gt := Lib.hid (show w_3.heap[gt]? = some (.cells #[.bool false, .int .u64 tc, .int .u64 tv, .int .u64 tv2, .int .u64 tn, .bool tg] 27 (0, 0)) from H1); clear hg hb H1 hB_2; clear hu27))
        go_wp2_with (first | ((with_reducible refine gate_dst (N := 9) rfl ?_); (first | (refine gate_guard (by kernel_rfl) ?_) | skip); refine Kd.event_run rfl (v := .agg (h).cs) (w1 := w_3) ?hb ?_; (case hb => exact exec_load_hart rfl rfl K_ga.out)))
        refine (HF.out _ (Tab.from HT.out hB_4.out)).mono ?_
        rintro e_5 w_6 ⟨rfl, hb⟩
        have hB_7 := Lib.hid (below_step hB_4.out hb)
        replace K_ga := Lib.hid (K_ga.out.below hb)
        replace K_gt := Lib.hid (blk_below K_gt.out hb)
        clear hb hB_4
        go_upto_region 2 with (first | (refine store_hart rfl (.tmp 2) (.tmp 10) rfl ga (f) rfl rfl (h) K_ga.out ?_; have hB_9 := Lib.hid (setCells_below G_ga.out (Ht.cs (f)).toList 0 _ hB_7.out); replace K_gt := Lib.hid (setCells_far' (vs := (Ht.cs (f)).toList) (o := 0) (Ne.symm N_ga_gt.out) K_gt.out); replace K_ga := Lib.hid (Hb.putAll (f) K_ga.out); clear hB_7; generalize World.setCells w_6 ga 0 (Ht.cs (f)).toList = w_8 at K_ga K_gt hB_9 ⊢))
        have c_gt_1 := (show World.cell? _ ⟨gt, 1, none⟩ = some (.int .u64 tc) from (blk_cell K_gt.out 1).trans rfl); have f_gt_1 := blk_frozen K_gt.out 1
        go_wp2_with (first | ((with_reducible refine gate_dst (N := 11) rfl ?_); (first | (refine gate_guard (by kernel_rfl) ?_) | skip); refine Kd.event_run rfl (v := .agg (f).cs) (w1 := w_8) ?hb ?_; (case hb => exact exec_load_hart rfl rfl K_ga.out)))
        refine (HTO.out _).mono ?_
        rintro e_10 w_11 ⟨rfl, hb⟩
        clear c_gt_1 f_gt_1
        have hB_12 := Lib.hid (below_step hB_9.out hb)
        replace K_ga := Lib.hid (K_ga.out.below hb)
        replace K_gt := Lib.hid (blk_below K_gt.out hb)
        clear hb hB_9
        have c_ga_33 := K_ga.out.p; have f_ga_33 := K_ga.out.fr 33
        have c_ga_34 := K_ga.out.cv; have f_ga_34 := K_ga.out.fr 34
        go_upto_region 5 with fail
        clear c_ga_33 f_ga_33 c_ga_34 f_ga_34
        go_wp2_with (first | ((with_reducible refine gate_dst (N := 31) rfl ?_); (first | (refine gate_guard (by kernel_rfl) ?_) | skip); refine Kd.event_run rfl (v := .agg (f).cs) (w1 := w_11) ?hb ?_; (case hb => exact exec_load_hart rfl rfl K_ga.out)) | ((with_reducible refine gate_dst (N := 32) rfl ?_); (first | (refine gate_guard (by kernel_rfl) ?_) | skip); refine Kd.event_run rfl (v := .agg #[.bool false, .int .u64 tc, .int .u64 tv, .int .u64 tv2, .int .u64 tn, .bool tg]) (w1 := w_11) ?hb ?_; (case hb => exact exec_load_blk rfl rfl K_gt.out Tryd.underlying27 rfl (by kernel_rfl))))
        refine (HEN.out _).mono ?_
        rintro e_13 w_14 ⟨rfl, hb⟩
        have hB_15 := Lib.hid (below_step hB_12.out hb)
        replace K_ga := Lib.hid (K_ga.out.below hb)
        replace K_gt := Lib.hid (blk_below K_gt.out hb)
        clear hb hB_12
        go_upto_region 6 with (first | ((with_reducible refine gate_dst (N := 6) rfl ?_); refine box_event ?hg (N := 6) ?hd (cs := Ht.zero.cs) (t := 25) ?hr ?_; (case hd => rfl); (case hg => rfl); (case hr => first | (go_simp; done) | (go_simp; rfl)); intro gk hg w_16 H1 hb; have hB_18 := Lib.hid (below_step hB_15.out hb); have G_gk := Lib.hid (show w.heap.size ≤ gk by rw [hg]; exact (hB_15.out).size); have N_ga_gk := Lib.hid (show ga ≠ gk by rw [hg]; exact Nat.ne_of_lt (K_ga.out.lt)); have N_gt_gk := Lib.hid (show gt ≠ gk by rw [hg]; exact Nat.ne_of_lt (blk_lt K_gt.out)); replace K_ga := Lib.hid (K_ga.out.below hb); replace K_gt := Lib.hid (blk_below K_gt.out hb); have K_gk := Lib.hid (show Hb w_16 gk Ht.zero from H1); clear hg hb H1 hB_15) | (refine store_hart rfl (.tmp 6) (.tmp 33) rfl gk k rfl rfl Ht.zero K_gk.out ?_; have hB_19 := Lib.hid (setCells_below G_gk.out (Ht.cs k).toList 0 _ hB_18.out); replace K_ga := Lib.hid (Hb.farAll (vs := (Ht.cs k).toList) (o := 0) N_ga_gk.out K_ga.out); replace K_gt := Lib.hid (setCells_far' (vs := (Ht.cs k).toList) (o := 0) N_gt_gk.out K_gt.out); replace K_gk := Lib.hid (Hb.putAll k K_gk.out); clear hB_18; generalize World.setCells w_16 gk 0 (Ht.cs k).toList = w_17 at K_ga K_gt K_gk hB_19 ⊢))
        have c_gt_0 := (show World.cell? _ ⟨gt, 0, none⟩ = some (.bool false) from (blk_cell K_gt.out 0).trans rfl); have f_gt_0 := blk_frozen K_gt.out 0
        go_upto_region 7 with fail
        clear hu25
        go_wp2_with (first | ((with_reducible refine gate_dst (N := 37) rfl ?_); (first | (refine gate_guard (by kernel_rfl) ?_) | skip); refine Kd.event_run rfl (v := .agg (k).cs) (w1 := w_17) ?hb ?_; (case hb => exact exec_load_hart rfl rfl K_gk.out)) | ((with_reducible refine gate_dst (N := 38) rfl ?_); (first | (refine gate_guard (by kernel_rfl) ?_) | skip); refine Kd.event_run rfl (v := .agg (f).cs) (w1 := w_17) ?hb ?_; (case hb => exact exec_load_hart rfl rfl K_ga.out)) | ((with_reducible refine gate_dst (N := 39) rfl ?_); (first | (refine gate_guard (by kernel_rfl) ?_) | skip); refine Kd.event_run rfl (v := .bool true) (w1 := w_17) ?hb ?_; (case hb => exact exec_eqB (h := k) (k := f) rfl rfl rfl (HE.out))))
        refine (wakes_c _).mono ?_
        rintro e_20 w_21 ⟨rfl, hb⟩
        clear c_gt_0 f_gt_0
        have hB_22 := Lib.hid (below_step hB_19.out hb)
        replace K_ga := Lib.hid (K_ga.out.below hb)
        replace K_gt := Lib.hid (blk_below K_gt.out hb)
        replace K_gk := Lib.hid (K_gk.out.below hb)
        clear hb hB_19
        go_wp2
        go_ret
        exact ⟨rfl, hB_22.out⟩
      · skip
        have d4 := H2.out d3
        subst d5
        clear HKE H1 H2
        have hu25 := Tryd.underlying25; have hu27 := Tryd.underlying27
        go_enter Tryd.func4, Tryd.ntmps4
        go_upto_region 1 with (first | ((with_reducible refine gate_dst (N := 2) rfl ?_); refine box_event ?hg (N := 2) ?hd (cs := h.cs) (t := 25) ?hr ?_; (case hd => rfl); (case hg => rfl); (case hr => first | (go_simp; done) | (go_simp; rfl)); intro ga hg w_1 H1 hb; have hB_2 := Lib.hid (below_step (Below.refl w.heap.size w) hb); have G_ga := Lib.hid (show w.heap.size ≤ ga by rw [hg]; exact ((Below.refl w.heap.size w)).size); have K_ga := Lib.hid (show Hb w_1 ga h from H1); clear hg hb H1) | ((with_reducible refine gate_dst (N := 3) rfl ?_); refine box_event ?hg (N := 3) ?hd (cs := #[.bool true, .int .u64 tc, .int .u64 tv, .int .u64 tv2, .int .u64 tn, .bool tg]) (t := 27) ?hr ?_; (case hd => rfl); (case hg => rfl); (case hr => first | (go_simp; done) | (go_simp; rfl)); intro gt hg w_3 H1 hb; have hB_4 := Lib.hid (below_step hB_2.out hb); have G_gt := Lib.hid (show w.heap.size ≤ gt by rw [hg]; exact (hB_2.out).size); have N_ga_gt := Lib.hid (show ga ≠ gt by rw [hg]; exact Nat.ne_of_lt (K_ga.out.lt)); replace K_ga := Lib.hid (K_ga.out.below hb); have K_gt := Lib.hid (show w_3.heap[gt]? = some (.cells #[.bool true, .int .u64 tc, .int .u64 tv, .int .u64 tv2, .int .u64 tn, .bool tg] 27 (0, 0)) from H1); clear hg hb H1 hB_2; clear hu27))
        go_wp2_with (first | ((with_reducible refine gate_dst (N := 9) rfl ?_); (first | (refine gate_guard (by kernel_rfl) ?_) | skip); refine Kd.event_run rfl (v := .agg (h).cs) (w1 := w_3) ?hb ?_; (case hb => exact exec_load_hart rfl rfl K_ga.out)))
        refine (HF.out _ (Tab.from HT.out hB_4.out)).mono ?_
        rintro e_5 w_6 ⟨rfl, hb⟩
        have hB_7 := Lib.hid (below_step hB_4.out hb)
        replace K_ga := Lib.hid (K_ga.out.below hb)
        replace K_gt := Lib.hid (blk_below K_gt.out hb)
        clear hb hB_4
        go_upto_region 2 with (first | (refine store_hart rfl (.tmp 2) (.tmp 10) rfl ga (f) rfl rfl (h) K_ga.out ?_; have hB_9 := Lib.hid (setCells_below G_ga.out (Ht.cs (f)).toList 0 _ hB_7.out); replace K_gt := Lib.hid (setCells_far' (vs := (Ht.cs (f)).toList) (o := 0) (Ne.symm N_ga_gt.out) K_gt.out); replace K_ga := Lib.hid (Hb.putAll (f) K_ga.out); clear hB_7; generalize World.setCells w_6 ga 0 (Ht.cs (f)).toList = w_8 at K_ga K_gt hB_9 ⊢))
        have c_gt_1 := (show World.cell? _ ⟨gt, 1, none⟩ = some (.int .u64 tc) from (blk_cell K_gt.out 1).trans rfl); have f_gt_1 := blk_frozen K_gt.out 1
        go_wp2_with (first | ((with_reducible refine gate_dst (N := 11) rfl ?_); (first | (refine gate_guard (by kernel_rfl) ?_) | skip); refine Kd.event_run rfl (v := .agg (f).cs) (w1 := w_8) ?hb ?_; (case hb => exact exec_load_hart rfl rfl K_ga.out)))
        refine (HTO.out _).mono ?_
        rintro e_10 w_11 ⟨rfl, hb⟩
        clear c_gt_1 f_gt_1
        have hB_12 := Lib.hid (below_step hB_9.out hb)
        replace K_ga := Lib.hid (K_ga.out.below hb)
        replace K_gt := Lib.hid (blk_below K_gt.out hb)
        clear hb hB_9
        have c_ga_33 := K_ga.out.p; have f_ga_33 := K_ga.out.fr 33
        have c_ga_34 := K_ga.out.cv; have f_ga_34 := K_ga.out.fr 34
        go_upto_region 5 with fail
        clear c_ga_33 f_ga_33 c_ga_34 f_ga_34
        go_wp2_with (first | ((with_reducible refine gate_dst (N := 31) rfl ?_); (first | (refine gate_guard (by kernel_rfl) ?_) | skip); refine Kd.event_run rfl (v := .agg (f).cs) (w1 := w_11) ?hb ?_; (case hb => exact exec_load_hart rfl rfl K_ga.out)) | ((with_reducible refine gate_dst (N := 32) rfl ?_); (first | (refine gate_guard (by kernel_rfl) ?_) | skip); refine Kd.event_run rfl (v := .agg #[.bool true, .int .u64 tc, .int .u64 tv, .int .u64 tv2, .int .u64 tn, .bool tg]) (w1 := w_11) ?hb ?_; (case hb => exact exec_load_blk rfl rfl K_gt.out Tryd.underlying27 rfl (by kernel_rfl))))
        refine (HEN.out _).mono ?_
        rintro e_13 w_14 ⟨rfl, hb⟩
        have hB_15 := Lib.hid (below_step hB_12.out hb)
        replace K_ga := Lib.hid (K_ga.out.below hb)
        replace K_gt := Lib.hid (blk_below K_gt.out hb)
        clear hb hB_12
        go_upto_region 6 with (first | ((with_reducible refine gate_dst (N := 6) rfl ?_); refine box_event ?hg (N := 6) ?hd (cs := Ht.zero.cs) (t := 25) ?hr ?_; (case hd => rfl); (case hg => rfl); (case hr => first | (go_simp; done) | (go_simp; rfl)); intro gk hg w_16 H1 hb; have hB_18 := Lib.hid (below_step hB_15.out hb); have G_gk := Lib.hid (show w.heap.size ≤ gk by rw [hg]; exact (hB_15.out).size); have N_ga_gk := Lib.hid (show ga ≠ gk by rw [hg]; exact Nat.ne_of_lt (K_ga.out.lt)); have N_gt_gk := Lib.hid (show gt ≠ gk by rw [hg]; exact Nat.ne_of_lt (blk_lt K_gt.out)); replace K_ga := Lib.hid (K_ga.out.below hb); replace K_gt := Lib.hid (blk_below K_gt.out hb); have K_gk := Lib.hid (show Hb w_16 gk Ht.zero from H1); clear hg hb H1 hB_15) | (refine store_hart rfl (.tmp 6) (.tmp 33) rfl gk k rfl rfl Ht.zero K_gk.out ?_; have hB_19 := Lib.hid (setCells_below G_gk.out (Ht.cs k).toList 0 _ hB_18.out); replace K_ga := Lib.hid (Hb.farAll (vs := (Ht.cs k).toList) (o := 0) N_ga_gk.out K_ga.out); replace K_gt := Lib.hid (setCells_far' (vs := (Ht.cs k).toList) (o := 0) N_gt_gk.out K_gt.out); replace K_gk := Lib.hid (Hb.putAll k K_gk.out); clear hB_18; generalize World.setCells w_16 gk 0 (Ht.cs k).toList = w_17 at K_ga K_gt K_gk hB_19 ⊢))
        have c_gt_0 := (show World.cell? _ ⟨gt, 0, none⟩ = some (.bool true) from (blk_cell K_gt.out 0).trans rfl); have f_gt_0 := blk_frozen K_gt.out 0
        go_upto_region 8 with fail
        go_wp2_with (first | ((with_reducible refine gate_dst (N := 43) rfl ?_); (first | (refine gate_guard (by kernel_rfl) ?_) | skip); refine Kd.event_run rfl (v := .agg (k).cs) (w1 := w_17) ?hb ?_; (case hb => exact exec_load_hart rfl rfl K_gk.out)))
        refine (HMR.out _).mono ?_
        rintro e_20 w_21 ⟨rfl, hb⟩
        clear c_gt_0 f_gt_0
        have hB_22 := Lib.hid (below_step hB_19.out hb)
        replace K_ga := Lib.hid (K_ga.out.below hb)
        replace K_gt := Lib.hid (blk_below K_gt.out hb)
        replace K_gk := Lib.hid (K_gk.out.below hb)
        clear hb hB_19
        go_upto_region 9 with (first | ((with_reducible refine gate_dst (N := 7) rfl ?_); refine box_event ?hg (N := 7) ?hd (cs := Ht.zero.cs) (t := 25) ?hr ?_; (case hd => rfl); (case hg => rfl); (case hr => first | (go_simp; done) | (go_simp; rfl)); intro gm hg w_23 H1 hb; have hB_25 := Lib.hid (below_step hB_22.out hb); have G_gm := Lib.hid (show w.heap.size ≤ gm by rw [hg]; exact (hB_22.out).size); have N_ga_gm := Lib.hid (show ga ≠ gm by rw [hg]; exact Nat.ne_of_lt (K_ga.out.lt)); have N_gt_gm := Lib.hid (show gt ≠ gm by rw [hg]; exact Nat.ne_of_lt (blk_lt K_gt.out)); have N_gk_gm := Lib.hid (show gk ≠ gm by rw [hg]; exact Nat.ne_of_lt (K_gk.out.lt)); replace K_ga := Lib.hid (K_ga.out.below hb); replace K_gt := Lib.hid (blk_below K_gt.out hb); replace K_gk := Lib.hid (K_gk.out.below hb); have K_gm := Lib.hid (show Hb w_23 gm Ht.zero from H1); clear hg hb H1 hB_22) | (refine store_hart rfl (.tmp 7) (.tmp 44) rfl gm m rfl rfl Ht.zero K_gm.out ?_; have hB_26 := Lib.hid (setCells_below G_gm.out (Ht.cs m).toList 0 _ hB_25.out); replace K_ga := Lib.hid (Hb.farAll (vs := (Ht.cs m).toList) (o := 0) N_ga_gm.out K_ga.out); replace K_gt := Lib.hid (setCells_far' (vs := (Ht.cs m).toList) (o := 0) N_gt_gm.out K_gt.out); replace K_gk := Lib.hid (Hb.farAll (vs := (Ht.cs m).toList) (o := 0) N_gk_gm.out K_gk.out); replace K_gm := Lib.hid (Hb.putAll m K_gm.out); clear hB_25; generalize World.setCells w_23 gm 0 (Ht.cs m).toList = w_24 at K_ga K_gt K_gk K_gm hB_26 ⊢))
        go_wp2_with (first | ((with_reducible refine gate_dst (N := 45) rfl ?_); (first | (refine gate_guard (by kernel_rfl) ?_) | skip); refine Kd.event_run rfl (v := .agg (k).cs) (w1 := w_24) ?hb ?_; (case hb => exact exec_load_hart rfl rfl K_gk.out)))
        refine (HSR.out _).mono ?_
        rintro e_27 w_28 ⟨rfl, hb⟩
        have hB_29 := Lib.hid (below_step hB_26.out hb)
        replace K_ga := Lib.hid (K_ga.out.below hb)
        replace K_gt := Lib.hid (blk_below K_gt.out hb)
        replace K_gk := Lib.hid (K_gk.out.below hb)
        replace K_gm := Lib.hid (K_gm.out.below hb)
        clear hb hB_26
        go_upto_region 10 with (first | ((with_reducible refine gate_dst (N := 8) rfl ?_); refine box_event ?hg (N := 8) ?hd (cs := Ht.zero.cs) (t := 25) ?hr ?_; (case hd => rfl); (case hg => rfl); (case hr => first | (go_simp; done) | (go_simp; rfl)); intro gn hg w_30 H1 hb; have hB_32 := Lib.hid (below_step hB_29.out hb); have G_gn := Lib.hid (show w.heap.size ≤ gn by rw [hg]; exact (hB_29.out).size); have N_ga_gn := Lib.hid (show ga ≠ gn by rw [hg]; exact Nat.ne_of_lt (K_ga.out.lt)); have N_gt_gn := Lib.hid (show gt ≠ gn by rw [hg]; exact Nat.ne_of_lt (blk_lt K_gt.out)); have N_gk_gn := Lib.hid (show gk ≠ gn by rw [hg]; exact Nat.ne_of_lt (K_gk.out.lt)); have N_gm_gn := Lib.hid (show gm ≠ gn by rw [hg]; exact Nat.ne_of_lt (K_gm.out.lt)); replace K_ga := Lib.hid (K_ga.out.below hb); replace K_gt := Lib.hid (blk_below K_gt.out hb); replace K_gk := Lib.hid (K_gk.out.below hb); replace K_gm := Lib.hid (K_gm.out.below hb); have K_gn := Lib.hid (show Hb w_30 gn Ht.zero from H1); clear hg hb H1 hB_29) | (refine store_hart rfl (.tmp 8) (.tmp 46) rfl gn n rfl rfl Ht.zero K_gn.out ?_; have hB_33 := Lib.hid (setCells_below G_gn.out (Ht.cs n).toList 0 _ hB_32.out); replace K_ga := Lib.hid (Hb.farAll (vs := (Ht.cs n).toList) (o := 0) N_ga_gn.out K_ga.out); replace K_gt := Lib.hid (setCells_far' (vs := (Ht.cs n).toList) (o := 0) N_gt_gn.out K_gt.out); replace K_gk := Lib.hid (Hb.farAll (vs := (Ht.cs n).toList) (o := 0) N_gk_gn.out K_gk.out); replace K_gm := Lib.hid (Hb.farAll (vs := (Ht.cs n).toList) (o := 0) N_gm_gn.out K_gm.out); replace K_gn := Lib.hid (Hb.putAll n K_gn.out); clear hB_32; generalize World.setCells w_30 gn 0 (Ht.cs n).toList = w_31 at K_ga K_gt K_gk K_gm K_gn hB_33 ⊢))
        clear hu25
        go_wp2_with (first | ((with_reducible refine gate_dst (N := 47) rfl ?_); (first | (refine gate_guard (by kernel_rfl) ?_) | skip); refine Kd.event_run rfl (v := .agg (k).cs) (w1 := w_31) ?hb ?_; (case hb => exact exec_load_hart rfl rfl K_gk.out)))
        refine (HLK.out _ (Tab.from HT.out hB_33.out)).mono ?_
        rintro e_34 w_35 ⟨rfl, hb⟩
        have hB_36 := Lib.hid (below_step hB_33.out hb)
        replace K_ga := Lib.hid (K_ga.out.below hb)
        replace K_gt := Lib.hid (blk_below K_gt.out hb)
        replace K_gk := Lib.hid (K_gk.out.below hb)
        replace K_gm := Lib.hid (K_gm.out.below hb)
        replace K_gn := Lib.hid (K_gn.out.below hb)
        clear hb hB_33
        go_wp2_with (first | ((with_reducible refine gate_dst (N := 50) rfl ?_); (first | (refine gate_guard (by kernel_rfl) ?_) | skip); refine Kd.event_run rfl (v := .agg (m).cs) (w1 := w_35) ?hb ?_; (case hb => exact exec_load_hart rfl rfl K_gm.out)))
        refine (HLM.out _ (Tab.from HT.out hB_36.out)).mono ?_
        rintro e_37 w_38 ⟨rfl, hb⟩
        have hB_39 := Lib.hid (below_step hB_36.out hb)
        replace K_ga := Lib.hid (K_ga.out.below hb)
        replace K_gt := Lib.hid (blk_below K_gt.out hb)
        replace K_gk := Lib.hid (K_gk.out.below hb)
        replace K_gm := Lib.hid (K_gm.out.below hb)
        replace K_gn := Lib.hid (K_gn.out.below hb)
        clear hb hB_36
        go_wp2_with (first | ((with_reducible refine gate_dst (N := 54) rfl ?_); (first | (refine gate_guard (by kernel_rfl) ?_) | skip); refine Kd.event_run rfl (v := .agg (n).cs) (w1 := w_38) ?hb ?_; (case hb => exact exec_load_hart rfl rfl K_gn.out)))
        refine (HLN.out _ (Tab.from HT.out hB_39.out)).mono ?_
        rintro e_40 w_41 ⟨rfl, hb⟩
        have hB_42 := Lib.hid (below_step hB_39.out hb)
        replace K_ga := Lib.hid (K_ga.out.below hb)
        replace K_gt := Lib.hid (blk_below K_gt.out hb)
        replace K_gk := Lib.hid (K_gk.out.below hb)
        replace K_gm := Lib.hid (K_gm.out.below hb)
        replace K_gn := Lib.hid (K_gn.out.below hb)
        clear hb hB_39
        go_wp2_with fail
        refine (wakes_c _).mono ?_
        rintro e_43 w_44 ⟨rfl, hb⟩
        have hB_45 := Lib.hid (below_step hB_42.out hb)
        replace K_ga := Lib.hid (K_ga.out.below hb)
        replace K_gt := Lib.hid (blk_below K_gt.out hb)
        replace K_gk := Lib.hid (K_gk.out.below hb)
        replace K_gm := Lib.hid (K_gm.out.below hb)
        replace K_gn := Lib.hid (K_gn.out.below hb)
        clear hb hB_42
        go_wp2
        go_ret
        exact ⟨rfl, hB_45.out⟩
    · skip
      cases d5 : ti
      · skip
        subst d5
        have hke := HKE.out rfl
        have HE := Lib.hid hke
        clear hke
        clear HKE H1 H2
        have hu25 := Tryd.underlying25; have hu27 := Tryd.underlying27
        go_enter Tryd.func4, Tryd.ntmps4
        go_upto_region 1 with (first | ((with_reducible refine gate_dst (N := 2) rfl ?_); refine box_event ?hg (N := 2) ?hd (cs := h.cs) (t := 25) ?hr ?_; (case hd => rfl); (case hg => rfl); (case hr => first | (go_simp; done) | (go_simp; rfl)); intro ga hg w_1 H1 hb; have hB_2 := Lib.hid (below_step (Below.refl w.heap.size w) hb); have G_ga := Lib.hid (show w.heap.size ≤ ga by rw [hg]; exact ((Below.refl w.heap.size w)).size); have K_ga := Lib.hid (show Hb w_1 ga h from H1); clear hg hb H1) | ((with_reducible refine gate_dst (N := 3) rfl ?_); refine box_event ?hg (N := 3) ?hd (cs := #[.bool false, .int .u64 tc, .int .u64 tv, .int .u64 tv2, .int .u64 tn, .bool tg]) (t := 27) ?hr ?_; (case hd => rfl); (case hg => rfl); (case hr => first | (go_simp; done) | (go_simp; rfl)); intro gt hg w_3 H1 hb; have hB_4 := Lib.hid (below_step hB_2.out hb); have G_gt := Lib.hid (show w.heap.size ≤ gt by rw [hg]; exact (hB_2.out).size); have N_ga_gt := Lib.hid (show ga ≠ gt by rw [hg]; exact Nat.ne_of_lt (K_ga.out.lt)); replace K_ga := Lib.hid (K_ga.out.below hb); have K_gt := Lib.hid (show w_3.heap[gt]? = some (.cells #[.bool false, .int .u64 tc, .int .u64 tv, .int .u64 tv2, .int .u64 tn, .bool tg] 27 (0, 0)) from H1); clear hg hb H1 hB_2; clear hu27))
        go_wp2_with (first | ((with_reducible refine gate_dst (N := 9) rfl ?_); (first | (refine gate_guard (by kernel_rfl) ?_) | skip); refine Kd.event_run rfl (v := .agg (h).cs) (w1 := w_3) ?hb ?_; (case hb => exact exec_load_hart rfl rfl K_ga.out)))
        refine (HF.out _ (Tab.from HT.out hB_4.out)).mono ?_
        rintro e_5 w_6 ⟨rfl, hb⟩
        have hB_7 := Lib.hid (below_step hB_4.out hb)
        replace K_ga := Lib.hid (K_ga.out.below hb)
        replace K_gt := Lib.hid (blk_below K_gt.out hb)
        clear hb hB_4
        go_upto_region 2 with (first | (refine store_hart rfl (.tmp 2) (.tmp 10) rfl ga (f) rfl rfl (h) K_ga.out ?_; have hB_9 := Lib.hid (setCells_below G_ga.out (Ht.cs (f)).toList 0 _ hB_7.out); replace K_gt := Lib.hid (setCells_far' (vs := (Ht.cs (f)).toList) (o := 0) (Ne.symm N_ga_gt.out) K_gt.out); replace K_ga := Lib.hid (Hb.putAll (f) K_ga.out); clear hB_7; generalize World.setCells w_6 ga 0 (Ht.cs (f)).toList = w_8 at K_ga K_gt hB_9 ⊢))
        have c_gt_1 := (show World.cell? _ ⟨gt, 1, none⟩ = some (.int .u64 tc) from (blk_cell K_gt.out 1).trans rfl); have f_gt_1 := blk_frozen K_gt.out 1
        go_wp2_with (first | ((with_reducible refine gate_dst (N := 11) rfl ?_); (first | (refine gate_guard (by kernel_rfl) ?_) | skip); refine Kd.event_run rfl (v := .agg (f).cs) (w1 := w_8) ?hb ?_; (case hb => exact exec_load_hart rfl rfl K_ga.out)))
        refine (HTO.out _).mono ?_
        rintro e_10 w_11 ⟨rfl, hb⟩
        clear c_gt_1 f_gt_1
        have hB_12 := Lib.hid (below_step hB_9.out hb)
        replace K_ga := Lib.hid (K_ga.out.below hb)
        replace K_gt := Lib.hid (blk_below K_gt.out hb)
        clear hb hB_9
        have c_ga_33 := K_ga.out.p; have f_ga_33 := K_ga.out.fr 33
        have c_ga_34 := K_ga.out.cv; have f_ga_34 := K_ga.out.fr 34
        go_upto_region 5 with fail
        clear c_ga_33 f_ga_33 c_ga_34 f_ga_34
        go_wp2_with (first | ((with_reducible refine gate_dst (N := 31) rfl ?_); (first | (refine gate_guard (by kernel_rfl) ?_) | skip); refine Kd.event_run rfl (v := .agg (f).cs) (w1 := w_11) ?hb ?_; (case hb => exact exec_load_hart rfl rfl K_ga.out)) | ((with_reducible refine gate_dst (N := 32) rfl ?_); (first | (refine gate_guard (by kernel_rfl) ?_) | skip); refine Kd.event_run rfl (v := .agg #[.bool false, .int .u64 tc, .int .u64 tv, .int .u64 tv2, .int .u64 tn, .bool tg]) (w1 := w_11) ?hb ?_; (case hb => exact exec_load_blk rfl rfl K_gt.out Tryd.underlying27 rfl (by kernel_rfl))))
        refine (HEN.out _).mono ?_
        rintro e_13 w_14 ⟨rfl, hb⟩
        have hB_15 := Lib.hid (below_step hB_12.out hb)
        replace K_ga := Lib.hid (K_ga.out.below hb)
        replace K_gt := Lib.hid (blk_below K_gt.out hb)
        clear hb hB_12
        go_upto_region 6 with (first | ((with_reducible refine gate_dst (N := 6) rfl ?_); refine box_event ?hg (N := 6) ?hd (cs := Ht.zero.cs) (t := 25) ?hr ?_; (case hd => rfl); (case hg => rfl); (case hr => first | (go_simp; done) | (go_simp; rfl)); intro gk hg w_16 H1 hb; have hB_18 := Lib.hid (below_step hB_15.out hb); have G_gk := Lib.hid (show w.heap.size ≤ gk by rw [hg]; exact (hB_15.out).size); have N_ga_gk := Lib.hid (show ga ≠ gk by rw [hg]; exact Nat.ne_of_lt (K_ga.out.lt)); have N_gt_gk := Lib.hid (show gt ≠ gk by rw [hg]; exact Nat.ne_of_lt (blk_lt K_gt.out)); replace K_ga := Lib.hid (K_ga.out.below hb); replace K_gt := Lib.hid (blk_below K_gt.out hb); have K_gk := Lib.hid (show Hb w_16 gk Ht.zero from H1); clear hg hb H1 hB_15) | (refine store_hart rfl (.tmp 6) (.tmp 33) rfl gk k rfl rfl Ht.zero K_gk.out ?_; have hB_19 := Lib.hid (setCells_below G_gk.out (Ht.cs k).toList 0 _ hB_18.out); replace K_ga := Lib.hid (Hb.farAll (vs := (Ht.cs k).toList) (o := 0) N_ga_gk.out K_ga.out); replace K_gt := Lib.hid (setCells_far' (vs := (Ht.cs k).toList) (o := 0) N_gt_gk.out K_gt.out); replace K_gk := Lib.hid (Hb.putAll k K_gk.out); clear hB_18; generalize World.setCells w_16 gk 0 (Ht.cs k).toList = w_17 at K_ga K_gt K_gk hB_19 ⊢))
        have c_gt_0 := (show World.cell? _ ⟨gt, 0, none⟩ = some (.bool false) from (blk_cell K_gt.out 0).trans rfl); have f_gt_0 := blk_frozen K_gt.out 0
        go_upto_region 7 with fail
        clear hu25
        go_wp2_with (first | ((with_reducible refine gate_dst (N := 37) rfl ?_); (first | (refine gate_guard (by kernel_rfl) ?_) | skip); refine Kd.event_run rfl (v := .agg (k).cs) (w1 := w_17) ?hb ?_; (case hb => exact exec_load_hart rfl rfl K_gk.out)) | ((with_reducible refine gate_dst (N := 38) rfl ?_); (first | (refine gate_guard (by kernel_rfl) ?_) | skip); refine Kd.event_run rfl (v := .agg (f).cs) (w1 := w_17) ?hb ?_; (case hb => exact exec_load_hart rfl rfl K_ga.out)) | ((with_reducible refine gate_dst (N := 39) rfl ?_); (first | (refine gate_guard (by kernel_rfl) ?_) | skip); refine Kd.event_run rfl (v := .bool true) (w1 := w_17) ?hb ?_; (case hb => exact exec_eqB (h := k) (k := f) rfl rfl rfl (HE.out))))
        refine (wakes_c _).mono ?_
        rintro e_20 w_21 ⟨rfl, hb⟩
        clear c_gt_0 f_gt_0
        have hB_22 := Lib.hid (below_step hB_19.out hb)
        replace K_ga := Lib.hid (K_ga.out.below hb)
        replace K_gt := Lib.hid (blk_below K_gt.out hb)
        replace K_gk := Lib.hid (K_gk.out.below hb)
        clear hb hB_19
        go_wp2
        go_ret
        exact ⟨rfl, hB_22.out⟩
      · skip
        subst d5
        clear HKE H1 H2
        have hu25 := Tryd.underlying25; have hu27 := Tryd.underlying27
        go_enter Tryd.func4, Tryd.ntmps4
        go_upto_region 1 with (first | ((with_reducible refine gate_dst (N := 2) rfl ?_); refine box_event ?hg (N := 2) ?hd (cs := h.cs) (t := 25) ?hr ?_; (case hd => rfl); (case hg => rfl); (case hr => first | (go_simp; done) | (go_simp; rfl)); intro ga hg w_1 H1 hb; have hB_2 := Lib.hid (below_step (Below.refl w.heap.size w) hb); have G_ga := Lib.hid (show w.heap.size ≤ ga by rw [hg]; exact ((Below.refl w.heap.size w)).size); have K_ga := Lib.hid (show Hb w_1 ga h from H1); clear hg hb H1) | ((with_reducible refine gate_dst (N := 3) rfl ?_); refine box_event ?hg (N := 3) ?hd (cs := #[.bool true, .int .u64 tc, .int .u64 tv, .int .u64 tv2, .int .u64 tn, .bool tg]) (t := 27) ?hr ?_; (case hd => rfl); (case hg => rfl); (case hr => first | (go_simp; done) | (go_simp; rfl)); intro gt hg w_3 H1 hb; have hB_4 := Lib.hid (below_step hB_2.out hb); have G_gt := Lib.hid (show w.heap.size ≤ gt by rw [hg]; exact (hB_2.out).size); have N_ga_gt := Lib.hid (show ga ≠ gt by rw [hg]; exact Nat.ne_of_lt (K_ga.out.lt)); replace K_ga := Lib.hid (K_ga.out.below hb); have K_gt := Lib.hid (show w_3.heap[gt]? = some (.cells #[.bool true, .int .u64 tc, .int .u64 tv, .int .u64 tv2, .int .u64 tn, .bool tg] 27 (0, 0)) from H1); clear hg hb H1 hB_2; clear hu27))
        go_wp2_with (first | ((with_reducible refine gate_dst (N := 9) rfl ?_); (first | (refine gate_guard (by kernel_rfl) ?_) | skip); refine Kd.event_run rfl (v := .agg (h).cs) (w1 := w_3) ?hb ?_; (case hb => exact exec_load_hart rfl rfl K_ga.out)))
        refine (HF.out _ (Tab.from HT.out hB_4.out)).mono ?_
        rintro e_5 w_6 ⟨rfl, hb⟩
        have hB_7 := Lib.hid (below_step hB_4.out hb)
        replace K_ga := Lib.hid (K_ga.out.below hb)
        replace K_gt := Lib.hid (blk_below K_gt.out hb)
        clear hb hB_4
        go_upto_region 2 with (first | (refine store_hart rfl (.tmp 2) (.tmp 10) rfl ga (f) rfl rfl (h) K_ga.out ?_; have hB_9 := Lib.hid (setCells_below G_ga.out (Ht.cs (f)).toList 0 _ hB_7.out); replace K_gt := Lib.hid (setCells_far' (vs := (Ht.cs (f)).toList) (o := 0) (Ne.symm N_ga_gt.out) K_gt.out); replace K_ga := Lib.hid (Hb.putAll (f) K_ga.out); clear hB_7; generalize World.setCells w_6 ga 0 (Ht.cs (f)).toList = w_8 at K_ga K_gt hB_9 ⊢))
        have c_gt_1 := (show World.cell? _ ⟨gt, 1, none⟩ = some (.int .u64 tc) from (blk_cell K_gt.out 1).trans rfl); have f_gt_1 := blk_frozen K_gt.out 1
        go_wp2_with (first | ((with_reducible refine gate_dst (N := 11) rfl ?_); (first | (refine gate_guard (by kernel_rfl) ?_) | skip); refine Kd.event_run rfl (v := .agg (f).cs) (w1 := w_8) ?hb ?_; (case hb => exact exec_load_hart rfl rfl K_ga.out)))
        refine (HTO.out _).mono ?_
        rintro e_10 w_11 ⟨rfl, hb⟩
        clear c_gt_1 f_gt_1
        have hB_12 := Lib.hid (below_step hB_9.out hb)
        replace K_ga := Lib.hid (K_ga.out.below hb)
        replace K_gt := Lib.hid (blk_below K_gt.out hb)
        clear hb hB_9
        have c_ga_33 := K_ga.out.p; have f_ga_33 := K_ga.out.fr 33
        have c_ga_34 := K_ga.out.cv; have f_ga_34 := K_ga.out.fr 34
        go_upto_region 5 with fail
        clear c_ga_33 f_ga_33 c_ga_34 f_ga_34
        go_wp2_with (first | ((with_reducible refine gate_dst (N := 31) rfl ?_); (first | (refine gate_guard (by kernel_rfl) ?_) | skip); refine Kd.event_run rfl (v := .agg (f).cs) (w1 := w_11) ?hb ?_; (case hb => exact exec_load_hart rfl rfl K_ga.out)) | ((with_reducible refine gate_dst (N := 32) rfl ?_); (first | (refine gate_guard (by kernel_rfl) ?_) | skip); refine Kd.event_run rfl (v := .agg #[.bool true, .int .u64 tc, .int .u64 tv, .int .u64 tv2, .int .u64 tn, .bool tg]) (w1 := w_11) ?hb ?_; (case hb => exact exec_load_blk rfl rfl K_gt.out Tryd.underlying27 rfl (by kernel_rfl))))
        refine (HEN.out _).mono ?_
        rintro e_13 w_14 ⟨rfl, hb⟩
        have hB_15 := Lib.hid (below_step hB_12.out hb)
        replace K_ga := Lib.hid (K_ga.out.below hb)
        replace K_gt := Lib.hid (blk_below K_gt.out hb)
        clear hb hB_12
        go_upto_region 6 with (first | ((with_reducible refine gate_dst (N := 6) rfl ?_); refine box_event ?hg (N := 6) ?hd (cs := Ht.zero.cs) (t := 25) ?hr ?_; (case hd => rfl); (case hg => rfl); (case hr => first | (go_simp; done) | (go_simp; rfl)); intro gk hg w_16 H1 hb; have hB_18 := Lib.hid (below_step hB_15.out hb); have G_gk := Lib.hid (show w.heap.size ≤ gk by rw [hg]; exact (hB_15.out).size); have N_ga_gk := Lib.hid (show ga ≠ gk by rw [hg]; exact Nat.ne_of_lt (K_ga.out.lt)); have N_gt_gk := Lib.hid (show gt ≠ gk by rw [hg]; exact Nat.ne_of_lt (blk_lt K_gt.out)); replace K_ga := Lib.hid (K_ga.out.below hb); replace K_gt := Lib.hid (blk_below K_gt.out hb); have K_gk := Lib.hid (show Hb w_16 gk Ht.zero from H1); clear hg hb H1 hB_15) | (refine store_hart rfl (.tmp 6) (.tmp 33) rfl gk k rfl rfl Ht.zero K_gk.out ?_; have hB_19 := Lib.hid (setCells_below G_gk.out (Ht.cs k).toList 0 _ hB_18.out); replace K_ga := Lib.hid (Hb.farAll (vs := (Ht.cs k).toList) (o := 0) N_ga_gk.out K_ga.out); replace K_gt := Lib.hid (setCells_far' (vs := (Ht.cs k).toList) (o := 0) N_gt_gk.out K_gt.out); replace K_gk := Lib.hid (Hb.putAll k K_gk.out); clear hB_18; generalize World.setCells w_16 gk 0 (Ht.cs k).toList = w_17 at K_ga K_gt K_gk hB_19 ⊢))
        have c_gt_0 := (show World.cell? _ ⟨gt, 0, none⟩ = some (.bool true) from (blk_cell K_gt.out 0).trans rfl); have f_gt_0 := blk_frozen K_gt.out 0
        go_upto_region 8 with fail
        go_wp2_with (first | ((with_reducible refine gate_dst (N := 43) rfl ?_); (first | (refine gate_guard (by kernel_rfl) ?_) | skip); refine Kd.event_run rfl (v := .agg (k).cs) (w1 := w_17) ?hb ?_; (case hb => exact exec_load_hart rfl rfl K_gk.out)))
        refine (HMR.out _).mono ?_
        rintro e_20 w_21 ⟨rfl, hb⟩
        clear c_gt_0 f_gt_0
        have hB_22 := Lib.hid (below_step hB_19.out hb)
        replace K_ga := Lib.hid (K_ga.out.below hb)
        replace K_gt := Lib.hid (blk_below K_gt.out hb)
        replace K_gk := Lib.hid (K_gk.out.below hb)
        clear hb hB_19
        go_upto_region 9 with (first | ((with_reducible refine gate_dst (N := 7) rfl ?_); refine box_event ?hg (N := 7) ?hd (cs := Ht.zero.cs) (t := 25) ?hr ?_; (case hd => rfl); (case hg => rfl); (case hr => first | (go_simp; done) | (go_simp; rfl)); intro gm hg w_23 H1 hb; have hB_25 := Lib.hid (below_step hB_22.out hb); have G_gm := Lib.hid (show w.heap.size ≤ gm by rw [hg]; exact (hB_22.out).size); have N_ga_gm := Lib.hid (show ga ≠ gm by rw [hg]; exact Nat.ne_of_lt (K_ga.out.lt)); have N_gt_gm := Lib.hid (show gt ≠ gm by rw [hg]; exact Nat.ne_of_lt (blk_lt K_gt.out)); have N_gk_gm := Lib.hid (show gk ≠ gm by rw [hg]; exact Nat.ne_of_lt (K_gk.out.lt)); replace K_ga := Lib.hid (K_ga.out.below hb); replace K_gt := Lib.hid (blk_below K_gt.out hb); replace K_gk := Lib.hid (K_gk.out.below hb); have K_gm := Lib.hid (show Hb w_23 gm Ht.zero from H1); clear hg hb H1 hB_22) | (refine store_hart rfl (.tmp 7) (.tmp 44) rfl gm m rfl rfl Ht.zero K_gm.out ?_; have hB_26 := Lib.hid (setCells_below G_gm.out (Ht.cs m).toList 0 _ hB_25.out); replace K_ga := Lib.hid (Hb.farAll (vs := (Ht.cs m).toList) (o := 0) N_ga_gm.out K_ga.out); replace K_gt := Lib.hid (setCells_far' (vs := (Ht.cs m).toList) (o := 0) N_gt_gm.out K_gt.out); replace K_gk := Lib.hid (Hb.farAll (vs := (Ht.cs m).toList) (o := 0) N_gk_gm.out K_gk.out); replace K_gm := Lib.hid (Hb.putAll m K_gm.out); clear hB_25; generalize World.setCells w_23 gm 0 (Ht.cs m).toList = w_24 at K_ga K_gt K_gk K_gm hB_26 ⊢))
        go_wp2_with (first | ((with_reducible refine gate_dst (N := 45) rfl ?_); (first | (refine gate_guard (by kernel_rfl) ?_) | skip); refine Kd.event_run rfl (v := .agg (k).cs) (w1 := w_24) ?hb ?_; (case hb => exact exec_load_hart rfl rfl K_gk.out)))
        refine (HSR.out _).mono ?_
        rintro e_27 w_28 ⟨rfl, hb⟩
        have hB_29 := Lib.hid (below_step hB_26.out hb)
        replace K_ga := Lib.hid (K_ga.out.below hb)
        replace K_gt := Lib.hid (blk_below K_gt.out hb)
        replace K_gk := Lib.hid (K_gk.out.below hb)
        replace K_gm := Lib.hid (K_gm.out.below hb)
        clear hb hB_26
        go_upto_region 10 with (first | ((with_reducible refine gate_dst (N := 8) rfl ?_); refine box_event ?hg (N := 8) ?hd (cs := Ht.zero.cs) (t := 25) ?hr ?_; (case hd => rfl); (case hg => rfl); (case hr => first | (go_simp; done) | (go_simp; rfl)); intro gn hg w_30 H1 hb; have hB_32 := Lib.hid (below_step hB_29.out hb); have G_gn := Lib.hid (show w.heap.size ≤ gn by rw [hg]; exact (hB_29.out).size); have N_ga_gn := Lib.hid (show ga ≠ gn by rw [hg]; exact Nat.ne_of_lt (K_ga.out.lt)); have N_gt_gn := Lib.hid (show gt ≠ gn by rw [hg]; exact Nat.ne_of_lt (blk_lt K_gt.out)); have N_gk_gn := Lib.hid (show gk ≠ gn by rw [hg]; exact Nat.ne_of_lt (K_gk.out.lt)); have N_gm_gn := Lib.hid (show gm ≠ gn by rw [hg]; exact Nat.ne_of_lt (K_gm.out.lt)); replace K_ga := Lib.hid (K_ga.out.below hb); replace K_gt := Lib.hid (blk_below K_gt.out hb); replace K_gk := Lib.hid (K_gk.out.below hb); replace K_gm := Lib.hid (K_gm.out.below hb); have K_gn := Lib.hid (show Hb w_30 gn Ht.zero from H1); clear hg hb H1 hB_29) | (refine store_hart rfl (.tmp 8) (.tmp 46) rfl gn n rfl rfl Ht.zero K_gn.out ?_; have hB_33 := Lib.hid (setCells_below G_gn.out (Ht.cs n).toList 0 _ hB_32.out); replace K_ga := Lib.hid (Hb.farAll (vs := (Ht.cs n).toList) (o := 0) N_ga_gn.out K_ga.out); replace K_gt := Lib.hid (setCells_far' (vs := (Ht.cs n).toList) (o := 0) N_gt_gn.out K_gt.out); replace K_gk := Lib.hid (Hb.farAll (vs := (Ht.cs n).toList) (o := 0) N_gk_gn.out K_gk.out); replace K_gm := Lib.hid (Hb.farAll (vs := (Ht.cs n).toList) (o := 0) N_gm_gn.out K_gm.out); replace K_gn := Lib.hid (Hb.putAll n K_gn.out); clear hB_32; generalize World.setCells w_30 gn 0 (Ht.cs n).toList = w_31 at K_ga K_gt K_gk K_gm K_gn hB_33 ⊢))
        clear hu25
        go_wp2_with (first | ((with_reducible refine gate_dst (N := 47) rfl ?_); (first | (refine gate_guard (by kernel_rfl) ?_) | skip); refine Kd.event_run rfl (v := .agg (k).cs) (w1 := w_31) ?hb ?_; (case hb => exact exec_load_hart rfl rfl K_gk.out)))
        refine (HLK.out _ (Tab.from HT.out hB_33.out)).mono ?_
        rintro e_34 w_35 ⟨rfl, hb⟩
        have hB_36 := Lib.hid (below_step hB_33.out hb)
        replace K_ga := Lib.hid (K_ga.out.below hb)
        replace K_gt := Lib.hid (blk_below K_gt.out hb)
        replace K_gk := Lib.hid (K_gk.out.below hb)
        replace K_gm := Lib.hid (K_gm.out.below hb)
        replace K_gn := Lib.hid (K_gn.out.below hb)
        clear hb hB_33
        go_wp2_with (first | ((with_reducible refine gate_dst (N := 50) rfl ?_); (first | (refine gate_guard (by kernel_rfl) ?_) | skip); refine Kd.event_run rfl (v := .agg (m).cs) (w1 := w_35) ?hb ?_; (case hb => exact exec_load_hart rfl rfl K_gm.out)))
        refine (HLM.out _ (Tab.from HT.out hB_36.out)).mono ?_
        rintro e_37 w_38 ⟨rfl, hb⟩
        have hB_39 := Lib.hid (below_step hB_36.out hb)
        replace K_ga := Lib.hid (K_ga.out.below hb)
        replace K_gt := Lib.hid (blk_below K_gt.out hb)
        replace K_gk := Lib.hid (K_gk.out.below hb)
        replace K_gm := Lib.hid (K_gm.out.below hb)
        replace K_gn := Lib.hid (K_gn.out.below hb)
        clear hb hB_36
        go_wp2_with (first | ((with_reducible refine gate_dst (N := 54) rfl ?_); (first | (refine gate_guard (by kernel_rfl) ?_) | skip); refine Kd.event_run rfl (v := .agg (n).cs) (w1 := w_38) ?hb ?_; (case hb => exact exec_load_hart rfl rfl K_gn.out)))
        refine (HLN.out _ (Tab.from HT.out hB_39.out)).mono ?_
        rintro e_40 w_41 ⟨rfl, hb⟩
        have hB_42 := Lib.hid (below_step hB_39.out hb)
        replace K_ga := Lib.hid (K_ga.out.below hb)
        replace K_gt := Lib.hid (blk_below K_gt.out hb)
        replace K_gk := Lib.hid (K_gk.out.below hb)
        replace K_gm := Lib.hid (K_gm.out.below hb)
        replace K_gn := Lib.hid (K_gn.out.below hb)
        clear hb hB_39
        go_wp2_with fail
        refine (wakes_c _).mono ?_
        rintro e_43 w_44 ⟨rfl, hb⟩
        have hB_45 := Lib.hid (below_step hB_42.out hb)
        replace K_ga := Lib.hid (K_ga.out.below hb)
        replace K_gt := Lib.hid (blk_below K_gt.out hb)
        replace K_gk := Lib.hid (K_gk.out.below hb)
        replace K_gm := Lib.hid (K_gm.out.below hb)
        replace K_gn := Lib.hid (K_gn.out.below hb)
        clear hb hB_42
        go_wp2
        go_ret
        exact ⟨rfl, hB_45.out⟩
  · skip
    cases d3 : f.v
    · skip
      cases d5 : ti
      · skip
        have d2 := H1.out d1
        have d4 := H2.out d3
        subst d5
        have hke := HKE.out rfl
        have HE := Lib.hid hke
        clear hke
        clear HKE H1 H2
        have hu25 := Tryd.underlying25; have hu27 := Tryd.underlying27
        go_enter Tryd.func4, Tryd.ntmps4
        go_upto_region 1 with (first | ((with_reducible refine gate_dst (N := 2) rfl ?_); refine box_event ?hg (N := 2) ?hd (cs := h.cs) (t := 25) ?hr ?_; (case hd => rfl); (case hg => rfl); (case hr => first | (go_simp; done) | (go_simp; rfl)); intro ga hg w_1 H1 hb; have hB_2 := Lib.hid (below_step (Below.refl w.heap.size w) hb); have G_ga := Lib.hid (show w.heap.size ≤ ga by rw [hg]; exact ((Below.refl w.heap.size w)).size); have K_ga := Lib.hid (show Hb w_1 ga h from H1); clear hg hb H1) | ((with_reducible refine gate_dst (N := 3) rfl ?_); refine box_event ?hg (N := 3) ?hd (cs := #[.bool false, .int .u64 tc, .int .u64 tv, .int .u64 tv2, .int .u64 tn, .bool tg]) (t := 27) ?hr ?_; (case hd => rfl); (case hg => rfl); (case hr => first | (go_simp; done) | (go_simp; rfl)); intro gt hg w_3 H1 hb; have hB_4 := Lib.hid (below_step hB_2.out hb); have G_gt := Lib.hid (show w.heap.size ≤ gt by rw [hg]; exact (hB_2.out).size); have N_ga_gt := Lib.hid (show ga ≠ gt by rw [hg]; exact Nat.ne_of_lt (K_ga.out.lt)); replace K_ga := Lib.hid (K_ga.out.below hb); have K_gt := Lib.hid (show w_3.heap[gt]? = some (.cells #[.bool false, .int .u64 tc, .int .u64 tv, .int .u64 tv2, .int .u64 tn, .bool tg] 27 (0, 0)) from H1); clear hg hb H1 hB_2; clear hu27))
        go_wp2_with (first | ((with_reducible refine gate_dst (N := 9) rfl ?_); (first | (refine gate_guard (by kernel_rfl) ?_) | skip); refine Kd.event_run rfl (v := .agg (h).cs) (w1 := w_3) ?hb ?_; (case hb => exact exec_load_hart rfl rfl K_ga.out)))
        refine (HF.out _ (Tab.from HT.out hB_4.out)).mono ?_
        rintro e_5 w_6 ⟨rfl, hb⟩
        have hB_7 := Lib.hid (below_step hB_4.out hb)
        replace K_ga := Lib.hid (K_ga.out.below hb)
        replace K_gt := Lib.hid (blk_below K_gt.out hb)
        clear hb hB_4
        go_upto_region 2 with (first | (refine store_hart rfl (.tmp 2) (.tmp 10) rfl ga (f) rfl rfl (h) K_ga.out ?_; have hB_9 := Lib.hid (setCells_below G_ga.out (Ht.cs (f)).toList 0 _ hB_7.out); replace K_gt := Lib.hid (setCells_far' (vs := (Ht.cs (f)).toList) (o := 0) (Ne.symm N_ga_gt.out) K_gt.out); replace K_ga := Lib.hid (Hb.putAll (f) K_ga.out); clear hB_7; generalize World.setCells w_6 ga 0 (Ht.cs (f)).toList = w_8 at K_ga K_gt hB_9 ⊢))
        have c_gt_1 := (show World.cell? _ ⟨gt, 1, none⟩ = some (.int .u64 tc) from (blk_cell K_gt.out 1).trans rfl); have f_gt_1 := blk_frozen K_gt.out 1
        go_wp2_with (first | ((with_reducible refine gate_dst (N := 11) rfl ?_); (first | (refine gate_guard (by kernel_rfl) ?_) | skip); refine Kd.event_run rfl (v := .agg (f).cs) (w1 := w_8) ?hb ?_; (case hb => exact exec_load_hart rfl rfl K_ga.out)))
        refine (HTO.out _).mono ?_
        rintro e_10 w_11 ⟨rfl, hb⟩
        clear c_gt_1 f_gt_1
        have hB_12 := Lib.hid (below_step hB_9.out hb)
        replace K_ga := Lib.hid (K_ga.out.below hb)
        replace K_gt := Lib.hid (blk_below K_gt.out hb)
        clear hb hB_9
        have c_ga_33 := K_ga.out.p; have f_ga_33 := K_ga.out.fr 33
        have c_ga_34 := K_ga.out.cv; have f_ga_34 := K_ga.out.fr 34
        go_upto_region 5 with fail
        clear c_ga_33 f_ga_33 c_ga_34 f_ga_34
        go_wp2_with (first | ((with_reducible refine gate_dst (N := 31) rfl ?_); (first | (refine gate_guard (by kernel_rfl) ?_) | skip); refine Kd.event_run rfl (v := .agg (f).cs) (w1 := w_11) ?hb ?_; (case hb => exact exec_load_hart rfl rfl K_ga.out)) | ((with_reducible refine gate_dst (N := 32) rfl ?_); (first | (refine gate_guard (by kernel_rfl) ?_) | skip); refine Kd.event_run rfl (v := .agg #[.bool false, .int .u64 tc, .int .u64 tv, .int .u64 tv2, .int .u64 tn, .bool tg]) (w1 := w_11) ?hb ?_; (case hb => exact exec_load_blk rfl rfl K_gt.out Tryd.underlying27 rfl (by kernel_rfl))))
        refine (HEN.out _).mono ?_
        rintro e_13 w_14 ⟨rfl, hb⟩
        have hB_15 := Lib.hid (below_step hB_12.out hb)
        replace K_ga := Lib.hid (K_ga.out.below hb)
        replace K_gt := Lib.hid (blk_below K_gt.out hb)
        clear hb hB_12
        go_upto_region 6 with (first | ((with_reducible refine gate_dst (N := 6) rfl ?_); refine box_event ?hg (N := 6) ?hd (cs := Ht.zero.cs) (t := 25) ?hr ?_; (case hd => rfl); (case hg => rfl); (case hr => first | (go_simp; done) | (go_simp; rfl)); intro gk hg w_16 H1 hb; have hB_18 := Lib.hid (below_step hB_15.out hb); have G_gk := Lib.hid (show w.heap.size ≤ gk by rw [hg]; exact (hB_15.out).size); have N_ga_gk := Lib.hid (show ga ≠ gk by rw [hg]; exact Nat.ne_of_lt (K_ga.out.lt)); have N_gt_gk := Lib.hid (show gt ≠ gk by rw [hg]; exact Nat.ne_of_lt (blk_lt K_gt.out)); replace K_ga := Lib.hid (K_ga.out.below hb); replace K_gt := Lib.hid (blk_below K_gt.out hb); have K_gk := Lib.hid (show Hb w_16 gk Ht.zero from H1); clear hg hb H1 hB_15) | (refine store_hart rfl (.tmp 6) (.tmp 33) rfl gk k rfl rfl Ht.zero K_gk.out ?_; have hB_19 := Lib.hid (setCells_below G_gk.out (Ht.cs k).toList 0 _ hB_18.out); replace K_ga := Lib.hid (Hb.farAll (vs := (Ht.cs k).toList) (o := 0) N_ga_gk.out K_ga.out); replace K_gt := Lib.hid (setCells_far' (vs := (Ht.cs k).toList) (o := 0) N_gt_gk.out K_gt.out); replace K_gk := Lib.hid (Hb.putAll k K_gk.out); clear hB_18; generalize World.setCells w_16 gk 0 (Ht.cs k).toList = w_17 at K_ga K_gt K_gk hB_19 ⊢))
        have c_gt_0 := (show World.cell? _ ⟨gt, 0, none⟩ = some (.bool false) from (blk_cell K_gt.out 0).trans rfl); have f_gt_0 := blk_frozen K_gt.out 0
        go_upto_region 7 with fail
        clear hu25
        go_wp2_with (first | ((with_reducible refine gate_dst (N := 37) rfl ?_); (first | (refine gate_guard (by kernel_rfl) ?_) | skip); refine Kd.event_run rfl (v := .agg (k).cs) (w1 := w_17) ?hb ?_; (case hb => exact exec_load_hart rfl rfl K_gk.out)) | ((with_reducible refine gate_dst (N := 38) rfl ?_); (first | (refine gate_guard (by kernel_rfl) ?_) | skip); refine Kd.event_run rfl (v := .agg (f).cs) (w1 := w_17) ?hb ?_; (case hb => exact exec_load_hart rfl rfl K_ga.out)) | ((with_reducible refine gate_dst (N := 39) rfl ?_); (first | (refine gate_guard (by kernel_rfl) ?_) | skip); refine Kd.event_run rfl (v := .bool true) (w1 := w_17) ?hb ?_; (case hb => exact exec_eqB (h := k) (k := f) rfl rfl rfl (HE.out))))
        refine (wakes_c _).mono ?_
        rintro e_20 w_21 ⟨rfl, hb⟩
        clear c_gt_0 f_gt_0
        have hB_22 := Lib.hid (below_step hB_19.out hb)
        replace K_ga := Lib.hid (K_ga.out.below hb)
        replace K_gt := Lib.hid (blk_below K_gt.out hb)
        replace K_gk := Lib.hid (K_gk.out.below hb)
        clear hb hB_19
        go_wp2
        go_ret
        exact ⟨rfl, hB_22.out⟩
      · skip
        have d2 := H1.out d1
        have d4 := H2.out d3
        subst d5
        clear HKE H1 H2
        have hu25 := Tryd.underlying25; have hu27 := Tryd.underlying27
        go_enter Tryd.func4, Tryd.ntmps4
        go_upto_region 1 with (first | ((with_reducible refine gate_dst (N := 2) rfl ?_); refine box_event ?hg (N := 2) ?hd (cs := h.cs) (t := 25) ?hr ?_; (case hd => rfl); (case hg => rfl); (case hr => first | (go_simp; done) | (go_simp; rfl)); intro ga hg w_1 H1 hb; have hB_2 := Lib.hid (below_step (Below.refl w.heap.size w) hb); have G_ga := Lib.hid (show w.heap.size ≤ ga by rw [hg]; exact ((Below.refl w.heap.size w)).size); have K_ga := Lib.hid (show Hb w_1 ga h from H1); clear hg hb H1) | ((with_reducible refine gate_dst (N := 3) rfl ?_); refine box_event ?hg (N := 3) ?hd (cs := #[.bool true, .int .u64 tc, .int .u64 tv, .int .u64 tv2, .int .u64 tn, .bool tg]) (t := 27) ?hr ?_; (case hd => rfl); (case hg => rfl); (case hr => first | (go_simp; done) | (go_simp; rfl)); intro gt hg w_3 H1 hb; have hB_4 := Lib.hid (below_step hB_2.out hb); have G_gt := Lib.hid (show w.heap.size ≤ gt by rw [hg]; exact (hB_2.out).size); have N_ga_gt := Lib.hid (show ga ≠ gt by rw [hg]; exact Nat.ne_of_lt (K_ga.out.lt)); replace K_ga := Lib.hid (K_ga.out.below hb); have K_gt := Lib.hid (show w_3.heap[gt]? = some (.cells #[.bool true, .int .u64 tc, .int .u64 tv, .int .u64 tv2, .int .u64 tn, .bool tg] 27 (0, 0)) from H1); clear hg hb H1 hB_2; clear hu27))
        go_wp2_with (first | ((with_reducible refine gate_dst (N := 9) rfl ?_); (first | (refine gate_guard (by kernel_rfl) ?_) | skip); refine Kd.event_run rfl (v := .agg (h).cs) (w1 := w_3) ?hb ?_; (case hb => exact exec_load_hart rfl rfl K_ga.out)))
        refine (HF.out _ (Tab.from HT.out hB_4.out)).mono ?_
        rintro e_5 w_6 ⟨rfl, hb⟩
        have hB_7 := Lib.hid (below_step hB_4.out hb)
        replace K_ga := Lib.hid (K_ga.out.below hb)
        replace K_gt := Lib.hid (blk_below K_gt.out hb)
        clear hb hB_4
        go_upto_region 2 with (first | (refine store_hart rfl (.tmp 2) (.tmp 10) rfl ga (f) rfl rfl (h) K_ga.out ?_; have hB_9 := Lib.hid (setCells_below G_ga.out (Ht.cs (f)).toList 0 _ hB_7.out); replace K_gt := Lib.hid (setCells_far' (vs := (Ht.cs (f)).toList) (o := 0) (Ne.symm N_ga_gt.out) K_gt.out); replace K_ga := Lib.hid (Hb.putAll (f) K_ga.out); clear hB_7; generalize World.setCells w_6 ga 0 (Ht.cs (f)).toList = w_8 at K_ga K_gt hB_9 ⊢))
        have c_gt_1 := (show World.cell? _ ⟨gt, 1, none⟩ = some (.int .u64 tc) from (blk_cell K_gt.out 1).trans rfl); have f_gt_1 := blk_frozen K_gt.out 1
        go_wp2_with (first | ((with_reducible refine gate_dst (N := 11) rfl ?_); (first | (refine gate_guard (by kernel_rfl) ?_) | skip); refine Kd.event_run rfl (v := .agg (f).cs) (w1 := w_8) ?hb ?_; (case hb => exact exec_load_hart rfl rfl K_ga.out)))
        refine (HTO.out _).mono ?_
        rintro e_10 w_11 ⟨rfl, hb⟩
        clear c_gt_1 f_gt_1
        have hB_12 := Lib.hid (below_step hB_9.out hb)
        replace K_ga := Lib.hid (K_ga.out.below hb)
        replace K_gt := Lib.hid (blk_below K_gt.out hb)
        clear hb hB_9
        have c_ga_33 := K_ga.out.p; have f_ga_33 := K_ga.out.fr 33
        have c_ga_34 := K_ga.out.cv; have f_ga_34 := K_ga.out.fr 34
        go_upto_region 5 with fail
        clear c_ga_33 f_ga_33 c_ga_34 f_ga_34
        go_wp2_with (first | ((with_reducible refine gate_dst (N := 31) rfl ?_); (first | (refine gate_guard (by kernel_rfl) ?_) | skip); refine Kd.event_run rfl (v := .agg (f).cs) (w1 := w_11) ?hb ?_; (case hb => exact exec_load_hart rfl rfl K_ga.out)) | ((with_reducible refine gate_dst (N := 32) rfl ?_); (first | (refine gate_guard (by kernel_rfl) ?_) | skip); refine Kd.event_run rfl (v := .agg #[.bool true, .int .u64 tc, .int .u64 tv, .int .u64 tv2, .int .u64 tn, .bool tg]) (w1 := w_11) ?hb ?_; (case hb => exact exec_load_blk rfl rfl K_gt.out Tryd.underlying27 rfl (by kernel_rfl))))
        refine (HEN.out _).mono ?_
        rintro e_13 w_14 ⟨rfl, hb⟩
        have hB_15 := Lib.hid (below_step hB_12.out hb)
        replace K_ga := Lib.hid (K_ga.out.below hb)
        replace K_gt := Lib.hid (blk_below K_gt.out hb)
        clear hb hB_12
        go_upto_region 6 with (first | ((with_reducible refine gate_dst (N := 6) rfl ?_); refine box_event ?hg (N := 6) ?hd (cs := Ht.zero.cs) (t := 25) ?hr ?_; (case hd => rfl); (case hg => rfl); (case hr => first | (go_simp; done) | (go_simp; rfl)); intro gk hg w_16 H1 hb; have hB_18 := Lib.hid (below_step hB_15.out hb); have G_gk := Lib.hid (show w.heap.size ≤ gk by rw [hg]; exact (hB_15.out).size); have N_ga_gk := Lib.hid (show ga ≠ gk by rw [hg]; exact Nat.ne_of_lt (K_ga.out.lt)); have N_gt_gk := Lib.hid (show gt ≠ gk by rw [hg]; exact Nat.ne_of_lt (blk_lt K_gt.out)); replace K_ga := Lib.hid (K_ga.out.below hb); replace K_gt := Lib.hid (blk_below K_gt.out hb); have K_gk := Lib.hid (show Hb w_16 gk Ht.zero from H1); clear hg hb H1 hB_15) | (refine store_hart rfl (.tmp 6) (.tmp 33) rfl gk k rfl rfl Ht.zero K_gk.out ?_; have hB_19 := Lib.hid (setCells_below G_gk.out (Ht.cs k).toList 0 _ hB_18.out); replace K_ga := Lib.hid (Hb.farAll (vs := (Ht.cs k).toList) (o := 0) N_ga_gk.out K_ga.out); replace K_gt := Lib.hid (setCells_far' (vs := (Ht.cs k).toList) (o := 0) N_gt_gk.out K_gt.out); replace K_gk := Lib.hid (Hb.putAll k K_gk.out); clear hB_18; generalize World.setCells w_16 gk 0 (Ht.cs k).toList = w_17 at K_ga K_gt K_gk hB_19 ⊢))
        have c_gt_0 := (show World.cell? _ ⟨gt, 0, none⟩ = some (.bool true) from (blk_cell K_gt.out 0).trans rfl); have f_gt_0 := blk_frozen K_gt.out 0
        go_upto_region 8 with fail
        go_wp2_with (first | ((with_reducible refine gate_dst (N := 43) rfl ?_); (first | (refine gate_guard (by kernel_rfl) ?_) | skip); refine Kd.event_run rfl (v := .agg (k).cs) (w1 := w_17) ?hb ?_; (case hb => exact exec_load_hart rfl rfl K_gk.out)))
        refine (HMR.out _).mono ?_
        rintro e_20 w_21 ⟨rfl, hb⟩
        clear c_gt_0 f_gt_0
        have hB_22 := Lib.hid (below_step hB_19.out hb)
        replace K_ga := Lib.hid (K_ga.out.below hb)
        replace K_gt := Lib.hid (blk_below K_gt.out hb)
        replace K_gk := Lib.hid (K_gk.out.below hb)
        clear hb hB_19
        go_upto_region 9 with (first | ((with_reducible refine gate_dst (N := 7) rfl ?_); refine box_event ?hg (N := 7) ?hd (cs := Ht.zero.cs) (t := 25) ?hr ?_; (case hd => rfl); (case hg => rfl); (case hr => first | (go_simp; done) | (go_simp; rfl)); intro gm hg w_23 H1 hb; have hB_25 := Lib.hid (below_step hB_22.out hb); have G_gm := Lib.hid (show w.heap.size ≤ gm by rw [hg]; exact (hB_22.out).size); have N_ga_gm := Lib.hid (show ga ≠ gm by rw [hg]; exact Nat.ne_of_lt (K_ga.out.lt)); have N_gt_gm := Lib.hid (show gt ≠ gm by rw [hg]; exact Nat.ne_of_lt (blk_lt K_gt.out)); have N_gk_gm := Lib.hid (show gk ≠ gm by rw [hg]; exact Nat.ne_of_lt (K_gk.out.lt)); replace K_ga := Lib.hid (K_ga.out.below hb); replace K_gt := Lib.hid (blk_below K_gt.out hb); replace K_gk := Lib.hid (K_gk.out.below hb); have K_gm := Lib.hid (show Hb w_23 gm Ht.zero from H1); clear hg hb H1 hB_22) | (refine store_hart rfl (.tmp 7) (.tmp 44) rfl gm m rfl rfl Ht.zero K_gm.out ?_; have hB_26 := Lib.hid (setCells_below G_gm.out (Ht.cs m).toList 0 _ hB_25.out); replace K_ga := Lib.hid (Hb.farAll (vs := (Ht.cs m).toList) (o := 0) N_ga_gm.out K_ga.out); replace K_gt := Lib.hid (setCells_far' (vs := (Ht.cs m).toList) (o := 0) N_gt_gm.out K_gt.out); replace K_gk := Lib.hid (Hb.farAll (vs := (Ht.cs m).toList) (o := 0) N_gk_gm.out K_gk.out); replace K_gm := Lib.hid (Hb.putAll m K_gm.out); clear hB_25; generalize World.setCells w_23 gm 0 (Ht.cs m).toList = w_24 at K_ga K_gt K_gk K_gm hB_26 ⊢))
        go_wp2_with (first | ((with_reducible refine gate_dst (N := 45) rfl ?_); (first | (refine gate_guard (by kernel_rfl) ?_) | skip); refine Kd.event_run rfl (v := .agg (k).cs) (w1 := w_24) ?hb ?_; (case hb => exact exec_load_hart rfl rfl K_gk.out)))
        refine (HSR.out _).mono ?_
        rintro e_27 w_28 ⟨rfl, hb⟩
        have hB_29 := Lib.hid (below_step hB_26.out hb)
        replace K_ga := Lib.hid (K_ga.out.below hb)
        replace K_gt := Lib.hid (blk_below K_gt.out hb)
        replace K_gk := Lib.hid (K_gk.out.below hb)
        replace K_gm := Lib.hid (K_gm.out.below hb)
        clear hb hB_26
        go_upto_region 10 with (first | ((with_reducible refine gate_dst (N := 8) rfl ?_); refine box_event ?hg (N := 8) ?hd (cs := Ht.zero.cs) (t := 25) ?hr ?_; (case hd => rfl); (case hg => rfl); (case hr => first | (go_simp; done) | (go_simp; rfl)); intro gn hg w_30 H1 hb; have hB_32 := Lib.hid (below_step hB_29.out hb); have G_gn := Lib.hid (show w.heap.size ≤ gn by rw [hg]; exact (hB_29.out).size); have N_ga_gn := Lib.hid (show ga ≠ gn by rw [hg]; exact Nat.ne_of_lt (K_ga.out.lt)); have N_gt_gn := Lib.hid (show gt ≠ gn by rw [hg]; exact Nat.ne_of_lt (blk_lt K_gt.out)); have N_gk_gn := Lib.hid (show gk ≠ gn by rw [hg]; exact Nat.ne_of_lt (K_gk.out.lt)); have N_gm_gn := Lib.hid (show gm ≠ gn by rw [hg]; exact Nat.ne_of_lt (K_gm.out.lt)); replace K_ga := Lib.hid (K_ga.out.below hb); replace K_gt := Lib.hid (blk_below K_gt.out hb); replace K_gk := Lib.hid (K_gk.out.below hb); replace K_gm := Lib.hid (K_gm.out.below hb); have K_gn := Lib.hid (show Hb w_30 gn Ht.zero from H1); clear hg hb H1 hB_29) | (refine store_hart rfl (.tmp 8) (.tmp 46) rfl gn n rfl rfl Ht.zero K_gn.out ?_; have hB_33 := Lib.hid (setCells_below G_gn.out (Ht.cs n).toList 0 _ hB_32.out); replace K_ga := Lib.hid (Hb.farAll (vs := (Ht.cs n).toList) (o := 0) N_ga_gn.out K_ga.out); replace K_gt := Lib.hid (setCells_far' (vs := (Ht.cs n).toList) (o := 0) N_gt_gn.out K_gt.out); replace K_gk := Lib.hid (Hb.farAll (vs := (Ht.cs n).toList) (o := 0) N_gk_gn.out K_gk.out); replace K_gm := Lib.hid (Hb.farAll (vs := (Ht.cs n).toList) (o := 0) N_gm_gn.out K_gm.out); replace K_gn := Lib.hid (Hb.putAll n K_gn.out); clear hB_32; generalize World.setCells w_30 gn 0 (Ht.cs n).toList = w_31 at K_ga K_gt K_gk K_gm K_gn hB_33 ⊢))
        clear hu25
        go_wp2_with (first | ((with_reducible refine gate_dst (N := 47) rfl ?_); (first | (refine gate_guard (by kernel_rfl) ?_) | skip); refine Kd.event_run rfl (v := .agg (k).cs) (w1 := w_31) ?hb ?_; (case hb => exact exec_load_hart rfl rfl K_gk.out)))
        refine (HLK.out _ (Tab.from HT.out hB_33.out)).mono ?_
        rintro e_34 w_35 ⟨rfl, hb⟩
        have hB_36 := Lib.hid (below_step hB_33.out hb)
        replace K_ga := Lib.hid (K_ga.out.below hb)
        replace K_gt := Lib.hid (blk_below K_gt.out hb)
        replace K_gk := Lib.hid (K_gk.out.below hb)
        replace K_gm := Lib.hid (K_gm.out.below hb)
        replace K_gn := Lib.hid (K_gn.out.below hb)
        clear hb hB_33
        go_wp2_with (first | ((with_reducible refine gate_dst (N := 50) rfl ?_); (first | (refine gate_guard (by kernel_rfl) ?_) | skip); refine Kd.event_run rfl (v := .agg (m).cs) (w1 := w_35) ?hb ?_; (case hb => exact exec_load_hart rfl rfl K_gm.out)))
        refine (HLM.out _ (Tab.from HT.out hB_36.out)).mono ?_
        rintro e_37 w_38 ⟨rfl, hb⟩
        have hB_39 := Lib.hid (below_step hB_36.out hb)
        replace K_ga := Lib.hid (K_ga.out.below hb)
        replace K_gt := Lib.hid (blk_below K_gt.out hb)
        replace K_gk := Lib.hid (K_gk.out.below hb)
        replace K_gm := Lib.hid (K_gm.out.below hb)
        replace K_gn := Lib.hid (K_gn.out.below hb)
        clear hb hB_36
        go_wp2_with (first | ((with_reducible refine gate_dst (N := 54) rfl ?_); (first | (refine gate_guard (by kernel_rfl) ?_) | skip); refine Kd.event_run rfl (v := .agg (n).cs) (w1 := w_38) ?hb ?_; (case hb => exact exec_load_hart rfl rfl K_gn.out)))
        refine (HLN.out _ (Tab.from HT.out hB_39.out)).mono ?_
        rintro e_40 w_41 ⟨rfl, hb⟩
        have hB_42 := Lib.hid (below_step hB_39.out hb)
        replace K_ga := Lib.hid (K_ga.out.below hb)
        replace K_gt := Lib.hid (blk_below K_gt.out hb)
        replace K_gk := Lib.hid (K_gk.out.below hb)
        replace K_gm := Lib.hid (K_gm.out.below hb)
        replace K_gn := Lib.hid (K_gn.out.below hb)
        clear hb hB_39
        go_wp2_with fail
        refine (wakes_c _).mono ?_
        rintro e_43 w_44 ⟨rfl, hb⟩
        have hB_45 := Lib.hid (below_step hB_42.out hb)
        replace K_ga := Lib.hid (K_ga.out.below hb)
        replace K_gt := Lib.hid (blk_below K_gt.out hb)
        replace K_gk := Lib.hid (K_gk.out.below hb)
        replace K_gm := Lib.hid (K_gm.out.below hb)
        replace K_gn := Lib.hid (K_gn.out.below hb)
        clear hb hB_42
        go_wp2
        go_ret
        exact ⟨rfl, hB_45.out⟩
    · skip
      cases d5 : ti
      · skip
        have d2 := H1.out d1
        subst d5
        have hke := HKE.out rfl
        have HE := Lib.hid hke
        clear hke
        clear HKE H1 H2
        have hu25 := Tryd.underlying25; have hu27 := Tryd.underlying27
        go_enter Tryd.func4, Tryd.ntmps4
        go_upto_region 1 with (first | ((with_reducible refine gate_dst (N := 2) rfl ?_); refine box_event ?hg (N := 2) ?hd (cs := h.cs) (t := 25) ?hr ?_; (case hd => rfl); (case hg => rfl); (case hr => first | (go_simp; done) | (go_simp; rfl)); intro ga hg w_1 H1 hb; have hB_2 := Lib.hid (below_step (Below.refl w.heap.size w) hb); have G_ga := Lib.hid (show w.heap.size ≤ ga by rw [hg]; exact ((Below.refl w.heap.size w)).size); have K_ga := Lib.hid (show Hb w_1 ga h from H1); clear hg hb H1) | ((with_reducible refine gate_dst (N := 3) rfl ?_); refine box_event ?hg (N := 3) ?hd (cs := #[.bool false, .int .u64 tc, .int .u64 tv, .int .u64 tv2, .int .u64 tn, .bool tg]) (t := 27) ?hr ?_; (case hd => rfl); (case hg => rfl); (case hr => first | (go_simp; done) | (go_simp; rfl)); intro gt hg w_3 H1 hb; have hB_4 := Lib.hid (below_step hB_2.out hb); have G_gt := Lib.hid (show w.heap.size ≤ gt by rw [hg]; exact (hB_2.out).size); have N_ga_gt := Lib.hid (show ga ≠ gt by rw [hg]; exact Nat.ne_of_lt (K_ga.out.lt)); replace K_ga := Lib.hid (K_ga.out.below hb); have K_gt := Lib.hid (show w_3.heap[gt]? = some (.cells #[.bool false, .int .u64 tc, .int .u64 tv, .int .u64 tv2, .int .u64 tn, .bool tg] 27 (0, 0)) from H1); clear hg hb H1 hB_2; clear hu27))
        go_wp2_with (first | ((with_reducible refine gate_dst (N := 9) rfl ?_); (first | (refine gate_guard (by kernel_rfl) ?_) | skip); refine Kd.event_run rfl (v := .agg (h).cs) (w1 := w_3) ?hb ?_; (case hb => exact exec_load_hart rfl rfl K_ga.out)))
        refine (HF.out _ (Tab.from HT.out hB_4.out)).mono ?_
        rintro e_5 w_6 ⟨rfl, hb⟩
        have hB_7 := Lib.hid (below_step hB_4.out hb)
        replace K_ga := Lib.hid (K_ga.out.below hb)
        replace K_gt := Lib.hid (blk_below K_gt.out hb)
        clear hb hB_4
        go_upto_region 2 with (first | (refine store_hart rfl (.tmp 2) (.tmp 10) rfl ga (f) rfl rfl (h) K_ga.out ?_; have hB_9 := Lib.hid (setCells_below G_ga.out (Ht.cs (f)).toList 0 _ hB_7.out); replace K_gt := Lib.hid (setCells_far' (vs := (Ht.cs (f)).toList) (o := 0) (Ne.symm N_ga_gt.out) K_gt.out); replace K_ga := Lib.hid (Hb.putAll (f) K_ga.out); clear hB_7; generalize World.setCells w_6 ga 0 (Ht.cs (f)).toList = w_8 at K_ga K_gt hB_9 ⊢))
        have c_gt_1 := (show World.cell? _ ⟨gt, 1, none⟩ = some (.int .u64 tc) from (blk_cell K_gt.out 1).trans rfl); have f_gt_1 := blk_frozen K_gt.out 1
        go_wp2_with (first | ((with_reducible refine gate_dst (N := 11) rfl ?_); (first | (refine gate_guard (by kernel_rfl) ?_) | skip); refine Kd.event_run rfl (v := .agg (f).cs) (w1 := w_8) ?hb ?_; (case hb => exact exec_load_hart rfl rfl K_ga.out)))
        refine (HTO.out _).mono ?_
        rintro e_10 w_11 ⟨rfl, hb⟩
        clear c_gt_1 f_gt_1
        have hB_12 := Lib.hid (below_step hB_9.out hb)
        replace K_ga := Lib.hid (K_ga.out.below hb)
        replace K_gt := Lib.hid (blk_below K_gt.out hb)
        clear hb hB_9
        have c_ga_33 := K_ga.out.p; have f_ga_33 := K_ga.out.fr 33
        have c_ga_34 := K_ga.out.cv; have f_ga_34 := K_ga.out.fr 34
        go_upto_region 5 with fail
        clear c_ga_33 f_ga_33 c_ga_34 f_ga_34
        go_wp2_with (first | ((with_reducible refine gate_dst (N := 31) rfl ?_); (first | (refine gate_guard (by kernel_rfl) ?_) | skip); refine Kd.event_run rfl (v := .agg (f).cs) (w1 := w_11) ?hb ?_; (case hb => exact exec_load_hart rfl rfl K_ga.out)) | ((with_reducible refine gate_dst (N := 32) rfl ?_); (first | (refine gate_guard (by kernel_rfl) ?_) | skip); refine Kd.event_run rfl (v := .agg #[.bool false, .int .u64 tc, .int .u64 tv, .int .u64 tv2, .int .u64 tn, .bool tg]) (w1 := w_11) ?hb ?_; (case hb => exact exec_load_blk rfl rfl K_gt.out Tryd.underlying27 rfl (by kernel_rfl))))
        refine (HEN.out _).mono ?_
        rintro e_13 w_14 ⟨rfl, hb⟩
        have hB_15 := Lib.hid (below_step hB_12.out hb)
        replace K_ga := Lib.hid (K_ga.out.below hb)
        replace K_gt := Lib.hid (blk_below K_gt.out hb)
        clear hb hB_12
        go_upto_region 6 with (first | ((with_reducible refine gate_dst (N := 6) rfl ?_); refine box_event ?hg (N := 6) ?hd (cs := Ht.zero.cs) (t := 25) ?hr ?_; (case hd => rfl); (case hg => rfl); (case hr => first | (go_simp; done) | (go_simp; rfl)); intro gk hg w_16 H1 hb; have hB_18 := Lib.hid (below_step hB_15.out hb); have G_gk := Lib.hid (show w.heap.size ≤ gk by rw [hg]; exact (hB_15.out).size); have N_ga_gk := Lib.hid (show ga ≠ gk by rw [hg]; exact Nat.ne_of_lt (K_ga.out.lt)); have N_gt_gk := Lib.hid (show gt ≠ gk by rw [hg]; exact Nat.ne_of_lt (blk_lt K_gt.out)); replace K_ga := Lib.hid (K_ga.out.below hb); replace K_gt := Lib.hid (blk_below K_gt.out hb); have K_gk := Lib.hid (show Hb w_16 gk Ht.zero from H1); clear hg hb H1 hB_15) | (refine store_hart rfl (.tmp 6) (.tmp 33) rfl gk k rfl rfl Ht.zero K_gk.out ?_; have hB_19 := Lib.hid (setCells_below G_gk.out (Ht.cs k).toList 0 _ hB_18.out); replace K_ga := Lib.hid (Hb.farAll (vs := (Ht.cs k).toList) (o := 0) N_ga_gk.out K_ga.out); replace K_gt := Lib.hid (setCells_far' (vs := (Ht.cs k).toList) (o := 0) N_gt_gk.out K_gt.out); replace K_gk := Lib.hid (Hb.putAll k K_gk.out); clear hB_18; generalize World.setCells w_16 gk 0 (Ht.cs k).toList = w_17 at K_ga K_gt K_gk hB_19 ⊢))
        have c_gt_0 := (show World.cell? _ ⟨gt, 0, none⟩ = some (.bool false) from (blk_cell K_gt.out 0).trans rfl); have f_gt_0 := blk_frozen K_gt.out 0
        go_upto_region 7 with fail
        clear hu25
        go_wp2_with (first | ((with_reducible refine gate_dst (N := 37) rfl ?_); (first | (refine gate_guard (by kernel_rfl) ?_) | skip); refine Kd.event_run rfl (v := .agg (k).cs) (w1 := w_17) ?hb ?_; (case hb => exact exec_load_hart rfl rfl K_gk.out)) | ((with_reducible refine gate_dst (N := 38) rfl ?_); (first | (refine gate_guard (by kernel_rfl) ?_) | skip); refine Kd.event_run rfl (v := .agg (f).cs) (w1 := w_17) ?hb ?_; (case hb => exact exec_load_hart rfl rfl K_ga.out)) | ((with_reducible refine gate_dst (N := 39) rfl ?_); (first | (refine gate_guard (by kernel_rfl) ?_) | skip); refine Kd.event_run rfl (v := .bool true) (w1 := w_17) ?hb ?_; (case hb => exact exec_eqB (h := k) (k := f) rfl rfl rfl (HE.out))))
        refine (wakes_c _).mono ?_
        rintro e_20 w_21 ⟨rfl, hb⟩
        clear c_gt_0 f_gt_0
        have hB_22 := Lib.hid (below_step hB_19.out hb)
        replace K_ga := Lib.hid (K_ga.out.below hb)
        replace K_gt := Lib.hid (blk_below K_gt.out hb)
        replace K_gk := Lib.hid (K_gk.out.below hb)
        clear hb hB_19
        go_wp2
        go_ret
        exact ⟨rfl, hB_22.out⟩
      · skip
        have d2 := H1.out d1
        subst d5
        clear HKE H1 H2
        have hu25 := Tryd.underlying25; have hu27 := Tryd.underlying27
        go_enter Tryd.func4, Tryd.ntmps4
        go_upto_region 1 with (first | ((with_reducible refine gate_dst (N := 2) rfl ?_); refine box_event ?hg (N := 2) ?hd (cs := h.cs) (t := 25) ?hr ?_; (case hd => rfl); (case hg => rfl); (case hr => first | (go_simp; done) | (go_simp; rfl)); intro ga hg w_1 H1 hb; have hB_2 := Lib.hid (below_step (Below.refl w.heap.size w) hb); have G_ga := Lib.hid (show w.heap.size ≤ ga by rw [hg]; exact ((Below.refl w.heap.size w)).size); have K_ga := Lib.hid (show Hb w_1 ga h from H1); clear hg hb H1) | ((with_reducible refine gate_dst (N := 3) rfl ?_); refine box_event ?hg (N := 3) ?hd (cs := #[.bool true, .int .u64 tc, .int .u64 tv, .int .u64 tv2, .int .u64 tn, .bool tg]) (t := 27) ?hr ?_; (case hd => rfl); (case hg => rfl); (case hr => first | (go_simp; done) | (go_simp; rfl)); intro gt hg w_3 H1 hb; have hB_4 := Lib.hid (below_step hB_2.out hb); have G_gt := Lib.hid (show w.heap.size ≤ gt by rw [hg]; exact (hB_2.out).size); have N_ga_gt := Lib.hid (show ga ≠ gt by rw [hg]; exact Nat.ne_of_lt (K_ga.out.lt)); replace K_ga := Lib.hid (K_ga.out.below hb); have K_gt := Lib.hid (show w_3.heap[gt]? = some (.cells #[.bool true, .int .u64 tc, .int .u64 tv, .int .u64 tv2, .int .u64 tn, .bool tg] 27 (0, 0)) from H1); clear hg hb H1 hB_2; clear hu27))
        go_wp2_with (first | ((with_reducible refine gate_dst (N := 9) rfl ?_); (first | (refine gate_guard (by kernel_rfl) ?_) | skip); refine Kd.event_run rfl (v := .agg (h).cs) (w1 := w_3) ?hb ?_; (case hb => exact exec_load_hart rfl rfl K_ga.out)))
        refine (HF.out _ (Tab.from HT.out hB_4.out)).mono ?_
        rintro e_5 w_6 ⟨rfl, hb⟩
        have hB_7 := Lib.hid (below_step hB_4.out hb)
        replace K_ga := Lib.hid (K_ga.out.below hb)
        replace K_gt := Lib.hid (blk_below K_gt.out hb)
        clear hb hB_4
        go_upto_region 2 with (first | (refine store_hart rfl (.tmp 2) (.tmp 10) rfl ga (f) rfl rfl (h) K_ga.out ?_; have hB_9 := Lib.hid (setCells_below G_ga.out (Ht.cs (f)).toList 0 _ hB_7.out); replace K_gt := Lib.hid (setCells_far' (vs := (Ht.cs (f)).toList) (o := 0) (Ne.symm N_ga_gt.out) K_gt.out); replace K_ga := Lib.hid (Hb.putAll (f) K_ga.out); clear hB_7; generalize World.setCells w_6 ga 0 (Ht.cs (f)).toList = w_8 at K_ga K_gt hB_9 ⊢))
        have c_gt_1 := (show World.cell? _ ⟨gt, 1, none⟩ = some (.int .u64 tc) from (blk_cell K_gt.out 1).trans rfl); have f_gt_1 := blk_frozen K_gt.out 1
        go_wp2_with (first | ((with_reducible refine gate_dst (N := 11) rfl ?_); (first | (refine gate_guard (by kernel_rfl) ?_) | skip); refine Kd.event_run rfl (v := .agg (f).cs) (w1 := w_8) ?hb ?_; (case hb => exact exec_load_hart rfl rfl K_ga.out)))
        refine (HTO.out _).mono ?_
        rintro e_10 w_11 ⟨rfl, hb⟩
        clear c_gt_1 f_gt_1
        have hB_12 := Lib.hid (below_step hB_9.out hb)
        replace K_ga := Lib.hid (K_ga.out.below hb)
        replace K_gt := Lib.hid (blk_below K_gt.out hb)
        clear hb hB_9
        have c_ga_33 := K_ga.out.p; have f_ga_33 := K_ga.out.fr 33
        have c_ga_34 := K_ga.out.cv; have f_ga_34 := K_ga.out.fr 34
        go_upto_region 5 with fail
        clear c_ga_33 f_ga_33 c_ga_34 f_ga_34
        go_wp2_with (first | ((with_reducible refine gate_dst (N := 31) rfl ?_); (first | (refine gate_guard (by kernel_rfl) ?_) | skip); refine Kd.event_run rfl (v := .agg (f).cs) (w1 := w_11) ?hb ?_; (case hb => exact exec_load_hart rfl rfl K_ga.out)) | ((with_reducible refine gate_dst (N := 32) rfl ?_); (first | (refine gate_guard (by kernel_rfl) ?_) | skip); refine Kd.event_run rfl (v := .agg #[.bool true, .int .u64 tc, .int .u64 tv, .int .u64 tv2, .int .u64 tn, .bool tg]) (w1 := w_11) ?hb ?_; (case hb => exact exec_load_blk rfl rfl K_gt.out Tryd.underlying27 rfl (by kernel_rfl))))
        refine (HEN.out _).mono ?_
        rintro e_13 w_14 ⟨rfl, hb⟩
        have hB_15 := Lib.hid (below_step hB_12.out hb)
        replace K_ga := Lib.hid (K_ga.out.below hb)
        replace K_gt := Lib.hid (blk_below K_gt.out hb)
        clear hb hB_12
        go_upto_region 6 with (first | ((with_reducible refine gate_dst (N := 6) rfl ?_); refine box_event ?hg (N := 6) ?hd (cs := Ht.zero.cs) (t := 25) ?hr ?_; (case hd => rfl); (case hg => rfl); (case hr => first | (go_simp; done) | (go_simp; rfl)); intro gk hg w_16 H1 hb; have hB_18 := Lib.hid (below_step hB_15.out hb); have G_gk := Lib.hid (show w.heap.size ≤ gk by rw [hg]; exact (hB_15.out).size); have N_ga_gk := Lib.hid (show ga ≠ gk by rw [hg]; exact Nat.ne_of_lt (K_ga.out.lt)); have N_gt_gk := Lib.hid (show gt ≠ gk by rw [hg]; exact Nat.ne_of_lt (blk_lt K_gt.out)); replace K_ga := Lib.hid (K_ga.out.below hb); replace K_gt := Lib.hid (blk_below K_gt.out hb); have K_gk := Lib.hid (show Hb w_16 gk Ht.zero from H1); clear hg hb H1 hB_15) | (refine store_hart rfl (.tmp 6) (.tmp 33) rfl gk k rfl rfl Ht.zero K_gk.out ?_; have hB_19 := Lib.hid (setCells_below G_gk.out (Ht.cs k).toList 0 _ hB_18.out); replace K_ga := Lib.hid (Hb.farAll (vs := (Ht.cs k).toList) (o := 0) N_ga_gk.out K_ga.out); replace K_gt := Lib.hid (setCells_far' (vs := (Ht.cs k).toList) (o := 0) N_gt_gk.out K_gt.out); replace K_gk := Lib.hid (Hb.putAll k K_gk.out); clear hB_18; generalize World.setCells w_16 gk 0 (Ht.cs k).toList = w_17 at K_ga K_gt K_gk hB_19 ⊢))
        have c_gt_0 := (show World.cell? _ ⟨gt, 0, none⟩ = some (.bool true) from (blk_cell K_gt.out 0).trans rfl); have f_gt_0 := blk_frozen K_gt.out 0
        go_upto_region 8 with fail
        go_wp2_with (first | ((with_reducible refine gate_dst (N := 43) rfl ?_); (first | (refine gate_guard (by kernel_rfl) ?_) | skip); refine Kd.event_run rfl (v := .agg (k).cs) (w1 := w_17) ?hb ?_; (case hb => exact exec_load_hart rfl rfl K_gk.out)))
        refine (HMR.out _).mono ?_
        rintro e_20 w_21 ⟨rfl, hb⟩
        clear c_gt_0 f_gt_0
        have hB_22 := Lib.hid (below_step hB_19.out hb)
        replace K_ga := Lib.hid (K_ga.out.below hb)
        replace K_gt := Lib.hid (blk_below K_gt.out hb)
        replace K_gk := Lib.hid (K_gk.out.below hb)
        clear hb hB_19
        go_upto_region 9 with (first | ((with_reducible refine gate_dst (N := 7) rfl ?_); refine box_event ?hg (N := 7) ?hd (cs := Ht.zero.cs) (t := 25) ?hr ?_; (case hd => rfl); (case hg => rfl); (case hr => first | (go_simp; done) | (go_simp; rfl)); intro gm hg w_23 H1 hb; have hB_25 := Lib.hid (below_step hB_22.out hb); have G_gm := Lib.hid (show w.heap.size ≤ gm by rw [hg]; exact (hB_22.out).size); have N_ga_gm := Lib.hid (show ga ≠ gm by rw [hg]; exact Nat.ne_of_lt (K_ga.out.lt)); have N_gt_gm := Lib.hid (show gt ≠ gm by rw [hg]; exact Nat.ne_of_lt (blk_lt K_gt.out)); have N_gk_gm := Lib.hid (show gk ≠ gm by rw [hg]; exact Nat.ne_of_lt (K_gk.out.lt)); replace K_ga := Lib.hid (K_ga.out.below hb); replace K_gt := Lib.hid (blk_below K_gt.out hb); replace K_gk := Lib.hid (K_gk.out.below hb); have K_gm := Lib.hid (show Hb w_23 gm Ht.zero from H1); clear hg hb H1 hB_22) | (refine store_hart rfl (.tmp 7) (.tmp 44) rfl gm m rfl rfl Ht.zero K_gm.out ?_; have hB_26 := Lib.hid (setCells_below G_gm.out (Ht.cs m).toList 0 _ hB_25.out); replace K_ga := Lib.hid (Hb.farAll (vs := (Ht.cs m).toList) (o := 0) N_ga_gm.out K_ga.out); replace K_gt := Lib.hid (setCells_far' (vs := (Ht.cs m).toList) (o := 0) N_gt_gm.out K_gt.out); replace K_gk := Lib.hid (Hb.farAll (vs := (Ht.cs m).toList) (o := 0) N_gk_gm.out K_gk.out); replace K_gm := Lib.hid (Hb.putAll m K_gm.out); clear hB_25; generalize World.setCells w_23 gm 0 (Ht.cs m).toList = w_24 at K_ga K_gt K_gk K_gm hB_26 ⊢))
        go_wp2_with (first | ((with_reducible refine gate_dst (N := 45) rfl ?_); (first | (refine gate_guard (by kernel_rfl) ?_) | skip); refine Kd.event_run rfl (v := .agg (k).cs) (w1 := w_24) ?hb ?_; (case hb => exact exec_load_hart rfl rfl K_gk.out)))
        refine (HSR.out _).mono ?_
        rintro e_27 w_28 ⟨rfl, hb⟩
        have hB_29 := Lib.hid (below_step hB_26.out hb)
        replace K_ga := Lib.hid (K_ga.out.below hb)
        replace K_gt := Lib.hid (blk_below K_gt.out hb)
        replace K_gk := Lib.hid (K_gk.out.below hb)
        replace K_gm := Lib.hid (K_gm.out.below hb)
        clear hb hB_26
        go_upto_region 10 with (first | ((with_reducible refine gate_dst (N := 8) rfl ?_); refine box_event ?hg (N := 8) ?hd (cs := Ht.zero.cs) (t := 25) ?hr ?_; (case hd => rfl); (case hg => rfl); (case hr => first | (go_simp; done) | (go_simp; rfl)); intro gn hg w_30 H1 hb; have hB_32 := Lib.hid (below_step hB_29.out hb); have G_gn := Lib.hid (show w.heap.size ≤ gn by rw [hg]; exact (hB_29.out).size); have N_ga_gn := Lib.hid (show ga ≠ gn by rw [hg]; exact Nat.ne_of_lt (K_ga.out.lt)); have N_gt_gn := Lib.hid (show gt ≠ gn by rw [hg]; exact Nat.ne_of_lt (blk_lt K_gt.out)); have N_gk_gn := Lib.hid (show gk ≠ gn by rw [hg]; exact Nat.ne_of_lt (K_gk.out.lt)); have N_gm_gn := Lib.hid (show gm ≠ gn by rw [hg]; exact Nat.ne_of_lt (K_gm.out.lt)); replace K_ga := Lib.hid (K_ga.out.below hb); replace K_gt := Lib.hid (blk_below K_gt.out hb); replace K_gk := Lib.hid (K_gk.out.below hb); replace K_gm := Lib.hid (K_gm.out.below hb); have K_gn := Lib.hid (show Hb w_30 gn Ht.zero from H1); clear hg hb H1 hB_29) | (refine store_hart rfl (.tmp 8) (.tmp 46) rfl gn n rfl rfl Ht.zero K_gn.out ?_; have hB_33 := Lib.hid (setCells_below G_gn.out (Ht.cs n).toList 0 _ hB_32.out); replace K_ga := Lib.hid (Hb.farAll (vs := (Ht.cs n).toList) (o := 0) N_ga_gn.out K_ga.out); replace K_gt := Lib.hid (setCells_far' (vs := (Ht.cs n).toList) (o := 0) N_gt_gn.out K_gt.out); replace K_gk := Lib.hid (Hb.farAll (vs := (Ht.cs n).toList) (o := 0) N_gk_gn.out K_gk.out); replace K_gm := Lib.hid (Hb.farAll (vs := (Ht.cs n).toList) (o := 0) N_gm_gn.out K_gm.out); replace K_gn := Lib.hid (Hb.putAll n K_gn.out); clear hB_32; generalize World.setCells w_30 gn 0 (Ht.cs n).toList = w_31 at K_ga K_gt K_gk K_gm K_gn hB_33 ⊢))
        clear hu25
        go_wp2_with (first | ((with_reducible refine gate_dst (N := 47) rfl ?_); (first | (refine gate_guard (by kernel_rfl) ?_) | skip); refine Kd.event_run rfl (v := .agg (k).cs) (w1 := w_31) ?hb ?_; (case hb => exact exec_load_hart rfl rfl K_gk.out)))
        refine (HLK.out _ (Tab.from HT.out hB_33.out)).mono ?_
        rintro e_34 w_35 ⟨rfl, hb⟩
        have hB_36 := Lib.hid (below_step hB_33.out hb)
        replace K_ga := Lib.hid (K_ga.out.below hb)
        replace K_gt := Lib.hid (blk_below K_gt.out hb)
        replace K_gk := Lib.hid (K_gk.out.below hb)
        replace K_gm := Lib.hid (K_gm.out.below hb)
        replace K_gn := Lib.hid (K_gn.out.below hb)
        clear hb hB_33
        go_wp2_with (first | ((with_reducible refine gate_dst (N := 50) rfl ?_); (first | (refine gate_guard (by kernel_rfl) ?_) | skip); refine Kd.event_run rfl (v := .agg (m).cs) (w1 := w_35) ?hb ?_; (case hb => exact exec_load_hart rfl rfl K_gm.out)))
        refine (HLM.out _ (Tab.from HT.out hB_36.out)).mono ?_
        rintro e_37 w_38 ⟨rfl, hb⟩
        have hB_39 := Lib.hid (below_step hB_36.out hb)
        replace K_ga := Lib.hid (K_ga.out.below hb)
        replace K_gt := Lib.hid (blk_below K_gt.out hb)
        replace K_gk := Lib.hid (K_gk.out.below hb)
        replace K_gm := Lib.hid (K_gm.out.below hb)
        replace K_gn := Lib.hid (K_gn.out.below hb)
        clear hb hB_36
        go_wp2_with (first | ((with_reducible refine gate_dst (N := 54) rfl ?_); (first | (refine gate_guard (by kernel_rfl) ?_) | skip); refine Kd.event_run rfl (v := .agg (n).cs) (w1 := w_38) ?hb ?_; (case hb => exact exec_load_hart rfl rfl K_gn.out)))
        refine (HLN.out _ (Tab.from HT.out hB_39.out)).mono ?_
        rintro e_40 w_41 ⟨rfl, hb⟩
        have hB_42 := Lib.hid (below_step hB_39.out hb)
        replace K_ga := Lib.hid (K_ga.out.below hb)
        replace K_gt := Lib.hid (blk_below K_gt.out hb)
        replace K_gk := Lib.hid (K_gk.out.below hb)
        replace K_gm := Lib.hid (K_gm.out.below hb)
        replace K_gn := Lib.hid (K_gn.out.below hb)
        clear hb hB_39
        go_wp2_with fail
        refine (wakes_c _).mono ?_
        rintro e_43 w_44 ⟨rfl, hb⟩
        have hB_45 := Lib.hid (below_step hB_42.out hb)
        replace K_ga := Lib.hid (K_ga.out.below hb)
        replace K_gt := Lib.hid (blk_below K_gt.out hb)
        replace K_gk := Lib.hid (K_gk.out.below hb)
        replace K_gm := Lib.hid (K_gm.out.below hb)
        replace K_gn := Lib.hid (K_gn.out.below hb)
        clear hb hB_42
        go_wp2
        go_ret
        exact ⟨rfl, hB_45.out⟩
end Go.Proofs.YtfehchhmghpfpaaDoor.Hx
namespace Go.Proofs.YtfehchhmghpfpaaDoor.Pure
open Go.RowKit Go.Proofs.YtfehchhmghpfpaaDoor.Hx Go.Proofs.YtfehchhmghpfpaaDoor.Bv Go.Proofs.YtfehchhmghpfpaaDoor.Q
theorem TrapUp (h : Ht) (ti : Bool) (tc tv tv2 tn : Int) (tg : Bool) (w : World) (hw : h.wf) (wc : (Lit.int .u64 tc).wf = true) (wv : (Lit.int .u64 tv).wf = true) (wv2 : (Lit.int .u64 tv2).wf = true) (wn : (Lit.int .u64 tn).wf = true) (hT : Tab w) :
    Calls Tryd.prog 4 #[.agg h.cs, .agg #[.bool ti, .int .u64 tc, .int .u64 tv, .int .u64 tv2, .int .u64 tn, .bool tg]] w fun e w' => e = .returned (.bool true) ∧ Below w.heap.size w w' :=
  up_c h hw ti tc tv tv2 tn tg (u64_in wc) (u64_in wv) (u64_in wv2) (u64_in wn) w hT
end Go.Proofs.YtfehchhmghpfpaaDoor.Pure
