/- The hart that came back by mret: the document's. (Walked; by a program of this session.) -/
import Derived.Test.YtfehchhmghpfpaaHBase

set_option linter.unusedSimpArgs false
set_option linter.unusedVariables false
namespace Go.Proofs.Ytfehchhmghpfpaa.Hx
open Go.RowKit Go.Proofs.Ytfehchhmghpfpaa.Q Go.Proofs.YtfehchhmghpfpaaW.PrintWords Go.Proofs.YtfehchhmghpfpaaW.PrintLast Go.Proofs.YtfehchhmghpfpaaW.PrintMore Go.Proofs.Ytfehchhmghpfpaa.Rg

def rmretS (s : Int) : Int :=
  let s1 := withV (withV (withV (withV (withV s 3 (onV s 7)) 7 true) 11 false) 12 false) 39 false
  if onV s 11 = true ∧ onV s 12 = true then s1 else withV s1 17 false
/-- The document's. -/
def rmret (h : Ht) : Ht :=
  let h0 := (h.set 0 (h.x 46)).set 33 0
  let h1 := if onV (h.x 38) 11 = true then (if onV (h.x 38) 12 = true then h0.set 33 3 else h0.set 33 1) else h0
  let h2 : Ht := { h1 with v := if onV (h.x 38) 11 = true ∧ onV (h.x 38) 12 = true then false else onV (h.x 38) 39 }
  ({ h2.set 38 (rmretS (h.x 38)) with hl := false } : Ht).set 37 0

set_option maxHeartbeats 16000000 in
set_option maxRecDepth 100000 in
theorem rmret_c (h : Ht) (w : World) : Calls Try.prog 12 #[.agg h.cs] w fun e w' => e = .returned (.agg (rmret h).cs) ∧ Below w.heap.size w w' := by
  cases b11 : onV (h.x 38) 11
  · skip
    cases b12 : onV (h.x 38) 12
    · skip
      cases hv : onV (h.x 38) 39
      · skip
        have hu25 := Try.underlying25
        go_enter Try.func12, Try.ntmps12
        go_upto_region 1 with (first | ((with_reducible refine gate_dst (N := 1) rfl ?_); refine box_event ?hg (N := 1) ?hd (cs := h.cs) (t := 25) ?hr ?_; (case hd => rfl); (case hg => rfl); (case hr => first | (go_simp; done) | (go_simp; rfl)); intro ga hg w_1 H1 hb; have hB_2 := Lib.hid (below_step (Below.refl w.heap.size w) hb); have G_ga := Lib.hid (show w.heap.size ≤ ga by rw [hg]; exact ((Below.refl w.heap.size w)).size); have K_ga := Lib.hid (show Hb w_1 ga h from H1); clear hg hb H1) | ((with_reducible refine gate_dst (N := 2) rfl ?_); refine box_event ?hg (N := 2) ?hd (cs := Ht.zero.cs) (t := 25) ?hr ?_; (case hd => rfl); (case hg => rfl); (case hr => first | (go_simp; done) | (go_simp; rfl)); intro gr hg w_3 H1 hb; have hB_4 := Lib.hid (below_step hB_2.out hb); have G_gr := Lib.hid (show w.heap.size ≤ gr by rw [hg]; exact (hB_2.out).size); have N_ga_gr := Lib.hid (show ga ≠ gr by rw [hg]; exact Nat.ne_of_lt (K_ga.out.lt)); replace K_ga := Lib.hid (K_ga.out.below hb); have K_gr := Lib.hid (show Hb w_3 gr Ht.zero from H1); clear hg hb H1 hB_2; clear hu25))
        go_upto_region 1 with (first | (go_at_call 17; refine (bit_c _ _ _ (by decide)).mono ?_; rintro e_ w_ ⟨rfl, ⟨n_, rfl⟩⟩) | (go_at_call 21; refine (with_c _ _ _ _ (by decide)).mono ?_; rintro e_ w_ ⟨rfl, ⟨n_, rfl⟩⟩))
        have hu25 := Try.underlying25
        refine wp_region_list ?_
        refine load_hart (h := h) rfl (.tmp 1) rfl ga rfl (by repeat (with_reducible first | exact K_ga.out | apply Hb.put | apply Hb.putP | apply Hb.putV | apply Hb.putW | apply Hb.putH | apply Hb.far N_ga_gr.out | apply Hb.drewN | apply Hb.drew)) ?_
        refine box_event rfl (N := 3) rfl (cs := Ht.zero.cs) (t := 25) (by first | (go_simp; done) | (go_simp; rfl)) ?_
        intro gk hg w_5 H1 hb
        clear hu25
        have hB_7 := Lib.hid (below_step (by repeat (first | (with_reducible first | exact hB_4.out | apply pw_below_drewN | apply below_drew1 | refine below_set ?_ G_ga.out | refine below_set ?_ G_gr.out) | exact hB_4.out)) hb)
        have G_gk := Lib.hid (show w.heap.size ≤ gk by rw [hg]; exact below_size (w := w) (by repeat (first | (with_reducible first | exact hB_4.out | apply pw_below_drewN | apply below_drew1 | refine below_set ?_ G_ga.out | refine below_set ?_ G_gr.out) | exact hB_4.out)))
        have N_ga_gk := Lib.hid (show ga ≠ gk by rw [hg]; exact Nat.ne_of_lt (Hb.lt (h := h) (by repeat (with_reducible first | exact K_ga.out | apply Hb.put | apply Hb.putP | apply Hb.putV | apply Hb.putW | apply Hb.putH | apply Hb.far N_ga_gr.out | apply Hb.drewN | apply Hb.drew))))
        have N_gr_gk := Lib.hid (show gr ≠ gk by rw [hg]; exact Nat.ne_of_lt (Hb.lt (h := Ht.zero) (by repeat (with_reducible first | exact K_gr.out | apply Hb.put | apply Hb.putP | apply Hb.putV | apply Hb.putW | apply Hb.putH | apply Hb.far (Ne.symm N_ga_gr.out) | apply Hb.drewN | apply Hb.drew))))
        replace K_ga := Lib.hid (Hb.below (h := h) (by repeat (with_reducible first | exact K_ga.out | apply Hb.put | apply Hb.putP | apply Hb.putV | apply Hb.putW | apply Hb.putH | apply Hb.far N_ga_gr.out | apply Hb.drewN | apply Hb.drew)) hb)
        replace K_gr := Lib.hid (Hb.below (h := Ht.zero) (by repeat (with_reducible first | exact K_gr.out | apply Hb.put | apply Hb.putP | apply Hb.putV | apply Hb.putW | apply Hb.putH | apply Hb.far (Ne.symm N_ga_gr.out) | apply Hb.drewN | apply Hb.drew)) hb)
        have K_gk := Lib.hid (show Hb w_5 gk Ht.zero from H1)
        clear hg hb H1 hB_4
        refine store_hart rfl (.tmp 3) (.tmp 6) rfl gk h rfl rfl Ht.zero K_gk.out ?_
        have hB_8 := Lib.hid (setCells_below G_gk.out (Ht.cs h).toList 0 _ hB_7.out)
        replace K_ga := Lib.hid (Hb.farAll (vs := (Ht.cs h).toList) (o := 0) N_ga_gk.out K_ga.out)
        replace K_gr := Lib.hid (Hb.farAll (vs := (Ht.cs h).toList) (o := 0) N_gr_gk.out K_gr.out)
        replace K_gk := Lib.hid (Hb.putAll h K_gk.out)
        clear hB_7
        generalize World.setCells w_5 gk 0 (Ht.cs h).toList = w_6 at K_ga K_gr K_gk hB_8 ⊢
        have c_ga_38 := K_ga.out.u 38 rfl; have f_ga_38 := K_ga.out.fr 38
        have c_ga_46 := K_ga.out.u 46 rfl; have f_ga_46 := K_ga.out.fr 46
        have c_gk_0 := K_gk.out.u 0 rfl; have f_gk_0 := K_gk.out.fr 0
        have c_gk_33 := K_gk.out.p; have f_gk_33 := K_gk.out.fr 33
        have c_gk_34 := K_gk.out.cv; have f_gk_34 := K_gk.out.fr 34
        have c_gk_36 := K_gk.out.ch; have f_gk_36 := K_gk.out.fr 36
        have c_gk_37 := K_gk.out.u 37 rfl; have f_gk_37 := K_gk.out.fr 37
        have c_gk_38 := K_gk.out.u 38 rfl; have f_gk_38 := K_gk.out.fr 38
        go_upto_region 12 with (first | (go_at_call 17; refine (bit_c _ _ _ (by decide)).mono ?_; rintro e_ w_ ⟨rfl, ⟨n_, rfl⟩⟩) | (go_at_call 21; refine (with_c _ _ _ _ (by decide)).mono ?_; rintro e_ w_ ⟨rfl, ⟨n_, rfl⟩⟩))
        go_quiet (first | (go_at_call 17; refine (bit_c _ _ _ (by decide)).mono ?_; rintro e_ w_ ⟨rfl, ⟨n_, rfl⟩⟩; (try first | exact ⟨rfl, _, World.drewN_drewN _ _ _⟩ | exact ⟨rfl, _, Eq.trans (World.drewN_drewN _ _ _) (congrArg (World.drewN _) (Nat.add_assoc _ _ _))⟩)) | (go_at_call 21; refine (with_c _ _ _ _ (by decide)).mono ?_; rintro e_ w_ ⟨rfl, ⟨n_, rfl⟩⟩; (try first | exact ⟨rfl, _, World.drewN_drewN _ _ _⟩ | exact ⟨rfl, _, Eq.trans (World.drewN_drewN _ _ _) (congrArg (World.drewN _) (Nat.add_assoc _ _ _))⟩)))
        go_upto_region 22 with (first | (go_at_call 17; refine (bit_c _ _ _ (by decide)).mono ?_; rintro e_ w_ ⟨rfl, ⟨n_, rfl⟩⟩) | (go_at_call 21; refine (with_c _ _ _ _ (by decide)).mono ?_; rintro e_ w_ ⟨rfl, ⟨n_, rfl⟩⟩))
        refine wp_region_list ?_
        refine load_hart (h := _) rfl (.tmp 3) rfl gk rfl (by repeat (with_reducible first | exact K_gk.out | apply Hb.put | apply Hb.putP | apply Hb.putV | apply Hb.putW | apply Hb.putH | apply Hb.far (Ne.symm N_ga_gk.out) | apply Hb.far (Ne.symm N_gr_gk.out) | apply Hb.drewN | apply Hb.drew)) ?_
        refine store_hart rfl (.tmp 2) (.tmp 60) rfl gr _ rfl rfl Ht.zero (by repeat (with_reducible first | exact K_gr.out | apply Hb.put | apply Hb.putP | apply Hb.putV | apply Hb.putW | apply Hb.putH | apply Hb.far (Ne.symm N_ga_gr.out) | apply Hb.far N_gr_gk.out | apply Hb.drewN | apply Hb.drew)) ?_
        go_wp2
        refine bodyPost_ret (results_cell_row rfl _ _ gr 25 _ (0, 0) _ rfl (Hb.putAll _ (by repeat (with_reducible first | exact K_gr.out | apply Hb.put | apply Hb.putP | apply Hb.putV | apply Hb.putW | apply Hb.putH | apply Hb.far (Ne.symm N_ga_gr.out) | apply Hb.far N_gr_gk.out | apply Hb.drewN | apply Hb.drew))) Try.underlying25 rfl (by rw [Ht.size]; exact hartSize)) rfl ?_
        exact ⟨by (first | rfl | (simp only [rmret, rmretS, hv, b11, b12, if_true, if_false, Bool.false_eq_true, cond_true, cond_false]; done) | (simp only [rmret, rmretS, hv, b11, b12, if_true, if_false, Bool.false_eq_true, cond_true, cond_false]; rfl)), setCells_below G_gr.out _ _ _ (by repeat (first | (with_reducible first | exact hB_8.out | apply pw_below_drewN | apply below_drew1 | refine below_set ?_ G_ga.out | refine below_set ?_ G_gr.out | refine below_set ?_ G_gk.out) | exact hB_8.out))⟩
      · skip
        have hu25 := Try.underlying25
        go_enter Try.func12, Try.ntmps12
        go_upto_region 1 with (first | ((with_reducible refine gate_dst (N := 1) rfl ?_); refine box_event ?hg (N := 1) ?hd (cs := h.cs) (t := 25) ?hr ?_; (case hd => rfl); (case hg => rfl); (case hr => first | (go_simp; done) | (go_simp; rfl)); intro ga hg w_1 H1 hb; have hB_2 := Lib.hid (below_step (Below.refl w.heap.size w) hb); have G_ga := Lib.hid (show w.heap.size ≤ ga by rw [hg]; exact ((Below.refl w.heap.size w)).size); have K_ga := Lib.hid (show Hb w_1 ga h from H1); clear hg hb H1) | ((with_reducible refine gate_dst (N := 2) rfl ?_); refine box_event ?hg (N := 2) ?hd (cs := Ht.zero.cs) (t := 25) ?hr ?_; (case hd => rfl); (case hg => rfl); (case hr => first | (go_simp; done) | (go_simp; rfl)); intro gr hg w_3 H1 hb; have hB_4 := Lib.hid (below_step hB_2.out hb); have G_gr := Lib.hid (show w.heap.size ≤ gr by rw [hg]; exact (hB_2.out).size); have N_ga_gr := Lib.hid (show ga ≠ gr by rw [hg]; exact Nat.ne_of_lt (K_ga.out.lt)); replace K_ga := Lib.hid (K_ga.out.below hb); have K_gr := Lib.hid (show Hb w_3 gr Ht.zero from H1); clear hg hb H1 hB_2; clear hu25))
        go_upto_region 1 with (first | (go_at_call 17; refine (bit_c _ _ _ (by decide)).mono ?_; rintro e_ w_ ⟨rfl, ⟨n_, rfl⟩⟩) | (go_at_call 21; refine (with_c _ _ _ _ (by decide)).mono ?_; rintro e_ w_ ⟨rfl, ⟨n_, rfl⟩⟩))
        have hu25 := Try.underlying25
        refine wp_region_list ?_
        refine load_hart (h := h) rfl (.tmp 1) rfl ga rfl (by repeat (with_reducible first | exact K_ga.out | apply Hb.put | apply Hb.putP | apply Hb.putV | apply Hb.putW | apply Hb.putH | apply Hb.far N_ga_gr.out | apply Hb.drewN | apply Hb.drew)) ?_
        refine box_event rfl (N := 3) rfl (cs := Ht.zero.cs) (t := 25) (by first | (go_simp; done) | (go_simp; rfl)) ?_
        intro gk hg w_5 H1 hb
        clear hu25
        have hB_7 := Lib.hid (below_step (by repeat (first | (with_reducible first | exact hB_4.out | apply pw_below_drewN | apply below_drew1 | refine below_set ?_ G_ga.out | refine below_set ?_ G_gr.out) | exact hB_4.out)) hb)
        have G_gk := Lib.hid (show w.heap.size ≤ gk by rw [hg]; exact below_size (w := w) (by repeat (first | (with_reducible first | exact hB_4.out | apply pw_below_drewN | apply below_drew1 | refine below_set ?_ G_ga.out | refine below_set ?_ G_gr.out) | exact hB_4.out)))
        have N_ga_gk := Lib.hid (show ga ≠ gk by rw [hg]; exact Nat.ne_of_lt (Hb.lt (h := h) (by repeat (with_reducible first | exact K_ga.out | apply Hb.put | apply Hb.putP | apply Hb.putV | apply Hb.putW | apply Hb.putH | apply Hb.far N_ga_gr.out | apply Hb.drewN | apply Hb.drew))))
        have N_gr_gk := Lib.hid (show gr ≠ gk by rw [hg]; exact Nat.ne_of_lt (Hb.lt (h := Ht.zero) (by repeat (with_reducible first | exact K_gr.out | apply Hb.put | apply Hb.putP | apply Hb.putV | apply Hb.putW | apply Hb.putH | apply Hb.far (Ne.symm N_ga_gr.out) | apply Hb.drewN | apply Hb.drew))))
        replace K_ga := Lib.hid (Hb.below (h := h) (by repeat (with_reducible first | exact K_ga.out | apply Hb.put | apply Hb.putP | apply Hb.putV | apply Hb.putW | apply Hb.putH | apply Hb.far N_ga_gr.out | apply Hb.drewN | apply Hb.drew)) hb)
        replace K_gr := Lib.hid (Hb.below (h := Ht.zero) (by repeat (with_reducible first | exact K_gr.out | apply Hb.put | apply Hb.putP | apply Hb.putV | apply Hb.putW | apply Hb.putH | apply Hb.far (Ne.symm N_ga_gr.out) | apply Hb.drewN | apply Hb.drew)) hb)
        have K_gk := Lib.hid (show Hb w_5 gk Ht.zero from H1)
        clear hg hb H1 hB_4
        refine store_hart rfl (.tmp 3) (.tmp 6) rfl gk h rfl rfl Ht.zero K_gk.out ?_
        have hB_8 := Lib.hid (setCells_below G_gk.out (Ht.cs h).toList 0 _ hB_7.out)
        replace K_ga := Lib.hid (Hb.farAll (vs := (Ht.cs h).toList) (o := 0) N_ga_gk.out K_ga.out)
        replace K_gr := Lib.hid (Hb.farAll (vs := (Ht.cs h).toList) (o := 0) N_gr_gk.out K_gr.out)
        replace K_gk := Lib.hid (Hb.putAll h K_gk.out)
        clear hB_7
        generalize World.setCells w_5 gk 0 (Ht.cs h).toList = w_6 at K_ga K_gr K_gk hB_8 ⊢
        have c_ga_38 := K_ga.out.u 38 rfl; have f_ga_38 := K_ga.out.fr 38
        have c_ga_46 := K_ga.out.u 46 rfl; have f_ga_46 := K_ga.out.fr 46
        have c_gk_0 := K_gk.out.u 0 rfl; have f_gk_0 := K_gk.out.fr 0
        have c_gk_33 := K_gk.out.p; have f_gk_33 := K_gk.out.fr 33
        have c_gk_34 := K_gk.out.cv; have f_gk_34 := K_gk.out.fr 34
        have c_gk_36 := K_gk.out.ch; have f_gk_36 := K_gk.out.fr 36
        have c_gk_37 := K_gk.out.u 37 rfl; have f_gk_37 := K_gk.out.fr 37
        have c_gk_38 := K_gk.out.u 38 rfl; have f_gk_38 := K_gk.out.fr 38
        go_upto_region 12 with (first | (go_at_call 17; refine (bit_c _ _ _ (by decide)).mono ?_; rintro e_ w_ ⟨rfl, ⟨n_, rfl⟩⟩) | (go_at_call 21; refine (with_c _ _ _ _ (by decide)).mono ?_; rintro e_ w_ ⟨rfl, ⟨n_, rfl⟩⟩))
        go_quiet (first | (go_at_call 17; refine (bit_c _ _ _ (by decide)).mono ?_; rintro e_ w_ ⟨rfl, ⟨n_, rfl⟩⟩; (try first | exact ⟨rfl, _, World.drewN_drewN _ _ _⟩ | exact ⟨rfl, _, Eq.trans (World.drewN_drewN _ _ _) (congrArg (World.drewN _) (Nat.add_assoc _ _ _))⟩)) | (go_at_call 21; refine (with_c _ _ _ _ (by decide)).mono ?_; rintro e_ w_ ⟨rfl, ⟨n_, rfl⟩⟩; (try first | exact ⟨rfl, _, World.drewN_drewN _ _ _⟩ | exact ⟨rfl, _, Eq.trans (World.drewN_drewN _ _ _) (congrArg (World.drewN _) (Nat.add_assoc _ _ _))⟩)))
        go_upto_region 22 with (first | (go_at_call 17; refine (bit_c _ _ _ (by decide)).mono ?_; rintro e_ w_ ⟨rfl, ⟨n_, rfl⟩⟩) | (go_at_call 21; refine (with_c _ _ _ _ (by decide)).mono ?_; rintro e_ w_ ⟨rfl, ⟨n_, rfl⟩⟩))
        refine wp_region_list ?_
        refine load_hart (h := _) rfl (.tmp 3) rfl gk rfl (by repeat (with_reducible first | exact K_gk.out | apply Hb.put | apply Hb.putP | apply Hb.putV | apply Hb.putW | apply Hb.putH | apply Hb.far (Ne.symm N_ga_gk.out) | apply Hb.far (Ne.symm N_gr_gk.out) | apply Hb.drewN | apply Hb.drew)) ?_
        refine store_hart rfl (.tmp 2) (.tmp 60) rfl gr _ rfl rfl Ht.zero (by repeat (with_reducible first | exact K_gr.out | apply Hb.put | apply Hb.putP | apply Hb.putV | apply Hb.putW | apply Hb.putH | apply Hb.far (Ne.symm N_ga_gr.out) | apply Hb.far N_gr_gk.out | apply Hb.drewN | apply Hb.drew)) ?_
        go_wp2
        refine bodyPost_ret (results_cell_row rfl _ _ gr 25 _ (0, 0) _ rfl (Hb.putAll _ (by repeat (with_reducible first | exact K_gr.out | apply Hb.put | apply Hb.putP | apply Hb.putV | apply Hb.putW | apply Hb.putH | apply Hb.far (Ne.symm N_ga_gr.out) | apply Hb.far N_gr_gk.out | apply Hb.drewN | apply Hb.drew))) Try.underlying25 rfl (by rw [Ht.size]; exact hartSize)) rfl ?_
        exact ⟨by (first | rfl | (simp only [rmret, rmretS, hv, b11, b12, if_true, if_false, Bool.false_eq_true, cond_true, cond_false]; done) | (simp only [rmret, rmretS, hv, b11, b12, if_true, if_false, Bool.false_eq_true, cond_true, cond_false]; rfl)), setCells_below G_gr.out _ _ _ (by repeat (first | (with_reducible first | exact hB_8.out | apply pw_below_drewN | apply below_drew1 | refine below_set ?_ G_ga.out | refine below_set ?_ G_gr.out | refine below_set ?_ G_gk.out) | exact hB_8.out))⟩
    · skip
      cases hv : onV (h.x 38) 39
      · skip
        have hu25 := Try.underlying25
        go_enter Try.func12, Try.ntmps12
        go_upto_region 1 with (first | ((with_reducible refine gate_dst (N := 1) rfl ?_); refine box_event ?hg (N := 1) ?hd (cs := h.cs) (t := 25) ?hr ?_; (case hd => rfl); (case hg => rfl); (case hr => first | (go_simp; done) | (go_simp; rfl)); intro ga hg w_1 H1 hb; have hB_2 := Lib.hid (below_step (Below.refl w.heap.size w) hb); have G_ga := Lib.hid (show w.heap.size ≤ ga by rw [hg]; exact ((Below.refl w.heap.size w)).size); have K_ga := Lib.hid (show Hb w_1 ga h from H1); clear hg hb H1) | ((with_reducible refine gate_dst (N := 2) rfl ?_); refine box_event ?hg (N := 2) ?hd (cs := Ht.zero.cs) (t := 25) ?hr ?_; (case hd => rfl); (case hg => rfl); (case hr => first | (go_simp; done) | (go_simp; rfl)); intro gr hg w_3 H1 hb; have hB_4 := Lib.hid (below_step hB_2.out hb); have G_gr := Lib.hid (show w.heap.size ≤ gr by rw [hg]; exact (hB_2.out).size); have N_ga_gr := Lib.hid (show ga ≠ gr by rw [hg]; exact Nat.ne_of_lt (K_ga.out.lt)); replace K_ga := Lib.hid (K_ga.out.below hb); have K_gr := Lib.hid (show Hb w_3 gr Ht.zero from H1); clear hg hb H1 hB_2; clear hu25))
        go_upto_region 1 with (first | (go_at_call 17; refine (bit_c _ _ _ (by decide)).mono ?_; rintro e_ w_ ⟨rfl, ⟨n_, rfl⟩⟩) | (go_at_call 21; refine (with_c _ _ _ _ (by decide)).mono ?_; rintro e_ w_ ⟨rfl, ⟨n_, rfl⟩⟩))
        have hu25 := Try.underlying25
        refine wp_region_list ?_
        refine load_hart (h := h) rfl (.tmp 1) rfl ga rfl (by repeat (with_reducible first | exact K_ga.out | apply Hb.put | apply Hb.putP | apply Hb.putV | apply Hb.putW | apply Hb.putH | apply Hb.far N_ga_gr.out | apply Hb.drewN | apply Hb.drew)) ?_
        refine box_event rfl (N := 3) rfl (cs := Ht.zero.cs) (t := 25) (by first | (go_simp; done) | (go_simp; rfl)) ?_
        intro gk hg w_5 H1 hb
        clear hu25
        have hB_7 := Lib.hid (below_step (by repeat (first | (with_reducible first | exact hB_4.out | apply pw_below_drewN | apply below_drew1 | refine below_set ?_ G_ga.out | refine below_set ?_ G_gr.out) | exact hB_4.out)) hb)
        have G_gk := Lib.hid (show w.heap.size ≤ gk by rw [hg]; exact below_size (w := w) (by repeat (first | (with_reducible first | exact hB_4.out | apply pw_below_drewN | apply below_drew1 | refine below_set ?_ G_ga.out | refine below_set ?_ G_gr.out) | exact hB_4.out)))
        have N_ga_gk := Lib.hid (show ga ≠ gk by rw [hg]; exact Nat.ne_of_lt (Hb.lt (h := h) (by repeat (with_reducible first | exact K_ga.out | apply Hb.put | apply Hb.putP | apply Hb.putV | apply Hb.putW | apply Hb.putH | apply Hb.far N_ga_gr.out | apply Hb.drewN | apply Hb.drew))))
        have N_gr_gk := Lib.hid (show gr ≠ gk by rw [hg]; exact Nat.ne_of_lt (Hb.lt (h := Ht.zero) (by repeat (with_reducible first | exact K_gr.out | apply Hb.put | apply Hb.putP | apply Hb.putV | apply Hb.putW | apply Hb.putH | apply Hb.far (Ne.symm N_ga_gr.out) | apply Hb.drewN | apply Hb.drew))))
        replace K_ga := Lib.hid (Hb.below (h := h) (by repeat (with_reducible first | exact K_ga.out | apply Hb.put | apply Hb.putP | apply Hb.putV | apply Hb.putW | apply Hb.putH | apply Hb.far N_ga_gr.out | apply Hb.drewN | apply Hb.drew)) hb)
        replace K_gr := Lib.hid (Hb.below (h := Ht.zero) (by repeat (with_reducible first | exact K_gr.out | apply Hb.put | apply Hb.putP | apply Hb.putV | apply Hb.putW | apply Hb.putH | apply Hb.far (Ne.symm N_ga_gr.out) | apply Hb.drewN | apply Hb.drew)) hb)
        have K_gk := Lib.hid (show Hb w_5 gk Ht.zero from H1)
        clear hg hb H1 hB_4
        refine store_hart rfl (.tmp 3) (.tmp 6) rfl gk h rfl rfl Ht.zero K_gk.out ?_
        have hB_8 := Lib.hid (setCells_below G_gk.out (Ht.cs h).toList 0 _ hB_7.out)
        replace K_ga := Lib.hid (Hb.farAll (vs := (Ht.cs h).toList) (o := 0) N_ga_gk.out K_ga.out)
        replace K_gr := Lib.hid (Hb.farAll (vs := (Ht.cs h).toList) (o := 0) N_gr_gk.out K_gr.out)
        replace K_gk := Lib.hid (Hb.putAll h K_gk.out)
        clear hB_7
        generalize World.setCells w_5 gk 0 (Ht.cs h).toList = w_6 at K_ga K_gr K_gk hB_8 ⊢
        have c_ga_38 := K_ga.out.u 38 rfl; have f_ga_38 := K_ga.out.fr 38
        have c_ga_46 := K_ga.out.u 46 rfl; have f_ga_46 := K_ga.out.fr 46
        have c_gk_0 := K_gk.out.u 0 rfl; have f_gk_0 := K_gk.out.fr 0
        have c_gk_33 := K_gk.out.p; have f_gk_33 := K_gk.out.fr 33
        have c_gk_34 := K_gk.out.cv; have f_gk_34 := K_gk.out.fr 34
        have c_gk_36 := K_gk.out.ch; have f_gk_36 := K_gk.out.fr 36
        have c_gk_37 := K_gk.out.u 37 rfl; have f_gk_37 := K_gk.out.fr 37
        have c_gk_38 := K_gk.out.u 38 rfl; have f_gk_38 := K_gk.out.fr 38
        go_upto_region 12 with (first | (go_at_call 17; refine (bit_c _ _ _ (by decide)).mono ?_; rintro e_ w_ ⟨rfl, ⟨n_, rfl⟩⟩) | (go_at_call 21; refine (with_c _ _ _ _ (by decide)).mono ?_; rintro e_ w_ ⟨rfl, ⟨n_, rfl⟩⟩))
        go_quiet (first | (go_at_call 17; refine (bit_c _ _ _ (by decide)).mono ?_; rintro e_ w_ ⟨rfl, ⟨n_, rfl⟩⟩; (try first | exact ⟨rfl, _, World.drewN_drewN _ _ _⟩ | exact ⟨rfl, _, Eq.trans (World.drewN_drewN _ _ _) (congrArg (World.drewN _) (Nat.add_assoc _ _ _))⟩)) | (go_at_call 21; refine (with_c _ _ _ _ (by decide)).mono ?_; rintro e_ w_ ⟨rfl, ⟨n_, rfl⟩⟩; (try first | exact ⟨rfl, _, World.drewN_drewN _ _ _⟩ | exact ⟨rfl, _, Eq.trans (World.drewN_drewN _ _ _) (congrArg (World.drewN _) (Nat.add_assoc _ _ _))⟩)))
        go_upto_region 22 with (first | (go_at_call 17; refine (bit_c _ _ _ (by decide)).mono ?_; rintro e_ w_ ⟨rfl, ⟨n_, rfl⟩⟩) | (go_at_call 21; refine (with_c _ _ _ _ (by decide)).mono ?_; rintro e_ w_ ⟨rfl, ⟨n_, rfl⟩⟩))
        refine wp_region_list ?_
        refine load_hart (h := _) rfl (.tmp 3) rfl gk rfl (by repeat (with_reducible first | exact K_gk.out | apply Hb.put | apply Hb.putP | apply Hb.putV | apply Hb.putW | apply Hb.putH | apply Hb.far (Ne.symm N_ga_gk.out) | apply Hb.far (Ne.symm N_gr_gk.out) | apply Hb.drewN | apply Hb.drew)) ?_
        refine store_hart rfl (.tmp 2) (.tmp 60) rfl gr _ rfl rfl Ht.zero (by repeat (with_reducible first | exact K_gr.out | apply Hb.put | apply Hb.putP | apply Hb.putV | apply Hb.putW | apply Hb.putH | apply Hb.far (Ne.symm N_ga_gr.out) | apply Hb.far N_gr_gk.out | apply Hb.drewN | apply Hb.drew)) ?_
        go_wp2
        refine bodyPost_ret (results_cell_row rfl _ _ gr 25 _ (0, 0) _ rfl (Hb.putAll _ (by repeat (with_reducible first | exact K_gr.out | apply Hb.put | apply Hb.putP | apply Hb.putV | apply Hb.putW | apply Hb.putH | apply Hb.far (Ne.symm N_ga_gr.out) | apply Hb.far N_gr_gk.out | apply Hb.drewN | apply Hb.drew))) Try.underlying25 rfl (by rw [Ht.size]; exact hartSize)) rfl ?_
        exact ⟨by (first | rfl | (simp only [rmret, rmretS, hv, b11, b12, if_true, if_false, Bool.false_eq_true, cond_true, cond_false]; done) | (simp only [rmret, rmretS, hv, b11, b12, if_true, if_false, Bool.false_eq_true, cond_true, cond_false]; rfl)), setCells_below G_gr.out _ _ _ (by repeat (first | (with_reducible first | exact hB_8.out | apply pw_below_drewN | apply below_drew1 | refine below_set ?_ G_ga.out | refine below_set ?_ G_gr.out | refine below_set ?_ G_gk.out) | exact hB_8.out))⟩
      · skip
        have hu25 := Try.underlying25
        go_enter Try.func12, Try.ntmps12
        go_upto_region 1 with (first | ((with_reducible refine gate_dst (N := 1) rfl ?_); refine box_event ?hg (N := 1) ?hd (cs := h.cs) (t := 25) ?hr ?_; (case hd => rfl); (case hg => rfl); (case hr => first | (go_simp; done) | (go_simp; rfl)); intro ga hg w_1 H1 hb; have hB_2 := Lib.hid (below_step (Below.refl w.heap.size w) hb); have G_ga := Lib.hid (show w.heap.size ≤ ga by rw [hg]; exact ((Below.refl w.heap.size w)).size); have K_ga := Lib.hid (show Hb w_1 ga h from H1); clear hg hb H1) | ((with_reducible refine gate_dst (N := 2) rfl ?_); refine box_event ?hg (N := 2) ?hd (cs := Ht.zero.cs) (t := 25) ?hr ?_; (case hd => rfl); (case hg => rfl); (case hr => first | (go_simp; done) | (go_simp; rfl)); intro gr hg w_3 H1 hb; have hB_4 := Lib.hid (below_step hB_2.out hb); have G_gr := Lib.hid (show w.heap.size ≤ gr by rw [hg]; exact (hB_2.out).size); have N_ga_gr := Lib.hid (show ga ≠ gr by rw [hg]; exact Nat.ne_of_lt (K_ga.out.lt)); replace K_ga := Lib.hid (K_ga.out.below hb); have K_gr := Lib.hid (show Hb w_3 gr Ht.zero from H1); clear hg hb H1 hB_2; clear hu25))
        go_upto_region 1 with (first | (go_at_call 17; refine (bit_c _ _ _ (by decide)).mono ?_; rintro e_ w_ ⟨rfl, ⟨n_, rfl⟩⟩) | (go_at_call 21; refine (with_c _ _ _ _ (by decide)).mono ?_; rintro e_ w_ ⟨rfl, ⟨n_, rfl⟩⟩))
        have hu25 := Try.underlying25
        refine wp_region_list ?_
        refine load_hart (h := h) rfl (.tmp 1) rfl ga rfl (by repeat (with_reducible first | exact K_ga.out | apply Hb.put | apply Hb.putP | apply Hb.putV | apply Hb.putW | apply Hb.putH | apply Hb.far N_ga_gr.out | apply Hb.drewN | apply Hb.drew)) ?_
        refine box_event rfl (N := 3) rfl (cs := Ht.zero.cs) (t := 25) (by first | (go_simp; done) | (go_simp; rfl)) ?_
        intro gk hg w_5 H1 hb
        clear hu25
        have hB_7 := Lib.hid (below_step (by repeat (first | (with_reducible first | exact hB_4.out | apply pw_below_drewN | apply below_drew1 | refine below_set ?_ G_ga.out | refine below_set ?_ G_gr.out) | exact hB_4.out)) hb)
        have G_gk := Lib.hid (show w.heap.size ≤ gk by rw [hg]; exact below_size (w := w) (by repeat (first | (with_reducible first | exact hB_4.out | apply pw_below_drewN | apply below_drew1 | refine below_set ?_ G_ga.out | refine below_set ?_ G_gr.out) | exact hB_4.out)))
        have N_ga_gk := Lib.hid (show ga ≠ gk by rw [hg]; exact Nat.ne_of_lt (Hb.lt (h := h) (by repeat (with_reducible first | exact K_ga.out | apply Hb.put | apply Hb.putP | apply Hb.putV | apply Hb.putW | apply Hb.putH | apply Hb.far N_ga_gr.out | apply Hb.drewN | apply Hb.drew))))
        have N_gr_gk := Lib.hid (show gr ≠ gk by rw [hg]; exact Nat.ne_of_lt (Hb.lt (h := Ht.zero) (by repeat (with_reducible first | exact K_gr.out | apply Hb.put | apply Hb.putP | apply Hb.putV | apply Hb.putW | apply Hb.putH | apply Hb.far (Ne.symm N_ga_gr.out) | apply Hb.drewN | apply Hb.drew))))
        replace K_ga := Lib.hid (Hb.below (h := h) (by repeat (with_reducible first | exact K_ga.out | apply Hb.put | apply Hb.putP | apply Hb.putV | apply Hb.putW | apply Hb.putH | apply Hb.far N_ga_gr.out | apply Hb.drewN | apply Hb.drew)) hb)
        replace K_gr := Lib.hid (Hb.below (h := Ht.zero) (by repeat (with_reducible first | exact K_gr.out | apply Hb.put | apply Hb.putP | apply Hb.putV | apply Hb.putW | apply Hb.putH | apply Hb.far (Ne.symm N_ga_gr.out) | apply Hb.drewN | apply Hb.drew)) hb)
        have K_gk := Lib.hid (show Hb w_5 gk Ht.zero from H1)
        clear hg hb H1 hB_4
        refine store_hart rfl (.tmp 3) (.tmp 6) rfl gk h rfl rfl Ht.zero K_gk.out ?_
        have hB_8 := Lib.hid (setCells_below G_gk.out (Ht.cs h).toList 0 _ hB_7.out)
        replace K_ga := Lib.hid (Hb.farAll (vs := (Ht.cs h).toList) (o := 0) N_ga_gk.out K_ga.out)
        replace K_gr := Lib.hid (Hb.farAll (vs := (Ht.cs h).toList) (o := 0) N_gr_gk.out K_gr.out)
        replace K_gk := Lib.hid (Hb.putAll h K_gk.out)
        clear hB_7
        generalize World.setCells w_5 gk 0 (Ht.cs h).toList = w_6 at K_ga K_gr K_gk hB_8 ⊢
        have c_ga_38 := K_ga.out.u 38 rfl; have f_ga_38 := K_ga.out.fr 38
        have c_ga_46 := K_ga.out.u 46 rfl; have f_ga_46 := K_ga.out.fr 46
        have c_gk_0 := K_gk.out.u 0 rfl; have f_gk_0 := K_gk.out.fr 0
        have c_gk_33 := K_gk.out.p; have f_gk_33 := K_gk.out.fr 33
        have c_gk_34 := K_gk.out.cv; have f_gk_34 := K_gk.out.fr 34
        have c_gk_36 := K_gk.out.ch; have f_gk_36 := K_gk.out.fr 36
        have c_gk_37 := K_gk.out.u 37 rfl; have f_gk_37 := K_gk.out.fr 37
        have c_gk_38 := K_gk.out.u 38 rfl; have f_gk_38 := K_gk.out.fr 38
        go_upto_region 12 with (first | (go_at_call 17; refine (bit_c _ _ _ (by decide)).mono ?_; rintro e_ w_ ⟨rfl, ⟨n_, rfl⟩⟩) | (go_at_call 21; refine (with_c _ _ _ _ (by decide)).mono ?_; rintro e_ w_ ⟨rfl, ⟨n_, rfl⟩⟩))
        go_quiet (first | (go_at_call 17; refine (bit_c _ _ _ (by decide)).mono ?_; rintro e_ w_ ⟨rfl, ⟨n_, rfl⟩⟩; (try first | exact ⟨rfl, _, World.drewN_drewN _ _ _⟩ | exact ⟨rfl, _, Eq.trans (World.drewN_drewN _ _ _) (congrArg (World.drewN _) (Nat.add_assoc _ _ _))⟩)) | (go_at_call 21; refine (with_c _ _ _ _ (by decide)).mono ?_; rintro e_ w_ ⟨rfl, ⟨n_, rfl⟩⟩; (try first | exact ⟨rfl, _, World.drewN_drewN _ _ _⟩ | exact ⟨rfl, _, Eq.trans (World.drewN_drewN _ _ _) (congrArg (World.drewN _) (Nat.add_assoc _ _ _))⟩)))
        go_upto_region 22 with (first | (go_at_call 17; refine (bit_c _ _ _ (by decide)).mono ?_; rintro e_ w_ ⟨rfl, ⟨n_, rfl⟩⟩) | (go_at_call 21; refine (with_c _ _ _ _ (by decide)).mono ?_; rintro e_ w_ ⟨rfl, ⟨n_, rfl⟩⟩))
        refine wp_region_list ?_
        refine load_hart (h := _) rfl (.tmp 3) rfl gk rfl (by repeat (with_reducible first | exact K_gk.out | apply Hb.put | apply Hb.putP | apply Hb.putV | apply Hb.putW | apply Hb.putH | apply Hb.far (Ne.symm N_ga_gk.out) | apply Hb.far (Ne.symm N_gr_gk.out) | apply Hb.drewN | apply Hb.drew)) ?_
        refine store_hart rfl (.tmp 2) (.tmp 60) rfl gr _ rfl rfl Ht.zero (by repeat (with_reducible first | exact K_gr.out | apply Hb.put | apply Hb.putP | apply Hb.putV | apply Hb.putW | apply Hb.putH | apply Hb.far (Ne.symm N_ga_gr.out) | apply Hb.far N_gr_gk.out | apply Hb.drewN | apply Hb.drew)) ?_
        go_wp2
        refine bodyPost_ret (results_cell_row rfl _ _ gr 25 _ (0, 0) _ rfl (Hb.putAll _ (by repeat (with_reducible first | exact K_gr.out | apply Hb.put | apply Hb.putP | apply Hb.putV | apply Hb.putW | apply Hb.putH | apply Hb.far (Ne.symm N_ga_gr.out) | apply Hb.far N_gr_gk.out | apply Hb.drewN | apply Hb.drew))) Try.underlying25 rfl (by rw [Ht.size]; exact hartSize)) rfl ?_
        exact ⟨by (first | rfl | (simp only [rmret, rmretS, hv, b11, b12, if_true, if_false, Bool.false_eq_true, cond_true, cond_false]; done) | (simp only [rmret, rmretS, hv, b11, b12, if_true, if_false, Bool.false_eq_true, cond_true, cond_false]; rfl)), setCells_below G_gr.out _ _ _ (by repeat (first | (with_reducible first | exact hB_8.out | apply pw_below_drewN | apply below_drew1 | refine below_set ?_ G_ga.out | refine below_set ?_ G_gr.out | refine below_set ?_ G_gk.out) | exact hB_8.out))⟩
  · skip
    cases b12 : onV (h.x 38) 12
    · skip
      cases hv : onV (h.x 38) 39
      · skip
        have hu25 := Try.underlying25
        go_enter Try.func12, Try.ntmps12
        go_upto_region 1 with (first | ((with_reducible refine gate_dst (N := 1) rfl ?_); refine box_event ?hg (N := 1) ?hd (cs := h.cs) (t := 25) ?hr ?_; (case hd => rfl); (case hg => rfl); (case hr => first | (go_simp; done) | (go_simp; rfl)); intro ga hg w_1 H1 hb; have hB_2 := Lib.hid (below_step (Below.refl w.heap.size w) hb); have G_ga := Lib.hid (show w.heap.size ≤ ga by rw [hg]; exact ((Below.refl w.heap.size w)).size); have K_ga := Lib.hid (show Hb w_1 ga h from H1); clear hg hb H1) | ((with_reducible refine gate_dst (N := 2) rfl ?_); refine box_event ?hg (N := 2) ?hd (cs := Ht.zero.cs) (t := 25) ?hr ?_; (case hd => rfl); (case hg => rfl); (case hr => first | (go_simp; done) | (go_simp; rfl)); intro gr hg w_3 H1 hb; have hB_4 := Lib.hid (below_step hB_2.out hb); have G_gr := Lib.hid (show w.heap.size ≤ gr by rw [hg]; exact (hB_2.out).size); have N_ga_gr := Lib.hid (show ga ≠ gr by rw [hg]; exact Nat.ne_of_lt (K_ga.out.lt)); replace K_ga := Lib.hid (K_ga.out.below hb); have K_gr := Lib.hid (show Hb w_3 gr Ht.zero from H1); clear hg hb H1 hB_2; clear hu25))
        go_upto_region 1 with (first | (go_at_call 17; refine (bit_c _ _ _ (by decide)).mono ?_; rintro e_ w_ ⟨rfl, ⟨n_, rfl⟩⟩) | (go_at_call 21; refine (with_c _ _ _ _ (by decide)).mono ?_; rintro e_ w_ ⟨rfl, ⟨n_, rfl⟩⟩))
        have hu25 := Try.underlying25
        refine wp_region_list ?_
        refine load_hart (h := h) rfl (.tmp 1) rfl ga rfl (by repeat (with_reducible first | exact K_ga.out | apply Hb.put | apply Hb.putP | apply Hb.putV | apply Hb.putW | apply Hb.putH | apply Hb.far N_ga_gr.out | apply Hb.drewN | apply Hb.drew)) ?_
        refine box_event rfl (N := 3) rfl (cs := Ht.zero.cs) (t := 25) (by first | (go_simp; done) | (go_simp; rfl)) ?_
        intro gk hg w_5 H1 hb
        clear hu25
        have hB_7 := Lib.hid (below_step (by repeat (first | (with_reducible first | exact hB_4.out | apply pw_below_drewN | apply below_drew1 | refine below_set ?_ G_ga.out | refine below_set ?_ G_gr.out) | exact hB_4.out)) hb)
        have G_gk := Lib.hid (show w.heap.size ≤ gk by rw [hg]; exact below_size (w := w) (by repeat (first | (with_reducible first | exact hB_4.out | apply pw_below_drewN | apply below_drew1 | refine below_set ?_ G_ga.out | refine below_set ?_ G_gr.out) | exact hB_4.out)))
        have N_ga_gk := Lib.hid (show ga ≠ gk by rw [hg]; exact Nat.ne_of_lt (Hb.lt (h := h) (by repeat (with_reducible first | exact K_ga.out | apply Hb.put | apply Hb.putP | apply Hb.putV | apply Hb.putW | apply Hb.putH | apply Hb.far N_ga_gr.out | apply Hb.drewN | apply Hb.drew))))
        have N_gr_gk := Lib.hid (show gr ≠ gk by rw [hg]; exact Nat.ne_of_lt (Hb.lt (h := Ht.zero) (by repeat (with_reducible first | exact K_gr.out | apply Hb.put | apply Hb.putP | apply Hb.putV | apply Hb.putW | apply Hb.putH | apply Hb.far (Ne.symm N_ga_gr.out) | apply Hb.drewN | apply Hb.drew))))
        replace K_ga := Lib.hid (Hb.below (h := h) (by repeat (with_reducible first | exact K_ga.out | apply Hb.put | apply Hb.putP | apply Hb.putV | apply Hb.putW | apply Hb.putH | apply Hb.far N_ga_gr.out | apply Hb.drewN | apply Hb.drew)) hb)
        replace K_gr := Lib.hid (Hb.below (h := Ht.zero) (by repeat (with_reducible first | exact K_gr.out | apply Hb.put | apply Hb.putP | apply Hb.putV | apply Hb.putW | apply Hb.putH | apply Hb.far (Ne.symm N_ga_gr.out) | apply Hb.drewN | apply Hb.drew)) hb)
        have K_gk := Lib.hid (show Hb w_5 gk Ht.zero from H1)
        clear hg hb H1 hB_4
        refine store_hart rfl (.tmp 3) (.tmp 6) rfl gk h rfl rfl Ht.zero K_gk.out ?_
        have hB_8 := Lib.hid (setCells_below G_gk.out (Ht.cs h).toList 0 _ hB_7.out)
        replace K_ga := Lib.hid (Hb.farAll (vs := (Ht.cs h).toList) (o := 0) N_ga_gk.out K_ga.out)
        replace K_gr := Lib.hid (Hb.farAll (vs := (Ht.cs h).toList) (o := 0) N_gr_gk.out K_gr.out)
        replace K_gk := Lib.hid (Hb.putAll h K_gk.out)
        clear hB_7
        generalize World.setCells w_5 gk 0 (Ht.cs h).toList = w_6 at K_ga K_gr K_gk hB_8 ⊢
        have c_ga_38 := K_ga.out.u 38 rfl; have f_ga_38 := K_ga.out.fr 38
        have c_ga_46 := K_ga.out.u 46 rfl; have f_ga_46 := K_ga.out.fr 46
        have c_gk_0 := K_gk.out.u 0 rfl; have f_gk_0 := K_gk.out.fr 0
        have c_gk_33 := K_gk.out.p; have f_gk_33 := K_gk.out.fr 33
        have c_gk_34 := K_gk.out.cv; have f_gk_34 := K_gk.out.fr 34
        have c_gk_36 := K_gk.out.ch; have f_gk_36 := K_gk.out.fr 36
        have c_gk_37 := K_gk.out.u 37 rfl; have f_gk_37 := K_gk.out.fr 37
        have c_gk_38 := K_gk.out.u 38 rfl; have f_gk_38 := K_gk.out.fr 38
        go_upto_region 12 with (first | (go_at_call 17; refine (bit_c _ _ _ (by decide)).mono ?_; rintro e_ w_ ⟨rfl, ⟨n_, rfl⟩⟩) | (go_at_call 21; refine (with_c _ _ _ _ (by decide)).mono ?_; rintro e_ w_ ⟨rfl, ⟨n_, rfl⟩⟩))
        go_quiet (first | (go_at_call 17; refine (bit_c _ _ _ (by decide)).mono ?_; rintro e_ w_ ⟨rfl, ⟨n_, rfl⟩⟩; (try first | exact ⟨rfl, _, World.drewN_drewN _ _ _⟩ | exact ⟨rfl, _, Eq.trans (World.drewN_drewN _ _ _) (congrArg (World.drewN _) (Nat.add_assoc _ _ _))⟩)) | (go_at_call 21; refine (with_c _ _ _ _ (by decide)).mono ?_; rintro e_ w_ ⟨rfl, ⟨n_, rfl⟩⟩; (try first | exact ⟨rfl, _, World.drewN_drewN _ _ _⟩ | exact ⟨rfl, _, Eq.trans (World.drewN_drewN _ _ _) (congrArg (World.drewN _) (Nat.add_assoc _ _ _))⟩)))
        go_upto_region 22 with (first | (go_at_call 17; refine (bit_c _ _ _ (by decide)).mono ?_; rintro e_ w_ ⟨rfl, ⟨n_, rfl⟩⟩) | (go_at_call 21; refine (with_c _ _ _ _ (by decide)).mono ?_; rintro e_ w_ ⟨rfl, ⟨n_, rfl⟩⟩))
        refine wp_region_list ?_
        refine load_hart (h := _) rfl (.tmp 3) rfl gk rfl (by repeat (with_reducible first | exact K_gk.out | apply Hb.put | apply Hb.putP | apply Hb.putV | apply Hb.putW | apply Hb.putH | apply Hb.far (Ne.symm N_ga_gk.out) | apply Hb.far (Ne.symm N_gr_gk.out) | apply Hb.drewN | apply Hb.drew)) ?_
        refine store_hart rfl (.tmp 2) (.tmp 60) rfl gr _ rfl rfl Ht.zero (by repeat (with_reducible first | exact K_gr.out | apply Hb.put | apply Hb.putP | apply Hb.putV | apply Hb.putW | apply Hb.putH | apply Hb.far (Ne.symm N_ga_gr.out) | apply Hb.far N_gr_gk.out | apply Hb.drewN | apply Hb.drew)) ?_
        go_wp2
        refine bodyPost_ret (results_cell_row rfl _ _ gr 25 _ (0, 0) _ rfl (Hb.putAll _ (by repeat (with_reducible first | exact K_gr.out | apply Hb.put | apply Hb.putP | apply Hb.putV | apply Hb.putW | apply Hb.putH | apply Hb.far (Ne.symm N_ga_gr.out) | apply Hb.far N_gr_gk.out | apply Hb.drewN | apply Hb.drew))) Try.underlying25 rfl (by rw [Ht.size]; exact hartSize)) rfl ?_
        exact ⟨by (first | rfl | (simp only [rmret, rmretS, hv, b11, b12, if_true, if_false, Bool.false_eq_true, cond_true, cond_false]; done) | (simp only [rmret, rmretS, hv, b11, b12, if_true, if_false, Bool.false_eq_true, cond_true, cond_false]; rfl)), setCells_below G_gr.out _ _ _ (by repeat (first | (with_reducible first | exact hB_8.out | apply pw_below_drewN | apply below_drew1 | refine below_set ?_ G_ga.out | refine below_set ?_ G_gr.out | refine below_set ?_ G_gk.out) | exact hB_8.out))⟩
      · skip
        have hu25 := Try.underlying25
        go_enter Try.func12, Try.ntmps12
        go_upto_region 1 with (first | ((with_reducible refine gate_dst (N := 1) rfl ?_); refine box_event ?hg (N := 1) ?hd (cs := h.cs) (t := 25) ?hr ?_; (case hd => rfl); (case hg => rfl); (case hr => first | (go_simp; done) | (go_simp; rfl)); intro ga hg w_1 H1 hb; have hB_2 := Lib.hid (below_step (Below.refl w.heap.size w) hb); have G_ga := Lib.hid (show w.heap.size ≤ ga by rw [hg]; exact ((Below.refl w.heap.size w)).size); have K_ga := Lib.hid (show Hb w_1 ga h from H1); clear hg hb H1) | ((with_reducible refine gate_dst (N := 2) rfl ?_); refine box_event ?hg (N := 2) ?hd (cs := Ht.zero.cs) (t := 25) ?hr ?_; (case hd => rfl); (case hg => rfl); (case hr => first | (go_simp; done) | (go_simp; rfl)); intro gr hg w_3 H1 hb; have hB_4 := Lib.hid (below_step hB_2.out hb); have G_gr := Lib.hid (show w.heap.size ≤ gr by rw [hg]; exact (hB_2.out).size); have N_ga_gr := Lib.hid (show ga ≠ gr by rw [hg]; exact Nat.ne_of_lt (K_ga.out.lt)); replace K_ga := Lib.hid (K_ga.out.below hb); have K_gr := Lib.hid (show Hb w_3 gr Ht.zero from H1); clear hg hb H1 hB_2; clear hu25))
        go_upto_region 1 with (first | (go_at_call 17; refine (bit_c _ _ _ (by decide)).mono ?_; rintro e_ w_ ⟨rfl, ⟨n_, rfl⟩⟩) | (go_at_call 21; refine (with_c _ _ _ _ (by decide)).mono ?_; rintro e_ w_ ⟨rfl, ⟨n_, rfl⟩⟩))
        have hu25 := Try.underlying25
        refine wp_region_list ?_
        refine load_hart (h := h) rfl (.tmp 1) rfl ga rfl (by repeat (with_reducible first | exact K_ga.out | apply Hb.put | apply Hb.putP | apply Hb.putV | apply Hb.putW | apply Hb.putH | apply Hb.far N_ga_gr.out | apply Hb.drewN | apply Hb.drew)) ?_
        refine box_event rfl (N := 3) rfl (cs := Ht.zero.cs) (t := 25) (by first | (go_simp; done) | (go_simp; rfl)) ?_
        intro gk hg w_5 H1 hb
        clear hu25
        have hB_7 := Lib.hid (below_step (by repeat (first | (with_reducible first | exact hB_4.out | apply pw_below_drewN | apply below_drew1 | refine below_set ?_ G_ga.out | refine below_set ?_ G_gr.out) | exact hB_4.out)) hb)
        have G_gk := Lib.hid (show w.heap.size ≤ gk by rw [hg]; exact below_size (w := w) (by repeat (first | (with_reducible first | exact hB_4.out | apply pw_below_drewN | apply below_drew1 | refine below_set ?_ G_ga.out | refine below_set ?_ G_gr.out) | exact hB_4.out)))
        have N_ga_gk := Lib.hid (show ga ≠ gk by rw [hg]; exact Nat.ne_of_lt (Hb.lt (h := h) (by repeat (with_reducible first | exact K_ga.out | apply Hb.put | apply Hb.putP | apply Hb.putV | apply Hb.putW | apply Hb.putH | apply Hb.far N_ga_gr.out | apply Hb.drewN | apply Hb.drew))))
        have N_gr_gk := Lib.hid (show gr ≠ gk by rw [hg]; exact Nat.ne_of_lt (Hb.lt (h := Ht.zero) (by repeat (with_reducible first | exact K_gr.out | apply Hb.put | apply Hb.putP | apply Hb.putV | apply Hb.putW | apply Hb.putH | apply Hb.far (Ne.symm N_ga_gr.out) | apply Hb.drewN | apply Hb.drew))))
        replace K_ga := Lib.hid (Hb.below (h := h) (by repeat (with_reducible first | exact K_ga.out | apply Hb.put | apply Hb.putP | apply Hb.putV | apply Hb.putW | apply Hb.putH | apply Hb.far N_ga_gr.out | apply Hb.drewN | apply Hb.drew)) hb)
        replace K_gr := Lib.hid (Hb.below (h := Ht.zero) (by repeat (with_reducible first | exact K_gr.out | apply Hb.put | apply Hb.putP | apply Hb.putV | apply Hb.putW | apply Hb.putH | apply Hb.far (Ne.symm N_ga_gr.out) | apply Hb.drewN | apply Hb.drew)) hb)
        have K_gk := Lib.hid (show Hb w_5 gk Ht.zero from H1)
        clear hg hb H1 hB_4
        refine store_hart rfl (.tmp 3) (.tmp 6) rfl gk h rfl rfl Ht.zero K_gk.out ?_
        have hB_8 := Lib.hid (setCells_below G_gk.out (Ht.cs h).toList 0 _ hB_7.out)
        replace K_ga := Lib.hid (Hb.farAll (vs := (Ht.cs h).toList) (o := 0) N_ga_gk.out K_ga.out)
        replace K_gr := Lib.hid (Hb.farAll (vs := (Ht.cs h).toList) (o := 0) N_gr_gk.out K_gr.out)
        replace K_gk := Lib.hid (Hb.putAll h K_gk.out)
        clear hB_7
        generalize World.setCells w_5 gk 0 (Ht.cs h).toList = w_6 at K_ga K_gr K_gk hB_8 ⊢
        have c_ga_38 := K_ga.out.u 38 rfl; have f_ga_38 := K_ga.out.fr 38
        have c_ga_46 := K_ga.out.u 46 rfl; have f_ga_46 := K_ga.out.fr 46
        have c_gk_0 := K_gk.out.u 0 rfl; have f_gk_0 := K_gk.out.fr 0
        have c_gk_33 := K_gk.out.p; have f_gk_33 := K_gk.out.fr 33
        have c_gk_34 := K_gk.out.cv; have f_gk_34 := K_gk.out.fr 34
        have c_gk_36 := K_gk.out.ch; have f_gk_36 := K_gk.out.fr 36
        have c_gk_37 := K_gk.out.u 37 rfl; have f_gk_37 := K_gk.out.fr 37
        have c_gk_38 := K_gk.out.u 38 rfl; have f_gk_38 := K_gk.out.fr 38
        go_upto_region 12 with (first | (go_at_call 17; refine (bit_c _ _ _ (by decide)).mono ?_; rintro e_ w_ ⟨rfl, ⟨n_, rfl⟩⟩) | (go_at_call 21; refine (with_c _ _ _ _ (by decide)).mono ?_; rintro e_ w_ ⟨rfl, ⟨n_, rfl⟩⟩))
        go_quiet (first | (go_at_call 17; refine (bit_c _ _ _ (by decide)).mono ?_; rintro e_ w_ ⟨rfl, ⟨n_, rfl⟩⟩; (try first | exact ⟨rfl, _, World.drewN_drewN _ _ _⟩ | exact ⟨rfl, _, Eq.trans (World.drewN_drewN _ _ _) (congrArg (World.drewN _) (Nat.add_assoc _ _ _))⟩)) | (go_at_call 21; refine (with_c _ _ _ _ (by decide)).mono ?_; rintro e_ w_ ⟨rfl, ⟨n_, rfl⟩⟩; (try first | exact ⟨rfl, _, World.drewN_drewN _ _ _⟩ | exact ⟨rfl, _, Eq.trans (World.drewN_drewN _ _ _) (congrArg (World.drewN _) (Nat.add_assoc _ _ _))⟩)))
        go_upto_region 22 with (first | (go_at_call 17; refine (bit_c _ _ _ (by decide)).mono ?_; rintro e_ w_ ⟨rfl, ⟨n_, rfl⟩⟩) | (go_at_call 21; refine (with_c _ _ _ _ (by decide)).mono ?_; rintro e_ w_ ⟨rfl, ⟨n_, rfl⟩⟩))
        refine wp_region_list ?_
        refine load_hart (h := _) rfl (.tmp 3) rfl gk rfl (by repeat (with_reducible first | exact K_gk.out | apply Hb.put | apply Hb.putP | apply Hb.putV | apply Hb.putW | apply Hb.putH | apply Hb.far (Ne.symm N_ga_gk.out) | apply Hb.far (Ne.symm N_gr_gk.out) | apply Hb.drewN | apply Hb.drew)) ?_
        refine store_hart rfl (.tmp 2) (.tmp 60) rfl gr _ rfl rfl Ht.zero (by repeat (with_reducible first | exact K_gr.out | apply Hb.put | apply Hb.putP | apply Hb.putV | apply Hb.putW | apply Hb.putH | apply Hb.far (Ne.symm N_ga_gr.out) | apply Hb.far N_gr_gk.out | apply Hb.drewN | apply Hb.drew)) ?_
        go_wp2
        refine bodyPost_ret (results_cell_row rfl _ _ gr 25 _ (0, 0) _ rfl (Hb.putAll _ (by repeat (with_reducible first | exact K_gr.out | apply Hb.put | apply Hb.putP | apply Hb.putV | apply Hb.putW | apply Hb.putH | apply Hb.far (Ne.symm N_ga_gr.out) | apply Hb.far N_gr_gk.out | apply Hb.drewN | apply Hb.drew))) Try.underlying25 rfl (by rw [Ht.size]; exact hartSize)) rfl ?_
        exact ⟨by (first | rfl | (simp only [rmret, rmretS, hv, b11, b12, if_true, if_false, Bool.false_eq_true, cond_true, cond_false]; done) | (simp only [rmret, rmretS, hv, b11, b12, if_true, if_false, Bool.false_eq_true, cond_true, cond_false]; rfl)), setCells_below G_gr.out _ _ _ (by repeat (first | (with_reducible first | exact hB_8.out | apply pw_below_drewN | apply below_drew1 | refine below_set ?_ G_ga.out | refine below_set ?_ G_gr.out | refine below_set ?_ G_gk.out) | exact hB_8.out))⟩
    · skip
      cases hv : onV (h.x 38) 39
      · skip
        have hu25 := Try.underlying25
        go_enter Try.func12, Try.ntmps12
        go_upto_region 1 with (first | ((with_reducible refine gate_dst (N := 1) rfl ?_); refine box_event ?hg (N := 1) ?hd (cs := h.cs) (t := 25) ?hr ?_; (case hd => rfl); (case hg => rfl); (case hr => first | (go_simp; done) | (go_simp; rfl)); intro ga hg w_1 H1 hb; have hB_2 := Lib.hid (below_step (Below.refl w.heap.size w) hb); have G_ga := Lib.hid (show w.heap.size ≤ ga by rw [hg]; exact ((Below.refl w.heap.size w)).size); have K_ga := Lib.hid (show Hb w_1 ga h from H1); clear hg hb H1) | ((with_reducible refine gate_dst (N := 2) rfl ?_); refine box_event ?hg (N := 2) ?hd (cs := Ht.zero.cs) (t := 25) ?hr ?_; (case hd => rfl); (case hg => rfl); (case hr => first | (go_simp; done) | (go_simp; rfl)); intro gr hg w_3 H1 hb; have hB_4 := Lib.hid (below_step hB_2.out hb); have G_gr := Lib.hid (show w.heap.size ≤ gr by rw [hg]; exact (hB_2.out).size); have N_ga_gr := Lib.hid (show ga ≠ gr by rw [hg]; exact Nat.ne_of_lt (K_ga.out.lt)); replace K_ga := Lib.hid (K_ga.out.below hb); have K_gr := Lib.hid (show Hb w_3 gr Ht.zero from H1); clear hg hb H1 hB_2; clear hu25))
        go_upto_region 1 with (first | (go_at_call 17; refine (bit_c _ _ _ (by decide)).mono ?_; rintro e_ w_ ⟨rfl, ⟨n_, rfl⟩⟩) | (go_at_call 21; refine (with_c _ _ _ _ (by decide)).mono ?_; rintro e_ w_ ⟨rfl, ⟨n_, rfl⟩⟩))
        have hu25 := Try.underlying25
        refine wp_region_list ?_
        refine load_hart (h := h) rfl (.tmp 1) rfl ga rfl (by repeat (with_reducible first | exact K_ga.out | apply Hb.put | apply Hb.putP | apply Hb.putV | apply Hb.putW | apply Hb.putH | apply Hb.far N_ga_gr.out | apply Hb.drewN | apply Hb.drew)) ?_
        refine box_event rfl (N := 3) rfl (cs := Ht.zero.cs) (t := 25) (by first | (go_simp; done) | (go_simp; rfl)) ?_
        intro gk hg w_5 H1 hb
        clear hu25
        have hB_7 := Lib.hid (below_step (by repeat (first | (with_reducible first | exact hB_4.out | apply pw_below_drewN | apply below_drew1 | refine below_set ?_ G_ga.out | refine below_set ?_ G_gr.out) | exact hB_4.out)) hb)
        have G_gk := Lib.hid (show w.heap.size ≤ gk by rw [hg]; exact below_size (w := w) (by repeat (first | (with_reducible first | exact hB_4.out | apply pw_below_drewN | apply below_drew1 | refine below_set ?_ G_ga.out | refine below_set ?_ G_gr.out) | exact hB_4.out)))
        have N_ga_gk := Lib.hid (show ga ≠ gk by rw [hg]; exact Nat.ne_of_lt (Hb.lt (h := h) (by repeat (with_reducible first | exact K_ga.out | apply Hb.put | apply Hb.putP | apply Hb.putV | apply Hb.putW | apply Hb.putH | apply Hb.far N_ga_gr.out | apply Hb.drewN | apply Hb.drew))))
        have N_gr_gk := Lib.hid (show gr ≠ gk by rw [hg]; exact Nat.ne_of_lt (Hb.lt (h := Ht.zero) (by repeat (with_reducible first | exact K_gr.out | apply Hb.put | apply Hb.putP | apply Hb.putV | apply Hb.putW | apply Hb.putH | apply Hb.far (Ne.symm N_ga_gr.out) | apply Hb.drewN | apply Hb.drew))))
        replace K_ga := Lib.hid (Hb.below (h := h) (by repeat (with_reducible first | exact K_ga.out | apply Hb.put | apply Hb.putP | apply Hb.putV | apply Hb.putW | apply Hb.putH | apply Hb.far N_ga_gr.out | apply Hb.drewN | apply Hb.drew)) hb)
        replace K_gr := Lib.hid (Hb.below (h := Ht.zero) (by repeat (with_reducible first | exact K_gr.out | apply Hb.put | apply Hb.putP | apply Hb.putV | apply Hb.putW | apply Hb.putH | apply Hb.far (Ne.symm N_ga_gr.out) | apply Hb.drewN | apply Hb.drew)) hb)
        have K_gk := Lib.hid (show Hb w_5 gk Ht.zero from H1)
        clear hg hb H1 hB_4
        refine store_hart rfl (.tmp 3) (.tmp 6) rfl gk h rfl rfl Ht.zero K_gk.out ?_
        have hB_8 := Lib.hid (setCells_below G_gk.out (Ht.cs h).toList 0 _ hB_7.out)
        replace K_ga := Lib.hid (Hb.farAll (vs := (Ht.cs h).toList) (o := 0) N_ga_gk.out K_ga.out)
        replace K_gr := Lib.hid (Hb.farAll (vs := (Ht.cs h).toList) (o := 0) N_gr_gk.out K_gr.out)
        replace K_gk := Lib.hid (Hb.putAll h K_gk.out)
        clear hB_7
        generalize World.setCells w_5 gk 0 (Ht.cs h).toList = w_6 at K_ga K_gr K_gk hB_8 ⊢
        have c_ga_38 := K_ga.out.u 38 rfl; have f_ga_38 := K_ga.out.fr 38
        have c_ga_46 := K_ga.out.u 46 rfl; have f_ga_46 := K_ga.out.fr 46
        have c_gk_0 := K_gk.out.u 0 rfl; have f_gk_0 := K_gk.out.fr 0
        have c_gk_33 := K_gk.out.p; have f_gk_33 := K_gk.out.fr 33
        have c_gk_34 := K_gk.out.cv; have f_gk_34 := K_gk.out.fr 34
        have c_gk_36 := K_gk.out.ch; have f_gk_36 := K_gk.out.fr 36
        have c_gk_37 := K_gk.out.u 37 rfl; have f_gk_37 := K_gk.out.fr 37
        have c_gk_38 := K_gk.out.u 38 rfl; have f_gk_38 := K_gk.out.fr 38
        go_upto_region 12 with (first | (go_at_call 17; refine (bit_c _ _ _ (by decide)).mono ?_; rintro e_ w_ ⟨rfl, ⟨n_, rfl⟩⟩) | (go_at_call 21; refine (with_c _ _ _ _ (by decide)).mono ?_; rintro e_ w_ ⟨rfl, ⟨n_, rfl⟩⟩))
        go_quiet (first | (go_at_call 17; refine (bit_c _ _ _ (by decide)).mono ?_; rintro e_ w_ ⟨rfl, ⟨n_, rfl⟩⟩; (try first | exact ⟨rfl, _, World.drewN_drewN _ _ _⟩ | exact ⟨rfl, _, Eq.trans (World.drewN_drewN _ _ _) (congrArg (World.drewN _) (Nat.add_assoc _ _ _))⟩)) | (go_at_call 21; refine (with_c _ _ _ _ (by decide)).mono ?_; rintro e_ w_ ⟨rfl, ⟨n_, rfl⟩⟩; (try first | exact ⟨rfl, _, World.drewN_drewN _ _ _⟩ | exact ⟨rfl, _, Eq.trans (World.drewN_drewN _ _ _) (congrArg (World.drewN _) (Nat.add_assoc _ _ _))⟩)))
        go_upto_region 22 with (first | (go_at_call 17; refine (bit_c _ _ _ (by decide)).mono ?_; rintro e_ w_ ⟨rfl, ⟨n_, rfl⟩⟩) | (go_at_call 21; refine (with_c _ _ _ _ (by decide)).mono ?_; rintro e_ w_ ⟨rfl, ⟨n_, rfl⟩⟩))
        refine wp_region_list ?_
        refine load_hart (h := _) rfl (.tmp 3) rfl gk rfl (by repeat (with_reducible first | exact K_gk.out | apply Hb.put | apply Hb.putP | apply Hb.putV | apply Hb.putW | apply Hb.putH | apply Hb.far (Ne.symm N_ga_gk.out) | apply Hb.far (Ne.symm N_gr_gk.out) | apply Hb.drewN | apply Hb.drew)) ?_
        refine store_hart rfl (.tmp 2) (.tmp 60) rfl gr _ rfl rfl Ht.zero (by repeat (with_reducible first | exact K_gr.out | apply Hb.put | apply Hb.putP | apply Hb.putV | apply Hb.putW | apply Hb.putH | apply Hb.far (Ne.symm N_ga_gr.out) | apply Hb.far N_gr_gk.out | apply Hb.drewN | apply Hb.drew)) ?_
        go_wp2
        refine bodyPost_ret (results_cell_row rfl _ _ gr 25 _ (0, 0) _ rfl (Hb.putAll _ (by repeat (with_reducible first | exact K_gr.out | apply Hb.put | apply Hb.putP | apply Hb.putV | apply Hb.putW | apply Hb.putH | apply Hb.far (Ne.symm N_ga_gr.out) | apply Hb.far N_gr_gk.out | apply Hb.drewN | apply Hb.drew))) Try.underlying25 rfl (by rw [Ht.size]; exact hartSize)) rfl ?_
        exact ⟨by (first | rfl | (simp only [rmret, rmretS, hv, b11, b12, if_true, if_false, Bool.false_eq_true, cond_true, cond_false]; done) | (simp only [rmret, rmretS, hv, b11, b12, if_true, if_false, Bool.false_eq_true, cond_true, cond_false]; rfl)), setCells_below G_gr.out _ _ _ (by repeat (first | (with_reducible first | exact hB_8.out | apply pw_below_drewN | apply below_drew1 | refine below_set ?_ G_ga.out | refine below_set ?_ G_gr.out | refine below_set ?_ G_gk.out) | exact hB_8.out))⟩
      · skip
        have hu25 := Try.underlying25
        go_enter Try.func12, Try.ntmps12
        go_upto_region 1 with (first | ((with_reducible refine gate_dst (N := 1) rfl ?_); refine box_event ?hg (N := 1) ?hd (cs := h.cs) (t := 25) ?hr ?_; (case hd => rfl); (case hg => rfl); (case hr => first | (go_simp; done) | (go_simp; rfl)); intro ga hg w_1 H1 hb; have hB_2 := Lib.hid (below_step (Below.refl w.heap.size w) hb); have G_ga := Lib.hid (show w.heap.size ≤ ga by rw [hg]; exact ((Below.refl w.heap.size w)).size); have K_ga := Lib.hid (show Hb w_1 ga h from H1); clear hg hb H1) | ((with_reducible refine gate_dst (N := 2) rfl ?_); refine box_event ?hg (N := 2) ?hd (cs := Ht.zero.cs) (t := 25) ?hr ?_; (case hd => rfl); (case hg => rfl); (case hr => first | (go_simp; done) | (go_simp; rfl)); intro gr hg w_3 H1 hb; have hB_4 := Lib.hid (below_step hB_2.out hb); have G_gr := Lib.hid (show w.heap.size ≤ gr by rw [hg]; exact (hB_2.out).size); have N_ga_gr := Lib.hid (show ga ≠ gr by rw [hg]; exact Nat.ne_of_lt (K_ga.out.lt)); replace K_ga := Lib.hid (K_ga.out.below hb); have K_gr := Lib.hid (show Hb w_3 gr Ht.zero from H1); clear hg hb H1 hB_2; clear hu25))
        go_upto_region 1 with (first | (go_at_call 17; refine (bit_c _ _ _ (by decide)).mono ?_; rintro e_ w_ ⟨rfl, ⟨n_, rfl⟩⟩) | (go_at_call 21; refine (with_c _ _ _ _ (by decide)).mono ?_; rintro e_ w_ ⟨rfl, ⟨n_, rfl⟩⟩))
        have hu25 := Try.underlying25
        refine wp_region_list ?_
        refine load_hart (h := h) rfl (.tmp 1) rfl ga rfl (by repeat (with_reducible first | exact K_ga.out | apply Hb.put | apply Hb.putP | apply Hb.putV | apply Hb.putW | apply Hb.putH | apply Hb.far N_ga_gr.out | apply Hb.drewN | apply Hb.drew)) ?_
        refine box_event rfl (N := 3) rfl (cs := Ht.zero.cs) (t := 25) (by first | (go_simp; done) | (go_simp; rfl)) ?_
        intro gk hg w_5 H1 hb
        clear hu25
        have hB_7 := Lib.hid (below_step (by repeat (first | (with_reducible first | exact hB_4.out | apply pw_below_drewN | apply below_drew1 | refine below_set ?_ G_ga.out | refine below_set ?_ G_gr.out) | exact hB_4.out)) hb)
        have G_gk := Lib.hid (show w.heap.size ≤ gk by rw [hg]; exact below_size (w := w) (by repeat (first | (with_reducible first | exact hB_4.out | apply pw_below_drewN | apply below_drew1 | refine below_set ?_ G_ga.out | refine below_set ?_ G_gr.out) | exact hB_4.out)))
        have N_ga_gk := Lib.hid (show ga ≠ gk by rw [hg]; exact Nat.ne_of_lt (Hb.lt (h := h) (by repeat (with_reducible first | exact K_ga.out | apply Hb.put | apply Hb.putP | apply Hb.putV | apply Hb.putW | apply Hb.putH | apply Hb.far N_ga_gr.out | apply Hb.drewN | apply Hb.drew))))
        have N_gr_gk := Lib.hid (show gr ≠ gk by rw [hg]; exact Nat.ne_of_lt (Hb.lt (h := Ht.zero) (by repeat (with_reducible first | exact K_gr.out | apply Hb.put | apply Hb.putP | apply Hb.putV | apply Hb.putW | apply Hb.putH | apply Hb.far (Ne.symm N_ga_gr.out) | apply Hb.drewN | apply Hb.drew))))
        replace K_ga := Lib.hid (Hb.below (h := h) (by repeat (with_reducible first | exact K_ga.out | apply Hb.put | apply Hb.putP | apply Hb.putV | apply Hb.putW | apply Hb.putH | apply Hb.far N_ga_gr.out | apply Hb.drewN | apply Hb.drew)) hb)
        replace K_gr := Lib.hid (Hb.below (h := Ht.zero) (by repeat (with_reducible first | exact K_gr.out | apply Hb.put | apply Hb.putP | apply Hb.putV | apply Hb.putW | apply Hb.putH | apply Hb.far (Ne.symm N_ga_gr.out) | apply Hb.drewN | apply Hb.drew)) hb)
        have K_gk := Lib.hid (show Hb w_5 gk Ht.zero from H1)
        clear hg hb H1 hB_4
        refine store_hart rfl (.tmp 3) (.tmp 6) rfl gk h rfl rfl Ht.zero K_gk.out ?_
        have hB_8 := Lib.hid (setCells_below G_gk.out (Ht.cs h).toList 0 _ hB_7.out)
        replace K_ga := Lib.hid (Hb.farAll (vs := (Ht.cs h).toList) (o := 0) N_ga_gk.out K_ga.out)
        replace K_gr := Lib.hid (Hb.farAll (vs := (Ht.cs h).toList) (o := 0) N_gr_gk.out K_gr.out)
        replace K_gk := Lib.hid (Hb.putAll h K_gk.out)
        clear hB_7
        generalize World.setCells w_5 gk 0 (Ht.cs h).toList = w_6 at K_ga K_gr K_gk hB_8 ⊢
        have c_ga_38 := K_ga.out.u 38 rfl; have f_ga_38 := K_ga.out.fr 38
        have c_ga_46 := K_ga.out.u 46 rfl; have f_ga_46 := K_ga.out.fr 46
        have c_gk_0 := K_gk.out.u 0 rfl; have f_gk_0 := K_gk.out.fr 0
        have c_gk_33 := K_gk.out.p; have f_gk_33 := K_gk.out.fr 33
        have c_gk_34 := K_gk.out.cv; have f_gk_34 := K_gk.out.fr 34
        have c_gk_36 := K_gk.out.ch; have f_gk_36 := K_gk.out.fr 36
        have c_gk_37 := K_gk.out.u 37 rfl; have f_gk_37 := K_gk.out.fr 37
        have c_gk_38 := K_gk.out.u 38 rfl; have f_gk_38 := K_gk.out.fr 38
        go_upto_region 12 with (first | (go_at_call 17; refine (bit_c _ _ _ (by decide)).mono ?_; rintro e_ w_ ⟨rfl, ⟨n_, rfl⟩⟩) | (go_at_call 21; refine (with_c _ _ _ _ (by decide)).mono ?_; rintro e_ w_ ⟨rfl, ⟨n_, rfl⟩⟩))
        go_quiet (first | (go_at_call 17; refine (bit_c _ _ _ (by decide)).mono ?_; rintro e_ w_ ⟨rfl, ⟨n_, rfl⟩⟩; (try first | exact ⟨rfl, _, World.drewN_drewN _ _ _⟩ | exact ⟨rfl, _, Eq.trans (World.drewN_drewN _ _ _) (congrArg (World.drewN _) (Nat.add_assoc _ _ _))⟩)) | (go_at_call 21; refine (with_c _ _ _ _ (by decide)).mono ?_; rintro e_ w_ ⟨rfl, ⟨n_, rfl⟩⟩; (try first | exact ⟨rfl, _, World.drewN_drewN _ _ _⟩ | exact ⟨rfl, _, Eq.trans (World.drewN_drewN _ _ _) (congrArg (World.drewN _) (Nat.add_assoc _ _ _))⟩)))
        go_upto_region 22 with (first | (go_at_call 17; refine (bit_c _ _ _ (by decide)).mono ?_; rintro e_ w_ ⟨rfl, ⟨n_, rfl⟩⟩) | (go_at_call 21; refine (with_c _ _ _ _ (by decide)).mono ?_; rintro e_ w_ ⟨rfl, ⟨n_, rfl⟩⟩))
        refine wp_region_list ?_
        refine load_hart (h := _) rfl (.tmp 3) rfl gk rfl (by repeat (with_reducible first | exact K_gk.out | apply Hb.put | apply Hb.putP | apply Hb.putV | apply Hb.putW | apply Hb.putH | apply Hb.far (Ne.symm N_ga_gk.out) | apply Hb.far (Ne.symm N_gr_gk.out) | apply Hb.drewN | apply Hb.drew)) ?_
        refine store_hart rfl (.tmp 2) (.tmp 60) rfl gr _ rfl rfl Ht.zero (by repeat (with_reducible first | exact K_gr.out | apply Hb.put | apply Hb.putP | apply Hb.putV | apply Hb.putW | apply Hb.putH | apply Hb.far (Ne.symm N_ga_gr.out) | apply Hb.far N_gr_gk.out | apply Hb.drewN | apply Hb.drew)) ?_
        go_wp2
        refine bodyPost_ret (results_cell_row rfl _ _ gr 25 _ (0, 0) _ rfl (Hb.putAll _ (by repeat (with_reducible first | exact K_gr.out | apply Hb.put | apply Hb.putP | apply Hb.putV | apply Hb.putW | apply Hb.putH | apply Hb.far (Ne.symm N_ga_gr.out) | apply Hb.far N_gr_gk.out | apply Hb.drewN | apply Hb.drew))) Try.underlying25 rfl (by rw [Ht.size]; exact hartSize)) rfl ?_
        exact ⟨by (first | rfl | (simp only [rmret, rmretS, hv, b11, b12, if_true, if_false, Bool.false_eq_true, cond_true, cond_false]; done) | (simp only [rmret, rmretS, hv, b11, b12, if_true, if_false, Bool.false_eq_true, cond_true, cond_false]; rfl)), setCells_below G_gr.out _ _ _ (by repeat (first | (with_reducible first | exact hB_8.out | apply pw_below_drewN | apply below_drew1 | refine below_set ?_ G_ga.out | refine below_set ?_ G_gr.out | refine below_set ?_ G_gk.out) | exact hB_8.out))⟩
end Go.Proofs.Ytfehchhmghpfpaa.Hx
