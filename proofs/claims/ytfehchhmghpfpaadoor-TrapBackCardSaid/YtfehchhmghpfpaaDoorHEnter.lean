/- The hart that took a trap. (Walked; by a program of this session.) -/
import Derived.Test.YtfehchhmghpfpaaDoorHOne
set_option linter.unusedSimpArgs false
set_option linter.unusedVariables false
namespace Go.Proofs.YtfehchhmghpfpaaDoor.Hx
open Go.RowKit Go.Proofs.YtfehchhmghpfpaaDoor.Q Go.Proofs.YtfehchhmghpfpaaDoorW.PrintWords Go.Proofs.YtfehchhmghpfpaaDoorW.PrintLast Go.Proofs.YtfehchhmghpfpaaDoorW.PrintMore Go.Proofs.YtfehchhmghpfpaaDoor.Rg

def enterM (h h0 : Ht) (tc tv tv2 tn : Int) (tg : Bool) : Ht :=
  let h1 := ((((h0.set 46 (h.x 0)).set 47 tc).set 48 tv).set 49 tv2).set 50 tn
  let s := Go.bits .or .u64 (Go.bits .andNot .u64 (setV (setV (h.x 38) 7 (onV (h.x 38) 3)) 3 false) 6144) (IntKind.u64.wrap (IntKind.u64.wrap (Go.bits .and .u8 (h.x 33) 3) * 2048))
  let h2 := (h1.set 38 (setV (setV s 39 h.v) 38 tg)).set 33 3
  ({ h2 with v := false } : Ht).set 0 (placeV (h.x 43) tc)
def enterH (h h0 : Ht) (tc tv tv2 tn : Int) (tg : Bool) : Ht :=
  let h1 := ((((h0.set 54 (h.x 0)).set 55 tc).set 56 tv).set 64 tv2).set 65 tn
  let h2 := h1.set 38 (takenV (h.x 38) (h.x 33 == 1))
  let h3 := if h.v = true then h2.set 58 (setV (h.x 58) 8 (h.x 33 == 1)) else h2
  let h4 := (h3.set 58 (setV (setV (if h.v = true then setV (h.x 58) 8 (h.x 33 == 1) else h.x 58) 7 h.v) 6 tg)).set 33 1
  ({ h4 with v := false } : Ht).set 0 (placeV (h.x 51) tc)
def guestCause (tc : Int) : Int := if splitI tc = true then (if (splitN tc == 2) = true then IntKind.u64.wrap (tc - 1) else if (splitN tc == 6) = true then IntKind.u64.wrap (tc - 1) else if (splitN tc == 10) = true then IntKind.u64.wrap (tc - 1) else tc) else tc
def enterG (h h0 : Ht) (tc tv : Int) : Ht :=
  let h1 := ((h0.set 71 (h.x 0)).set 72 (guestCause tc)).set 73 tv
  (((h1.set 68 (takenV (h.x 68) (h.x 33 == 1))).set 33 1).set 0 (placeV (h.x 69) (guestCause tc)))
/-- The hart that took a trap. -/
def enter (h : Ht) (ti : Bool) (tc tv tv2 tn : Int) (tg : Bool) : Ht :=
  if ti = true then
    let h0 := ({ ({ h with wt := false } : Ht) with hl := false } : Ht).set 37 0
    if (toV h tc == 0) = true then enterM h h0 tc tv tv2 tn tg
    else if (toV h tc == 1) = true then enterH h h0 tc tv tv2 tn tg
    else if (toV h tc == 2) = true then enterG h h0 tc tv
    else h0
  else h

set_option maxHeartbeats 16000000 in
set_option maxRecDepth 100000 in
theorem enter_c (h : Ht) (ti : Bool) (tc tv tv2 tn : Int) (tg : Bool) (c0 : 0 ≤ tc) (c1 : tc < 18446744073709551616) (w : World) : Calls Tryd.prog 6 #[.agg h.cs, .agg #[.bool ti, .int .u64 tc, .int .u64 tv, .int .u64 tv2, .int .u64 tn, .bool tg]] w fun e w' => e = .returned (.agg (enter h ti tc tv tv2 tn tg).cs) ∧ Below w.heap.size w w' := by
  cases hi : ti
  · skip
    have C0 := Lib.hid c0; have C1 := Lib.hid c1
    clear c0 c1
    have hu25 := Tryd.underlying25
    go_enter Tryd.func6, Tryd.ntmps6
    have hu27 := Tryd.underlying27
    go_upto_region 2 with (first | ((with_reducible refine gate_dst (N := 2) rfl ?_); refine box_event ?hg (N := 2) ?hd (cs := h.cs) (t := 25) ?hr ?_; (case hd => rfl); (case hg => rfl); (case hr => first | (go_simp; done) | (go_simp; rfl)); intro ga hg w_1 H1 hb; have hB_2 := Lib.hid (below_step (Below.refl w.heap.size w) hb); have G_ga := Lib.hid (show w.heap.size ≤ ga by rw [hg]; exact ((Below.refl w.heap.size w)).size); have K_ga := Lib.hid (show Hb w_1 ga h from H1); clear hg hb H1) | ((with_reducible refine gate_dst (N := 3) rfl ?_); refine box_event ?hg (N := 3) ?hd (cs := #[.bool ti, .int .u64 tc, .int .u64 tv, .int .u64 tv2, .int .u64 tn, .bool tg]) (t := 27) ?hr ?_; (case hd => rfl); (case hg => rfl); (case hr => first | (go_simp; done) | (go_simp; rfl)); intro gt hg w_3 H1 hb; have hB_4 := Lib.hid (below_step hB_2.out hb); have G_gt := Lib.hid (show w.heap.size ≤ gt by rw [hg]; exact (hB_2.out).size); have N_ga_gt := Lib.hid (show ga ≠ gt by rw [hg]; exact Nat.ne_of_lt (K_ga.out.lt)); replace K_ga := Lib.hid (K_ga.out.below hb); have K_gt := Lib.hid (show w_3.heap[gt]? = some (.cells #[.bool ti, .int .u64 tc, .int .u64 tv, .int .u64 tv2, .int .u64 tn, .bool tg] 27 (0, 0)) from H1); clear hg hb H1 hB_2) | ((with_reducible refine gate_dst (N := 4) rfl ?_); refine box_event ?hg (N := 4) ?hd (cs := Ht.zero.cs) (t := 25) ?hr ?_; (case hd => rfl); (case hg => rfl); (case hr => first | (go_simp; done) | (go_simp; rfl)); intro gr hg w_5 H1 hb; have hB_6 := Lib.hid (below_step hB_4.out hb); have G_gr := Lib.hid (show w.heap.size ≤ gr by rw [hg]; exact (hB_4.out).size); have N_ga_gr := Lib.hid (show ga ≠ gr by rw [hg]; exact Nat.ne_of_lt (K_ga.out.lt)); have N_gt_gr := Lib.hid (show gt ≠ gr by rw [hg]; exact Nat.ne_of_lt (blk_lt K_gt.out)); replace K_ga := Lib.hid (K_ga.out.below hb); replace K_gt := Lib.hid (blk_below K_gt.out hb); have K_gr := Lib.hid (show Hb w_5 gr Ht.zero from H1); clear hg hb H1 hB_4; have c_gt_0 := (show World.cell? _ ⟨gt, 0, none⟩ = some (.bool ti) from (blk_cell K_gt.out 0).trans rfl); have f_gt_0 := blk_frozen K_gt.out 0; have c_gt_1 := (show World.cell? _ ⟨gt, 1, none⟩ = some (.int .u64 tc) from (blk_cell K_gt.out 1).trans rfl); have f_gt_1 := blk_frozen K_gt.out 1; clear hu25 hu27))
    refine wp_region_list ?_
    refine load_hart (h := _) rfl (.tmp 2) rfl ga rfl (by repeat (with_reducible first | exact K_ga.out | apply Hb.put | apply Hb.putP | apply Hb.putV | apply Hb.putW | apply Hb.putH | apply Hb.far N_ga_gt.out | apply Hb.far N_ga_gr.out | apply Hb.drewN | apply Hb.drew)) ?_
    refine store_hart rfl (.tmp 4) (.tmp 14) rfl gr _ rfl rfl Ht.zero (by repeat (with_reducible first | exact K_gr.out | apply Hb.put | apply Hb.putP | apply Hb.putV | apply Hb.putW | apply Hb.putH | apply Hb.far (Ne.symm N_ga_gr.out) | apply Hb.far (Ne.symm N_gt_gr.out) | apply Hb.drewN | apply Hb.drew)) ?_
    go_wp2
    refine bodyPost_ret (results_cell_row rfl _ _ gr 25 _ (0, 0) _ rfl (Hb.putAll _ (by repeat (with_reducible first | exact K_gr.out | apply Hb.put | apply Hb.putP | apply Hb.putV | apply Hb.putW | apply Hb.putH | apply Hb.far (Ne.symm N_ga_gr.out) | apply Hb.far (Ne.symm N_gt_gr.out) | apply Hb.drewN | apply Hb.drew))) Tryd.underlying25 rfl (by rw [Ht.size]; exact hartSize)) rfl ?_
    exact ⟨by (first | rfl | (simp only [enter, if_true, if_false, Bool.false_eq_true, cond_true, cond_false]; done) | (simp only [enter, if_true, if_false, Bool.false_eq_true, cond_true, cond_false]; rfl)), setCells_below G_gr.out _ _ _ (by repeat (first | (with_reducible first | exact hB_6.out | apply pw_below_drewN | apply below_drew1 | refine below_set ?_ G_ga.out | refine below_set ?_ G_gt.out | refine below_set ?_ G_gr.out) | exact hB_6.out))⟩
  · skip
    cases t0 : (toV h tc == 0)
    · skip
      cases t1 : (toV h tc == 1)
      · skip
        cases t2 : (toV h tc == 2)
        · skip
          have C0 := Lib.hid c0; have C1 := Lib.hid c1
          clear c0 c1
          have hu25 := Tryd.underlying25
          go_enter Tryd.func6, Tryd.ntmps6
          have hu27 := Tryd.underlying27
          go_upto_region 3 with (first | ((with_reducible refine gate_dst (N := 2) rfl ?_); refine box_event ?hg (N := 2) ?hd (cs := h.cs) (t := 25) ?hr ?_; (case hd => rfl); (case hg => rfl); (case hr => first | (go_simp; done) | (go_simp; rfl)); intro ga hg w_1 H1 hb; have hB_2 := Lib.hid (below_step (Below.refl w.heap.size w) hb); have G_ga := Lib.hid (show w.heap.size ≤ ga by rw [hg]; exact ((Below.refl w.heap.size w)).size); have K_ga := Lib.hid (show Hb w_1 ga h from H1); clear hg hb H1) | ((with_reducible refine gate_dst (N := 3) rfl ?_); refine box_event ?hg (N := 3) ?hd (cs := #[.bool ti, .int .u64 tc, .int .u64 tv, .int .u64 tv2, .int .u64 tn, .bool tg]) (t := 27) ?hr ?_; (case hd => rfl); (case hg => rfl); (case hr => first | (go_simp; done) | (go_simp; rfl)); intro gt hg w_3 H1 hb; have hB_4 := Lib.hid (below_step hB_2.out hb); have G_gt := Lib.hid (show w.heap.size ≤ gt by rw [hg]; exact (hB_2.out).size); have N_ga_gt := Lib.hid (show ga ≠ gt by rw [hg]; exact Nat.ne_of_lt (K_ga.out.lt)); replace K_ga := Lib.hid (K_ga.out.below hb); have K_gt := Lib.hid (show w_3.heap[gt]? = some (.cells #[.bool ti, .int .u64 tc, .int .u64 tv, .int .u64 tv2, .int .u64 tn, .bool tg] 27 (0, 0)) from H1); clear hg hb H1 hB_2) | ((with_reducible refine gate_dst (N := 4) rfl ?_); refine box_event ?hg (N := 4) ?hd (cs := Ht.zero.cs) (t := 25) ?hr ?_; (case hd => rfl); (case hg => rfl); (case hr => first | (go_simp; done) | (go_simp; rfl)); intro gr hg w_5 H1 hb; have hB_6 := Lib.hid (below_step hB_4.out hb); have G_gr := Lib.hid (show w.heap.size ≤ gr by rw [hg]; exact (hB_4.out).size); have N_ga_gr := Lib.hid (show ga ≠ gr by rw [hg]; exact Nat.ne_of_lt (K_ga.out.lt)); have N_gt_gr := Lib.hid (show gt ≠ gr by rw [hg]; exact Nat.ne_of_lt (blk_lt K_gt.out)); replace K_ga := Lib.hid (K_ga.out.below hb); replace K_gt := Lib.hid (blk_below K_gt.out hb); have K_gr := Lib.hid (show Hb w_5 gr Ht.zero from H1); clear hg hb H1 hB_4; have c_gt_0 := (show World.cell? _ ⟨gt, 0, none⟩ = some (.bool ti) from (blk_cell K_gt.out 0).trans rfl); have f_gt_0 := blk_frozen K_gt.out 0; have c_gt_1 := (show World.cell? _ ⟨gt, 1, none⟩ = some (.int .u64 tc) from (blk_cell K_gt.out 1).trans rfl); have f_gt_1 := blk_frozen K_gt.out 1; clear hu25 hu27))
          refine wp_region_list ?_
          refine load_hart (h := h) rfl (.tmp 2) rfl ga rfl K_ga.out ?_
          go_wp2_with fail
          refine (to_c h tc _ C0.out C1.out).mono ?_
          rintro e_7 w_8 ⟨rfl, hb⟩
          clear c_gt_0 f_gt_0 c_gt_1 f_gt_1
          have hB_9 := Lib.hid (below_step hB_6.out hb)
          replace K_ga := Lib.hid (K_ga.out.below hb)
          replace K_gt := Lib.hid (blk_below K_gt.out hb)
          replace K_gr := Lib.hid (K_gr.out.below hb)
          clear hb hB_6
          have c_gt_1 := (show World.cell? _ ⟨gt, 1, none⟩ = some (.int .u64 tc) from (blk_cell K_gt.out 1).trans rfl); have f_gt_1 := blk_frozen K_gt.out 1
          have c_gt_2 := (show World.cell? _ ⟨gt, 2, none⟩ = some (.int .u64 tv) from (blk_cell K_gt.out 2).trans rfl); have f_gt_2 := blk_frozen K_gt.out 2
          have c_gt_3 := (show World.cell? _ ⟨gt, 3, none⟩ = some (.int .u64 tv2) from (blk_cell K_gt.out 3).trans rfl); have f_gt_3 := blk_frozen K_gt.out 3
          have c_gt_4 := (show World.cell? _ ⟨gt, 4, none⟩ = some (.int .u64 tn) from (blk_cell K_gt.out 4).trans rfl); have f_gt_4 := blk_frozen K_gt.out 4
          have c_gt_5 := (show World.cell? _ ⟨gt, 5, none⟩ = some (.bool tg) from (blk_cell K_gt.out 5).trans rfl); have f_gt_5 := blk_frozen K_gt.out 5
          have c_ga_0 := K_ga.out.u 0 rfl; have f_ga_0 := K_ga.out.fr 0
          have c_ga_33 := K_ga.out.p; have f_ga_33 := K_ga.out.fr 33
          have c_ga_34 := K_ga.out.cv; have f_ga_34 := K_ga.out.fr 34
          have c_ga_35 := K_ga.out.cw; have f_ga_35 := K_ga.out.fr 35
          have c_ga_36 := K_ga.out.ch; have f_ga_36 := K_ga.out.fr 36
          have c_ga_37 := K_ga.out.u 37 rfl; have f_ga_37 := K_ga.out.fr 37
          have c_ga_38 := K_ga.out.u 38 rfl; have f_ga_38 := K_ga.out.fr 38
          go_upto_region 28 with (first | (go_at_call 18; refine (on_c _ _ _ (by decide)).mono ?_; rintro e_ w_ ⟨rfl, ⟨n_, rfl⟩⟩) | (go_at_call 17; refine (set_c _ _ _ _ (by decide)).mono ?_; rintro e_ w_ ⟨rfl, ⟨n_, rfl⟩⟩) | (go_at_call 19; refine (place_c _ _ _).mono ?_; rintro e_ w_ ⟨rfl, ⟨n_, rfl⟩⟩) | (go_at_call 20; refine (taken_c _ _ _).mono ?_; rintro e_ w_ ⟨rfl, ⟨n_, rfl⟩⟩) | (go_at_call 21; refine (split_c _ _).mono ?_; rintro e_ w_ ⟨rfl, ⟨n_, rfl⟩⟩))
          refine wp_region_list ?_
          refine load_hart (h := _) rfl (.tmp 2) rfl ga rfl (by repeat (with_reducible first | exact K_ga.out | apply Hb.put | apply Hb.putP | apply Hb.putV | apply Hb.putW | apply Hb.putH | apply Hb.far N_ga_gt.out | apply Hb.far N_ga_gr.out | apply Hb.drewN | apply Hb.drew)) ?_
          refine store_hart rfl (.tmp 4) (.tmp 163) rfl gr _ rfl rfl Ht.zero (by repeat (with_reducible first | exact K_gr.out | apply Hb.put | apply Hb.putP | apply Hb.putV | apply Hb.putW | apply Hb.putH | apply Hb.far (Ne.symm N_ga_gr.out) | apply Hb.far (Ne.symm N_gt_gr.out) | apply Hb.drewN | apply Hb.drew)) ?_
          go_wp2
          refine bodyPost_ret (results_cell_row rfl _ _ gr 25 _ (0, 0) _ rfl (Hb.putAll _ (by repeat (with_reducible first | exact K_gr.out | apply Hb.put | apply Hb.putP | apply Hb.putV | apply Hb.putW | apply Hb.putH | apply Hb.far (Ne.symm N_ga_gr.out) | apply Hb.far (Ne.symm N_gt_gr.out) | apply Hb.drewN | apply Hb.drew))) Tryd.underlying25 rfl (by rw [Ht.size]; exact hartSize)) rfl ?_
          exact ⟨by (first | rfl | (simp only [enter, enterM, enterH, enterG, guestCause, t0, t1, t2, if_true, if_false, Bool.false_eq_true, cond_true, cond_false]; done) | (simp only [enter, enterM, enterH, enterG, guestCause, t0, t1, t2, if_true, if_false, Bool.false_eq_true, cond_true, cond_false]; rfl)), setCells_below G_gr.out _ _ _ (by repeat (first | (with_reducible first | exact hB_9.out | apply pw_below_drewN | apply below_drew1 | refine below_set ?_ G_ga.out | refine below_set ?_ G_gt.out | refine below_set ?_ G_gr.out) | exact hB_9.out))⟩
        · skip
          cases hs : splitI tc
          · skip
            have C0 := Lib.hid c0; have C1 := Lib.hid c1
            clear c0 c1
            have hu25 := Tryd.underlying25
            go_enter Tryd.func6, Tryd.ntmps6
            have hu27 := Tryd.underlying27
            go_upto_region 3 with (first | ((with_reducible refine gate_dst (N := 2) rfl ?_); refine box_event ?hg (N := 2) ?hd (cs := h.cs) (t := 25) ?hr ?_; (case hd => rfl); (case hg => rfl); (case hr => first | (go_simp; done) | (go_simp; rfl)); intro ga hg w_1 H1 hb; have hB_2 := Lib.hid (below_step (Below.refl w.heap.size w) hb); have G_ga := Lib.hid (show w.heap.size ≤ ga by rw [hg]; exact ((Below.refl w.heap.size w)).size); have K_ga := Lib.hid (show Hb w_1 ga h from H1); clear hg hb H1) | ((with_reducible refine gate_dst (N := 3) rfl ?_); refine box_event ?hg (N := 3) ?hd (cs := #[.bool ti, .int .u64 tc, .int .u64 tv, .int .u64 tv2, .int .u64 tn, .bool tg]) (t := 27) ?hr ?_; (case hd => rfl); (case hg => rfl); (case hr => first | (go_simp; done) | (go_simp; rfl)); intro gt hg w_3 H1 hb; have hB_4 := Lib.hid (below_step hB_2.out hb); have G_gt := Lib.hid (show w.heap.size ≤ gt by rw [hg]; exact (hB_2.out).size); have N_ga_gt := Lib.hid (show ga ≠ gt by rw [hg]; exact Nat.ne_of_lt (K_ga.out.lt)); replace K_ga := Lib.hid (K_ga.out.below hb); have K_gt := Lib.hid (show w_3.heap[gt]? = some (.cells #[.bool ti, .int .u64 tc, .int .u64 tv, .int .u64 tv2, .int .u64 tn, .bool tg] 27 (0, 0)) from H1); clear hg hb H1 hB_2) | ((with_reducible refine gate_dst (N := 4) rfl ?_); refine box_event ?hg (N := 4) ?hd (cs := Ht.zero.cs) (t := 25) ?hr ?_; (case hd => rfl); (case hg => rfl); (case hr => first | (go_simp; done) | (go_simp; rfl)); intro gr hg w_5 H1 hb; have hB_6 := Lib.hid (below_step hB_4.out hb); have G_gr := Lib.hid (show w.heap.size ≤ gr by rw [hg]; exact (hB_4.out).size); have N_ga_gr := Lib.hid (show ga ≠ gr by rw [hg]; exact Nat.ne_of_lt (K_ga.out.lt)); have N_gt_gr := Lib.hid (show gt ≠ gr by rw [hg]; exact Nat.ne_of_lt (blk_lt K_gt.out)); replace K_ga := Lib.hid (K_ga.out.below hb); replace K_gt := Lib.hid (blk_below K_gt.out hb); have K_gr := Lib.hid (show Hb w_5 gr Ht.zero from H1); clear hg hb H1 hB_4; have c_gt_0 := (show World.cell? _ ⟨gt, 0, none⟩ = some (.bool ti) from (blk_cell K_gt.out 0).trans rfl); have f_gt_0 := blk_frozen K_gt.out 0; have c_gt_1 := (show World.cell? _ ⟨gt, 1, none⟩ = some (.int .u64 tc) from (blk_cell K_gt.out 1).trans rfl); have f_gt_1 := blk_frozen K_gt.out 1; clear hu25 hu27))
            refine wp_region_list ?_
            refine load_hart (h := h) rfl (.tmp 2) rfl ga rfl K_ga.out ?_
            go_wp2_with fail
            refine (to_c h tc _ C0.out C1.out).mono ?_
            rintro e_7 w_8 ⟨rfl, hb⟩
            clear c_gt_0 f_gt_0 c_gt_1 f_gt_1
            have hB_9 := Lib.hid (below_step hB_6.out hb)
            replace K_ga := Lib.hid (K_ga.out.below hb)
            replace K_gt := Lib.hid (blk_below K_gt.out hb)
            replace K_gr := Lib.hid (K_gr.out.below hb)
            clear hb hB_6
            have c_gt_1 := (show World.cell? _ ⟨gt, 1, none⟩ = some (.int .u64 tc) from (blk_cell K_gt.out 1).trans rfl); have f_gt_1 := blk_frozen K_gt.out 1
            have c_gt_2 := (show World.cell? _ ⟨gt, 2, none⟩ = some (.int .u64 tv) from (blk_cell K_gt.out 2).trans rfl); have f_gt_2 := blk_frozen K_gt.out 2
            have c_gt_3 := (show World.cell? _ ⟨gt, 3, none⟩ = some (.int .u64 tv2) from (blk_cell K_gt.out 3).trans rfl); have f_gt_3 := blk_frozen K_gt.out 3
            have c_gt_4 := (show World.cell? _ ⟨gt, 4, none⟩ = some (.int .u64 tn) from (blk_cell K_gt.out 4).trans rfl); have f_gt_4 := blk_frozen K_gt.out 4
            have c_gt_5 := (show World.cell? _ ⟨gt, 5, none⟩ = some (.bool tg) from (blk_cell K_gt.out 5).trans rfl); have f_gt_5 := blk_frozen K_gt.out 5
            have c_ga_0 := K_ga.out.u 0 rfl; have f_ga_0 := K_ga.out.fr 0
            have c_ga_33 := K_ga.out.p; have f_ga_33 := K_ga.out.fr 33
            have c_ga_34 := K_ga.out.cv; have f_ga_34 := K_ga.out.fr 34
            have c_ga_35 := K_ga.out.cw; have f_ga_35 := K_ga.out.fr 35
            have c_ga_36 := K_ga.out.ch; have f_ga_36 := K_ga.out.fr 36
            have c_ga_37 := K_ga.out.u 37 rfl; have f_ga_37 := K_ga.out.fr 37
            have c_ga_38 := K_ga.out.u 38 rfl; have f_ga_38 := K_ga.out.fr 38
            have c_ga_68 := K_ga.out.u 68 rfl; have f_ga_68 := K_ga.out.fr 68
            have c_ga_69 := K_ga.out.u 69 rfl; have f_ga_69 := K_ga.out.fr 69
            have c_ga_71 := K_ga.out.u 71 rfl; have f_ga_71 := K_ga.out.fr 71
            have c_ga_72 := K_ga.out.u 72 rfl; have f_ga_72 := K_ga.out.fr 72
            have c_ga_73 := K_ga.out.u 73 rfl; have f_ga_73 := K_ga.out.fr 73
            go_upto_region 25 with (first | (go_at_call 18; refine (on_c _ _ _ (by decide)).mono ?_; rintro e_ w_ ⟨rfl, ⟨n_, rfl⟩⟩) | (go_at_call 17; refine (set_c _ _ _ _ (by decide)).mono ?_; rintro e_ w_ ⟨rfl, ⟨n_, rfl⟩⟩) | (go_at_call 19; refine (place_c _ _ _).mono ?_; rintro e_ w_ ⟨rfl, ⟨n_, rfl⟩⟩) | (go_at_call 20; refine (taken_c _ _ _).mono ?_; rintro e_ w_ ⟨rfl, ⟨n_, rfl⟩⟩) | (go_at_call 21; refine (split_c _ _).mono ?_; rintro e_ w_ ⟨rfl, ⟨n_, rfl⟩⟩))
            refine start_ (n := 11) (S := fun w' => w'.cell? ⟨ga, 0, none⟩ = some (.int .u64 (h.x 0)) ∧ w'.cell? ⟨gt, 2, none⟩ = some (.int .u64 tv)) (ds := []) #[false, false, false, false, false, false, false, false, false, false, false] (by kernel_rfl) rfl rfl ⟨(show World.cell? _ ⟨ga, 0, none⟩ = some (.int .u64 (h.x 0)) by first | (go_simp; done) | (go_simp; rfl)), (show World.cell? _ ⟨gt, 2, none⟩ = some (.int .u64 tv) by first | (go_simp; done) | (go_simp; rfl))⟩ (fun hHeld => ?_)
            have HH0 := Lib.hid hHeld
            clear hHeld
            refine world_any ga (by repeat (with_reducible first | exact K_ga.out | apply Hb.put | apply Hb.putP | apply Hb.putV | apply Hb.putW | apply Hb.putH | apply Hb.far N_ga_gt.out | apply Hb.far N_ga_gr.out | apply Hb.drewN | apply Hb.drew)) (fun w' => Below w.heap.size w w' ∧ w'.heap[gt]? = some (.cells #[.bool ti, .int .u64 tc, .int .u64 tv, .int .u64 tv2, .int .u64 tn, .bool tg] 27 (0, 0)) ∧ Hb w' gr Ht.zero ∧ (w'.cell? ⟨ga, 0, none⟩ = some (.int .u64 (h.x 0)) ∧ w'.cell? ⟨gt, 2, none⟩ = some (.int .u64 tv))) ⟨(by repeat (first | (with_reducible first | exact hB_9.out | apply pw_below_drewN | apply below_drew1 | refine below_set ?_ G_ga.out | refine below_set ?_ G_gt.out | refine below_set ?_ G_gr.out) | exact hB_9.out)), (by repeat (with_reducible first | exact K_gt.out | apply blk_drewN | apply blk_drew | refine blk_far ?_ (show gt ≠ _ from (Ne.symm N_ga_gt.out)) _ | refine blk_far ?_ (show gt ≠ _ from N_gt_gr.out) _)), (by repeat (with_reducible first | exact K_gr.out | apply Hb.put | apply Hb.putP | apply Hb.putV | apply Hb.putW | apply Hb.putH | apply Hb.far (Ne.symm N_ga_gr.out) | apply Hb.far (Ne.symm N_gt_gr.out) | apply Hb.drewN | apply Hb.drew)), HH0.out⟩ ?_
            clear HH0
            clear c_gt_1 f_gt_1 c_gt_2 f_gt_2 c_gt_3 f_gt_3 c_gt_4 f_gt_4 c_gt_5 f_gt_5 c_ga_0 f_ga_0 c_ga_33 f_ga_33 c_ga_34 f_ga_34 c_ga_35 f_ga_35 c_ga_36 f_ga_36 c_ga_37 f_ga_37 c_ga_38 f_ga_38 c_ga_68 f_ga_68 c_ga_69 f_ga_69 c_ga_71 f_ga_71 c_ga_72 f_ga_72 c_ga_73 f_ga_73
            clear K_ga K_gt K_gr hB_9
            rintro w_10 q_ ⟨b_, q_gt, q_gr, hHeld⟩
            have K_ga := Lib.hid q_; have hB_11 := Lib.hid b_; have K_gt := Lib.hid q_gt; have K_gr := Lib.hid q_gr
            clear q_ b_ q_gt q_gr
            refine pure_ (i := 0) (N := some 144) (v := ?_) (a' := ?_) #[true, false, false, false, false, false, false, false, false, false, false] rfl rfl (by kernel_rfl) (fun _ _ _ h => h) (Or.inl ⟨by rfl, ?_⟩) ?_ ?_
            rotate_left
            · intro w'
              go_simp
              with_reducible rfl
            rotate_left
            · simp only [Act.put, List.setIfInBounds_toArray, List.set_cons_zero, List.set_cons_succ, i64_w, i32_w]
              rfl
            refine pure_ (i := 2) (N := some 146) (v := ?_) (a' := ?_) #[true, false, true, false, false, false, false, false, false, false, false] rfl rfl (by kernel_rfl) (fun _ _ _ h => h) (Or.inl ⟨by rfl, ?_⟩) ?_ ?_
            rotate_left
            · intro w'
              go_simp
              with_reducible rfl
            rotate_left
            · simp only [Act.put, List.setIfInBounds_toArray, List.set_cons_zero, List.set_cons_succ, i64_w, i32_w]
              rfl
            refine pure_ (i := 3) (N := some 147) (v := ?_) (a' := ?_) #[true, false, true, true, false, false, false, false, false, false, false] rfl rfl (by kernel_rfl) (fun _ _ _ h => h) (Or.inl ⟨by rfl, ?_⟩) ?_ ?_
            rotate_left
            · intro w'
              go_simp
              with_reducible rfl
            rotate_left
            · simp only [Act.put, List.setIfInBounds_toArray, List.set_cons_zero, List.set_cons_succ, i64_w, i32_w]
              rfl
            refine take_ (i := 1) (N := some 145) (v := ?_) (a' := ?_) #[true, true, true, true, false, false, false, false, false, false, false] rfl rfl (by kernel_rfl) (fun _ _ _ h => h) (Or.inl ⟨by rfl, ?_⟩) hHeld ?_ ?_
            rotate_left
            · rintro w' ⟨s0, s1⟩
              go_simp
              with_reducible rfl
            rotate_left
            · simp only [Act.put, List.setIfInBounds_toArray, List.set_cons_zero, List.set_cons_succ, i64_w, i32_w]
              rfl
            refine pure_ (i := 5) (N := some 149) (v := ?_) (a' := ?_) #[true, true, true, true, false, true, false, false, false, false, false] rfl rfl (by kernel_rfl) (fun _ _ _ h => h) (Or.inl ⟨by rfl, ?_⟩) ?_ ?_
            rotate_left
            · intro w'
              go_simp
              with_reducible rfl
            rotate_left
            · simp only [Act.put, List.setIfInBounds_toArray, List.set_cons_zero, List.set_cons_succ, i64_w, i32_w]
              rfl
            refine take_ (i := 4) (N := some 148) (v := ?_) (a' := ?_) #[true, true, true, true, true, true, false, false, false, false, false] rfl rfl (by kernel_rfl) (fun _ _ _ h => h) (Or.inl ⟨by rfl, ?_⟩) hHeld ?_ ?_
            rotate_left
            · rintro w' ⟨s0, s1⟩
              go_simp
              with_reducible rfl
            rotate_left
            · simp only [Act.put, List.setIfInBounds_toArray, List.set_cons_zero, List.set_cons_succ, i64_w, i32_w]
              rfl
            have HH := Lib.hid hHeld
            clear hHeld
            refine one_ (i := 6) (N := none) #[true, true, true, true, true, true, true, false, false, false, false] rfl rfl (by kernel_rfl) (by decide) (fun K hK => ?_)
            refine skipH (h := _) (v := .int .u64 (h.x 0)) (by rfl) rfl rfl rfl rfl (by kernel_rfl) rfl rfl K_ga.out (by decide) ?_
            have q_ := Lib.hid (Hb.put 71 ((h.x 0)) K_ga.out)
            have hB_13 := Lib.hid (below_set (j := 71) (v := (.int .u64 (h.x 0))) hB_11.out G_ga.out)
            have q_gt := Lib.hid (blk_far K_gt.out (p := ⟨ga, 71, none⟩) (Ne.symm N_ga_gt.out) (.int .u64 (h.x 0)))
            have q_gr := Lib.hid (Hb.far (j := 71) (u := (.int .u64 (h.x 0))) (Ne.symm N_ga_gr.out) K_gr.out)
            have s_0 := (cell_ne (u := (.int .u64 (h.x 0))) HH.out.1 (show 0 ≠ 71 by decide))
            have s_1 := (cell_far' (j := 71) (u := (.int .u64 (h.x 0))) HH.out.2 (Ne.symm N_ga_gt.out))
            clear HH K_ga K_gt K_gr hB_11
            generalize World.setCell w_10 ⟨ga, 71, none⟩ (.int .u64 (h.x 0)) = w_12 at q_ hB_13 q_gt q_gr s_0 s_1 ⊢
            have K_ga := q_; clear q_
            have K_gt := q_gt; clear q_gt
            have K_gr := q_gr; clear q_gr
            refine hK.out _ _ ⟨s_0, s_1⟩ (fun hHeld => ?_)
            have HH := Lib.hid hHeld
            clear hHeld s_0 s_1
            clear hK K
            refine pure_ (i := 7) (N := some 150) (v := ?_) (a' := ?_) #[true, true, true, true, true, true, true, true, false, false, false] rfl rfl (by kernel_rfl) (fun _ _ _ h => h) (Or.inl ⟨by rfl, ?_⟩) ?_ ?_
            rotate_left
            · intro w'
              go_simp
              with_reducible rfl
            rotate_left
            · simp only [Act.put, List.setIfInBounds_toArray, List.set_cons_zero, List.set_cons_succ, i64_w, i32_w]
              rfl
            refine one_ (i := 8) (N := none) #[true, true, true, true, true, true, true, true, true, false, false] rfl rfl (by kernel_rfl) (by decide) (fun K hK => ?_)
            refine skipH (h := _) (v := .int .u64 tc) (by rfl) rfl rfl rfl rfl (by kernel_rfl) rfl rfl K_ga.out (by decide) ?_
            have q_ := Lib.hid (Hb.put 72 (tc) K_ga.out)
            have hB_15 := Lib.hid (below_set (j := 72) (v := (.int .u64 tc)) hB_13.out G_ga.out)
            have q_gt := Lib.hid (blk_far K_gt.out (p := ⟨ga, 72, none⟩) (Ne.symm N_ga_gt.out) (.int .u64 tc))
            have q_gr := Lib.hid (Hb.far (j := 72) (u := (.int .u64 tc)) (Ne.symm N_ga_gr.out) K_gr.out)
            have s_0 := (cell_ne (u := (.int .u64 tc)) HH.out.1 (show 0 ≠ 72 by decide))
            have s_1 := (cell_far' (j := 72) (u := (.int .u64 tc)) HH.out.2 (Ne.symm N_ga_gt.out))
            clear HH K_ga K_gt K_gr hB_13
            generalize World.setCell w_12 ⟨ga, 72, none⟩ (.int .u64 tc) = w_14 at q_ hB_15 q_gt q_gr s_0 s_1 ⊢
            have K_ga := q_; clear q_
            have K_gt := q_gt; clear q_gt
            have K_gr := q_gr; clear q_gr
            refine hK.out _ _ ⟨s_0, s_1⟩ (fun hHeld => ?_)
            have HH := Lib.hid hHeld
            clear hHeld s_0 s_1
            clear hK K
            refine pure_ (i := 9) (N := some 151) (v := ?_) (a' := ?_) #[true, true, true, true, true, true, true, true, true, true, false] rfl rfl (by kernel_rfl) (fun _ _ _ h => h) (Or.inl ⟨by rfl, ?_⟩) ?_ ?_
            rotate_left
            · intro w'
              go_simp
              with_reducible rfl
            rotate_left
            · simp only [Act.put, List.setIfInBounds_toArray, List.set_cons_zero, List.set_cons_succ, i64_w, i32_w]
              rfl
            refine one_ (i := 10) (N := none) #[true, true, true, true, true, true, true, true, true, true, true] rfl rfl (by kernel_rfl) (by decide) (fun K hK => ?_)
            refine skipH (h := _) (v := .int .u64 tv) (by rfl) rfl rfl rfl rfl (by kernel_rfl) rfl rfl K_ga.out (by decide) ?_
            have q_ := Lib.hid (Hb.put 73 (tv) K_ga.out)
            have hB_17 := Lib.hid (below_set (j := 73) (v := (.int .u64 tv)) hB_15.out G_ga.out)
            have q_gt := Lib.hid (blk_far K_gt.out (p := ⟨ga, 73, none⟩) (Ne.symm N_ga_gt.out) (.int .u64 tv))
            have q_gr := Lib.hid (Hb.far (j := 73) (u := (.int .u64 tv)) (Ne.symm N_ga_gr.out) K_gr.out)
            have s_0 := (cell_ne (u := (.int .u64 tv)) HH.out.1 (show 0 ≠ 73 by decide))
            have s_1 := (cell_far' (j := 73) (u := (.int .u64 tv)) HH.out.2 (Ne.symm N_ga_gt.out))
            clear HH K_ga K_gt K_gr hB_15
            generalize World.setCell w_14 ⟨ga, 73, none⟩ (.int .u64 tv) = w_16 at q_ hB_17 q_gt q_gr s_0 s_1 ⊢
            have K_ga := q_; clear q_
            have K_gt := q_gt; clear q_gt
            have K_gr := q_gr; clear q_gr
            refine hK.out _ _ ⟨s_0, s_1⟩ (fun hHeld => ?_)
            have HH := Lib.hid hHeld
            clear hHeld s_0 s_1
            clear hK K
            refine done_ (by kernel_rfl) ?_
            try clear HH
            have c_gt_1 := (show World.cell? _ ⟨gt, 1, none⟩ = some (.int .u64 tc) from (blk_cell K_gt.out 1).trans rfl); have f_gt_1 := blk_frozen K_gt.out 1
            have c_ga_33 := (show World.cell? _ ⟨ga, 33, none⟩ = some (.int .u8 (h.x 33)) from (K_ga.out.p).trans rfl); have f_ga_33 := K_ga.out.fr 33
            have c_ga_34 := (show World.cell? _ ⟨ga, 34, none⟩ = some (.bool h.v) from (K_ga.out.cv).trans rfl); have f_ga_34 := K_ga.out.fr 34
            have c_ga_0 := (show World.cell? _ ⟨ga, 0, none⟩ = some (.int .u64 (h.x 0)) from (K_ga.out.u 0 rfl).trans rfl); have f_ga_0 := K_ga.out.fr 0
            have c_ga_68 := (show World.cell? _ ⟨ga, 68, none⟩ = some (.int .u64 (h.x 68)) from (K_ga.out.u 68 rfl).trans rfl); have f_ga_68 := K_ga.out.fr 68
            have c_ga_69 := (show World.cell? _ ⟨ga, 69, none⟩ = some (.int .u64 (h.x 69)) from (K_ga.out.u 69 rfl).trans rfl); have f_ga_69 := K_ga.out.fr 69
            go_upto_region 28 with (first | (go_at_call 18; refine (on_c _ _ _ (by decide)).mono ?_; rintro e_ w_ ⟨rfl, ⟨n_, rfl⟩⟩) | (go_at_call 17; refine (set_c _ _ _ _ (by decide)).mono ?_; rintro e_ w_ ⟨rfl, ⟨n_, rfl⟩⟩) | (go_at_call 19; refine (place_c _ _ _).mono ?_; rintro e_ w_ ⟨rfl, ⟨n_, rfl⟩⟩) | (go_at_call 20; refine (taken_c _ _ _).mono ?_; rintro e_ w_ ⟨rfl, ⟨n_, rfl⟩⟩) | (go_at_call 21; refine (split_c _ _).mono ?_; rintro e_ w_ ⟨rfl, ⟨n_, rfl⟩⟩))
            refine wp_region_list ?_
            refine load_hart (h := _) rfl (.tmp 2) rfl ga rfl (by repeat (with_reducible first | exact K_ga.out | apply Hb.put | apply Hb.putP | apply Hb.putV | apply Hb.putW | apply Hb.putH | apply Hb.far N_ga_gt.out | apply Hb.far N_ga_gr.out | apply Hb.drewN | apply Hb.drew)) ?_
            refine store_hart rfl (.tmp 4) (.tmp 163) rfl gr _ rfl rfl Ht.zero (by repeat (with_reducible first | exact K_gr.out | apply Hb.put | apply Hb.putP | apply Hb.putV | apply Hb.putW | apply Hb.putH | apply Hb.far (Ne.symm N_ga_gr.out) | apply Hb.far (Ne.symm N_gt_gr.out) | apply Hb.drewN | apply Hb.drew)) ?_
            go_wp2
            refine bodyPost_ret (results_cell_row rfl _ _ gr 25 _ (0, 0) _ rfl (Hb.putAll _ (by repeat (with_reducible first | exact K_gr.out | apply Hb.put | apply Hb.putP | apply Hb.putV | apply Hb.putW | apply Hb.putH | apply Hb.far (Ne.symm N_ga_gr.out) | apply Hb.far (Ne.symm N_gt_gr.out) | apply Hb.drewN | apply Hb.drew))) Tryd.underlying25 rfl (by rw [Ht.size]; exact hartSize)) rfl ?_
            exact ⟨by (first | rfl | (simp only [enter, enterM, enterH, enterG, guestCause, t0, t1, t2, hs, if_true, if_false, Bool.false_eq_true, cond_true, cond_false]; done) | (simp only [enter, enterM, enterH, enterG, guestCause, t0, t1, t2, hs, if_true, if_false, Bool.false_eq_true, cond_true, cond_false]; rfl)), setCells_below G_gr.out _ _ _ (by repeat (first | (with_reducible first | exact hB_17.out | apply pw_below_drewN | apply below_drew1 | refine below_set ?_ G_ga.out | refine below_set ?_ G_gt.out | refine below_set ?_ G_gr.out) | exact hB_17.out))⟩
          · skip
            cases n2 : (splitN tc == 2)
            · skip
              cases n6 : (splitN tc == 6)
              · skip
                cases n10 : (splitN tc == 10)
                · skip
                  have C0 := Lib.hid c0; have C1 := Lib.hid c1
                  clear c0 c1
                  have hu25 := Tryd.underlying25
                  go_enter Tryd.func6, Tryd.ntmps6
                  have hu27 := Tryd.underlying27
                  go_upto_region 3 with (first | ((with_reducible refine gate_dst (N := 2) rfl ?_); refine box_event ?hg (N := 2) ?hd (cs := h.cs) (t := 25) ?hr ?_; (case hd => rfl); (case hg => rfl); (case hr => first | (go_simp; done) | (go_simp; rfl)); intro ga hg w_1 H1 hb; have hB_2 := Lib.hid (below_step (Below.refl w.heap.size w) hb); have G_ga := Lib.hid (show w.heap.size ≤ ga by rw [hg]; exact ((Below.refl w.heap.size w)).size); have K_ga := Lib.hid (show Hb w_1 ga h from H1); clear hg hb H1) | ((with_reducible refine gate_dst (N := 3) rfl ?_); refine box_event ?hg (N := 3) ?hd (cs := #[.bool ti, .int .u64 tc, .int .u64 tv, .int .u64 tv2, .int .u64 tn, .bool tg]) (t := 27) ?hr ?_; (case hd => rfl); (case hg => rfl); (case hr => first | (go_simp; done) | (go_simp; rfl)); intro gt hg w_3 H1 hb; have hB_4 := Lib.hid (below_step hB_2.out hb); have G_gt := Lib.hid (show w.heap.size ≤ gt by rw [hg]; exact (hB_2.out).size); have N_ga_gt := Lib.hid (show ga ≠ gt by rw [hg]; exact Nat.ne_of_lt (K_ga.out.lt)); replace K_ga := Lib.hid (K_ga.out.below hb); have K_gt := Lib.hid (show w_3.heap[gt]? = some (.cells #[.bool ti, .int .u64 tc, .int .u64 tv, .int .u64 tv2, .int .u64 tn, .bool tg] 27 (0, 0)) from H1); clear hg hb H1 hB_2) | ((with_reducible refine gate_dst (N := 4) rfl ?_); refine box_event ?hg (N := 4) ?hd (cs := Ht.zero.cs) (t := 25) ?hr ?_; (case hd => rfl); (case hg => rfl); (case hr => first | (go_simp; done) | (go_simp; rfl)); intro gr hg w_5 H1 hb; have hB_6 := Lib.hid (below_step hB_4.out hb); have G_gr := Lib.hid (show w.heap.size ≤ gr by rw [hg]; exact (hB_4.out).size); have N_ga_gr := Lib.hid (show ga ≠ gr by rw [hg]; exact Nat.ne_of_lt (K_ga.out.lt)); have N_gt_gr := Lib.hid (show gt ≠ gr by rw [hg]; exact Nat.ne_of_lt (blk_lt K_gt.out)); replace K_ga := Lib.hid (K_ga.out.below hb); replace K_gt := Lib.hid (blk_below K_gt.out hb); have K_gr := Lib.hid (show Hb w_5 gr Ht.zero from H1); clear hg hb H1 hB_4; have c_gt_0 := (show World.cell? _ ⟨gt, 0, none⟩ = some (.bool ti) from (blk_cell K_gt.out 0).trans rfl); have f_gt_0 := blk_frozen K_gt.out 0; have c_gt_1 := (show World.cell? _ ⟨gt, 1, none⟩ = some (.int .u64 tc) from (blk_cell K_gt.out 1).trans rfl); have f_gt_1 := blk_frozen K_gt.out 1; clear hu25 hu27))
                  refine wp_region_list ?_
                  refine load_hart (h := h) rfl (.tmp 2) rfl ga rfl K_ga.out ?_
                  go_wp2_with fail
                  refine (to_c h tc _ C0.out C1.out).mono ?_
                  rintro e_7 w_8 ⟨rfl, hb⟩
                  clear c_gt_0 f_gt_0 c_gt_1 f_gt_1
                  have hB_9 := Lib.hid (below_step hB_6.out hb)
                  replace K_ga := Lib.hid (K_ga.out.below hb)
                  replace K_gt := Lib.hid (blk_below K_gt.out hb)
                  replace K_gr := Lib.hid (K_gr.out.below hb)
                  clear hb hB_6
                  have c_gt_1 := (show World.cell? _ ⟨gt, 1, none⟩ = some (.int .u64 tc) from (blk_cell K_gt.out 1).trans rfl); have f_gt_1 := blk_frozen K_gt.out 1
                  have c_gt_2 := (show World.cell? _ ⟨gt, 2, none⟩ = some (.int .u64 tv) from (blk_cell K_gt.out 2).trans rfl); have f_gt_2 := blk_frozen K_gt.out 2
                  have c_gt_3 := (show World.cell? _ ⟨gt, 3, none⟩ = some (.int .u64 tv2) from (blk_cell K_gt.out 3).trans rfl); have f_gt_3 := blk_frozen K_gt.out 3
                  have c_gt_4 := (show World.cell? _ ⟨gt, 4, none⟩ = some (.int .u64 tn) from (blk_cell K_gt.out 4).trans rfl); have f_gt_4 := blk_frozen K_gt.out 4
                  have c_gt_5 := (show World.cell? _ ⟨gt, 5, none⟩ = some (.bool tg) from (blk_cell K_gt.out 5).trans rfl); have f_gt_5 := blk_frozen K_gt.out 5
                  have c_ga_0 := K_ga.out.u 0 rfl; have f_ga_0 := K_ga.out.fr 0
                  have c_ga_33 := K_ga.out.p; have f_ga_33 := K_ga.out.fr 33
                  have c_ga_34 := K_ga.out.cv; have f_ga_34 := K_ga.out.fr 34
                  have c_ga_35 := K_ga.out.cw; have f_ga_35 := K_ga.out.fr 35
                  have c_ga_36 := K_ga.out.ch; have f_ga_36 := K_ga.out.fr 36
                  have c_ga_37 := K_ga.out.u 37 rfl; have f_ga_37 := K_ga.out.fr 37
                  have c_ga_38 := K_ga.out.u 38 rfl; have f_ga_38 := K_ga.out.fr 38
                  have c_ga_68 := K_ga.out.u 68 rfl; have f_ga_68 := K_ga.out.fr 68
                  have c_ga_69 := K_ga.out.u 69 rfl; have f_ga_69 := K_ga.out.fr 69
                  have c_ga_71 := K_ga.out.u 71 rfl; have f_ga_71 := K_ga.out.fr 71
                  have c_ga_72 := K_ga.out.u 72 rfl; have f_ga_72 := K_ga.out.fr 72
                  have c_ga_73 := K_ga.out.u 73 rfl; have f_ga_73 := K_ga.out.fr 73
                  go_upto_region 25 with (first | (go_at_call 18; refine (on_c _ _ _ (by decide)).mono ?_; rintro e_ w_ ⟨rfl, ⟨n_, rfl⟩⟩) | (go_at_call 17; refine (set_c _ _ _ _ (by decide)).mono ?_; rintro e_ w_ ⟨rfl, ⟨n_, rfl⟩⟩) | (go_at_call 19; refine (place_c _ _ _).mono ?_; rintro e_ w_ ⟨rfl, ⟨n_, rfl⟩⟩) | (go_at_call 20; refine (taken_c _ _ _).mono ?_; rintro e_ w_ ⟨rfl, ⟨n_, rfl⟩⟩) | (go_at_call 21; refine (split_c _ _).mono ?_; rintro e_ w_ ⟨rfl, ⟨n_, rfl⟩⟩))
                  refine start_ (n := 11) (S := fun w' => w'.cell? ⟨ga, 0, none⟩ = some (.int .u64 (h.x 0)) ∧ w'.cell? ⟨gt, 2, none⟩ = some (.int .u64 tv)) (ds := []) #[false, false, false, false, false, false, false, false, false, false, false] (by kernel_rfl) rfl rfl ⟨(show World.cell? _ ⟨ga, 0, none⟩ = some (.int .u64 (h.x 0)) by first | (go_simp; done) | (go_simp; rfl)), (show World.cell? _ ⟨gt, 2, none⟩ = some (.int .u64 tv) by first | (go_simp; done) | (go_simp; rfl))⟩ (fun hHeld => ?_)
                  have HH0 := Lib.hid hHeld
                  clear hHeld
                  refine world_any ga (by repeat (with_reducible first | exact K_ga.out | apply Hb.put | apply Hb.putP | apply Hb.putV | apply Hb.putW | apply Hb.putH | apply Hb.far N_ga_gt.out | apply Hb.far N_ga_gr.out | apply Hb.drewN | apply Hb.drew)) (fun w' => Below w.heap.size w w' ∧ w'.heap[gt]? = some (.cells #[.bool ti, .int .u64 tc, .int .u64 tv, .int .u64 tv2, .int .u64 tn, .bool tg] 27 (0, 0)) ∧ Hb w' gr Ht.zero ∧ (w'.cell? ⟨ga, 0, none⟩ = some (.int .u64 (h.x 0)) ∧ w'.cell? ⟨gt, 2, none⟩ = some (.int .u64 tv))) ⟨(by repeat (first | (with_reducible first | exact hB_9.out | apply pw_below_drewN | apply below_drew1 | refine below_set ?_ G_ga.out | refine below_set ?_ G_gt.out | refine below_set ?_ G_gr.out) | exact hB_9.out)), (by repeat (with_reducible first | exact K_gt.out | apply blk_drewN | apply blk_drew | refine blk_far ?_ (show gt ≠ _ from (Ne.symm N_ga_gt.out)) _ | refine blk_far ?_ (show gt ≠ _ from N_gt_gr.out) _)), (by repeat (with_reducible first | exact K_gr.out | apply Hb.put | apply Hb.putP | apply Hb.putV | apply Hb.putW | apply Hb.putH | apply Hb.far (Ne.symm N_ga_gr.out) | apply Hb.far (Ne.symm N_gt_gr.out) | apply Hb.drewN | apply Hb.drew)), HH0.out⟩ ?_
                  clear HH0
                  clear c_gt_1 f_gt_1 c_gt_2 f_gt_2 c_gt_3 f_gt_3 c_gt_4 f_gt_4 c_gt_5 f_gt_5 c_ga_0 f_ga_0 c_ga_33 f_ga_33 c_ga_34 f_ga_34 c_ga_35 f_ga_35 c_ga_36 f_ga_36 c_ga_37 f_ga_37 c_ga_38 f_ga_38 c_ga_68 f_ga_68 c_ga_69 f_ga_69 c_ga_71 f_ga_71 c_ga_72 f_ga_72 c_ga_73 f_ga_73
                  clear K_ga K_gt K_gr hB_9
                  rintro w_10 q_ ⟨b_, q_gt, q_gr, hHeld⟩
                  have K_ga := Lib.hid q_; have hB_11 := Lib.hid b_; have K_gt := Lib.hid q_gt; have K_gr := Lib.hid q_gr
                  clear q_ b_ q_gt q_gr
                  refine pure_ (i := 0) (N := some 144) (v := ?_) (a' := ?_) #[true, false, false, false, false, false, false, false, false, false, false] rfl rfl (by kernel_rfl) (fun _ _ _ h => h) (Or.inl ⟨by rfl, ?_⟩) ?_ ?_
                  rotate_left
                  · intro w'
                    go_simp
                    with_reducible rfl
                  rotate_left
                  · simp only [Act.put, List.setIfInBounds_toArray, List.set_cons_zero, List.set_cons_succ, i64_w, i32_w]
                    rfl
                  refine pure_ (i := 2) (N := some 146) (v := ?_) (a' := ?_) #[true, false, true, false, false, false, false, false, false, false, false] rfl rfl (by kernel_rfl) (fun _ _ _ h => h) (Or.inl ⟨by rfl, ?_⟩) ?_ ?_
                  rotate_left
                  · intro w'
                    go_simp
                    with_reducible rfl
                  rotate_left
                  · simp only [Act.put, List.setIfInBounds_toArray, List.set_cons_zero, List.set_cons_succ, i64_w, i32_w]
                    rfl
                  refine pure_ (i := 3) (N := some 147) (v := ?_) (a' := ?_) #[true, false, true, true, false, false, false, false, false, false, false] rfl rfl (by kernel_rfl) (fun _ _ _ h => h) (Or.inl ⟨by rfl, ?_⟩) ?_ ?_
                  rotate_left
                  · intro w'
                    go_simp
                    with_reducible rfl
                  rotate_left
                  · simp only [Act.put, List.setIfInBounds_toArray, List.set_cons_zero, List.set_cons_succ, i64_w, i32_w]
                    rfl
                  refine take_ (i := 1) (N := some 145) (v := ?_) (a' := ?_) #[true, true, true, true, false, false, false, false, false, false, false] rfl rfl (by kernel_rfl) (fun _ _ _ h => h) (Or.inl ⟨by rfl, ?_⟩) hHeld ?_ ?_
                  rotate_left
                  · rintro w' ⟨s0, s1⟩
                    go_simp
                    with_reducible rfl
                  rotate_left
                  · simp only [Act.put, List.setIfInBounds_toArray, List.set_cons_zero, List.set_cons_succ, i64_w, i32_w]
                    rfl
                  refine pure_ (i := 5) (N := some 149) (v := ?_) (a' := ?_) #[true, true, true, true, false, true, false, false, false, false, false] rfl rfl (by kernel_rfl) (fun _ _ _ h => h) (Or.inl ⟨by rfl, ?_⟩) ?_ ?_
                  rotate_left
                  · intro w'
                    go_simp
                    with_reducible rfl
                  rotate_left
                  · simp only [Act.put, List.setIfInBounds_toArray, List.set_cons_zero, List.set_cons_succ, i64_w, i32_w]
                    rfl
                  refine take_ (i := 4) (N := some 148) (v := ?_) (a' := ?_) #[true, true, true, true, true, true, false, false, false, false, false] rfl rfl (by kernel_rfl) (fun _ _ _ h => h) (Or.inl ⟨by rfl, ?_⟩) hHeld ?_ ?_
                  rotate_left
                  · rintro w' ⟨s0, s1⟩
                    go_simp
                    with_reducible rfl
                  rotate_left
                  · simp only [Act.put, List.setIfInBounds_toArray, List.set_cons_zero, List.set_cons_succ, i64_w, i32_w]
                    rfl
                  have HH := Lib.hid hHeld
                  clear hHeld
                  refine one_ (i := 6) (N := none) #[true, true, true, true, true, true, true, false, false, false, false] rfl rfl (by kernel_rfl) (by decide) (fun K hK => ?_)
                  refine skipH (h := _) (v := .int .u64 (h.x 0)) (by rfl) rfl rfl rfl rfl (by kernel_rfl) rfl rfl K_ga.out (by decide) ?_
                  have q_ := Lib.hid (Hb.put 71 ((h.x 0)) K_ga.out)
                  have hB_13 := Lib.hid (below_set (j := 71) (v := (.int .u64 (h.x 0))) hB_11.out G_ga.out)
                  have q_gt := Lib.hid (blk_far K_gt.out (p := ⟨ga, 71, none⟩) (Ne.symm N_ga_gt.out) (.int .u64 (h.x 0)))
                  have q_gr := Lib.hid (Hb.far (j := 71) (u := (.int .u64 (h.x 0))) (Ne.symm N_ga_gr.out) K_gr.out)
                  have s_0 := (cell_ne (u := (.int .u64 (h.x 0))) HH.out.1 (show 0 ≠ 71 by decide))
                  have s_1 := (cell_far' (j := 71) (u := (.int .u64 (h.x 0))) HH.out.2 (Ne.symm N_ga_gt.out))
                  clear HH K_ga K_gt K_gr hB_11
                  generalize World.setCell w_10 ⟨ga, 71, none⟩ (.int .u64 (h.x 0)) = w_12 at q_ hB_13 q_gt q_gr s_0 s_1 ⊢
                  have K_ga := q_; clear q_
                  have K_gt := q_gt; clear q_gt
                  have K_gr := q_gr; clear q_gr
                  refine hK.out _ _ ⟨s_0, s_1⟩ (fun hHeld => ?_)
                  have HH := Lib.hid hHeld
                  clear hHeld s_0 s_1
                  clear hK K
                  refine pure_ (i := 7) (N := some 150) (v := ?_) (a' := ?_) #[true, true, true, true, true, true, true, true, false, false, false] rfl rfl (by kernel_rfl) (fun _ _ _ h => h) (Or.inl ⟨by rfl, ?_⟩) ?_ ?_
                  rotate_left
                  · intro w'
                    go_simp
                    with_reducible rfl
                  rotate_left
                  · simp only [Act.put, List.setIfInBounds_toArray, List.set_cons_zero, List.set_cons_succ, i64_w, i32_w]
                    rfl
                  refine one_ (i := 8) (N := none) #[true, true, true, true, true, true, true, true, true, false, false] rfl rfl (by kernel_rfl) (by decide) (fun K hK => ?_)
                  refine skipH (h := _) (v := .int .u64 tc) (by rfl) rfl rfl rfl rfl (by kernel_rfl) rfl rfl K_ga.out (by decide) ?_
                  have q_ := Lib.hid (Hb.put 72 (tc) K_ga.out)
                  have hB_15 := Lib.hid (below_set (j := 72) (v := (.int .u64 tc)) hB_13.out G_ga.out)
                  have q_gt := Lib.hid (blk_far K_gt.out (p := ⟨ga, 72, none⟩) (Ne.symm N_ga_gt.out) (.int .u64 tc))
                  have q_gr := Lib.hid (Hb.far (j := 72) (u := (.int .u64 tc)) (Ne.symm N_ga_gr.out) K_gr.out)
                  have s_0 := (cell_ne (u := (.int .u64 tc)) HH.out.1 (show 0 ≠ 72 by decide))
                  have s_1 := (cell_far' (j := 72) (u := (.int .u64 tc)) HH.out.2 (Ne.symm N_ga_gt.out))
                  clear HH K_ga K_gt K_gr hB_13
                  generalize World.setCell w_12 ⟨ga, 72, none⟩ (.int .u64 tc) = w_14 at q_ hB_15 q_gt q_gr s_0 s_1 ⊢
                  have K_ga := q_; clear q_
                  have K_gt := q_gt; clear q_gt
                  have K_gr := q_gr; clear q_gr
                  refine hK.out _ _ ⟨s_0, s_1⟩ (fun hHeld => ?_)
                  have HH := Lib.hid hHeld
                  clear hHeld s_0 s_1
                  clear hK K
                  refine pure_ (i := 9) (N := some 151) (v := ?_) (a' := ?_) #[true, true, true, true, true, true, true, true, true, true, false] rfl rfl (by kernel_rfl) (fun _ _ _ h => h) (Or.inl ⟨by rfl, ?_⟩) ?_ ?_
                  rotate_left
                  · intro w'
                    go_simp
                    with_reducible rfl
                  rotate_left
                  · simp only [Act.put, List.setIfInBounds_toArray, List.set_cons_zero, List.set_cons_succ, i64_w, i32_w]
                    rfl
                  refine one_ (i := 10) (N := none) #[true, true, true, true, true, true, true, true, true, true, true] rfl rfl (by kernel_rfl) (by decide) (fun K hK => ?_)
                  refine skipH (h := _) (v := .int .u64 tv) (by rfl) rfl rfl rfl rfl (by kernel_rfl) rfl rfl K_ga.out (by decide) ?_
                  have q_ := Lib.hid (Hb.put 73 (tv) K_ga.out)
                  have hB_17 := Lib.hid (below_set (j := 73) (v := (.int .u64 tv)) hB_15.out G_ga.out)
                  have q_gt := Lib.hid (blk_far K_gt.out (p := ⟨ga, 73, none⟩) (Ne.symm N_ga_gt.out) (.int .u64 tv))
                  have q_gr := Lib.hid (Hb.far (j := 73) (u := (.int .u64 tv)) (Ne.symm N_ga_gr.out) K_gr.out)
                  have s_0 := (cell_ne (u := (.int .u64 tv)) HH.out.1 (show 0 ≠ 73 by decide))
                  have s_1 := (cell_far' (j := 73) (u := (.int .u64 tv)) HH.out.2 (Ne.symm N_ga_gt.out))
                  clear HH K_ga K_gt K_gr hB_15
                  generalize World.setCell w_14 ⟨ga, 73, none⟩ (.int .u64 tv) = w_16 at q_ hB_17 q_gt q_gr s_0 s_1 ⊢
                  have K_ga := q_; clear q_
                  have K_gt := q_gt; clear q_gt
                  have K_gr := q_gr; clear q_gr
                  refine hK.out _ _ ⟨s_0, s_1⟩ (fun hHeld => ?_)
                  have HH := Lib.hid hHeld
                  clear hHeld s_0 s_1
                  clear hK K
                  refine done_ (by kernel_rfl) ?_
                  try clear HH
                  have c_gt_1 := (show World.cell? _ ⟨gt, 1, none⟩ = some (.int .u64 tc) from (blk_cell K_gt.out 1).trans rfl); have f_gt_1 := blk_frozen K_gt.out 1
                  have c_ga_33 := (show World.cell? _ ⟨ga, 33, none⟩ = some (.int .u8 (h.x 33)) from (K_ga.out.p).trans rfl); have f_ga_33 := K_ga.out.fr 33
                  have c_ga_34 := (show World.cell? _ ⟨ga, 34, none⟩ = some (.bool h.v) from (K_ga.out.cv).trans rfl); have f_ga_34 := K_ga.out.fr 34
                  have c_ga_0 := (show World.cell? _ ⟨ga, 0, none⟩ = some (.int .u64 (h.x 0)) from (K_ga.out.u 0 rfl).trans rfl); have f_ga_0 := K_ga.out.fr 0
                  have c_ga_68 := (show World.cell? _ ⟨ga, 68, none⟩ = some (.int .u64 (h.x 68)) from (K_ga.out.u 68 rfl).trans rfl); have f_ga_68 := K_ga.out.fr 68
                  have c_ga_69 := (show World.cell? _ ⟨ga, 69, none⟩ = some (.int .u64 (h.x 69)) from (K_ga.out.u 69 rfl).trans rfl); have f_ga_69 := K_ga.out.fr 69
                  go_upto_region 28 with (first | (go_at_call 18; refine (on_c _ _ _ (by decide)).mono ?_; rintro e_ w_ ⟨rfl, ⟨n_, rfl⟩⟩) | (go_at_call 17; refine (set_c _ _ _ _ (by decide)).mono ?_; rintro e_ w_ ⟨rfl, ⟨n_, rfl⟩⟩) | (go_at_call 19; refine (place_c _ _ _).mono ?_; rintro e_ w_ ⟨rfl, ⟨n_, rfl⟩⟩) | (go_at_call 20; refine (taken_c _ _ _).mono ?_; rintro e_ w_ ⟨rfl, ⟨n_, rfl⟩⟩) | (go_at_call 21; refine (split_c _ _).mono ?_; rintro e_ w_ ⟨rfl, ⟨n_, rfl⟩⟩))
                  refine wp_region_list ?_
                  refine load_hart (h := _) rfl (.tmp 2) rfl ga rfl (by repeat (with_reducible first | exact K_ga.out | apply Hb.put | apply Hb.putP | apply Hb.putV | apply Hb.putW | apply Hb.putH | apply Hb.far N_ga_gt.out | apply Hb.far N_ga_gr.out | apply Hb.drewN | apply Hb.drew)) ?_
                  refine store_hart rfl (.tmp 4) (.tmp 163) rfl gr _ rfl rfl Ht.zero (by repeat (with_reducible first | exact K_gr.out | apply Hb.put | apply Hb.putP | apply Hb.putV | apply Hb.putW | apply Hb.putH | apply Hb.far (Ne.symm N_ga_gr.out) | apply Hb.far (Ne.symm N_gt_gr.out) | apply Hb.drewN | apply Hb.drew)) ?_
                  go_wp2
                  refine bodyPost_ret (results_cell_row rfl _ _ gr 25 _ (0, 0) _ rfl (Hb.putAll _ (by repeat (with_reducible first | exact K_gr.out | apply Hb.put | apply Hb.putP | apply Hb.putV | apply Hb.putW | apply Hb.putH | apply Hb.far (Ne.symm N_ga_gr.out) | apply Hb.far (Ne.symm N_gt_gr.out) | apply Hb.drewN | apply Hb.drew))) Tryd.underlying25 rfl (by rw [Ht.size]; exact hartSize)) rfl ?_
                  exact ⟨by (first | rfl | (simp only [enter, enterM, enterH, enterG, guestCause, t0, t1, t2, hs, n2, n6, n10, if_true, if_false, Bool.false_eq_true, cond_true, cond_false]; done) | (simp only [enter, enterM, enterH, enterG, guestCause, t0, t1, t2, hs, n2, n6, n10, if_true, if_false, Bool.false_eq_true, cond_true, cond_false]; rfl)), setCells_below G_gr.out _ _ _ (by repeat (first | (with_reducible first | exact hB_17.out | apply pw_below_drewN | apply below_drew1 | refine below_set ?_ G_ga.out | refine below_set ?_ G_gt.out | refine below_set ?_ G_gr.out) | exact hB_17.out))⟩
                · skip
                  have C0 := Lib.hid c0; have C1 := Lib.hid c1
                  clear c0 c1
                  have hu25 := Tryd.underlying25
                  go_enter Tryd.func6, Tryd.ntmps6
                  have hu27 := Tryd.underlying27
                  go_upto_region 3 with (first | ((with_reducible refine gate_dst (N := 2) rfl ?_); refine box_event ?hg (N := 2) ?hd (cs := h.cs) (t := 25) ?hr ?_; (case hd => rfl); (case hg => rfl); (case hr => first | (go_simp; done) | (go_simp; rfl)); intro ga hg w_1 H1 hb; have hB_2 := Lib.hid (below_step (Below.refl w.heap.size w) hb); have G_ga := Lib.hid (show w.heap.size ≤ ga by rw [hg]; exact ((Below.refl w.heap.size w)).size); have K_ga := Lib.hid (show Hb w_1 ga h from H1); clear hg hb H1) | ((with_reducible refine gate_dst (N := 3) rfl ?_); refine box_event ?hg (N := 3) ?hd (cs := #[.bool ti, .int .u64 tc, .int .u64 tv, .int .u64 tv2, .int .u64 tn, .bool tg]) (t := 27) ?hr ?_; (case hd => rfl); (case hg => rfl); (case hr => first | (go_simp; done) | (go_simp; rfl)); intro gt hg w_3 H1 hb; have hB_4 := Lib.hid (below_step hB_2.out hb); have G_gt := Lib.hid (show w.heap.size ≤ gt by rw [hg]; exact (hB_2.out).size); have N_ga_gt := Lib.hid (show ga ≠ gt by rw [hg]; exact Nat.ne_of_lt (K_ga.out.lt)); replace K_ga := Lib.hid (K_ga.out.below hb); have K_gt := Lib.hid (show w_3.heap[gt]? = some (.cells #[.bool ti, .int .u64 tc, .int .u64 tv, .int .u64 tv2, .int .u64 tn, .bool tg] 27 (0, 0)) from H1); clear hg hb H1 hB_2) | ((with_reducible refine gate_dst (N := 4) rfl ?_); refine box_event ?hg (N := 4) ?hd (cs := Ht.zero.cs) (t := 25) ?hr ?_; (case hd => rfl); (case hg => rfl); (case hr => first | (go_simp; done) | (go_simp; rfl)); intro gr hg w_5 H1 hb; have hB_6 := Lib.hid (below_step hB_4.out hb); have G_gr := Lib.hid (show w.heap.size ≤ gr by rw [hg]; exact (hB_4.out).size); have N_ga_gr := Lib.hid (show ga ≠ gr by rw [hg]; exact Nat.ne_of_lt (K_ga.out.lt)); have N_gt_gr := Lib.hid (show gt ≠ gr by rw [hg]; exact Nat.ne_of_lt (blk_lt K_gt.out)); replace K_ga := Lib.hid (K_ga.out.below hb); replace K_gt := Lib.hid (blk_below K_gt.out hb); have K_gr := Lib.hid (show Hb w_5 gr Ht.zero from H1); clear hg hb H1 hB_4; have c_gt_0 := (show World.cell? _ ⟨gt, 0, none⟩ = some (.bool ti) from (blk_cell K_gt.out 0).trans rfl); have f_gt_0 := blk_frozen K_gt.out 0; have c_gt_1 := (show World.cell? _ ⟨gt, 1, none⟩ = some (.int .u64 tc) from (blk_cell K_gt.out 1).trans rfl); have f_gt_1 := blk_frozen K_gt.out 1; clear hu25 hu27))
                  refine wp_region_list ?_
                  refine load_hart (h := h) rfl (.tmp 2) rfl ga rfl K_ga.out ?_
                  go_wp2_with fail
                  refine (to_c h tc _ C0.out C1.out).mono ?_
                  rintro e_7 w_8 ⟨rfl, hb⟩
                  clear c_gt_0 f_gt_0 c_gt_1 f_gt_1
                  have hB_9 := Lib.hid (below_step hB_6.out hb)
                  replace K_ga := Lib.hid (K_ga.out.below hb)
                  replace K_gt := Lib.hid (blk_below K_gt.out hb)
                  replace K_gr := Lib.hid (K_gr.out.below hb)
                  clear hb hB_6
                  have c_gt_1 := (show World.cell? _ ⟨gt, 1, none⟩ = some (.int .u64 tc) from (blk_cell K_gt.out 1).trans rfl); have f_gt_1 := blk_frozen K_gt.out 1
                  have c_gt_2 := (show World.cell? _ ⟨gt, 2, none⟩ = some (.int .u64 tv) from (blk_cell K_gt.out 2).trans rfl); have f_gt_2 := blk_frozen K_gt.out 2
                  have c_gt_3 := (show World.cell? _ ⟨gt, 3, none⟩ = some (.int .u64 tv2) from (blk_cell K_gt.out 3).trans rfl); have f_gt_3 := blk_frozen K_gt.out 3
                  have c_gt_4 := (show World.cell? _ ⟨gt, 4, none⟩ = some (.int .u64 tn) from (blk_cell K_gt.out 4).trans rfl); have f_gt_4 := blk_frozen K_gt.out 4
                  have c_gt_5 := (show World.cell? _ ⟨gt, 5, none⟩ = some (.bool tg) from (blk_cell K_gt.out 5).trans rfl); have f_gt_5 := blk_frozen K_gt.out 5
                  have c_ga_0 := K_ga.out.u 0 rfl; have f_ga_0 := K_ga.out.fr 0
                  have c_ga_33 := K_ga.out.p; have f_ga_33 := K_ga.out.fr 33
                  have c_ga_34 := K_ga.out.cv; have f_ga_34 := K_ga.out.fr 34
                  have c_ga_35 := K_ga.out.cw; have f_ga_35 := K_ga.out.fr 35
                  have c_ga_36 := K_ga.out.ch; have f_ga_36 := K_ga.out.fr 36
                  have c_ga_37 := K_ga.out.u 37 rfl; have f_ga_37 := K_ga.out.fr 37
                  have c_ga_38 := K_ga.out.u 38 rfl; have f_ga_38 := K_ga.out.fr 38
                  have c_ga_68 := K_ga.out.u 68 rfl; have f_ga_68 := K_ga.out.fr 68
                  have c_ga_69 := K_ga.out.u 69 rfl; have f_ga_69 := K_ga.out.fr 69
                  have c_ga_71 := K_ga.out.u 71 rfl; have f_ga_71 := K_ga.out.fr 71
                  have c_ga_72 := K_ga.out.u 72 rfl; have f_ga_72 := K_ga.out.fr 72
                  have c_ga_73 := K_ga.out.u 73 rfl; have f_ga_73 := K_ga.out.fr 73
                  go_upto_region 25 with (first | (go_at_call 18; refine (on_c _ _ _ (by decide)).mono ?_; rintro e_ w_ ⟨rfl, ⟨n_, rfl⟩⟩) | (go_at_call 17; refine (set_c _ _ _ _ (by decide)).mono ?_; rintro e_ w_ ⟨rfl, ⟨n_, rfl⟩⟩) | (go_at_call 19; refine (place_c _ _ _).mono ?_; rintro e_ w_ ⟨rfl, ⟨n_, rfl⟩⟩) | (go_at_call 20; refine (taken_c _ _ _).mono ?_; rintro e_ w_ ⟨rfl, ⟨n_, rfl⟩⟩) | (go_at_call 21; refine (split_c _ _).mono ?_; rintro e_ w_ ⟨rfl, ⟨n_, rfl⟩⟩))
                  refine start_ (n := 11) (S := fun w' => w'.cell? ⟨ga, 0, none⟩ = some (.int .u64 (h.x 0)) ∧ w'.cell? ⟨gt, 2, none⟩ = some (.int .u64 tv)) (ds := []) #[false, false, false, false, false, false, false, false, false, false, false] (by kernel_rfl) rfl rfl ⟨(show World.cell? _ ⟨ga, 0, none⟩ = some (.int .u64 (h.x 0)) by first | (go_simp; done) | (go_simp; rfl)), (show World.cell? _ ⟨gt, 2, none⟩ = some (.int .u64 tv) by first | (go_simp; done) | (go_simp; rfl))⟩ (fun hHeld => ?_)
                  have HH0 := Lib.hid hHeld
                  clear hHeld
                  refine world_any ga (by repeat (with_reducible first | exact K_ga.out | apply Hb.put | apply Hb.putP | apply Hb.putV | apply Hb.putW | apply Hb.putH | apply Hb.far N_ga_gt.out | apply Hb.far N_ga_gr.out | apply Hb.drewN | apply Hb.drew)) (fun w' => Below w.heap.size w w' ∧ w'.heap[gt]? = some (.cells #[.bool ti, .int .u64 tc, .int .u64 tv, .int .u64 tv2, .int .u64 tn, .bool tg] 27 (0, 0)) ∧ Hb w' gr Ht.zero ∧ (w'.cell? ⟨ga, 0, none⟩ = some (.int .u64 (h.x 0)) ∧ w'.cell? ⟨gt, 2, none⟩ = some (.int .u64 tv))) ⟨(by repeat (first | (with_reducible first | exact hB_9.out | apply pw_below_drewN | apply below_drew1 | refine below_set ?_ G_ga.out | refine below_set ?_ G_gt.out | refine below_set ?_ G_gr.out) | exact hB_9.out)), (by repeat (with_reducible first | exact K_gt.out | apply blk_drewN | apply blk_drew | refine blk_far ?_ (show gt ≠ _ from (Ne.symm N_ga_gt.out)) _ | refine blk_far ?_ (show gt ≠ _ from N_gt_gr.out) _)), (by repeat (with_reducible first | exact K_gr.out | apply Hb.put | apply Hb.putP | apply Hb.putV | apply Hb.putW | apply Hb.putH | apply Hb.far (Ne.symm N_ga_gr.out) | apply Hb.far (Ne.symm N_gt_gr.out) | apply Hb.drewN | apply Hb.drew)), HH0.out⟩ ?_
                  clear HH0
                  clear c_gt_1 f_gt_1 c_gt_2 f_gt_2 c_gt_3 f_gt_3 c_gt_4 f_gt_4 c_gt_5 f_gt_5 c_ga_0 f_ga_0 c_ga_33 f_ga_33 c_ga_34 f_ga_34 c_ga_35 f_ga_35 c_ga_36 f_ga_36 c_ga_37 f_ga_37 c_ga_38 f_ga_38 c_ga_68 f_ga_68 c_ga_69 f_ga_69 c_ga_71 f_ga_71 c_ga_72 f_ga_72 c_ga_73 f_ga_73
                  clear K_ga K_gt K_gr hB_9
                  rintro w_10 q_ ⟨b_, q_gt, q_gr, hHeld⟩
                  have K_ga := Lib.hid q_; have hB_11 := Lib.hid b_; have K_gt := Lib.hid q_gt; have K_gr := Lib.hid q_gr
                  clear q_ b_ q_gt q_gr
                  refine pure_ (i := 0) (N := some 144) (v := ?_) (a' := ?_) #[true, false, false, false, false, false, false, false, false, false, false] rfl rfl (by kernel_rfl) (fun _ _ _ h => h) (Or.inl ⟨by rfl, ?_⟩) ?_ ?_
                  rotate_left
                  · intro w'
                    go_simp
                    with_reducible rfl
                  rotate_left
                  · simp only [Act.put, List.setIfInBounds_toArray, List.set_cons_zero, List.set_cons_succ, i64_w, i32_w]
                    rfl
                  refine pure_ (i := 2) (N := some 146) (v := ?_) (a' := ?_) #[true, false, true, false, false, false, false, false, false, false, false] rfl rfl (by kernel_rfl) (fun _ _ _ h => h) (Or.inl ⟨by rfl, ?_⟩) ?_ ?_
                  rotate_left
                  · intro w'
                    go_simp
                    with_reducible rfl
                  rotate_left
                  · simp only [Act.put, List.setIfInBounds_toArray, List.set_cons_zero, List.set_cons_succ, i64_w, i32_w]
                    rfl
                  refine pure_ (i := 3) (N := some 147) (v := ?_) (a' := ?_) #[true, false, true, true, false, false, false, false, false, false, false] rfl rfl (by kernel_rfl) (fun _ _ _ h => h) (Or.inl ⟨by rfl, ?_⟩) ?_ ?_
                  rotate_left
                  · intro w'
                    go_simp
                    with_reducible rfl
                  rotate_left
                  · simp only [Act.put, List.setIfInBounds_toArray, List.set_cons_zero, List.set_cons_succ, i64_w, i32_w]
                    rfl
                  refine take_ (i := 1) (N := some 145) (v := ?_) (a' := ?_) #[true, true, true, true, false, false, false, false, false, false, false] rfl rfl (by kernel_rfl) (fun _ _ _ h => h) (Or.inl ⟨by rfl, ?_⟩) hHeld ?_ ?_
                  rotate_left
                  · rintro w' ⟨s0, s1⟩
                    go_simp
                    with_reducible rfl
                  rotate_left
                  · simp only [Act.put, List.setIfInBounds_toArray, List.set_cons_zero, List.set_cons_succ, i64_w, i32_w]
                    rfl
                  refine pure_ (i := 5) (N := some 149) (v := ?_) (a' := ?_) #[true, true, true, true, false, true, false, false, false, false, false] rfl rfl (by kernel_rfl) (fun _ _ _ h => h) (Or.inl ⟨by rfl, ?_⟩) ?_ ?_
                  rotate_left
                  · intro w'
                    go_simp
                    with_reducible rfl
                  rotate_left
                  · simp only [Act.put, List.setIfInBounds_toArray, List.set_cons_zero, List.set_cons_succ, i64_w, i32_w]
                    rfl
                  refine take_ (i := 4) (N := some 148) (v := ?_) (a' := ?_) #[true, true, true, true, true, true, false, false, false, false, false] rfl rfl (by kernel_rfl) (fun _ _ _ h => h) (Or.inl ⟨by rfl, ?_⟩) hHeld ?_ ?_
                  rotate_left
                  · rintro w' ⟨s0, s1⟩
                    go_simp
                    with_reducible rfl
                  rotate_left
                  · simp only [Act.put, List.setIfInBounds_toArray, List.set_cons_zero, List.set_cons_succ, i64_w, i32_w]
                    rfl
                  have HH := Lib.hid hHeld
                  clear hHeld
                  refine one_ (i := 6) (N := none) #[true, true, true, true, true, true, true, false, false, false, false] rfl rfl (by kernel_rfl) (by decide) (fun K hK => ?_)
                  refine skipH (h := _) (v := .int .u64 (h.x 0)) (by rfl) rfl rfl rfl rfl (by kernel_rfl) rfl rfl K_ga.out (by decide) ?_
                  have q_ := Lib.hid (Hb.put 71 ((h.x 0)) K_ga.out)
                  have hB_13 := Lib.hid (below_set (j := 71) (v := (.int .u64 (h.x 0))) hB_11.out G_ga.out)
                  have q_gt := Lib.hid (blk_far K_gt.out (p := ⟨ga, 71, none⟩) (Ne.symm N_ga_gt.out) (.int .u64 (h.x 0)))
                  have q_gr := Lib.hid (Hb.far (j := 71) (u := (.int .u64 (h.x 0))) (Ne.symm N_ga_gr.out) K_gr.out)
                  have s_0 := (cell_ne (u := (.int .u64 (h.x 0))) HH.out.1 (show 0 ≠ 71 by decide))
                  have s_1 := (cell_far' (j := 71) (u := (.int .u64 (h.x 0))) HH.out.2 (Ne.symm N_ga_gt.out))
                  clear HH K_ga K_gt K_gr hB_11
                  generalize World.setCell w_10 ⟨ga, 71, none⟩ (.int .u64 (h.x 0)) = w_12 at q_ hB_13 q_gt q_gr s_0 s_1 ⊢
                  have K_ga := q_; clear q_
                  have K_gt := q_gt; clear q_gt
                  have K_gr := q_gr; clear q_gr
                  refine hK.out _ _ ⟨s_0, s_1⟩ (fun hHeld => ?_)
                  have HH := Lib.hid hHeld
                  clear hHeld s_0 s_1
                  clear hK K
                  refine pure_ (i := 7) (N := some 150) (v := ?_) (a' := ?_) #[true, true, true, true, true, true, true, true, false, false, false] rfl rfl (by kernel_rfl) (fun _ _ _ h => h) (Or.inl ⟨by rfl, ?_⟩) ?_ ?_
                  rotate_left
                  · intro w'
                    go_simp
                    with_reducible rfl
                  rotate_left
                  · simp only [Act.put, List.setIfInBounds_toArray, List.set_cons_zero, List.set_cons_succ, i64_w, i32_w]
                    rfl
                  refine one_ (i := 8) (N := none) #[true, true, true, true, true, true, true, true, true, false, false] rfl rfl (by kernel_rfl) (by decide) (fun K hK => ?_)
                  refine skipH (h := _) (v := .int .u64 (IntKind.u64.wrap (tc - 1))) (by rfl) rfl rfl rfl rfl (by kernel_rfl) rfl rfl K_ga.out (by decide) ?_
                  have q_ := Lib.hid (Hb.put 72 ((IntKind.u64.wrap (tc - 1))) K_ga.out)
                  have hB_15 := Lib.hid (below_set (j := 72) (v := (.int .u64 (IntKind.u64.wrap (tc - 1)))) hB_13.out G_ga.out)
                  have q_gt := Lib.hid (blk_far K_gt.out (p := ⟨ga, 72, none⟩) (Ne.symm N_ga_gt.out) (.int .u64 (IntKind.u64.wrap (tc - 1))))
                  have q_gr := Lib.hid (Hb.far (j := 72) (u := (.int .u64 (IntKind.u64.wrap (tc - 1)))) (Ne.symm N_ga_gr.out) K_gr.out)
                  have s_0 := (cell_ne (u := (.int .u64 (IntKind.u64.wrap (tc - 1)))) HH.out.1 (show 0 ≠ 72 by decide))
                  have s_1 := (cell_far' (j := 72) (u := (.int .u64 (IntKind.u64.wrap (tc - 1)))) HH.out.2 (Ne.symm N_ga_gt.out))
                  clear HH K_ga K_gt K_gr hB_13
                  generalize World.setCell w_12 ⟨ga, 72, none⟩ (.int .u64 (IntKind.u64.wrap (tc - 1))) = w_14 at q_ hB_15 q_gt q_gr s_0 s_1 ⊢
                  have K_ga := q_; clear q_
                  have K_gt := q_gt; clear q_gt
                  have K_gr := q_gr; clear q_gr
                  refine hK.out _ _ ⟨s_0, s_1⟩ (fun hHeld => ?_)
                  have HH := Lib.hid hHeld
                  clear hHeld s_0 s_1
                  clear hK K
                  refine pure_ (i := 9) (N := some 151) (v := ?_) (a' := ?_) #[true, true, true, true, true, true, true, true, true, true, false] rfl rfl (by kernel_rfl) (fun _ _ _ h => h) (Or.inl ⟨by rfl, ?_⟩) ?_ ?_
                  rotate_left
                  · intro w'
                    go_simp
                    with_reducible rfl
                  rotate_left
                  · simp only [Act.put, List.setIfInBounds_toArray, List.set_cons_zero, List.set_cons_succ, i64_w, i32_w]
                    rfl
                  refine one_ (i := 10) (N := none) #[true, true, true, true, true, true, true, true, true, true, true] rfl rfl (by kernel_rfl) (by decide) (fun K hK => ?_)
                  refine skipH (h := _) (v := .int .u64 tv) (by rfl) rfl rfl rfl rfl (by kernel_rfl) rfl rfl K_ga.out (by decide) ?_
                  have q_ := Lib.hid (Hb.put 73 (tv) K_ga.out)
                  have hB_17 := Lib.hid (below_set (j := 73) (v := (.int .u64 tv)) hB_15.out G_ga.out)
                  have q_gt := Lib.hid (blk_far K_gt.out (p := ⟨ga, 73, none⟩) (Ne.symm N_ga_gt.out) (.int .u64 tv))
                  have q_gr := Lib.hid (Hb.far (j := 73) (u := (.int .u64 tv)) (Ne.symm N_ga_gr.out) K_gr.out)
                  have s_0 := (cell_ne (u := (.int .u64 tv)) HH.out.1 (show 0 ≠ 73 by decide))
                  have s_1 := (cell_far' (j := 73) (u := (.int .u64 tv)) HH.out.2 (Ne.symm N_ga_gt.out))
                  clear HH K_ga K_gt K_gr hB_15
                  generalize World.setCell w_14 ⟨ga, 73, none⟩ (.int .u64 tv) = w_16 at q_ hB_17 q_gt q_gr s_0 s_1 ⊢
                  have K_ga := q_; clear q_
                  have K_gt := q_gt; clear q_gt
                  have K_gr := q_gr; clear q_gr
                  refine hK.out _ _ ⟨s_0, s_1⟩ (fun hHeld => ?_)
                  have HH := Lib.hid hHeld
                  clear hHeld s_0 s_1
                  clear hK K
                  refine done_ (by kernel_rfl) ?_
                  try clear HH
                  have c_gt_1 := (show World.cell? _ ⟨gt, 1, none⟩ = some (.int .u64 tc) from (blk_cell K_gt.out 1).trans rfl); have f_gt_1 := blk_frozen K_gt.out 1
                  have c_ga_33 := (show World.cell? _ ⟨ga, 33, none⟩ = some (.int .u8 (h.x 33)) from (K_ga.out.p).trans rfl); have f_ga_33 := K_ga.out.fr 33
                  have c_ga_34 := (show World.cell? _ ⟨ga, 34, none⟩ = some (.bool h.v) from (K_ga.out.cv).trans rfl); have f_ga_34 := K_ga.out.fr 34
                  have c_ga_0 := (show World.cell? _ ⟨ga, 0, none⟩ = some (.int .u64 (h.x 0)) from (K_ga.out.u 0 rfl).trans rfl); have f_ga_0 := K_ga.out.fr 0
                  have c_ga_68 := (show World.cell? _ ⟨ga, 68, none⟩ = some (.int .u64 (h.x 68)) from (K_ga.out.u 68 rfl).trans rfl); have f_ga_68 := K_ga.out.fr 68
                  have c_ga_69 := (show World.cell? _ ⟨ga, 69, none⟩ = some (.int .u64 (h.x 69)) from (K_ga.out.u 69 rfl).trans rfl); have f_ga_69 := K_ga.out.fr 69
                  go_upto_region 28 with (first | (go_at_call 18; refine (on_c _ _ _ (by decide)).mono ?_; rintro e_ w_ ⟨rfl, ⟨n_, rfl⟩⟩) | (go_at_call 17; refine (set_c _ _ _ _ (by decide)).mono ?_; rintro e_ w_ ⟨rfl, ⟨n_, rfl⟩⟩) | (go_at_call 19; refine (place_c _ _ _).mono ?_; rintro e_ w_ ⟨rfl, ⟨n_, rfl⟩⟩) | (go_at_call 20; refine (taken_c _ _ _).mono ?_; rintro e_ w_ ⟨rfl, ⟨n_, rfl⟩⟩) | (go_at_call 21; refine (split_c _ _).mono ?_; rintro e_ w_ ⟨rfl, ⟨n_, rfl⟩⟩))
                  refine wp_region_list ?_
                  refine load_hart (h := _) rfl (.tmp 2) rfl ga rfl (by repeat (with_reducible first | exact K_ga.out | apply Hb.put | apply Hb.putP | apply Hb.putV | apply Hb.putW | apply Hb.putH | apply Hb.far N_ga_gt.out | apply Hb.far N_ga_gr.out | apply Hb.drewN | apply Hb.drew)) ?_
                  refine store_hart rfl (.tmp 4) (.tmp 163) rfl gr _ rfl rfl Ht.zero (by repeat (with_reducible first | exact K_gr.out | apply Hb.put | apply Hb.putP | apply Hb.putV | apply Hb.putW | apply Hb.putH | apply Hb.far (Ne.symm N_ga_gr.out) | apply Hb.far (Ne.symm N_gt_gr.out) | apply Hb.drewN | apply Hb.drew)) ?_
                  go_wp2
                  refine bodyPost_ret (results_cell_row rfl _ _ gr 25 _ (0, 0) _ rfl (Hb.putAll _ (by repeat (with_reducible first | exact K_gr.out | apply Hb.put | apply Hb.putP | apply Hb.putV | apply Hb.putW | apply Hb.putH | apply Hb.far (Ne.symm N_ga_gr.out) | apply Hb.far (Ne.symm N_gt_gr.out) | apply Hb.drewN | apply Hb.drew))) Tryd.underlying25 rfl (by rw [Ht.size]; exact hartSize)) rfl ?_
                  exact ⟨by (first | rfl | (simp only [enter, enterM, enterH, enterG, guestCause, t0, t1, t2, hs, n2, n6, n10, if_true, if_false, Bool.false_eq_true, cond_true, cond_false]; done) | (simp only [enter, enterM, enterH, enterG, guestCause, t0, t1, t2, hs, n2, n6, n10, if_true, if_false, Bool.false_eq_true, cond_true, cond_false]; rfl)), setCells_below G_gr.out _ _ _ (by repeat (first | (with_reducible first | exact hB_17.out | apply pw_below_drewN | apply below_drew1 | refine below_set ?_ G_ga.out | refine below_set ?_ G_gt.out | refine below_set ?_ G_gr.out) | exact hB_17.out))⟩
              · skip
                have C0 := Lib.hid c0; have C1 := Lib.hid c1
                clear c0 c1
                have hu25 := Tryd.underlying25
                go_enter Tryd.func6, Tryd.ntmps6
                have hu27 := Tryd.underlying27
                go_upto_region 3 with (first | ((with_reducible refine gate_dst (N := 2) rfl ?_); refine box_event ?hg (N := 2) ?hd (cs := h.cs) (t := 25) ?hr ?_; (case hd => rfl); (case hg => rfl); (case hr => first | (go_simp; done) | (go_simp; rfl)); intro ga hg w_1 H1 hb; have hB_2 := Lib.hid (below_step (Below.refl w.heap.size w) hb); have G_ga := Lib.hid (show w.heap.size ≤ ga by rw [hg]; exact ((Below.refl w.heap.size w)).size); have K_ga := Lib.hid (show Hb w_1 ga h from H1); clear hg hb H1) | ((with_reducible refine gate_dst (N := 3) rfl ?_); refine box_event ?hg (N := 3) ?hd (cs := #[.bool ti, .int .u64 tc, .int .u64 tv, .int .u64 tv2, .int .u64 tn, .bool tg]) (t := 27) ?hr ?_; (case hd => rfl); (case hg => rfl); (case hr => first | (go_simp; done) | (go_simp; rfl)); intro gt hg w_3 H1 hb; have hB_4 := Lib.hid (below_step hB_2.out hb); have G_gt := Lib.hid (show w.heap.size ≤ gt by rw [hg]; exact (hB_2.out).size); have N_ga_gt := Lib.hid (show ga ≠ gt by rw [hg]; exact Nat.ne_of_lt (K_ga.out.lt)); replace K_ga := Lib.hid (K_ga.out.below hb); have K_gt := Lib.hid (show w_3.heap[gt]? = some (.cells #[.bool ti, .int .u64 tc, .int .u64 tv, .int .u64 tv2, .int .u64 tn, .bool tg] 27 (0, 0)) from H1); clear hg hb H1 hB_2) | ((with_reducible refine gate_dst (N := 4) rfl ?_); refine box_event ?hg (N := 4) ?hd (cs := Ht.zero.cs) (t := 25) ?hr ?_; (case hd => rfl); (case hg => rfl); (case hr => first | (go_simp; done) | (go_simp; rfl)); intro gr hg w_5 H1 hb; have hB_6 := Lib.hid (below_step hB_4.out hb); have G_gr := Lib.hid (show w.heap.size ≤ gr by rw [hg]; exact (hB_4.out).size); have N_ga_gr := Lib.hid (show ga ≠ gr by rw [hg]; exact Nat.ne_of_lt (K_ga.out.lt)); have N_gt_gr := Lib.hid (show gt ≠ gr by rw [hg]; exact Nat.ne_of_lt (blk_lt K_gt.out)); replace K_ga := Lib.hid (K_ga.out.below hb); replace K_gt := Lib.hid (blk_below K_gt.out hb); have K_gr := Lib.hid (show Hb w_5 gr Ht.zero from H1); clear hg hb H1 hB_4; have c_gt_0 := (show World.cell? _ ⟨gt, 0, none⟩ = some (.bool ti) from (blk_cell K_gt.out 0).trans rfl); have f_gt_0 := blk_frozen K_gt.out 0; have c_gt_1 := (show World.cell? _ ⟨gt, 1, none⟩ = some (.int .u64 tc) from (blk_cell K_gt.out 1).trans rfl); have f_gt_1 := blk_frozen K_gt.out 1; clear hu25 hu27))
                refine wp_region_list ?_
                refine load_hart (h := h) rfl (.tmp 2) rfl ga rfl K_ga.out ?_
                go_wp2_with fail
                refine (to_c h tc _ C0.out C1.out).mono ?_
                rintro e_7 w_8 ⟨rfl, hb⟩
                clear c_gt_0 f_gt_0 c_gt_1 f_gt_1
                have hB_9 := Lib.hid (below_step hB_6.out hb)
                replace K_ga := Lib.hid (K_ga.out.below hb)
                replace K_gt := Lib.hid (blk_below K_gt.out hb)
                replace K_gr := Lib.hid (K_gr.out.below hb)
                clear hb hB_6
                have c_gt_1 := (show World.cell? _ ⟨gt, 1, none⟩ = some (.int .u64 tc) from (blk_cell K_gt.out 1).trans rfl); have f_gt_1 := blk_frozen K_gt.out 1
                have c_gt_2 := (show World.cell? _ ⟨gt, 2, none⟩ = some (.int .u64 tv) from (blk_cell K_gt.out 2).trans rfl); have f_gt_2 := blk_frozen K_gt.out 2
                have c_gt_3 := (show World.cell? _ ⟨gt, 3, none⟩ = some (.int .u64 tv2) from (blk_cell K_gt.out 3).trans rfl); have f_gt_3 := blk_frozen K_gt.out 3
                have c_gt_4 := (show World.cell? _ ⟨gt, 4, none⟩ = some (.int .u64 tn) from (blk_cell K_gt.out 4).trans rfl); have f_gt_4 := blk_frozen K_gt.out 4
                have c_gt_5 := (show World.cell? _ ⟨gt, 5, none⟩ = some (.bool tg) from (blk_cell K_gt.out 5).trans rfl); have f_gt_5 := blk_frozen K_gt.out 5
                have c_ga_0 := K_ga.out.u 0 rfl; have f_ga_0 := K_ga.out.fr 0
                have c_ga_33 := K_ga.out.p; have f_ga_33 := K_ga.out.fr 33
                have c_ga_34 := K_ga.out.cv; have f_ga_34 := K_ga.out.fr 34
                have c_ga_35 := K_ga.out.cw; have f_ga_35 := K_ga.out.fr 35
                have c_ga_36 := K_ga.out.ch; have f_ga_36 := K_ga.out.fr 36
                have c_ga_37 := K_ga.out.u 37 rfl; have f_ga_37 := K_ga.out.fr 37
                have c_ga_38 := K_ga.out.u 38 rfl; have f_ga_38 := K_ga.out.fr 38
                have c_ga_68 := K_ga.out.u 68 rfl; have f_ga_68 := K_ga.out.fr 68
                have c_ga_69 := K_ga.out.u 69 rfl; have f_ga_69 := K_ga.out.fr 69
                have c_ga_71 := K_ga.out.u 71 rfl; have f_ga_71 := K_ga.out.fr 71
                have c_ga_72 := K_ga.out.u 72 rfl; have f_ga_72 := K_ga.out.fr 72
                have c_ga_73 := K_ga.out.u 73 rfl; have f_ga_73 := K_ga.out.fr 73
                go_upto_region 25 with (first | (go_at_call 18; refine (on_c _ _ _ (by decide)).mono ?_; rintro e_ w_ ⟨rfl, ⟨n_, rfl⟩⟩) | (go_at_call 17; refine (set_c _ _ _ _ (by decide)).mono ?_; rintro e_ w_ ⟨rfl, ⟨n_, rfl⟩⟩) | (go_at_call 19; refine (place_c _ _ _).mono ?_; rintro e_ w_ ⟨rfl, ⟨n_, rfl⟩⟩) | (go_at_call 20; refine (taken_c _ _ _).mono ?_; rintro e_ w_ ⟨rfl, ⟨n_, rfl⟩⟩) | (go_at_call 21; refine (split_c _ _).mono ?_; rintro e_ w_ ⟨rfl, ⟨n_, rfl⟩⟩))
                refine start_ (n := 11) (S := fun w' => w'.cell? ⟨ga, 0, none⟩ = some (.int .u64 (h.x 0)) ∧ w'.cell? ⟨gt, 2, none⟩ = some (.int .u64 tv)) (ds := []) #[false, false, false, false, false, false, false, false, false, false, false] (by kernel_rfl) rfl rfl ⟨(show World.cell? _ ⟨ga, 0, none⟩ = some (.int .u64 (h.x 0)) by first | (go_simp; done) | (go_simp; rfl)), (show World.cell? _ ⟨gt, 2, none⟩ = some (.int .u64 tv) by first | (go_simp; done) | (go_simp; rfl))⟩ (fun hHeld => ?_)
                have HH0 := Lib.hid hHeld
                clear hHeld
                refine world_any ga (by repeat (with_reducible first | exact K_ga.out | apply Hb.put | apply Hb.putP | apply Hb.putV | apply Hb.putW | apply Hb.putH | apply Hb.far N_ga_gt.out | apply Hb.far N_ga_gr.out | apply Hb.drewN | apply Hb.drew)) (fun w' => Below w.heap.size w w' ∧ w'.heap[gt]? = some (.cells #[.bool ti, .int .u64 tc, .int .u64 tv, .int .u64 tv2, .int .u64 tn, .bool tg] 27 (0, 0)) ∧ Hb w' gr Ht.zero ∧ (w'.cell? ⟨ga, 0, none⟩ = some (.int .u64 (h.x 0)) ∧ w'.cell? ⟨gt, 2, none⟩ = some (.int .u64 tv))) ⟨(by repeat (first | (with_reducible first | exact hB_9.out | apply pw_below_drewN | apply below_drew1 | refine below_set ?_ G_ga.out | refine below_set ?_ G_gt.out | refine below_set ?_ G_gr.out) | exact hB_9.out)), (by repeat (with_reducible first | exact K_gt.out | apply blk_drewN | apply blk_drew | refine blk_far ?_ (show gt ≠ _ from (Ne.symm N_ga_gt.out)) _ | refine blk_far ?_ (show gt ≠ _ from N_gt_gr.out) _)), (by repeat (with_reducible first | exact K_gr.out | apply Hb.put | apply Hb.putP | apply Hb.putV | apply Hb.putW | apply Hb.putH | apply Hb.far (Ne.symm N_ga_gr.out) | apply Hb.far (Ne.symm N_gt_gr.out) | apply Hb.drewN | apply Hb.drew)), HH0.out⟩ ?_
                clear HH0
                clear c_gt_1 f_gt_1 c_gt_2 f_gt_2 c_gt_3 f_gt_3 c_gt_4 f_gt_4 c_gt_5 f_gt_5 c_ga_0 f_ga_0 c_ga_33 f_ga_33 c_ga_34 f_ga_34 c_ga_35 f_ga_35 c_ga_36 f_ga_36 c_ga_37 f_ga_37 c_ga_38 f_ga_38 c_ga_68 f_ga_68 c_ga_69 f_ga_69 c_ga_71 f_ga_71 c_ga_72 f_ga_72 c_ga_73 f_ga_73
                clear K_ga K_gt K_gr hB_9
                rintro w_10 q_ ⟨b_, q_gt, q_gr, hHeld⟩
                have K_ga := Lib.hid q_; have hB_11 := Lib.hid b_; have K_gt := Lib.hid q_gt; have K_gr := Lib.hid q_gr
                clear q_ b_ q_gt q_gr
                refine pure_ (i := 0) (N := some 144) (v := ?_) (a' := ?_) #[true, false, false, false, false, false, false, false, false, false, false] rfl rfl (by kernel_rfl) (fun _ _ _ h => h) (Or.inl ⟨by rfl, ?_⟩) ?_ ?_
                rotate_left
                · intro w'
                  go_simp
                  with_reducible rfl
                rotate_left
                · simp only [Act.put, List.setIfInBounds_toArray, List.set_cons_zero, List.set_cons_succ, i64_w, i32_w]
                  rfl
                refine pure_ (i := 2) (N := some 146) (v := ?_) (a' := ?_) #[true, false, true, false, false, false, false, false, false, false, false] rfl rfl (by kernel_rfl) (fun _ _ _ h => h) (Or.inl ⟨by rfl, ?_⟩) ?_ ?_
                rotate_left
                · intro w'
                  go_simp
                  with_reducible rfl
                rotate_left
                · simp only [Act.put, List.setIfInBounds_toArray, List.set_cons_zero, List.set_cons_succ, i64_w, i32_w]
                  rfl
                refine pure_ (i := 3) (N := some 147) (v := ?_) (a' := ?_) #[true, false, true, true, false, false, false, false, false, false, false] rfl rfl (by kernel_rfl) (fun _ _ _ h => h) (Or.inl ⟨by rfl, ?_⟩) ?_ ?_
                rotate_left
                · intro w'
                  go_simp
                  with_reducible rfl
                rotate_left
                · simp only [Act.put, List.setIfInBounds_toArray, List.set_cons_zero, List.set_cons_succ, i64_w, i32_w]
                  rfl
                refine take_ (i := 1) (N := some 145) (v := ?_) (a' := ?_) #[true, true, true, true, false, false, false, false, false, false, false] rfl rfl (by kernel_rfl) (fun _ _ _ h => h) (Or.inl ⟨by rfl, ?_⟩) hHeld ?_ ?_
                rotate_left
                · rintro w' ⟨s0, s1⟩
                  go_simp
                  with_reducible rfl
                rotate_left
                · simp only [Act.put, List.setIfInBounds_toArray, List.set_cons_zero, List.set_cons_succ, i64_w, i32_w]
                  rfl
                refine pure_ (i := 5) (N := some 149) (v := ?_) (a' := ?_) #[true, true, true, true, false, true, false, false, false, false, false] rfl rfl (by kernel_rfl) (fun _ _ _ h => h) (Or.inl ⟨by rfl, ?_⟩) ?_ ?_
                rotate_left
                · intro w'
                  go_simp
                  with_reducible rfl
                rotate_left
                · simp only [Act.put, List.setIfInBounds_toArray, List.set_cons_zero, List.set_cons_succ, i64_w, i32_w]
                  rfl
                refine take_ (i := 4) (N := some 148) (v := ?_) (a' := ?_) #[true, true, true, true, true, true, false, false, false, false, false] rfl rfl (by kernel_rfl) (fun _ _ _ h => h) (Or.inl ⟨by rfl, ?_⟩) hHeld ?_ ?_
                rotate_left
                · rintro w' ⟨s0, s1⟩
                  go_simp
                  with_reducible rfl
                rotate_left
                · simp only [Act.put, List.setIfInBounds_toArray, List.set_cons_zero, List.set_cons_succ, i64_w, i32_w]
                  rfl
                have HH := Lib.hid hHeld
                clear hHeld
                refine one_ (i := 6) (N := none) #[true, true, true, true, true, true, true, false, false, false, false] rfl rfl (by kernel_rfl) (by decide) (fun K hK => ?_)
                refine skipH (h := _) (v := .int .u64 (h.x 0)) (by rfl) rfl rfl rfl rfl (by kernel_rfl) rfl rfl K_ga.out (by decide) ?_
                have q_ := Lib.hid (Hb.put 71 ((h.x 0)) K_ga.out)
                have hB_13 := Lib.hid (below_set (j := 71) (v := (.int .u64 (h.x 0))) hB_11.out G_ga.out)
                have q_gt := Lib.hid (blk_far K_gt.out (p := ⟨ga, 71, none⟩) (Ne.symm N_ga_gt.out) (.int .u64 (h.x 0)))
                have q_gr := Lib.hid (Hb.far (j := 71) (u := (.int .u64 (h.x 0))) (Ne.symm N_ga_gr.out) K_gr.out)
                have s_0 := (cell_ne (u := (.int .u64 (h.x 0))) HH.out.1 (show 0 ≠ 71 by decide))
                have s_1 := (cell_far' (j := 71) (u := (.int .u64 (h.x 0))) HH.out.2 (Ne.symm N_ga_gt.out))
                clear HH K_ga K_gt K_gr hB_11
                generalize World.setCell w_10 ⟨ga, 71, none⟩ (.int .u64 (h.x 0)) = w_12 at q_ hB_13 q_gt q_gr s_0 s_1 ⊢
                have K_ga := q_; clear q_
                have K_gt := q_gt; clear q_gt
                have K_gr := q_gr; clear q_gr
                refine hK.out _ _ ⟨s_0, s_1⟩ (fun hHeld => ?_)
                have HH := Lib.hid hHeld
                clear hHeld s_0 s_1
                clear hK K
                refine pure_ (i := 7) (N := some 150) (v := ?_) (a' := ?_) #[true, true, true, true, true, true, true, true, false, false, false] rfl rfl (by kernel_rfl) (fun _ _ _ h => h) (Or.inl ⟨by rfl, ?_⟩) ?_ ?_
                rotate_left
                · intro w'
                  go_simp
                  with_reducible rfl
                rotate_left
                · simp only [Act.put, List.setIfInBounds_toArray, List.set_cons_zero, List.set_cons_succ, i64_w, i32_w]
                  rfl
                refine one_ (i := 8) (N := none) #[true, true, true, true, true, true, true, true, true, false, false] rfl rfl (by kernel_rfl) (by decide) (fun K hK => ?_)
                refine skipH (h := _) (v := .int .u64 (IntKind.u64.wrap (tc - 1))) (by rfl) rfl rfl rfl rfl (by kernel_rfl) rfl rfl K_ga.out (by decide) ?_
                have q_ := Lib.hid (Hb.put 72 ((IntKind.u64.wrap (tc - 1))) K_ga.out)
                have hB_15 := Lib.hid (below_set (j := 72) (v := (.int .u64 (IntKind.u64.wrap (tc - 1)))) hB_13.out G_ga.out)
                have q_gt := Lib.hid (blk_far K_gt.out (p := ⟨ga, 72, none⟩) (Ne.symm N_ga_gt.out) (.int .u64 (IntKind.u64.wrap (tc - 1))))
                have q_gr := Lib.hid (Hb.far (j := 72) (u := (.int .u64 (IntKind.u64.wrap (tc - 1)))) (Ne.symm N_ga_gr.out) K_gr.out)
                have s_0 := (cell_ne (u := (.int .u64 (IntKind.u64.wrap (tc - 1)))) HH.out.1 (show 0 ≠ 72 by decide))
                have s_1 := (cell_far' (j := 72) (u := (.int .u64 (IntKind.u64.wrap (tc - 1)))) HH.out.2 (Ne.symm N_ga_gt.out))
                clear HH K_ga K_gt K_gr hB_13
                generalize World.setCell w_12 ⟨ga, 72, none⟩ (.int .u64 (IntKind.u64.wrap (tc - 1))) = w_14 at q_ hB_15 q_gt q_gr s_0 s_1 ⊢
                have K_ga := q_; clear q_
                have K_gt := q_gt; clear q_gt
                have K_gr := q_gr; clear q_gr
                refine hK.out _ _ ⟨s_0, s_1⟩ (fun hHeld => ?_)
                have HH := Lib.hid hHeld
                clear hHeld s_0 s_1
                clear hK K
                refine pure_ (i := 9) (N := some 151) (v := ?_) (a' := ?_) #[true, true, true, true, true, true, true, true, true, true, false] rfl rfl (by kernel_rfl) (fun _ _ _ h => h) (Or.inl ⟨by rfl, ?_⟩) ?_ ?_
                rotate_left
                · intro w'
                  go_simp
                  with_reducible rfl
                rotate_left
                · simp only [Act.put, List.setIfInBounds_toArray, List.set_cons_zero, List.set_cons_succ, i64_w, i32_w]
                  rfl
                refine one_ (i := 10) (N := none) #[true, true, true, true, true, true, true, true, true, true, true] rfl rfl (by kernel_rfl) (by decide) (fun K hK => ?_)
                refine skipH (h := _) (v := .int .u64 tv) (by rfl) rfl rfl rfl rfl (by kernel_rfl) rfl rfl K_ga.out (by decide) ?_
                have q_ := Lib.hid (Hb.put 73 (tv) K_ga.out)
                have hB_17 := Lib.hid (below_set (j := 73) (v := (.int .u64 tv)) hB_15.out G_ga.out)
                have q_gt := Lib.hid (blk_far K_gt.out (p := ⟨ga, 73, none⟩) (Ne.symm N_ga_gt.out) (.int .u64 tv))
                have q_gr := Lib.hid (Hb.far (j := 73) (u := (.int .u64 tv)) (Ne.symm N_ga_gr.out) K_gr.out)
                have s_0 := (cell_ne (u := (.int .u64 tv)) HH.out.1 (show 0 ≠ 73 by decide))
                have s_1 := (cell_far' (j := 73) (u := (.int .u64 tv)) HH.out.2 (Ne.symm N_ga_gt.out))
                clear HH K_ga K_gt K_gr hB_15
                generalize World.setCell w_14 ⟨ga, 73, none⟩ (.int .u64 tv) = w_16 at q_ hB_17 q_gt q_gr s_0 s_1 ⊢
                have K_ga := q_; clear q_
                have K_gt := q_gt; clear q_gt
                have K_gr := q_gr; clear q_gr
                refine hK.out _ _ ⟨s_0, s_1⟩ (fun hHeld => ?_)
                have HH := Lib.hid hHeld
                clear hHeld s_0 s_1
                clear hK K
                refine done_ (by kernel_rfl) ?_
                try clear HH
                have c_gt_1 := (show World.cell? _ ⟨gt, 1, none⟩ = some (.int .u64 tc) from (blk_cell K_gt.out 1).trans rfl); have f_gt_1 := blk_frozen K_gt.out 1
                have c_ga_33 := (show World.cell? _ ⟨ga, 33, none⟩ = some (.int .u8 (h.x 33)) from (K_ga.out.p).trans rfl); have f_ga_33 := K_ga.out.fr 33
                have c_ga_34 := (show World.cell? _ ⟨ga, 34, none⟩ = some (.bool h.v) from (K_ga.out.cv).trans rfl); have f_ga_34 := K_ga.out.fr 34
                have c_ga_0 := (show World.cell? _ ⟨ga, 0, none⟩ = some (.int .u64 (h.x 0)) from (K_ga.out.u 0 rfl).trans rfl); have f_ga_0 := K_ga.out.fr 0
                have c_ga_68 := (show World.cell? _ ⟨ga, 68, none⟩ = some (.int .u64 (h.x 68)) from (K_ga.out.u 68 rfl).trans rfl); have f_ga_68 := K_ga.out.fr 68
                have c_ga_69 := (show World.cell? _ ⟨ga, 69, none⟩ = some (.int .u64 (h.x 69)) from (K_ga.out.u 69 rfl).trans rfl); have f_ga_69 := K_ga.out.fr 69
                go_upto_region 28 with (first | (go_at_call 18; refine (on_c _ _ _ (by decide)).mono ?_; rintro e_ w_ ⟨rfl, ⟨n_, rfl⟩⟩) | (go_at_call 17; refine (set_c _ _ _ _ (by decide)).mono ?_; rintro e_ w_ ⟨rfl, ⟨n_, rfl⟩⟩) | (go_at_call 19; refine (place_c _ _ _).mono ?_; rintro e_ w_ ⟨rfl, ⟨n_, rfl⟩⟩) | (go_at_call 20; refine (taken_c _ _ _).mono ?_; rintro e_ w_ ⟨rfl, ⟨n_, rfl⟩⟩) | (go_at_call 21; refine (split_c _ _).mono ?_; rintro e_ w_ ⟨rfl, ⟨n_, rfl⟩⟩))
                refine wp_region_list ?_
                refine load_hart (h := _) rfl (.tmp 2) rfl ga rfl (by repeat (with_reducible first | exact K_ga.out | apply Hb.put | apply Hb.putP | apply Hb.putV | apply Hb.putW | apply Hb.putH | apply Hb.far N_ga_gt.out | apply Hb.far N_ga_gr.out | apply Hb.drewN | apply Hb.drew)) ?_
                refine store_hart rfl (.tmp 4) (.tmp 163) rfl gr _ rfl rfl Ht.zero (by repeat (with_reducible first | exact K_gr.out | apply Hb.put | apply Hb.putP | apply Hb.putV | apply Hb.putW | apply Hb.putH | apply Hb.far (Ne.symm N_ga_gr.out) | apply Hb.far (Ne.symm N_gt_gr.out) | apply Hb.drewN | apply Hb.drew)) ?_
                go_wp2
                refine bodyPost_ret (results_cell_row rfl _ _ gr 25 _ (0, 0) _ rfl (Hb.putAll _ (by repeat (with_reducible first | exact K_gr.out | apply Hb.put | apply Hb.putP | apply Hb.putV | apply Hb.putW | apply Hb.putH | apply Hb.far (Ne.symm N_ga_gr.out) | apply Hb.far (Ne.symm N_gt_gr.out) | apply Hb.drewN | apply Hb.drew))) Tryd.underlying25 rfl (by rw [Ht.size]; exact hartSize)) rfl ?_
                exact ⟨by (first | rfl | (simp only [enter, enterM, enterH, enterG, guestCause, t0, t1, t2, hs, n2, n6, if_true, if_false, Bool.false_eq_true, cond_true, cond_false]; done) | (simp only [enter, enterM, enterH, enterG, guestCause, t0, t1, t2, hs, n2, n6, if_true, if_false, Bool.false_eq_true, cond_true, cond_false]; rfl)), setCells_below G_gr.out _ _ _ (by repeat (first | (with_reducible first | exact hB_17.out | apply pw_below_drewN | apply below_drew1 | refine below_set ?_ G_ga.out | refine below_set ?_ G_gt.out | refine below_set ?_ G_gr.out) | exact hB_17.out))⟩
            · skip
              have C0 := Lib.hid c0; have C1 := Lib.hid c1
              clear c0 c1
              have hu25 := Tryd.underlying25
              go_enter Tryd.func6, Tryd.ntmps6
              have hu27 := Tryd.underlying27
              go_upto_region 3 with (first | ((with_reducible refine gate_dst (N := 2) rfl ?_); refine box_event ?hg (N := 2) ?hd (cs := h.cs) (t := 25) ?hr ?_; (case hd => rfl); (case hg => rfl); (case hr => first | (go_simp; done) | (go_simp; rfl)); intro ga hg w_1 H1 hb; have hB_2 := Lib.hid (below_step (Below.refl w.heap.size w) hb); have G_ga := Lib.hid (show w.heap.size ≤ ga by rw [hg]; exact ((Below.refl w.heap.size w)).size); have K_ga := Lib.hid (show Hb w_1 ga h from H1); clear hg hb H1) | ((with_reducible refine gate_dst (N := 3) rfl ?_); refine box_event ?hg (N := 3) ?hd (cs := #[.bool ti, .int .u64 tc, .int .u64 tv, .int .u64 tv2, .int .u64 tn, .bool tg]) (t := 27) ?hr ?_; (case hd => rfl); (case hg => rfl); (case hr => first | (go_simp; done) | (go_simp; rfl)); intro gt hg w_3 H1 hb; have hB_4 := Lib.hid (below_step hB_2.out hb); have G_gt := Lib.hid (show w.heap.size ≤ gt by rw [hg]; exact (hB_2.out).size); have N_ga_gt := Lib.hid (show ga ≠ gt by rw [hg]; exact Nat.ne_of_lt (K_ga.out.lt)); replace K_ga := Lib.hid (K_ga.out.below hb); have K_gt := Lib.hid (show w_3.heap[gt]? = some (.cells #[.bool ti, .int .u64 tc, .int .u64 tv, .int .u64 tv2, .int .u64 tn, .bool tg] 27 (0, 0)) from H1); clear hg hb H1 hB_2) | ((with_reducible refine gate_dst (N := 4) rfl ?_); refine box_event ?hg (N := 4) ?hd (cs := Ht.zero.cs) (t := 25) ?hr ?_; (case hd => rfl); (case hg => rfl); (case hr => first | (go_simp; done) | (go_simp; rfl)); intro gr hg w_5 H1 hb; have hB_6 := Lib.hid (below_step hB_4.out hb); have G_gr := Lib.hid (show w.heap.size ≤ gr by rw [hg]; exact (hB_4.out).size); have N_ga_gr := Lib.hid (show ga ≠ gr by rw [hg]; exact Nat.ne_of_lt (K_ga.out.lt)); have N_gt_gr := Lib.hid (show gt ≠ gr by rw [hg]; exact Nat.ne_of_lt (blk_lt K_gt.out)); replace K_ga := Lib.hid (K_ga.out.below hb); replace K_gt := Lib.hid (blk_below K_gt.out hb); have K_gr := Lib.hid (show Hb w_5 gr Ht.zero from H1); clear hg hb H1 hB_4; have c_gt_0 := (show World.cell? _ ⟨gt, 0, none⟩ = some (.bool ti) from (blk_cell K_gt.out 0).trans rfl); have f_gt_0 := blk_frozen K_gt.out 0; have c_gt_1 := (show World.cell? _ ⟨gt, 1, none⟩ = some (.int .u64 tc) from (blk_cell K_gt.out 1).trans rfl); have f_gt_1 := blk_frozen K_gt.out 1; clear hu25 hu27))
              refine wp_region_list ?_
              refine load_hart (h := h) rfl (.tmp 2) rfl ga rfl K_ga.out ?_
              go_wp2_with fail
              refine (to_c h tc _ C0.out C1.out).mono ?_
              rintro e_7 w_8 ⟨rfl, hb⟩
              clear c_gt_0 f_gt_0 c_gt_1 f_gt_1
              have hB_9 := Lib.hid (below_step hB_6.out hb)
              replace K_ga := Lib.hid (K_ga.out.below hb)
              replace K_gt := Lib.hid (blk_below K_gt.out hb)
              replace K_gr := Lib.hid (K_gr.out.below hb)
              clear hb hB_6
              have c_gt_1 := (show World.cell? _ ⟨gt, 1, none⟩ = some (.int .u64 tc) from (blk_cell K_gt.out 1).trans rfl); have f_gt_1 := blk_frozen K_gt.out 1
              have c_gt_2 := (show World.cell? _ ⟨gt, 2, none⟩ = some (.int .u64 tv) from (blk_cell K_gt.out 2).trans rfl); have f_gt_2 := blk_frozen K_gt.out 2
              have c_gt_3 := (show World.cell? _ ⟨gt, 3, none⟩ = some (.int .u64 tv2) from (blk_cell K_gt.out 3).trans rfl); have f_gt_3 := blk_frozen K_gt.out 3
              have c_gt_4 := (show World.cell? _ ⟨gt, 4, none⟩ = some (.int .u64 tn) from (blk_cell K_gt.out 4).trans rfl); have f_gt_4 := blk_frozen K_gt.out 4
              have c_gt_5 := (show World.cell? _ ⟨gt, 5, none⟩ = some (.bool tg) from (blk_cell K_gt.out 5).trans rfl); have f_gt_5 := blk_frozen K_gt.out 5
              have c_ga_0 := K_ga.out.u 0 rfl; have f_ga_0 := K_ga.out.fr 0
              have c_ga_33 := K_ga.out.p; have f_ga_33 := K_ga.out.fr 33
              have c_ga_34 := K_ga.out.cv; have f_ga_34 := K_ga.out.fr 34
              have c_ga_35 := K_ga.out.cw; have f_ga_35 := K_ga.out.fr 35
              have c_ga_36 := K_ga.out.ch; have f_ga_36 := K_ga.out.fr 36
              have c_ga_37 := K_ga.out.u 37 rfl; have f_ga_37 := K_ga.out.fr 37
              have c_ga_38 := K_ga.out.u 38 rfl; have f_ga_38 := K_ga.out.fr 38
              have c_ga_68 := K_ga.out.u 68 rfl; have f_ga_68 := K_ga.out.fr 68
              have c_ga_69 := K_ga.out.u 69 rfl; have f_ga_69 := K_ga.out.fr 69
              have c_ga_71 := K_ga.out.u 71 rfl; have f_ga_71 := K_ga.out.fr 71
              have c_ga_72 := K_ga.out.u 72 rfl; have f_ga_72 := K_ga.out.fr 72
              have c_ga_73 := K_ga.out.u 73 rfl; have f_ga_73 := K_ga.out.fr 73
              go_upto_region 25 with (first | (go_at_call 18; refine (on_c _ _ _ (by decide)).mono ?_; rintro e_ w_ ⟨rfl, ⟨n_, rfl⟩⟩) | (go_at_call 17; refine (set_c _ _ _ _ (by decide)).mono ?_; rintro e_ w_ ⟨rfl, ⟨n_, rfl⟩⟩) | (go_at_call 19; refine (place_c _ _ _).mono ?_; rintro e_ w_ ⟨rfl, ⟨n_, rfl⟩⟩) | (go_at_call 20; refine (taken_c _ _ _).mono ?_; rintro e_ w_ ⟨rfl, ⟨n_, rfl⟩⟩) | (go_at_call 21; refine (split_c _ _).mono ?_; rintro e_ w_ ⟨rfl, ⟨n_, rfl⟩⟩))
              refine start_ (n := 11) (S := fun w' => w'.cell? ⟨ga, 0, none⟩ = some (.int .u64 (h.x 0)) ∧ w'.cell? ⟨gt, 2, none⟩ = some (.int .u64 tv)) (ds := []) #[false, false, false, false, false, false, false, false, false, false, false] (by kernel_rfl) rfl rfl ⟨(show World.cell? _ ⟨ga, 0, none⟩ = some (.int .u64 (h.x 0)) by first | (go_simp; done) | (go_simp; rfl)), (show World.cell? _ ⟨gt, 2, none⟩ = some (.int .u64 tv) by first | (go_simp; done) | (go_simp; rfl))⟩ (fun hHeld => ?_)
              have HH0 := Lib.hid hHeld
              clear hHeld
              refine world_any ga (by repeat (with_reducible first | exact K_ga.out | apply Hb.put | apply Hb.putP | apply Hb.putV | apply Hb.putW | apply Hb.putH | apply Hb.far N_ga_gt.out | apply Hb.far N_ga_gr.out | apply Hb.drewN | apply Hb.drew)) (fun w' => Below w.heap.size w w' ∧ w'.heap[gt]? = some (.cells #[.bool ti, .int .u64 tc, .int .u64 tv, .int .u64 tv2, .int .u64 tn, .bool tg] 27 (0, 0)) ∧ Hb w' gr Ht.zero ∧ (w'.cell? ⟨ga, 0, none⟩ = some (.int .u64 (h.x 0)) ∧ w'.cell? ⟨gt, 2, none⟩ = some (.int .u64 tv))) ⟨(by repeat (first | (with_reducible first | exact hB_9.out | apply pw_below_drewN | apply below_drew1 | refine below_set ?_ G_ga.out | refine below_set ?_ G_gt.out | refine below_set ?_ G_gr.out) | exact hB_9.out)), (by repeat (with_reducible first | exact K_gt.out | apply blk_drewN | apply blk_drew | refine blk_far ?_ (show gt ≠ _ from (Ne.symm N_ga_gt.out)) _ | refine blk_far ?_ (show gt ≠ _ from N_gt_gr.out) _)), (by repeat (with_reducible first | exact K_gr.out | apply Hb.put | apply Hb.putP | apply Hb.putV | apply Hb.putW | apply Hb.putH | apply Hb.far (Ne.symm N_ga_gr.out) | apply Hb.far (Ne.symm N_gt_gr.out) | apply Hb.drewN | apply Hb.drew)), HH0.out⟩ ?_
              clear HH0
              clear c_gt_1 f_gt_1 c_gt_2 f_gt_2 c_gt_3 f_gt_3 c_gt_4 f_gt_4 c_gt_5 f_gt_5 c_ga_0 f_ga_0 c_ga_33 f_ga_33 c_ga_34 f_ga_34 c_ga_35 f_ga_35 c_ga_36 f_ga_36 c_ga_37 f_ga_37 c_ga_38 f_ga_38 c_ga_68 f_ga_68 c_ga_69 f_ga_69 c_ga_71 f_ga_71 c_ga_72 f_ga_72 c_ga_73 f_ga_73
              clear K_ga K_gt K_gr hB_9
              rintro w_10 q_ ⟨b_, q_gt, q_gr, hHeld⟩
              have K_ga := Lib.hid q_; have hB_11 := Lib.hid b_; have K_gt := Lib.hid q_gt; have K_gr := Lib.hid q_gr
              clear q_ b_ q_gt q_gr
              refine pure_ (i := 0) (N := some 144) (v := ?_) (a' := ?_) #[true, false, false, false, false, false, false, false, false, false, false] rfl rfl (by kernel_rfl) (fun _ _ _ h => h) (Or.inl ⟨by rfl, ?_⟩) ?_ ?_
              rotate_left
              · intro w'
                go_simp
                with_reducible rfl
              rotate_left
              · simp only [Act.put, List.setIfInBounds_toArray, List.set_cons_zero, List.set_cons_succ, i64_w, i32_w]
                rfl
              refine pure_ (i := 2) (N := some 146) (v := ?_) (a' := ?_) #[true, false, true, false, false, false, false, false, false, false, false] rfl rfl (by kernel_rfl) (fun _ _ _ h => h) (Or.inl ⟨by rfl, ?_⟩) ?_ ?_
              rotate_left
              · intro w'
                go_simp
                with_reducible rfl
              rotate_left
              · simp only [Act.put, List.setIfInBounds_toArray, List.set_cons_zero, List.set_cons_succ, i64_w, i32_w]
                rfl
              refine pure_ (i := 3) (N := some 147) (v := ?_) (a' := ?_) #[true, false, true, true, false, false, false, false, false, false, false] rfl rfl (by kernel_rfl) (fun _ _ _ h => h) (Or.inl ⟨by rfl, ?_⟩) ?_ ?_
              rotate_left
              · intro w'
                go_simp
                with_reducible rfl
              rotate_left
              · simp only [Act.put, List.setIfInBounds_toArray, List.set_cons_zero, List.set_cons_succ, i64_w, i32_w]
                rfl
              refine take_ (i := 1) (N := some 145) (v := ?_) (a' := ?_) #[true, true, true, true, false, false, false, false, false, false, false] rfl rfl (by kernel_rfl) (fun _ _ _ h => h) (Or.inl ⟨by rfl, ?_⟩) hHeld ?_ ?_
              rotate_left
              · rintro w' ⟨s0, s1⟩
                go_simp
                with_reducible rfl
              rotate_left
              · simp only [Act.put, List.setIfInBounds_toArray, List.set_cons_zero, List.set_cons_succ, i64_w, i32_w]
                rfl
              refine pure_ (i := 5) (N := some 149) (v := ?_) (a' := ?_) #[true, true, true, true, false, true, false, false, false, false, false] rfl rfl (by kernel_rfl) (fun _ _ _ h => h) (Or.inl ⟨by rfl, ?_⟩) ?_ ?_
              rotate_left
              · intro w'
                go_simp
                with_reducible rfl
              rotate_left
              · simp only [Act.put, List.setIfInBounds_toArray, List.set_cons_zero, List.set_cons_succ, i64_w, i32_w]
                rfl
              refine take_ (i := 4) (N := some 148) (v := ?_) (a' := ?_) #[true, true, true, true, true, true, false, false, false, false, false] rfl rfl (by kernel_rfl) (fun _ _ _ h => h) (Or.inl ⟨by rfl, ?_⟩) hHeld ?_ ?_
              rotate_left
              · rintro w' ⟨s0, s1⟩
                go_simp
                with_reducible rfl
              rotate_left
              · simp only [Act.put, List.setIfInBounds_toArray, List.set_cons_zero, List.set_cons_succ, i64_w, i32_w]
                rfl
              have HH := Lib.hid hHeld
              clear hHeld
              refine one_ (i := 6) (N := none) #[true, true, true, true, true, true, true, false, false, false, false] rfl rfl (by kernel_rfl) (by decide) (fun K hK => ?_)
              refine skipH (h := _) (v := .int .u64 (h.x 0)) (by rfl) rfl rfl rfl rfl (by kernel_rfl) rfl rfl K_ga.out (by decide) ?_
              have q_ := Lib.hid (Hb.put 71 ((h.x 0)) K_ga.out)
              have hB_13 := Lib.hid (below_set (j := 71) (v := (.int .u64 (h.x 0))) hB_11.out G_ga.out)
              have q_gt := Lib.hid (blk_far K_gt.out (p := ⟨ga, 71, none⟩) (Ne.symm N_ga_gt.out) (.int .u64 (h.x 0)))
              have q_gr := Lib.hid (Hb.far (j := 71) (u := (.int .u64 (h.x 0))) (Ne.symm N_ga_gr.out) K_gr.out)
              have s_0 := (cell_ne (u := (.int .u64 (h.x 0))) HH.out.1 (show 0 ≠ 71 by decide))
              have s_1 := (cell_far' (j := 71) (u := (.int .u64 (h.x 0))) HH.out.2 (Ne.symm N_ga_gt.out))
              clear HH K_ga K_gt K_gr hB_11
              generalize World.setCell w_10 ⟨ga, 71, none⟩ (.int .u64 (h.x 0)) = w_12 at q_ hB_13 q_gt q_gr s_0 s_1 ⊢
              have K_ga := q_; clear q_
              have K_gt := q_gt; clear q_gt
              have K_gr := q_gr; clear q_gr
              refine hK.out _ _ ⟨s_0, s_1⟩ (fun hHeld => ?_)
              have HH := Lib.hid hHeld
              clear hHeld s_0 s_1
              clear hK K
              refine pure_ (i := 7) (N := some 150) (v := ?_) (a' := ?_) #[true, true, true, true, true, true, true, true, false, false, false] rfl rfl (by kernel_rfl) (fun _ _ _ h => h) (Or.inl ⟨by rfl, ?_⟩) ?_ ?_
              rotate_left
              · intro w'
                go_simp
                with_reducible rfl
              rotate_left
              · simp only [Act.put, List.setIfInBounds_toArray, List.set_cons_zero, List.set_cons_succ, i64_w, i32_w]
                rfl
              refine one_ (i := 8) (N := none) #[true, true, true, true, true, true, true, true, true, false, false] rfl rfl (by kernel_rfl) (by decide) (fun K hK => ?_)
              refine skipH (h := _) (v := .int .u64 (IntKind.u64.wrap (tc - 1))) (by rfl) rfl rfl rfl rfl (by kernel_rfl) rfl rfl K_ga.out (by decide) ?_
              have q_ := Lib.hid (Hb.put 72 ((IntKind.u64.wrap (tc - 1))) K_ga.out)
              have hB_15 := Lib.hid (below_set (j := 72) (v := (.int .u64 (IntKind.u64.wrap (tc - 1)))) hB_13.out G_ga.out)
              have q_gt := Lib.hid (blk_far K_gt.out (p := ⟨ga, 72, none⟩) (Ne.symm N_ga_gt.out) (.int .u64 (IntKind.u64.wrap (tc - 1))))
              have q_gr := Lib.hid (Hb.far (j := 72) (u := (.int .u64 (IntKind.u64.wrap (tc - 1)))) (Ne.symm N_ga_gr.out) K_gr.out)
              have s_0 := (cell_ne (u := (.int .u64 (IntKind.u64.wrap (tc - 1)))) HH.out.1 (show 0 ≠ 72 by decide))
              have s_1 := (cell_far' (j := 72) (u := (.int .u64 (IntKind.u64.wrap (tc - 1)))) HH.out.2 (Ne.symm N_ga_gt.out))
              clear HH K_ga K_gt K_gr hB_13
              generalize World.setCell w_12 ⟨ga, 72, none⟩ (.int .u64 (IntKind.u64.wrap (tc - 1))) = w_14 at q_ hB_15 q_gt q_gr s_0 s_1 ⊢
              have K_ga := q_; clear q_
              have K_gt := q_gt; clear q_gt
              have K_gr := q_gr; clear q_gr
              refine hK.out _ _ ⟨s_0, s_1⟩ (fun hHeld => ?_)
              have HH := Lib.hid hHeld
              clear hHeld s_0 s_1
              clear hK K
              refine pure_ (i := 9) (N := some 151) (v := ?_) (a' := ?_) #[true, true, true, true, true, true, true, true, true, true, false] rfl rfl (by kernel_rfl) (fun _ _ _ h => h) (Or.inl ⟨by rfl, ?_⟩) ?_ ?_
              rotate_left
              · intro w'
                go_simp
                with_reducible rfl
              rotate_left
              · simp only [Act.put, List.setIfInBounds_toArray, List.set_cons_zero, List.set_cons_succ, i64_w, i32_w]
                rfl
              refine one_ (i := 10) (N := none) #[true, true, true, true, true, true, true, true, true, true, true] rfl rfl (by kernel_rfl) (by decide) (fun K hK => ?_)
              refine skipH (h := _) (v := .int .u64 tv) (by rfl) rfl rfl rfl rfl (by kernel_rfl) rfl rfl K_ga.out (by decide) ?_
              have q_ := Lib.hid (Hb.put 73 (tv) K_ga.out)
              have hB_17 := Lib.hid (below_set (j := 73) (v := (.int .u64 tv)) hB_15.out G_ga.out)
              have q_gt := Lib.hid (blk_far K_gt.out (p := ⟨ga, 73, none⟩) (Ne.symm N_ga_gt.out) (.int .u64 tv))
              have q_gr := Lib.hid (Hb.far (j := 73) (u := (.int .u64 tv)) (Ne.symm N_ga_gr.out) K_gr.out)
              have s_0 := (cell_ne (u := (.int .u64 tv)) HH.out.1 (show 0 ≠ 73 by decide))
              have s_1 := (cell_far' (j := 73) (u := (.int .u64 tv)) HH.out.2 (Ne.symm N_ga_gt.out))
              clear HH K_ga K_gt K_gr hB_15
              generalize World.setCell w_14 ⟨ga, 73, none⟩ (.int .u64 tv) = w_16 at q_ hB_17 q_gt q_gr s_0 s_1 ⊢
              have K_ga := q_; clear q_
              have K_gt := q_gt; clear q_gt
              have K_gr := q_gr; clear q_gr
              refine hK.out _ _ ⟨s_0, s_1⟩ (fun hHeld => ?_)
              have HH := Lib.hid hHeld
              clear hHeld s_0 s_1
              clear hK K
              refine done_ (by kernel_rfl) ?_
              try clear HH
              have c_gt_1 := (show World.cell? _ ⟨gt, 1, none⟩ = some (.int .u64 tc) from (blk_cell K_gt.out 1).trans rfl); have f_gt_1 := blk_frozen K_gt.out 1
              have c_ga_33 := (show World.cell? _ ⟨ga, 33, none⟩ = some (.int .u8 (h.x 33)) from (K_ga.out.p).trans rfl); have f_ga_33 := K_ga.out.fr 33
              have c_ga_34 := (show World.cell? _ ⟨ga, 34, none⟩ = some (.bool h.v) from (K_ga.out.cv).trans rfl); have f_ga_34 := K_ga.out.fr 34
              have c_ga_0 := (show World.cell? _ ⟨ga, 0, none⟩ = some (.int .u64 (h.x 0)) from (K_ga.out.u 0 rfl).trans rfl); have f_ga_0 := K_ga.out.fr 0
              have c_ga_68 := (show World.cell? _ ⟨ga, 68, none⟩ = some (.int .u64 (h.x 68)) from (K_ga.out.u 68 rfl).trans rfl); have f_ga_68 := K_ga.out.fr 68
              have c_ga_69 := (show World.cell? _ ⟨ga, 69, none⟩ = some (.int .u64 (h.x 69)) from (K_ga.out.u 69 rfl).trans rfl); have f_ga_69 := K_ga.out.fr 69
              go_upto_region 28 with (first | (go_at_call 18; refine (on_c _ _ _ (by decide)).mono ?_; rintro e_ w_ ⟨rfl, ⟨n_, rfl⟩⟩) | (go_at_call 17; refine (set_c _ _ _ _ (by decide)).mono ?_; rintro e_ w_ ⟨rfl, ⟨n_, rfl⟩⟩) | (go_at_call 19; refine (place_c _ _ _).mono ?_; rintro e_ w_ ⟨rfl, ⟨n_, rfl⟩⟩) | (go_at_call 20; refine (taken_c _ _ _).mono ?_; rintro e_ w_ ⟨rfl, ⟨n_, rfl⟩⟩) | (go_at_call 21; refine (split_c _ _).mono ?_; rintro e_ w_ ⟨rfl, ⟨n_, rfl⟩⟩))
              refine wp_region_list ?_
              refine load_hart (h := _) rfl (.tmp 2) rfl ga rfl (by repeat (with_reducible first | exact K_ga.out | apply Hb.put | apply Hb.putP | apply Hb.putV | apply Hb.putW | apply Hb.putH | apply Hb.far N_ga_gt.out | apply Hb.far N_ga_gr.out | apply Hb.drewN | apply Hb.drew)) ?_
              refine store_hart rfl (.tmp 4) (.tmp 163) rfl gr _ rfl rfl Ht.zero (by repeat (with_reducible first | exact K_gr.out | apply Hb.put | apply Hb.putP | apply Hb.putV | apply Hb.putW | apply Hb.putH | apply Hb.far (Ne.symm N_ga_gr.out) | apply Hb.far (Ne.symm N_gt_gr.out) | apply Hb.drewN | apply Hb.drew)) ?_
              go_wp2
              refine bodyPost_ret (results_cell_row rfl _ _ gr 25 _ (0, 0) _ rfl (Hb.putAll _ (by repeat (with_reducible first | exact K_gr.out | apply Hb.put | apply Hb.putP | apply Hb.putV | apply Hb.putW | apply Hb.putH | apply Hb.far (Ne.symm N_ga_gr.out) | apply Hb.far (Ne.symm N_gt_gr.out) | apply Hb.drewN | apply Hb.drew))) Tryd.underlying25 rfl (by rw [Ht.size]; exact hartSize)) rfl ?_
              exact ⟨by (first | rfl | (simp only [enter, enterM, enterH, enterG, guestCause, t0, t1, t2, hs, n2, if_true, if_false, Bool.false_eq_true, cond_true, cond_false]; done) | (simp only [enter, enterM, enterH, enterG, guestCause, t0, t1, t2, hs, n2, if_true, if_false, Bool.false_eq_true, cond_true, cond_false]; rfl)), setCells_below G_gr.out _ _ _ (by repeat (first | (with_reducible first | exact hB_17.out | apply pw_below_drewN | apply below_drew1 | refine below_set ?_ G_ga.out | refine below_set ?_ G_gt.out | refine below_set ?_ G_gr.out) | exact hB_17.out))⟩
      · skip
        cases hv : h.v
        · skip
          have C0 := Lib.hid c0; have C1 := Lib.hid c1
          clear c0 c1
          have hu25 := Tryd.underlying25
          go_enter Tryd.func6, Tryd.ntmps6
          have hu27 := Tryd.underlying27
          go_upto_region 3 with (first | ((with_reducible refine gate_dst (N := 2) rfl ?_); refine box_event ?hg (N := 2) ?hd (cs := h.cs) (t := 25) ?hr ?_; (case hd => rfl); (case hg => rfl); (case hr => first | (go_simp; done) | (go_simp; rfl)); intro ga hg w_1 H1 hb; have hB_2 := Lib.hid (below_step (Below.refl w.heap.size w) hb); have G_ga := Lib.hid (show w.heap.size ≤ ga by rw [hg]; exact ((Below.refl w.heap.size w)).size); have K_ga := Lib.hid (show Hb w_1 ga h from H1); clear hg hb H1) | ((with_reducible refine gate_dst (N := 3) rfl ?_); refine box_event ?hg (N := 3) ?hd (cs := #[.bool ti, .int .u64 tc, .int .u64 tv, .int .u64 tv2, .int .u64 tn, .bool tg]) (t := 27) ?hr ?_; (case hd => rfl); (case hg => rfl); (case hr => first | (go_simp; done) | (go_simp; rfl)); intro gt hg w_3 H1 hb; have hB_4 := Lib.hid (below_step hB_2.out hb); have G_gt := Lib.hid (show w.heap.size ≤ gt by rw [hg]; exact (hB_2.out).size); have N_ga_gt := Lib.hid (show ga ≠ gt by rw [hg]; exact Nat.ne_of_lt (K_ga.out.lt)); replace K_ga := Lib.hid (K_ga.out.below hb); have K_gt := Lib.hid (show w_3.heap[gt]? = some (.cells #[.bool ti, .int .u64 tc, .int .u64 tv, .int .u64 tv2, .int .u64 tn, .bool tg] 27 (0, 0)) from H1); clear hg hb H1 hB_2) | ((with_reducible refine gate_dst (N := 4) rfl ?_); refine box_event ?hg (N := 4) ?hd (cs := Ht.zero.cs) (t := 25) ?hr ?_; (case hd => rfl); (case hg => rfl); (case hr => first | (go_simp; done) | (go_simp; rfl)); intro gr hg w_5 H1 hb; have hB_6 := Lib.hid (below_step hB_4.out hb); have G_gr := Lib.hid (show w.heap.size ≤ gr by rw [hg]; exact (hB_4.out).size); have N_ga_gr := Lib.hid (show ga ≠ gr by rw [hg]; exact Nat.ne_of_lt (K_ga.out.lt)); have N_gt_gr := Lib.hid (show gt ≠ gr by rw [hg]; exact Nat.ne_of_lt (blk_lt K_gt.out)); replace K_ga := Lib.hid (K_ga.out.below hb); replace K_gt := Lib.hid (blk_below K_gt.out hb); have K_gr := Lib.hid (show Hb w_5 gr Ht.zero from H1); clear hg hb H1 hB_4; have c_gt_0 := (show World.cell? _ ⟨gt, 0, none⟩ = some (.bool ti) from (blk_cell K_gt.out 0).trans rfl); have f_gt_0 := blk_frozen K_gt.out 0; have c_gt_1 := (show World.cell? _ ⟨gt, 1, none⟩ = some (.int .u64 tc) from (blk_cell K_gt.out 1).trans rfl); have f_gt_1 := blk_frozen K_gt.out 1; clear hu25 hu27))
          refine wp_region_list ?_
          refine load_hart (h := h) rfl (.tmp 2) rfl ga rfl K_ga.out ?_
          go_wp2_with fail
          refine (to_c h tc _ C0.out C1.out).mono ?_
          rintro e_7 w_8 ⟨rfl, hb⟩
          clear c_gt_0 f_gt_0 c_gt_1 f_gt_1
          have hB_9 := Lib.hid (below_step hB_6.out hb)
          replace K_ga := Lib.hid (K_ga.out.below hb)
          replace K_gt := Lib.hid (blk_below K_gt.out hb)
          replace K_gr := Lib.hid (K_gr.out.below hb)
          clear hb hB_6
          have c_gt_1 := (show World.cell? _ ⟨gt, 1, none⟩ = some (.int .u64 tc) from (blk_cell K_gt.out 1).trans rfl); have f_gt_1 := blk_frozen K_gt.out 1
          have c_gt_2 := (show World.cell? _ ⟨gt, 2, none⟩ = some (.int .u64 tv) from (blk_cell K_gt.out 2).trans rfl); have f_gt_2 := blk_frozen K_gt.out 2
          have c_gt_3 := (show World.cell? _ ⟨gt, 3, none⟩ = some (.int .u64 tv2) from (blk_cell K_gt.out 3).trans rfl); have f_gt_3 := blk_frozen K_gt.out 3
          have c_gt_4 := (show World.cell? _ ⟨gt, 4, none⟩ = some (.int .u64 tn) from (blk_cell K_gt.out 4).trans rfl); have f_gt_4 := blk_frozen K_gt.out 4
          have c_gt_5 := (show World.cell? _ ⟨gt, 5, none⟩ = some (.bool tg) from (blk_cell K_gt.out 5).trans rfl); have f_gt_5 := blk_frozen K_gt.out 5
          have c_ga_0 := K_ga.out.u 0 rfl; have f_ga_0 := K_ga.out.fr 0
          have c_ga_33 := K_ga.out.p; have f_ga_33 := K_ga.out.fr 33
          have c_ga_34 := K_ga.out.cv; have f_ga_34 := K_ga.out.fr 34
          have c_ga_35 := K_ga.out.cw; have f_ga_35 := K_ga.out.fr 35
          have c_ga_36 := K_ga.out.ch; have f_ga_36 := K_ga.out.fr 36
          have c_ga_37 := K_ga.out.u 37 rfl; have f_ga_37 := K_ga.out.fr 37
          have c_ga_38 := K_ga.out.u 38 rfl; have f_ga_38 := K_ga.out.fr 38
          have c_ga_51 := K_ga.out.u 51 rfl; have f_ga_51 := K_ga.out.fr 51
          have c_ga_54 := K_ga.out.u 54 rfl; have f_ga_54 := K_ga.out.fr 54
          have c_ga_55 := K_ga.out.u 55 rfl; have f_ga_55 := K_ga.out.fr 55
          have c_ga_56 := K_ga.out.u 56 rfl; have f_ga_56 := K_ga.out.fr 56
          have c_ga_58 := K_ga.out.u 58 rfl; have f_ga_58 := K_ga.out.fr 58
          have c_ga_64 := K_ga.out.u 64 rfl; have f_ga_64 := K_ga.out.fr 64
          have c_ga_65 := K_ga.out.u 65 rfl; have f_ga_65 := K_ga.out.fr 65
          go_upto_region 14 with (first | (go_at_call 18; refine (on_c _ _ _ (by decide)).mono ?_; rintro e_ w_ ⟨rfl, ⟨n_, rfl⟩⟩) | (go_at_call 17; refine (set_c _ _ _ _ (by decide)).mono ?_; rintro e_ w_ ⟨rfl, ⟨n_, rfl⟩⟩) | (go_at_call 19; refine (place_c _ _ _).mono ?_; rintro e_ w_ ⟨rfl, ⟨n_, rfl⟩⟩) | (go_at_call 20; refine (taken_c _ _ _).mono ?_; rintro e_ w_ ⟨rfl, ⟨n_, rfl⟩⟩) | (go_at_call 21; refine (split_c _ _).mono ?_; rintro e_ w_ ⟨rfl, ⟨n_, rfl⟩⟩))
          refine start_ (n := 20) (S := fun w' => w'.cell? ⟨ga, 0, none⟩ = some (.int .u64 (h.x 0)) ∧ w'.cell? ⟨gt, 1, none⟩ = some (.int .u64 tc) ∧ w'.cell? ⟨gt, 2, none⟩ = some (.int .u64 tv) ∧ w'.cell? ⟨gt, 3, none⟩ = some (.int .u64 tv2) ∧ w'.cell? ⟨gt, 4, none⟩ = some (.int .u64 tn)) (ds := []) #[false, false, false, false, false, false, false, false, false, false, false, false, false, false, false, false, false, false, false, false] (by kernel_rfl) rfl rfl ⟨(show World.cell? _ ⟨ga, 0, none⟩ = some (.int .u64 (h.x 0)) by first | (go_simp; done) | (go_simp; rfl)), (show World.cell? _ ⟨gt, 1, none⟩ = some (.int .u64 tc) by first | (go_simp; done) | (go_simp; rfl)), (show World.cell? _ ⟨gt, 2, none⟩ = some (.int .u64 tv) by first | (go_simp; done) | (go_simp; rfl)), (show World.cell? _ ⟨gt, 3, none⟩ = some (.int .u64 tv2) by first | (go_simp; done) | (go_simp; rfl)), (show World.cell? _ ⟨gt, 4, none⟩ = some (.int .u64 tn) by first | (go_simp; done) | (go_simp; rfl))⟩ (fun hHeld => ?_)
          have HH0 := Lib.hid hHeld
          clear hHeld
          refine world_any ga (by repeat (with_reducible first | exact K_ga.out | apply Hb.put | apply Hb.putP | apply Hb.putV | apply Hb.putW | apply Hb.putH | apply Hb.far N_ga_gt.out | apply Hb.far N_ga_gr.out | apply Hb.drewN | apply Hb.drew)) (fun w' => Below w.heap.size w w' ∧ w'.heap[gt]? = some (.cells #[.bool ti, .int .u64 tc, .int .u64 tv, .int .u64 tv2, .int .u64 tn, .bool tg] 27 (0, 0)) ∧ Hb w' gr Ht.zero ∧ (w'.cell? ⟨ga, 0, none⟩ = some (.int .u64 (h.x 0)) ∧ w'.cell? ⟨gt, 1, none⟩ = some (.int .u64 tc) ∧ w'.cell? ⟨gt, 2, none⟩ = some (.int .u64 tv) ∧ w'.cell? ⟨gt, 3, none⟩ = some (.int .u64 tv2) ∧ w'.cell? ⟨gt, 4, none⟩ = some (.int .u64 tn))) ⟨(by repeat (first | (with_reducible first | exact hB_9.out | apply pw_below_drewN | apply below_drew1 | refine below_set ?_ G_ga.out | refine below_set ?_ G_gt.out | refine below_set ?_ G_gr.out) | exact hB_9.out)), (by repeat (with_reducible first | exact K_gt.out | apply blk_drewN | apply blk_drew | refine blk_far ?_ (show gt ≠ _ from (Ne.symm N_ga_gt.out)) _ | refine blk_far ?_ (show gt ≠ _ from N_gt_gr.out) _)), (by repeat (with_reducible first | exact K_gr.out | apply Hb.put | apply Hb.putP | apply Hb.putV | apply Hb.putW | apply Hb.putH | apply Hb.far (Ne.symm N_ga_gr.out) | apply Hb.far (Ne.symm N_gt_gr.out) | apply Hb.drewN | apply Hb.drew)), HH0.out⟩ ?_
          clear HH0
          clear c_gt_1 f_gt_1 c_gt_2 f_gt_2 c_gt_3 f_gt_3 c_gt_4 f_gt_4 c_gt_5 f_gt_5 c_ga_0 f_ga_0 c_ga_33 f_ga_33 c_ga_34 f_ga_34 c_ga_35 f_ga_35 c_ga_36 f_ga_36 c_ga_37 f_ga_37 c_ga_38 f_ga_38 c_ga_51 f_ga_51 c_ga_54 f_ga_54 c_ga_55 f_ga_55 c_ga_56 f_ga_56 c_ga_58 f_ga_58 c_ga_64 f_ga_64 c_ga_65 f_ga_65
          clear K_ga K_gt K_gr hB_9
          rintro w_10 q_ ⟨b_, q_gt, q_gr, hHeld⟩
          have K_ga := Lib.hid q_; have hB_11 := Lib.hid b_; have K_gt := Lib.hid q_gt; have K_gr := Lib.hid q_gr
          clear q_ b_ q_gt q_gr
          refine pure_ (i := 0) (N := some 76) (v := ?_) (a' := ?_) #[true, false, false, false, false, false, false, false, false, false, false, false, false, false, false, false, false, false, false, false] rfl rfl (by kernel_rfl) (fun _ _ _ h => h) (Or.inl ⟨by rfl, ?_⟩) ?_ ?_
          rotate_left
          · intro w'
            go_simp
            with_reducible rfl
          rotate_left
          · simp only [Act.put, List.setIfInBounds_toArray, List.set_cons_zero, List.set_cons_succ, i64_w, i32_w]
            rfl
          refine pure_ (i := 2) (N := some 78) (v := ?_) (a' := ?_) #[true, false, true, false, false, false, false, false, false, false, false, false, false, false, false, false, false, false, false, false] rfl rfl (by kernel_rfl) (fun _ _ _ h => h) (Or.inl ⟨by rfl, ?_⟩) ?_ ?_
          rotate_left
          · intro w'
            go_simp
            with_reducible rfl
          rotate_left
          · simp only [Act.put, List.setIfInBounds_toArray, List.set_cons_zero, List.set_cons_succ, i64_w, i32_w]
            rfl
          refine pure_ (i := 4) (N := some 80) (v := ?_) (a' := ?_) #[true, false, true, false, true, false, false, false, false, false, false, false, false, false, false, false, false, false, false, false] rfl rfl (by kernel_rfl) (fun _ _ _ h => h) (Or.inl ⟨by rfl, ?_⟩) ?_ ?_
          rotate_left
          · intro w'
            go_simp
            with_reducible rfl
          rotate_left
          · simp only [Act.put, List.setIfInBounds_toArray, List.set_cons_zero, List.set_cons_succ, i64_w, i32_w]
            rfl
          refine pure_ (i := 6) (N := some 82) (v := ?_) (a' := ?_) #[true, false, true, false, true, false, true, false, false, false, false, false, false, false, false, false, false, false, false, false] rfl rfl (by kernel_rfl) (fun _ _ _ h => h) (Or.inl ⟨by rfl, ?_⟩) ?_ ?_
          rotate_left
          · intro w'
            go_simp
            with_reducible rfl
          rotate_left
          · simp only [Act.put, List.setIfInBounds_toArray, List.set_cons_zero, List.set_cons_succ, i64_w, i32_w]
            rfl
          refine pure_ (i := 8) (N := some 84) (v := ?_) (a' := ?_) #[true, false, true, false, true, false, true, false, true, false, false, false, false, false, false, false, false, false, false, false] rfl rfl (by kernel_rfl) (fun _ _ _ h => h) (Or.inl ⟨by rfl, ?_⟩) ?_ ?_
          rotate_left
          · intro w'
            go_simp
            with_reducible rfl
          rotate_left
          · simp only [Act.put, List.setIfInBounds_toArray, List.set_cons_zero, List.set_cons_succ, i64_w, i32_w]
            rfl
          refine take_ (i := 1) (N := some 77) (v := ?_) (a' := ?_) #[true, true, true, false, true, false, true, false, true, false, false, false, false, false, false, false, false, false, false, false] rfl rfl (by kernel_rfl) (fun _ _ _ h => h) (Or.inl ⟨by rfl, ?_⟩) hHeld ?_ ?_
          rotate_left
          · rintro w' ⟨s0, s1, s2, s3, s4⟩
            go_simp
            with_reducible rfl
          rotate_left
          · simp only [Act.put, List.setIfInBounds_toArray, List.set_cons_zero, List.set_cons_succ, i64_w, i32_w]
            rfl
          refine pure_ (i := 10) (N := some 86) (v := ?_) (a' := ?_) #[true, true, true, false, true, false, true, false, true, false, true, false, false, false, false, false, false, false, false, false] rfl rfl (by kernel_rfl) (fun _ _ _ h => h) (Or.inl ⟨by rfl, ?_⟩) ?_ ?_
          rotate_left
          · intro w'
            go_simp
            with_reducible rfl
          rotate_left
          · simp only [Act.put, List.setIfInBounds_toArray, List.set_cons_zero, List.set_cons_succ, i64_w, i32_w]
            rfl
          refine take_ (i := 3) (N := some 79) (v := ?_) (a' := ?_) #[true, true, true, true, true, false, true, false, true, false, true, false, false, false, false, false, false, false, false, false] rfl rfl (by kernel_rfl) (fun _ _ _ h => h) (Or.inl ⟨by rfl, ?_⟩) hHeld ?_ ?_
          rotate_left
          · rintro w' ⟨s0, s1, s2, s3, s4⟩
            go_simp
            with_reducible rfl
          rotate_left
          · simp only [Act.put, List.setIfInBounds_toArray, List.set_cons_zero, List.set_cons_succ, i64_w, i32_w]
            rfl
          refine take_ (i := 5) (N := some 81) (v := ?_) (a' := ?_) #[true, true, true, true, true, true, true, false, true, false, true, false, false, false, false, false, false, false, false, false] rfl rfl (by kernel_rfl) (fun _ _ _ h => h) (Or.inl ⟨by rfl, ?_⟩) hHeld ?_ ?_
          rotate_left
          · rintro w' ⟨s0, s1, s2, s3, s4⟩
            go_simp
            with_reducible rfl
          rotate_left
          · simp only [Act.put, List.setIfInBounds_toArray, List.set_cons_zero, List.set_cons_succ, i64_w, i32_w]
            rfl
          refine take_ (i := 7) (N := some 83) (v := ?_) (a' := ?_) #[true, true, true, true, true, true, true, true, true, false, true, false, false, false, false, false, false, false, false, false] rfl rfl (by kernel_rfl) (fun _ _ _ h => h) (Or.inl ⟨by rfl, ?_⟩) hHeld ?_ ?_
          rotate_left
          · rintro w' ⟨s0, s1, s2, s3, s4⟩
            go_simp
            with_reducible rfl
          rotate_left
          · simp only [Act.put, List.setIfInBounds_toArray, List.set_cons_zero, List.set_cons_succ, i64_w, i32_w]
            rfl
          refine take_ (i := 9) (N := some 85) (v := ?_) (a' := ?_) #[true, true, true, true, true, true, true, true, true, true, true, false, false, false, false, false, false, false, false, false] rfl rfl (by kernel_rfl) (fun _ _ _ h => h) (Or.inl ⟨by rfl, ?_⟩) hHeld ?_ ?_
          rotate_left
          · rintro w' ⟨s0, s1, s2, s3, s4⟩
            go_simp
            with_reducible rfl
          rotate_left
          · simp only [Act.put, List.setIfInBounds_toArray, List.set_cons_zero, List.set_cons_succ, i64_w, i32_w]
            rfl
          have HH := Lib.hid hHeld
          clear hHeld
          refine one_ (i := 11) (N := none) #[true, true, true, true, true, true, true, true, true, true, true, true, false, false, false, false, false, false, false, false] rfl rfl (by kernel_rfl) (by decide) (fun K hK => ?_)
          refine skipH (h := _) (v := .int .u64 (h.x 0)) (by rfl) rfl rfl rfl rfl (by kernel_rfl) rfl rfl K_ga.out (by decide) ?_
          have q_ := Lib.hid (Hb.put 54 ((h.x 0)) K_ga.out)
          have hB_13 := Lib.hid (below_set (j := 54) (v := (.int .u64 (h.x 0))) hB_11.out G_ga.out)
          have q_gt := Lib.hid (blk_far K_gt.out (p := ⟨ga, 54, none⟩) (Ne.symm N_ga_gt.out) (.int .u64 (h.x 0)))
          have q_gr := Lib.hid (Hb.far (j := 54) (u := (.int .u64 (h.x 0))) (Ne.symm N_ga_gr.out) K_gr.out)
          have s_0 := (cell_ne (u := (.int .u64 (h.x 0))) HH.out.1 (show 0 ≠ 54 by decide))
          have s_1 := (cell_far' (j := 54) (u := (.int .u64 (h.x 0))) HH.out.2.1 (Ne.symm N_ga_gt.out))
          have s_2 := (cell_far' (j := 54) (u := (.int .u64 (h.x 0))) HH.out.2.2.1 (Ne.symm N_ga_gt.out))
          have s_3 := (cell_far' (j := 54) (u := (.int .u64 (h.x 0))) HH.out.2.2.2.1 (Ne.symm N_ga_gt.out))
          have s_4 := (cell_far' (j := 54) (u := (.int .u64 (h.x 0))) HH.out.2.2.2.2 (Ne.symm N_ga_gt.out))
          clear HH K_ga K_gt K_gr hB_11
          generalize World.setCell w_10 ⟨ga, 54, none⟩ (.int .u64 (h.x 0)) = w_12 at q_ hB_13 q_gt q_gr s_0 s_1 s_2 s_3 s_4 ⊢
          have K_ga := q_; clear q_
          have K_gt := q_gt; clear q_gt
          have K_gr := q_gr; clear q_gr
          refine hK.out _ _ ⟨s_0, s_1, s_2, s_3, s_4⟩ (fun hHeld => ?_)
          have HH := Lib.hid hHeld
          clear hHeld s_0 s_1 s_2 s_3 s_4
          clear hK K
          refine pure_ (i := 12) (N := some 87) (v := ?_) (a' := ?_) #[true, true, true, true, true, true, true, true, true, true, true, true, true, false, false, false, false, false, false, false] rfl rfl (by kernel_rfl) (fun _ _ _ h => h) (Or.inl ⟨by rfl, ?_⟩) ?_ ?_
          rotate_left
          · intro w'
            go_simp
            with_reducible rfl
          rotate_left
          · simp only [Act.put, List.setIfInBounds_toArray, List.set_cons_zero, List.set_cons_succ, i64_w, i32_w]
            rfl
          refine one_ (i := 13) (N := none) #[true, true, true, true, true, true, true, true, true, true, true, true, true, true, false, false, false, false, false, false] rfl rfl (by kernel_rfl) (by decide) (fun K hK => ?_)
          refine skipH (h := _) (v := .int .u64 tc) (by rfl) rfl rfl rfl rfl (by kernel_rfl) rfl rfl K_ga.out (by decide) ?_
          have q_ := Lib.hid (Hb.put 55 (tc) K_ga.out)
          have hB_15 := Lib.hid (below_set (j := 55) (v := (.int .u64 tc)) hB_13.out G_ga.out)
          have q_gt := Lib.hid (blk_far K_gt.out (p := ⟨ga, 55, none⟩) (Ne.symm N_ga_gt.out) (.int .u64 tc))
          have q_gr := Lib.hid (Hb.far (j := 55) (u := (.int .u64 tc)) (Ne.symm N_ga_gr.out) K_gr.out)
          have s_0 := (cell_ne (u := (.int .u64 tc)) HH.out.1 (show 0 ≠ 55 by decide))
          have s_1 := (cell_far' (j := 55) (u := (.int .u64 tc)) HH.out.2.1 (Ne.symm N_ga_gt.out))
          have s_2 := (cell_far' (j := 55) (u := (.int .u64 tc)) HH.out.2.2.1 (Ne.symm N_ga_gt.out))
          have s_3 := (cell_far' (j := 55) (u := (.int .u64 tc)) HH.out.2.2.2.1 (Ne.symm N_ga_gt.out))
          have s_4 := (cell_far' (j := 55) (u := (.int .u64 tc)) HH.out.2.2.2.2 (Ne.symm N_ga_gt.out))
          clear HH K_ga K_gt K_gr hB_13
          generalize World.setCell w_12 ⟨ga, 55, none⟩ (.int .u64 tc) = w_14 at q_ hB_15 q_gt q_gr s_0 s_1 s_2 s_3 s_4 ⊢
          have K_ga := q_; clear q_
          have K_gt := q_gt; clear q_gt
          have K_gr := q_gr; clear q_gr
          refine hK.out _ _ ⟨s_0, s_1, s_2, s_3, s_4⟩ (fun hHeld => ?_)
          have HH := Lib.hid hHeld
          clear hHeld s_0 s_1 s_2 s_3 s_4
          clear hK K
          refine pure_ (i := 14) (N := some 88) (v := ?_) (a' := ?_) #[true, true, true, true, true, true, true, true, true, true, true, true, true, true, true, false, false, false, false, false] rfl rfl (by kernel_rfl) (fun _ _ _ h => h) (Or.inl ⟨by rfl, ?_⟩) ?_ ?_
          rotate_left
          · intro w'
            go_simp
            with_reducible rfl
          rotate_left
          · simp only [Act.put, List.setIfInBounds_toArray, List.set_cons_zero, List.set_cons_succ, i64_w, i32_w]
            rfl
          refine one_ (i := 15) (N := none) #[true, true, true, true, true, true, true, true, true, true, true, true, true, true, true, true, false, false, false, false] rfl rfl (by kernel_rfl) (by decide) (fun K hK => ?_)
          refine skipH (h := _) (v := .int .u64 tv) (by rfl) rfl rfl rfl rfl (by kernel_rfl) rfl rfl K_ga.out (by decide) ?_
          have q_ := Lib.hid (Hb.put 56 (tv) K_ga.out)
          have hB_17 := Lib.hid (below_set (j := 56) (v := (.int .u64 tv)) hB_15.out G_ga.out)
          have q_gt := Lib.hid (blk_far K_gt.out (p := ⟨ga, 56, none⟩) (Ne.symm N_ga_gt.out) (.int .u64 tv))
          have q_gr := Lib.hid (Hb.far (j := 56) (u := (.int .u64 tv)) (Ne.symm N_ga_gr.out) K_gr.out)
          have s_0 := (cell_ne (u := (.int .u64 tv)) HH.out.1 (show 0 ≠ 56 by decide))
          have s_1 := (cell_far' (j := 56) (u := (.int .u64 tv)) HH.out.2.1 (Ne.symm N_ga_gt.out))
          have s_2 := (cell_far' (j := 56) (u := (.int .u64 tv)) HH.out.2.2.1 (Ne.symm N_ga_gt.out))
          have s_3 := (cell_far' (j := 56) (u := (.int .u64 tv)) HH.out.2.2.2.1 (Ne.symm N_ga_gt.out))
          have s_4 := (cell_far' (j := 56) (u := (.int .u64 tv)) HH.out.2.2.2.2 (Ne.symm N_ga_gt.out))
          clear HH K_ga K_gt K_gr hB_15
          generalize World.setCell w_14 ⟨ga, 56, none⟩ (.int .u64 tv) = w_16 at q_ hB_17 q_gt q_gr s_0 s_1 s_2 s_3 s_4 ⊢
          have K_ga := q_; clear q_
          have K_gt := q_gt; clear q_gt
          have K_gr := q_gr; clear q_gr
          refine hK.out _ _ ⟨s_0, s_1, s_2, s_3, s_4⟩ (fun hHeld => ?_)
          have HH := Lib.hid hHeld
          clear hHeld s_0 s_1 s_2 s_3 s_4
          clear hK K
          refine pure_ (i := 16) (N := some 89) (v := ?_) (a' := ?_) #[true, true, true, true, true, true, true, true, true, true, true, true, true, true, true, true, true, false, false, false] rfl rfl (by kernel_rfl) (fun _ _ _ h => h) (Or.inl ⟨by rfl, ?_⟩) ?_ ?_
          rotate_left
          · intro w'
            go_simp
            with_reducible rfl
          rotate_left
          · simp only [Act.put, List.setIfInBounds_toArray, List.set_cons_zero, List.set_cons_succ, i64_w, i32_w]
            rfl
          refine one_ (i := 17) (N := none) #[true, true, true, true, true, true, true, true, true, true, true, true, true, true, true, true, true, true, false, false] rfl rfl (by kernel_rfl) (by decide) (fun K hK => ?_)
          refine skipH (h := _) (v := .int .u64 tv2) (by rfl) rfl rfl rfl rfl (by kernel_rfl) rfl rfl K_ga.out (by decide) ?_
          have q_ := Lib.hid (Hb.put 64 (tv2) K_ga.out)
          have hB_19 := Lib.hid (below_set (j := 64) (v := (.int .u64 tv2)) hB_17.out G_ga.out)
          have q_gt := Lib.hid (blk_far K_gt.out (p := ⟨ga, 64, none⟩) (Ne.symm N_ga_gt.out) (.int .u64 tv2))
          have q_gr := Lib.hid (Hb.far (j := 64) (u := (.int .u64 tv2)) (Ne.symm N_ga_gr.out) K_gr.out)
          have s_0 := (cell_ne (u := (.int .u64 tv2)) HH.out.1 (show 0 ≠ 64 by decide))
          have s_1 := (cell_far' (j := 64) (u := (.int .u64 tv2)) HH.out.2.1 (Ne.symm N_ga_gt.out))
          have s_2 := (cell_far' (j := 64) (u := (.int .u64 tv2)) HH.out.2.2.1 (Ne.symm N_ga_gt.out))
          have s_3 := (cell_far' (j := 64) (u := (.int .u64 tv2)) HH.out.2.2.2.1 (Ne.symm N_ga_gt.out))
          have s_4 := (cell_far' (j := 64) (u := (.int .u64 tv2)) HH.out.2.2.2.2 (Ne.symm N_ga_gt.out))
          clear HH K_ga K_gt K_gr hB_17
          generalize World.setCell w_16 ⟨ga, 64, none⟩ (.int .u64 tv2) = w_18 at q_ hB_19 q_gt q_gr s_0 s_1 s_2 s_3 s_4 ⊢
          have K_ga := q_; clear q_
          have K_gt := q_gt; clear q_gt
          have K_gr := q_gr; clear q_gr
          refine hK.out _ _ ⟨s_0, s_1, s_2, s_3, s_4⟩ (fun hHeld => ?_)
          have HH := Lib.hid hHeld
          clear hHeld s_0 s_1 s_2 s_3 s_4
          clear hK K
          refine pure_ (i := 18) (N := some 90) (v := ?_) (a' := ?_) #[true, true, true, true, true, true, true, true, true, true, true, true, true, true, true, true, true, true, true, false] rfl rfl (by kernel_rfl) (fun _ _ _ h => h) (Or.inl ⟨by rfl, ?_⟩) ?_ ?_
          rotate_left
          · intro w'
            go_simp
            with_reducible rfl
          rotate_left
          · simp only [Act.put, List.setIfInBounds_toArray, List.set_cons_zero, List.set_cons_succ, i64_w, i32_w]
            rfl
          refine one_ (i := 19) (N := none) #[true, true, true, true, true, true, true, true, true, true, true, true, true, true, true, true, true, true, true, true] rfl rfl (by kernel_rfl) (by decide) (fun K hK => ?_)
          refine skipH (h := _) (v := .int .u64 tn) (by rfl) rfl rfl rfl rfl (by kernel_rfl) rfl rfl K_ga.out (by decide) ?_
          have q_ := Lib.hid (Hb.put 65 (tn) K_ga.out)
          have hB_21 := Lib.hid (below_set (j := 65) (v := (.int .u64 tn)) hB_19.out G_ga.out)
          have q_gt := Lib.hid (blk_far K_gt.out (p := ⟨ga, 65, none⟩) (Ne.symm N_ga_gt.out) (.int .u64 tn))
          have q_gr := Lib.hid (Hb.far (j := 65) (u := (.int .u64 tn)) (Ne.symm N_ga_gr.out) K_gr.out)
          have s_0 := (cell_ne (u := (.int .u64 tn)) HH.out.1 (show 0 ≠ 65 by decide))
          have s_1 := (cell_far' (j := 65) (u := (.int .u64 tn)) HH.out.2.1 (Ne.symm N_ga_gt.out))
          have s_2 := (cell_far' (j := 65) (u := (.int .u64 tn)) HH.out.2.2.1 (Ne.symm N_ga_gt.out))
          have s_3 := (cell_far' (j := 65) (u := (.int .u64 tn)) HH.out.2.2.2.1 (Ne.symm N_ga_gt.out))
          have s_4 := (cell_far' (j := 65) (u := (.int .u64 tn)) HH.out.2.2.2.2 (Ne.symm N_ga_gt.out))
          clear HH K_ga K_gt K_gr hB_19
          generalize World.setCell w_18 ⟨ga, 65, none⟩ (.int .u64 tn) = w_20 at q_ hB_21 q_gt q_gr s_0 s_1 s_2 s_3 s_4 ⊢
          have K_ga := q_; clear q_
          have K_gt := q_gt; clear q_gt
          have K_gr := q_gr; clear q_gr
          refine hK.out _ _ ⟨s_0, s_1, s_2, s_3, s_4⟩ (fun hHeld => ?_)
          have HH := Lib.hid hHeld
          clear hHeld s_0 s_1 s_2 s_3 s_4
          clear hK K
          refine done_ (by kernel_rfl) ?_
          try clear HH
          have c_gt_1 := (show World.cell? _ ⟨gt, 1, none⟩ = some (.int .u64 tc) from (blk_cell K_gt.out 1).trans rfl); have f_gt_1 := blk_frozen K_gt.out 1
          have c_gt_5 := (show World.cell? _ ⟨gt, 5, none⟩ = some (.bool tg) from (blk_cell K_gt.out 5).trans rfl); have f_gt_5 := blk_frozen K_gt.out 5
          have c_ga_33 := (show World.cell? _ ⟨ga, 33, none⟩ = some (.int .u8 (h.x 33)) from (K_ga.out.p).trans rfl); have f_ga_33 := K_ga.out.fr 33
          have c_ga_34 := (show World.cell? _ ⟨ga, 34, none⟩ = some (.bool h.v) from (K_ga.out.cv).trans rfl); have f_ga_34 := K_ga.out.fr 34
          have c_ga_0 := (show World.cell? _ ⟨ga, 0, none⟩ = some (.int .u64 (h.x 0)) from (K_ga.out.u 0 rfl).trans rfl); have f_ga_0 := K_ga.out.fr 0
          have c_ga_38 := (show World.cell? _ ⟨ga, 38, none⟩ = some (.int .u64 (h.x 38)) from (K_ga.out.u 38 rfl).trans rfl); have f_ga_38 := K_ga.out.fr 38
          have c_ga_51 := (show World.cell? _ ⟨ga, 51, none⟩ = some (.int .u64 (h.x 51)) from (K_ga.out.u 51 rfl).trans rfl); have f_ga_51 := K_ga.out.fr 51
          have c_ga_58 := (show World.cell? _ ⟨ga, 58, none⟩ = some (.int .u64 (h.x 58)) from (K_ga.out.u 58 rfl).trans rfl); have f_ga_58 := K_ga.out.fr 58
          go_upto_region 18 with (first | (go_at_call 18; refine (on_c _ _ _ (by decide)).mono ?_; rintro e_ w_ ⟨rfl, ⟨n_, rfl⟩⟩) | (go_at_call 17; refine (set_c _ _ _ _ (by decide)).mono ?_; rintro e_ w_ ⟨rfl, ⟨n_, rfl⟩⟩) | (go_at_call 19; refine (place_c _ _ _).mono ?_; rintro e_ w_ ⟨rfl, ⟨n_, rfl⟩⟩) | (go_at_call 20; refine (taken_c _ _ _).mono ?_; rintro e_ w_ ⟨rfl, ⟨n_, rfl⟩⟩) | (go_at_call 21; refine (split_c _ _).mono ?_; rintro e_ w_ ⟨rfl, ⟨n_, rfl⟩⟩))
          refine start_ (n := 10) (S := fun w' => w'.cell? ⟨ga, 58, none⟩ = some (.int .u64 (h.x 58)) ∧ w'.cell? ⟨ga, 34, none⟩ = some (.bool false) ∧ w'.cell? ⟨gt, 5, none⟩ = some (.bool tg)) (ds := [9]) #[false, false, false, false, false, false, false, false, false, false] (by kernel_rfl) rfl rfl ⟨(show World.cell? _ ⟨ga, 58, none⟩ = some (.int .u64 (h.x 58)) by first | (go_simp; done) | (go_simp; rfl)), (show World.cell? _ ⟨ga, 34, none⟩ = some (.bool false) by first | (go_simp; done) | (go_simp; rfl)), (show World.cell? _ ⟨gt, 5, none⟩ = some (.bool tg) by first | (go_simp; done) | (go_simp; rfl))⟩ (fun hHeld => ?_)
          have HH0 := Lib.hid hHeld
          clear hHeld
          refine world_any ga (by repeat (with_reducible first | exact K_ga.out | apply Hb.put | apply Hb.putP | apply Hb.putV | apply Hb.putW | apply Hb.putH | apply Hb.far N_ga_gt.out | apply Hb.far N_ga_gr.out | apply Hb.drewN | apply Hb.drew)) (fun w' => Below w.heap.size w w' ∧ w'.heap[gt]? = some (.cells #[.bool ti, .int .u64 tc, .int .u64 tv, .int .u64 tv2, .int .u64 tn, .bool tg] 27 (0, 0)) ∧ Hb w' gr Ht.zero ∧ (w'.cell? ⟨ga, 58, none⟩ = some (.int .u64 (h.x 58)) ∧ w'.cell? ⟨ga, 34, none⟩ = some (.bool false) ∧ w'.cell? ⟨gt, 5, none⟩ = some (.bool tg))) ⟨(by repeat (first | (with_reducible first | exact hB_21.out | apply pw_below_drewN | apply below_drew1 | refine below_set ?_ G_ga.out | refine below_set ?_ G_gt.out | refine below_set ?_ G_gr.out) | exact hB_21.out)), (by repeat (with_reducible first | exact K_gt.out | apply blk_drewN | apply blk_drew | refine blk_far ?_ (show gt ≠ _ from (Ne.symm N_ga_gt.out)) _ | refine blk_far ?_ (show gt ≠ _ from N_gt_gr.out) _)), (by repeat (with_reducible first | exact K_gr.out | apply Hb.put | apply Hb.putP | apply Hb.putV | apply Hb.putW | apply Hb.putH | apply Hb.far (Ne.symm N_ga_gr.out) | apply Hb.far (Ne.symm N_gt_gr.out) | apply Hb.drewN | apply Hb.drew)), HH0.out⟩ ?_
          clear HH0
          clear c_gt_1 f_gt_1 c_gt_5 f_gt_5 c_ga_33 f_ga_33 c_ga_34 f_ga_34 c_ga_0 f_ga_0 c_ga_38 f_ga_38 c_ga_51 f_ga_51 c_ga_58 f_ga_58
          clear K_ga K_gt K_gr hB_21
          rintro w_22 q_ ⟨b_, q_gt, q_gr, hHeld⟩
          have K_ga := Lib.hid q_; have hB_23 := Lib.hid b_; have K_gt := Lib.hid q_gt; have K_gr := Lib.hid q_gr
          clear q_ b_ q_gt q_gr
          refine pure_ (i := 0) (N := some 103) (v := ?_) (a' := ?_) #[true, false, false, false, false, false, false, false, false, false] rfl rfl (by kernel_rfl) (fun _ _ _ h => h) (Or.inl ⟨by rfl, ?_⟩) ?_ ?_
          rotate_left
          · intro w'
            go_simp
            with_reducible rfl
          rotate_left
          · simp only [Act.put, List.setIfInBounds_toArray, List.set_cons_zero, List.set_cons_succ, i64_w, i32_w]
            rfl
          refine pure_ (i := 2) (N := some 105) (v := ?_) (a' := ?_) #[true, false, true, false, false, false, false, false, false, false] rfl rfl (by kernel_rfl) (fun _ _ _ h => h) (Or.inl ⟨by rfl, ?_⟩) ?_ ?_
          rotate_left
          · intro w'
            go_simp
            with_reducible rfl
          rotate_left
          · simp only [Act.put, List.setIfInBounds_toArray, List.set_cons_zero, List.set_cons_succ, i64_w, i32_w]
            rfl
          refine pure_ (i := 5) (N := some 108) (v := ?_) (a' := ?_) #[true, false, true, false, false, true, false, false, false, false] rfl rfl (by kernel_rfl) (fun _ _ _ h => h) (Or.inl ⟨by rfl, ?_⟩) ?_ ?_
          rotate_left
          · intro w'
            go_simp
            with_reducible rfl
          rotate_left
          · simp only [Act.put, List.setIfInBounds_toArray, List.set_cons_zero, List.set_cons_succ, i64_w, i32_w]
            rfl
          refine take_ (i := 1) (N := some 104) (v := ?_) (a' := ?_) #[true, true, true, false, false, true, false, false, false, false] rfl rfl (by kernel_rfl) (fun _ _ _ h => h) (Or.inl ⟨by rfl, ?_⟩) hHeld ?_ ?_
          rotate_left
          · rintro w' ⟨s0, s1, s2⟩
            go_simp
            with_reducible rfl
          rotate_left
          · simp only [Act.put, List.setIfInBounds_toArray, List.set_cons_zero, List.set_cons_succ, i64_w, i32_w]
            rfl
          refine take_ (i := 3) (N := some 106) (v := ?_) (a' := ?_) #[true, true, true, true, false, true, false, false, false, false] rfl rfl (by kernel_rfl) (fun _ _ _ h => h) (Or.inl ⟨by rfl, ?_⟩) hHeld ?_ ?_
          rotate_left
          · rintro w' ⟨s0, s1, s2⟩
            go_simp
            with_reducible rfl
          rotate_left
          · simp only [Act.put, List.setIfInBounds_toArray, List.set_cons_zero, List.set_cons_succ, i64_w, i32_w]
            rfl
          refine take_ (i := 6) (N := some 109) (v := ?_) (a' := ?_) #[true, true, true, true, false, true, true, false, false, false] rfl rfl (by kernel_rfl) (fun _ _ _ h => h) (Or.inl ⟨by rfl, ?_⟩) hHeld ?_ ?_
          rotate_left
          · rintro w' ⟨s0, s1, s2⟩
            go_simp
            with_reducible rfl
          rotate_left
          · simp only [Act.put, List.setIfInBounds_toArray, List.set_cons_zero, List.set_cons_succ, i64_w, i32_w]
            rfl
          have HH := Lib.hid hHeld
          clear hHeld
          refine one_ (i := 4) (N := some 107) #[true, true, true, true, true, true, true, false, false, false] rfl rfl (by kernel_rfl) (by decide) (fun K hK => ?_)
          refine goes_ Tryd.func17 (by kernel_rfl) rfl #[.int .u64 (h.x 58), .int .i64 7, .bool false] (by rfl) rfl rfl (by simp only [List.map_toArray, List.map_cons, List.map_nil]; rfl) ?_
          with_reducible refine (set_c _ 7 _ _ (by decide)).mono ?_
          rintro e_ w_ ⟨rfl, ⟨n_, rfl⟩⟩
          refine ⟨_, rfl, ?_⟩
          have q_ := Lib.hid (Hb.drewN n_ K_ga.out)
          have hB_25 := Lib.hid (pw_below_drewN hB_23.out n_)
          have q_gt := Lib.hid (blk_drewN K_gt.out n_)
          have q_gr := Lib.hid (Hb.drewN n_ K_gr.out)
          have s_0 := (cell_drewN n_ HH.out.1)
          have s_1 := (cell_drewN n_ HH.out.2.1)
          have s_2 := (cell_drewN n_ HH.out.2.2)
          clear HH K_ga K_gt K_gr hB_23
          generalize World.drewN w_22 n_ = w_24 at q_ hB_25 q_gt q_gr s_0 s_1 s_2 ⊢
          have K_ga := q_; clear q_
          have K_gt := q_gt; clear q_gt
          have K_gr := q_gr; clear q_gr
          refine hK.out _ _ ⟨s_0, s_1, s_2⟩ (fun hHeld => ?_)
          have HH := Lib.hid hHeld
          clear hHeld s_0 s_1 s_2
          clear hK K
          refine norm_ (a' := ?_) ?_ ?_
          rotate_left
          · show Act.put _ (some 107) _ = _
            simp only [Act.put, List.setIfInBounds_toArray, List.set_cons_zero, List.set_cons_succ, i64_w, i32_w]
            rfl
          refine one_ (i := 7) (N := some 110) #[true, true, true, true, true, true, true, true, false, false] rfl rfl (by kernel_rfl) (by decide) (fun K hK => ?_)
          refine goes_ Tryd.func17 (by kernel_rfl) rfl #[.int .u64 (setV (h.x 58) 7 false), .int .i64 6, .bool tg] (by rfl) rfl rfl (by simp only [List.map_toArray, List.map_cons, List.map_nil]; rfl) ?_
          with_reducible refine (set_c _ 6 _ _ (by decide)).mono ?_
          rintro e_ w_ ⟨rfl, ⟨n_, rfl⟩⟩
          refine ⟨_, rfl, ?_⟩
          have q_ := Lib.hid (Hb.drewN n_ K_ga.out)
          have hB_27 := Lib.hid (pw_below_drewN hB_25.out n_)
          have q_gt := Lib.hid (blk_drewN K_gt.out n_)
          have q_gr := Lib.hid (Hb.drewN n_ K_gr.out)
          have s_0 := (cell_drewN n_ HH.out.1)
          have s_1 := (cell_drewN n_ HH.out.2.1)
          have s_2 := (cell_drewN n_ HH.out.2.2)
          clear HH K_ga K_gt K_gr hB_25
          generalize World.drewN w_24 n_ = w_26 at q_ hB_27 q_gt q_gr s_0 s_1 s_2 ⊢
          have K_ga := q_; clear q_
          have K_gt := q_gt; clear q_gt
          have K_gr := q_gr; clear q_gr
          refine hK.out _ _ ⟨s_0, s_1, s_2⟩ (fun hHeld => ?_)
          have HH := Lib.hid hHeld
          clear hHeld s_0 s_1 s_2
          clear hK K
          refine norm_ (a' := ?_) ?_ ?_
          rotate_left
          · show Act.put _ (some 110) _ = _
            simp only [Act.put, List.setIfInBounds_toArray, List.set_cons_zero, List.set_cons_succ, i64_w, i32_w]
            rfl
          refine pure_ (i := 8) (N := some 111) (v := ?_) (a' := ?_) #[true, true, true, true, true, true, true, true, true, false] rfl rfl (by kernel_rfl) (fun _ _ _ h => h) (Or.inl ⟨by rfl, ?_⟩) ?_ ?_
          rotate_left
          · intro w'
            go_simp
            with_reducible rfl
          rotate_left
          · simp only [Act.put, List.setIfInBounds_toArray, List.set_cons_zero, List.set_cons_succ, i64_w, i32_w]
            rfl
          refine last_ (i := 9) (N := none) #[true, true, true, true, true, true, true, true, true, true] rfl rfl (by kernel_rfl) (by decide) (fun K hK => ?_)
          refine skipH (h := _) (v := .int .u64 (setV (setV (h.x 58) 7 false) 6 tg)) (by rfl) rfl rfl rfl rfl (by kernel_rfl) rfl rfl K_ga.out (by decide) ?_
          have q_ := Lib.hid (Hb.put 58 ((setV (setV (h.x 58) 7 false) 6 tg)) K_ga.out)
          have hB_29 := Lib.hid (below_set (j := 58) (v := (.int .u64 (setV (setV (h.x 58) 7 false) 6 tg))) hB_27.out G_ga.out)
          have q_gt := Lib.hid (blk_far K_gt.out (p := ⟨ga, 58, none⟩) (Ne.symm N_ga_gt.out) (.int .u64 (setV (setV (h.x 58) 7 false) 6 tg)))
          have q_gr := Lib.hid (Hb.far (j := 58) (u := (.int .u64 (setV (setV (h.x 58) 7 false) 6 tg))) (Ne.symm N_ga_gr.out) K_gr.out)
          clear HH K_ga K_gt K_gr hB_27
          generalize World.setCell w_26 ⟨ga, 58, none⟩ (.int .u64 (setV (setV (h.x 58) 7 false) 6 tg)) = w_28 at q_ hB_29 q_gt q_gr ⊢
          have K_ga := q_; clear q_
          have K_gt := q_gt; clear q_gt
          have K_gr := q_gr; clear q_gr
          refine hK.out _ _ ?_
          clear hK K
          refine done_ (by kernel_rfl) ?_
          try clear HH
          have c_gt_1 := (show World.cell? _ ⟨gt, 1, none⟩ = some (.int .u64 tc) from (blk_cell K_gt.out 1).trans rfl); have f_gt_1 := blk_frozen K_gt.out 1
          have c_ga_33 := (show World.cell? _ ⟨ga, 33, none⟩ = some (.int .u8 (h.x 33)) from (K_ga.out.p).trans rfl); have f_ga_33 := K_ga.out.fr 33
          have c_ga_34 := (show World.cell? _ ⟨ga, 34, none⟩ = some (.bool h.v) from (K_ga.out.cv).trans rfl); have f_ga_34 := K_ga.out.fr 34
          have c_ga_0 := (show World.cell? _ ⟨ga, 0, none⟩ = some (.int .u64 (h.x 0)) from (K_ga.out.u 0 rfl).trans rfl); have f_ga_0 := K_ga.out.fr 0
          have c_ga_51 := (show World.cell? _ ⟨ga, 51, none⟩ = some (.int .u64 (h.x 51)) from (K_ga.out.u 51 rfl).trans rfl); have f_ga_51 := K_ga.out.fr 51
          go_upto_region 28 with (first | (go_at_call 18; refine (on_c _ _ _ (by decide)).mono ?_; rintro e_ w_ ⟨rfl, ⟨n_, rfl⟩⟩) | (go_at_call 17; refine (set_c _ _ _ _ (by decide)).mono ?_; rintro e_ w_ ⟨rfl, ⟨n_, rfl⟩⟩) | (go_at_call 19; refine (place_c _ _ _).mono ?_; rintro e_ w_ ⟨rfl, ⟨n_, rfl⟩⟩) | (go_at_call 20; refine (taken_c _ _ _).mono ?_; rintro e_ w_ ⟨rfl, ⟨n_, rfl⟩⟩) | (go_at_call 21; refine (split_c _ _).mono ?_; rintro e_ w_ ⟨rfl, ⟨n_, rfl⟩⟩))
          refine wp_region_list ?_
          refine load_hart (h := _) rfl (.tmp 2) rfl ga rfl (by repeat (with_reducible first | exact K_ga.out | apply Hb.put | apply Hb.putP | apply Hb.putV | apply Hb.putW | apply Hb.putH | apply Hb.far N_ga_gt.out | apply Hb.far N_ga_gr.out | apply Hb.drewN | apply Hb.drew)) ?_
          refine store_hart rfl (.tmp 4) (.tmp 163) rfl gr _ rfl rfl Ht.zero (by repeat (with_reducible first | exact K_gr.out | apply Hb.put | apply Hb.putP | apply Hb.putV | apply Hb.putW | apply Hb.putH | apply Hb.far (Ne.symm N_ga_gr.out) | apply Hb.far (Ne.symm N_gt_gr.out) | apply Hb.drewN | apply Hb.drew)) ?_
          go_wp2
          refine bodyPost_ret (results_cell_row rfl _ _ gr 25 _ (0, 0) _ rfl (Hb.putAll _ (by repeat (with_reducible first | exact K_gr.out | apply Hb.put | apply Hb.putP | apply Hb.putV | apply Hb.putW | apply Hb.putH | apply Hb.far (Ne.symm N_ga_gr.out) | apply Hb.far (Ne.symm N_gt_gr.out) | apply Hb.drewN | apply Hb.drew))) Tryd.underlying25 rfl (by rw [Ht.size]; exact hartSize)) rfl ?_
          exact ⟨by (first | rfl | (simp only [enter, enterM, enterH, enterG, guestCause, t0, t1, hv, if_true, if_false, Bool.false_eq_true, cond_true, cond_false]; done) | (simp only [enter, enterM, enterH, enterG, guestCause, t0, t1, hv, if_true, if_false, Bool.false_eq_true, cond_true, cond_false]; rfl)), setCells_below G_gr.out _ _ _ (by repeat (first | (with_reducible first | exact hB_29.out | apply pw_below_drewN | apply below_drew1 | refine below_set ?_ G_ga.out | refine below_set ?_ G_gt.out | refine below_set ?_ G_gr.out) | exact hB_29.out))⟩
        · skip
          have C0 := Lib.hid c0; have C1 := Lib.hid c1
          clear c0 c1
          have hu25 := Tryd.underlying25
          go_enter Tryd.func6, Tryd.ntmps6
          have hu27 := Tryd.underlying27
          go_upto_region 3 with (first | ((with_reducible refine gate_dst (N := 2) rfl ?_); refine box_event ?hg (N := 2) ?hd (cs := h.cs) (t := 25) ?hr ?_; (case hd => rfl); (case hg => rfl); (case hr => first | (go_simp; done) | (go_simp; rfl)); intro ga hg w_1 H1 hb; have hB_2 := Lib.hid (below_step (Below.refl w.heap.size w) hb); have G_ga := Lib.hid (show w.heap.size ≤ ga by rw [hg]; exact ((Below.refl w.heap.size w)).size); have K_ga := Lib.hid (show Hb w_1 ga h from H1); clear hg hb H1) | ((with_reducible refine gate_dst (N := 3) rfl ?_); refine box_event ?hg (N := 3) ?hd (cs := #[.bool ti, .int .u64 tc, .int .u64 tv, .int .u64 tv2, .int .u64 tn, .bool tg]) (t := 27) ?hr ?_; (case hd => rfl); (case hg => rfl); (case hr => first | (go_simp; done) | (go_simp; rfl)); intro gt hg w_3 H1 hb; have hB_4 := Lib.hid (below_step hB_2.out hb); have G_gt := Lib.hid (show w.heap.size ≤ gt by rw [hg]; exact (hB_2.out).size); have N_ga_gt := Lib.hid (show ga ≠ gt by rw [hg]; exact Nat.ne_of_lt (K_ga.out.lt)); replace K_ga := Lib.hid (K_ga.out.below hb); have K_gt := Lib.hid (show w_3.heap[gt]? = some (.cells #[.bool ti, .int .u64 tc, .int .u64 tv, .int .u64 tv2, .int .u64 tn, .bool tg] 27 (0, 0)) from H1); clear hg hb H1 hB_2) | ((with_reducible refine gate_dst (N := 4) rfl ?_); refine box_event ?hg (N := 4) ?hd (cs := Ht.zero.cs) (t := 25) ?hr ?_; (case hd => rfl); (case hg => rfl); (case hr => first | (go_simp; done) | (go_simp; rfl)); intro gr hg w_5 H1 hb; have hB_6 := Lib.hid (below_step hB_4.out hb); have G_gr := Lib.hid (show w.heap.size ≤ gr by rw [hg]; exact (hB_4.out).size); have N_ga_gr := Lib.hid (show ga ≠ gr by rw [hg]; exact Nat.ne_of_lt (K_ga.out.lt)); have N_gt_gr := Lib.hid (show gt ≠ gr by rw [hg]; exact Nat.ne_of_lt (blk_lt K_gt.out)); replace K_ga := Lib.hid (K_ga.out.below hb); replace K_gt := Lib.hid (blk_below K_gt.out hb); have K_gr := Lib.hid (show Hb w_5 gr Ht.zero from H1); clear hg hb H1 hB_4; have c_gt_0 := (show World.cell? _ ⟨gt, 0, none⟩ = some (.bool ti) from (blk_cell K_gt.out 0).trans rfl); have f_gt_0 := blk_frozen K_gt.out 0; have c_gt_1 := (show World.cell? _ ⟨gt, 1, none⟩ = some (.int .u64 tc) from (blk_cell K_gt.out 1).trans rfl); have f_gt_1 := blk_frozen K_gt.out 1; clear hu25 hu27))
          refine wp_region_list ?_
          refine load_hart (h := h) rfl (.tmp 2) rfl ga rfl K_ga.out ?_
          go_wp2_with fail
          refine (to_c h tc _ C0.out C1.out).mono ?_
          rintro e_7 w_8 ⟨rfl, hb⟩
          clear c_gt_0 f_gt_0 c_gt_1 f_gt_1
          have hB_9 := Lib.hid (below_step hB_6.out hb)
          replace K_ga := Lib.hid (K_ga.out.below hb)
          replace K_gt := Lib.hid (blk_below K_gt.out hb)
          replace K_gr := Lib.hid (K_gr.out.below hb)
          clear hb hB_6
          have c_gt_1 := (show World.cell? _ ⟨gt, 1, none⟩ = some (.int .u64 tc) from (blk_cell K_gt.out 1).trans rfl); have f_gt_1 := blk_frozen K_gt.out 1
          have c_gt_2 := (show World.cell? _ ⟨gt, 2, none⟩ = some (.int .u64 tv) from (blk_cell K_gt.out 2).trans rfl); have f_gt_2 := blk_frozen K_gt.out 2
          have c_gt_3 := (show World.cell? _ ⟨gt, 3, none⟩ = some (.int .u64 tv2) from (blk_cell K_gt.out 3).trans rfl); have f_gt_3 := blk_frozen K_gt.out 3
          have c_gt_4 := (show World.cell? _ ⟨gt, 4, none⟩ = some (.int .u64 tn) from (blk_cell K_gt.out 4).trans rfl); have f_gt_4 := blk_frozen K_gt.out 4
          have c_gt_5 := (show World.cell? _ ⟨gt, 5, none⟩ = some (.bool tg) from (blk_cell K_gt.out 5).trans rfl); have f_gt_5 := blk_frozen K_gt.out 5
          have c_ga_0 := K_ga.out.u 0 rfl; have f_ga_0 := K_ga.out.fr 0
          have c_ga_33 := K_ga.out.p; have f_ga_33 := K_ga.out.fr 33
          have c_ga_34 := K_ga.out.cv; have f_ga_34 := K_ga.out.fr 34
          have c_ga_35 := K_ga.out.cw; have f_ga_35 := K_ga.out.fr 35
          have c_ga_36 := K_ga.out.ch; have f_ga_36 := K_ga.out.fr 36
          have c_ga_37 := K_ga.out.u 37 rfl; have f_ga_37 := K_ga.out.fr 37
          have c_ga_38 := K_ga.out.u 38 rfl; have f_ga_38 := K_ga.out.fr 38
          have c_ga_51 := K_ga.out.u 51 rfl; have f_ga_51 := K_ga.out.fr 51
          have c_ga_54 := K_ga.out.u 54 rfl; have f_ga_54 := K_ga.out.fr 54
          have c_ga_55 := K_ga.out.u 55 rfl; have f_ga_55 := K_ga.out.fr 55
          have c_ga_56 := K_ga.out.u 56 rfl; have f_ga_56 := K_ga.out.fr 56
          have c_ga_58 := K_ga.out.u 58 rfl; have f_ga_58 := K_ga.out.fr 58
          have c_ga_64 := K_ga.out.u 64 rfl; have f_ga_64 := K_ga.out.fr 64
          have c_ga_65 := K_ga.out.u 65 rfl; have f_ga_65 := K_ga.out.fr 65
          go_upto_region 14 with (first | (go_at_call 18; refine (on_c _ _ _ (by decide)).mono ?_; rintro e_ w_ ⟨rfl, ⟨n_, rfl⟩⟩) | (go_at_call 17; refine (set_c _ _ _ _ (by decide)).mono ?_; rintro e_ w_ ⟨rfl, ⟨n_, rfl⟩⟩) | (go_at_call 19; refine (place_c _ _ _).mono ?_; rintro e_ w_ ⟨rfl, ⟨n_, rfl⟩⟩) | (go_at_call 20; refine (taken_c _ _ _).mono ?_; rintro e_ w_ ⟨rfl, ⟨n_, rfl⟩⟩) | (go_at_call 21; refine (split_c _ _).mono ?_; rintro e_ w_ ⟨rfl, ⟨n_, rfl⟩⟩))
          refine start_ (n := 20) (S := fun w' => w'.cell? ⟨ga, 0, none⟩ = some (.int .u64 (h.x 0)) ∧ w'.cell? ⟨gt, 1, none⟩ = some (.int .u64 tc) ∧ w'.cell? ⟨gt, 2, none⟩ = some (.int .u64 tv) ∧ w'.cell? ⟨gt, 3, none⟩ = some (.int .u64 tv2) ∧ w'.cell? ⟨gt, 4, none⟩ = some (.int .u64 tn)) (ds := []) #[false, false, false, false, false, false, false, false, false, false, false, false, false, false, false, false, false, false, false, false] (by kernel_rfl) rfl rfl ⟨(show World.cell? _ ⟨ga, 0, none⟩ = some (.int .u64 (h.x 0)) by first | (go_simp; done) | (go_simp; rfl)), (show World.cell? _ ⟨gt, 1, none⟩ = some (.int .u64 tc) by first | (go_simp; done) | (go_simp; rfl)), (show World.cell? _ ⟨gt, 2, none⟩ = some (.int .u64 tv) by first | (go_simp; done) | (go_simp; rfl)), (show World.cell? _ ⟨gt, 3, none⟩ = some (.int .u64 tv2) by first | (go_simp; done) | (go_simp; rfl)), (show World.cell? _ ⟨gt, 4, none⟩ = some (.int .u64 tn) by first | (go_simp; done) | (go_simp; rfl))⟩ (fun hHeld => ?_)
          have HH0 := Lib.hid hHeld
          clear hHeld
          refine world_any ga (by repeat (with_reducible first | exact K_ga.out | apply Hb.put | apply Hb.putP | apply Hb.putV | apply Hb.putW | apply Hb.putH | apply Hb.far N_ga_gt.out | apply Hb.far N_ga_gr.out | apply Hb.drewN | apply Hb.drew)) (fun w' => Below w.heap.size w w' ∧ w'.heap[gt]? = some (.cells #[.bool ti, .int .u64 tc, .int .u64 tv, .int .u64 tv2, .int .u64 tn, .bool tg] 27 (0, 0)) ∧ Hb w' gr Ht.zero ∧ (w'.cell? ⟨ga, 0, none⟩ = some (.int .u64 (h.x 0)) ∧ w'.cell? ⟨gt, 1, none⟩ = some (.int .u64 tc) ∧ w'.cell? ⟨gt, 2, none⟩ = some (.int .u64 tv) ∧ w'.cell? ⟨gt, 3, none⟩ = some (.int .u64 tv2) ∧ w'.cell? ⟨gt, 4, none⟩ = some (.int .u64 tn))) ⟨(by repeat (first | (with_reducible first | exact hB_9.out | apply pw_below_drewN | apply below_drew1 | refine below_set ?_ G_ga.out | refine below_set ?_ G_gt.out | refine below_set ?_ G_gr.out) | exact hB_9.out)), (by repeat (with_reducible first | exact K_gt.out | apply blk_drewN | apply blk_drew | refine blk_far ?_ (show gt ≠ _ from (Ne.symm N_ga_gt.out)) _ | refine blk_far ?_ (show gt ≠ _ from N_gt_gr.out) _)), (by repeat (with_reducible first | exact K_gr.out | apply Hb.put | apply Hb.putP | apply Hb.putV | apply Hb.putW | apply Hb.putH | apply Hb.far (Ne.symm N_ga_gr.out) | apply Hb.far (Ne.symm N_gt_gr.out) | apply Hb.drewN | apply Hb.drew)), HH0.out⟩ ?_
          clear HH0
          clear c_gt_1 f_gt_1 c_gt_2 f_gt_2 c_gt_3 f_gt_3 c_gt_4 f_gt_4 c_gt_5 f_gt_5 c_ga_0 f_ga_0 c_ga_33 f_ga_33 c_ga_34 f_ga_34 c_ga_35 f_ga_35 c_ga_36 f_ga_36 c_ga_37 f_ga_37 c_ga_38 f_ga_38 c_ga_51 f_ga_51 c_ga_54 f_ga_54 c_ga_55 f_ga_55 c_ga_56 f_ga_56 c_ga_58 f_ga_58 c_ga_64 f_ga_64 c_ga_65 f_ga_65
          clear K_ga K_gt K_gr hB_9
          rintro w_10 q_ ⟨b_, q_gt, q_gr, hHeld⟩
          have K_ga := Lib.hid q_; have hB_11 := Lib.hid b_; have K_gt := Lib.hid q_gt; have K_gr := Lib.hid q_gr
          clear q_ b_ q_gt q_gr
          refine pure_ (i := 0) (N := some 76) (v := ?_) (a' := ?_) #[true, false, false, false, false, false, false, false, false, false, false, false, false, false, false, false, false, false, false, false] rfl rfl (by kernel_rfl) (fun _ _ _ h => h) (Or.inl ⟨by rfl, ?_⟩) ?_ ?_
          rotate_left
          · intro w'
            go_simp
            with_reducible rfl
          rotate_left
          · simp only [Act.put, List.setIfInBounds_toArray, List.set_cons_zero, List.set_cons_succ, i64_w, i32_w]
            rfl
          refine pure_ (i := 2) (N := some 78) (v := ?_) (a' := ?_) #[true, false, true, false, false, false, false, false, false, false, false, false, false, false, false, false, false, false, false, false] rfl rfl (by kernel_rfl) (fun _ _ _ h => h) (Or.inl ⟨by rfl, ?_⟩) ?_ ?_
          rotate_left
          · intro w'
            go_simp
            with_reducible rfl
          rotate_left
          · simp only [Act.put, List.setIfInBounds_toArray, List.set_cons_zero, List.set_cons_succ, i64_w, i32_w]
            rfl
          refine pure_ (i := 4) (N := some 80) (v := ?_) (a' := ?_) #[true, false, true, false, true, false, false, false, false, false, false, false, false, false, false, false, false, false, false, false] rfl rfl (by kernel_rfl) (fun _ _ _ h => h) (Or.inl ⟨by rfl, ?_⟩) ?_ ?_
          rotate_left
          · intro w'
            go_simp
            with_reducible rfl
          rotate_left
          · simp only [Act.put, List.setIfInBounds_toArray, List.set_cons_zero, List.set_cons_succ, i64_w, i32_w]
            rfl
          refine pure_ (i := 6) (N := some 82) (v := ?_) (a' := ?_) #[true, false, true, false, true, false, true, false, false, false, false, false, false, false, false, false, false, false, false, false] rfl rfl (by kernel_rfl) (fun _ _ _ h => h) (Or.inl ⟨by rfl, ?_⟩) ?_ ?_
          rotate_left
          · intro w'
            go_simp
            with_reducible rfl
          rotate_left
          · simp only [Act.put, List.setIfInBounds_toArray, List.set_cons_zero, List.set_cons_succ, i64_w, i32_w]
            rfl
          refine pure_ (i := 8) (N := some 84) (v := ?_) (a' := ?_) #[true, false, true, false, true, false, true, false, true, false, false, false, false, false, false, false, false, false, false, false] rfl rfl (by kernel_rfl) (fun _ _ _ h => h) (Or.inl ⟨by rfl, ?_⟩) ?_ ?_
          rotate_left
          · intro w'
            go_simp
            with_reducible rfl
          rotate_left
          · simp only [Act.put, List.setIfInBounds_toArray, List.set_cons_zero, List.set_cons_succ, i64_w, i32_w]
            rfl
          refine take_ (i := 1) (N := some 77) (v := ?_) (a' := ?_) #[true, true, true, false, true, false, true, false, true, false, false, false, false, false, false, false, false, false, false, false] rfl rfl (by kernel_rfl) (fun _ _ _ h => h) (Or.inl ⟨by rfl, ?_⟩) hHeld ?_ ?_
          rotate_left
          · rintro w' ⟨s0, s1, s2, s3, s4⟩
            go_simp
            with_reducible rfl
          rotate_left
          · simp only [Act.put, List.setIfInBounds_toArray, List.set_cons_zero, List.set_cons_succ, i64_w, i32_w]
            rfl
          refine pure_ (i := 10) (N := some 86) (v := ?_) (a' := ?_) #[true, true, true, false, true, false, true, false, true, false, true, false, false, false, false, false, false, false, false, false] rfl rfl (by kernel_rfl) (fun _ _ _ h => h) (Or.inl ⟨by rfl, ?_⟩) ?_ ?_
          rotate_left
          · intro w'
            go_simp
            with_reducible rfl
          rotate_left
          · simp only [Act.put, List.setIfInBounds_toArray, List.set_cons_zero, List.set_cons_succ, i64_w, i32_w]
            rfl
          refine take_ (i := 3) (N := some 79) (v := ?_) (a' := ?_) #[true, true, true, true, true, false, true, false, true, false, true, false, false, false, false, false, false, false, false, false] rfl rfl (by kernel_rfl) (fun _ _ _ h => h) (Or.inl ⟨by rfl, ?_⟩) hHeld ?_ ?_
          rotate_left
          · rintro w' ⟨s0, s1, s2, s3, s4⟩
            go_simp
            with_reducible rfl
          rotate_left
          · simp only [Act.put, List.setIfInBounds_toArray, List.set_cons_zero, List.set_cons_succ, i64_w, i32_w]
            rfl
          refine take_ (i := 5) (N := some 81) (v := ?_) (a' := ?_) #[true, true, true, true, true, true, true, false, true, false, true, false, false, false, false, false, false, false, false, false] rfl rfl (by kernel_rfl) (fun _ _ _ h => h) (Or.inl ⟨by rfl, ?_⟩) hHeld ?_ ?_
          rotate_left
          · rintro w' ⟨s0, s1, s2, s3, s4⟩
            go_simp
            with_reducible rfl
          rotate_left
          · simp only [Act.put, List.setIfInBounds_toArray, List.set_cons_zero, List.set_cons_succ, i64_w, i32_w]
            rfl
          refine take_ (i := 7) (N := some 83) (v := ?_) (a' := ?_) #[true, true, true, true, true, true, true, true, true, false, true, false, false, false, false, false, false, false, false, false] rfl rfl (by kernel_rfl) (fun _ _ _ h => h) (Or.inl ⟨by rfl, ?_⟩) hHeld ?_ ?_
          rotate_left
          · rintro w' ⟨s0, s1, s2, s3, s4⟩
            go_simp
            with_reducible rfl
          rotate_left
          · simp only [Act.put, List.setIfInBounds_toArray, List.set_cons_zero, List.set_cons_succ, i64_w, i32_w]
            rfl
          refine take_ (i := 9) (N := some 85) (v := ?_) (a' := ?_) #[true, true, true, true, true, true, true, true, true, true, true, false, false, false, false, false, false, false, false, false] rfl rfl (by kernel_rfl) (fun _ _ _ h => h) (Or.inl ⟨by rfl, ?_⟩) hHeld ?_ ?_
          rotate_left
          · rintro w' ⟨s0, s1, s2, s3, s4⟩
            go_simp
            with_reducible rfl
          rotate_left
          · simp only [Act.put, List.setIfInBounds_toArray, List.set_cons_zero, List.set_cons_succ, i64_w, i32_w]
            rfl
          have HH := Lib.hid hHeld
          clear hHeld
          refine one_ (i := 11) (N := none) #[true, true, true, true, true, true, true, true, true, true, true, true, false, false, false, false, false, false, false, false] rfl rfl (by kernel_rfl) (by decide) (fun K hK => ?_)
          refine skipH (h := _) (v := .int .u64 (h.x 0)) (by rfl) rfl rfl rfl rfl (by kernel_rfl) rfl rfl K_ga.out (by decide) ?_
          have q_ := Lib.hid (Hb.put 54 ((h.x 0)) K_ga.out)
          have hB_13 := Lib.hid (below_set (j := 54) (v := (.int .u64 (h.x 0))) hB_11.out G_ga.out)
          have q_gt := Lib.hid (blk_far K_gt.out (p := ⟨ga, 54, none⟩) (Ne.symm N_ga_gt.out) (.int .u64 (h.x 0)))
          have q_gr := Lib.hid (Hb.far (j := 54) (u := (.int .u64 (h.x 0))) (Ne.symm N_ga_gr.out) K_gr.out)
          have s_0 := (cell_ne (u := (.int .u64 (h.x 0))) HH.out.1 (show 0 ≠ 54 by decide))
          have s_1 := (cell_far' (j := 54) (u := (.int .u64 (h.x 0))) HH.out.2.1 (Ne.symm N_ga_gt.out))
          have s_2 := (cell_far' (j := 54) (u := (.int .u64 (h.x 0))) HH.out.2.2.1 (Ne.symm N_ga_gt.out))
          have s_3 := (cell_far' (j := 54) (u := (.int .u64 (h.x 0))) HH.out.2.2.2.1 (Ne.symm N_ga_gt.out))
          have s_4 := (cell_far' (j := 54) (u := (.int .u64 (h.x 0))) HH.out.2.2.2.2 (Ne.symm N_ga_gt.out))
          clear HH K_ga K_gt K_gr hB_11
          generalize World.setCell w_10 ⟨ga, 54, none⟩ (.int .u64 (h.x 0)) = w_12 at q_ hB_13 q_gt q_gr s_0 s_1 s_2 s_3 s_4 ⊢
          have K_ga := q_; clear q_
          have K_gt := q_gt; clear q_gt
          have K_gr := q_gr; clear q_gr
          refine hK.out _ _ ⟨s_0, s_1, s_2, s_3, s_4⟩ (fun hHeld => ?_)
          have HH := Lib.hid hHeld
          clear hHeld s_0 s_1 s_2 s_3 s_4
          clear hK K
          refine pure_ (i := 12) (N := some 87) (v := ?_) (a' := ?_) #[true, true, true, true, true, true, true, true, true, true, true, true, true, false, false, false, false, false, false, false] rfl rfl (by kernel_rfl) (fun _ _ _ h => h) (Or.inl ⟨by rfl, ?_⟩) ?_ ?_
          rotate_left
          · intro w'
            go_simp
            with_reducible rfl
          rotate_left
          · simp only [Act.put, List.setIfInBounds_toArray, List.set_cons_zero, List.set_cons_succ, i64_w, i32_w]
            rfl
          refine one_ (i := 13) (N := none) #[true, true, true, true, true, true, true, true, true, true, true, true, true, true, false, false, false, false, false, false] rfl rfl (by kernel_rfl) (by decide) (fun K hK => ?_)
          refine skipH (h := _) (v := .int .u64 tc) (by rfl) rfl rfl rfl rfl (by kernel_rfl) rfl rfl K_ga.out (by decide) ?_
          have q_ := Lib.hid (Hb.put 55 (tc) K_ga.out)
          have hB_15 := Lib.hid (below_set (j := 55) (v := (.int .u64 tc)) hB_13.out G_ga.out)
          have q_gt := Lib.hid (blk_far K_gt.out (p := ⟨ga, 55, none⟩) (Ne.symm N_ga_gt.out) (.int .u64 tc))
          have q_gr := Lib.hid (Hb.far (j := 55) (u := (.int .u64 tc)) (Ne.symm N_ga_gr.out) K_gr.out)
          have s_0 := (cell_ne (u := (.int .u64 tc)) HH.out.1 (show 0 ≠ 55 by decide))
          have s_1 := (cell_far' (j := 55) (u := (.int .u64 tc)) HH.out.2.1 (Ne.symm N_ga_gt.out))
          have s_2 := (cell_far' (j := 55) (u := (.int .u64 tc)) HH.out.2.2.1 (Ne.symm N_ga_gt.out))
          have s_3 := (cell_far' (j := 55) (u := (.int .u64 tc)) HH.out.2.2.2.1 (Ne.symm N_ga_gt.out))
          have s_4 := (cell_far' (j := 55) (u := (.int .u64 tc)) HH.out.2.2.2.2 (Ne.symm N_ga_gt.out))
          clear HH K_ga K_gt K_gr hB_13
          generalize World.setCell w_12 ⟨ga, 55, none⟩ (.int .u64 tc) = w_14 at q_ hB_15 q_gt q_gr s_0 s_1 s_2 s_3 s_4 ⊢
          have K_ga := q_; clear q_
          have K_gt := q_gt; clear q_gt
          have K_gr := q_gr; clear q_gr
          refine hK.out _ _ ⟨s_0, s_1, s_2, s_3, s_4⟩ (fun hHeld => ?_)
          have HH := Lib.hid hHeld
          clear hHeld s_0 s_1 s_2 s_3 s_4
          clear hK K
          refine pure_ (i := 14) (N := some 88) (v := ?_) (a' := ?_) #[true, true, true, true, true, true, true, true, true, true, true, true, true, true, true, false, false, false, false, false] rfl rfl (by kernel_rfl) (fun _ _ _ h => h) (Or.inl ⟨by rfl, ?_⟩) ?_ ?_
          rotate_left
          · intro w'
            go_simp
            with_reducible rfl
          rotate_left
          · simp only [Act.put, List.setIfInBounds_toArray, List.set_cons_zero, List.set_cons_succ, i64_w, i32_w]
            rfl
          refine one_ (i := 15) (N := none) #[true, true, true, true, true, true, true, true, true, true, true, true, true, true, true, true, false, false, false, false] rfl rfl (by kernel_rfl) (by decide) (fun K hK => ?_)
          refine skipH (h := _) (v := .int .u64 tv) (by rfl) rfl rfl rfl rfl (by kernel_rfl) rfl rfl K_ga.out (by decide) ?_
          have q_ := Lib.hid (Hb.put 56 (tv) K_ga.out)
          have hB_17 := Lib.hid (below_set (j := 56) (v := (.int .u64 tv)) hB_15.out G_ga.out)
          have q_gt := Lib.hid (blk_far K_gt.out (p := ⟨ga, 56, none⟩) (Ne.symm N_ga_gt.out) (.int .u64 tv))
          have q_gr := Lib.hid (Hb.far (j := 56) (u := (.int .u64 tv)) (Ne.symm N_ga_gr.out) K_gr.out)
          have s_0 := (cell_ne (u := (.int .u64 tv)) HH.out.1 (show 0 ≠ 56 by decide))
          have s_1 := (cell_far' (j := 56) (u := (.int .u64 tv)) HH.out.2.1 (Ne.symm N_ga_gt.out))
          have s_2 := (cell_far' (j := 56) (u := (.int .u64 tv)) HH.out.2.2.1 (Ne.symm N_ga_gt.out))
          have s_3 := (cell_far' (j := 56) (u := (.int .u64 tv)) HH.out.2.2.2.1 (Ne.symm N_ga_gt.out))
          have s_4 := (cell_far' (j := 56) (u := (.int .u64 tv)) HH.out.2.2.2.2 (Ne.symm N_ga_gt.out))
          clear HH K_ga K_gt K_gr hB_15
          generalize World.setCell w_14 ⟨ga, 56, none⟩ (.int .u64 tv) = w_16 at q_ hB_17 q_gt q_gr s_0 s_1 s_2 s_3 s_4 ⊢
          have K_ga := q_; clear q_
          have K_gt := q_gt; clear q_gt
          have K_gr := q_gr; clear q_gr
          refine hK.out _ _ ⟨s_0, s_1, s_2, s_3, s_4⟩ (fun hHeld => ?_)
          have HH := Lib.hid hHeld
          clear hHeld s_0 s_1 s_2 s_3 s_4
          clear hK K
          refine pure_ (i := 16) (N := some 89) (v := ?_) (a' := ?_) #[true, true, true, true, true, true, true, true, true, true, true, true, true, true, true, true, true, false, false, false] rfl rfl (by kernel_rfl) (fun _ _ _ h => h) (Or.inl ⟨by rfl, ?_⟩) ?_ ?_
          rotate_left
          · intro w'
            go_simp
            with_reducible rfl
          rotate_left
          · simp only [Act.put, List.setIfInBounds_toArray, List.set_cons_zero, List.set_cons_succ, i64_w, i32_w]
            rfl
          refine one_ (i := 17) (N := none) #[true, true, true, true, true, true, true, true, true, true, true, true, true, true, true, true, true, true, false, false] rfl rfl (by kernel_rfl) (by decide) (fun K hK => ?_)
          refine skipH (h := _) (v := .int .u64 tv2) (by rfl) rfl rfl rfl rfl (by kernel_rfl) rfl rfl K_ga.out (by decide) ?_
          have q_ := Lib.hid (Hb.put 64 (tv2) K_ga.out)
          have hB_19 := Lib.hid (below_set (j := 64) (v := (.int .u64 tv2)) hB_17.out G_ga.out)
          have q_gt := Lib.hid (blk_far K_gt.out (p := ⟨ga, 64, none⟩) (Ne.symm N_ga_gt.out) (.int .u64 tv2))
          have q_gr := Lib.hid (Hb.far (j := 64) (u := (.int .u64 tv2)) (Ne.symm N_ga_gr.out) K_gr.out)
          have s_0 := (cell_ne (u := (.int .u64 tv2)) HH.out.1 (show 0 ≠ 64 by decide))
          have s_1 := (cell_far' (j := 64) (u := (.int .u64 tv2)) HH.out.2.1 (Ne.symm N_ga_gt.out))
          have s_2 := (cell_far' (j := 64) (u := (.int .u64 tv2)) HH.out.2.2.1 (Ne.symm N_ga_gt.out))
          have s_3 := (cell_far' (j := 64) (u := (.int .u64 tv2)) HH.out.2.2.2.1 (Ne.symm N_ga_gt.out))
          have s_4 := (cell_far' (j := 64) (u := (.int .u64 tv2)) HH.out.2.2.2.2 (Ne.symm N_ga_gt.out))
          clear HH K_ga K_gt K_gr hB_17
          generalize World.setCell w_16 ⟨ga, 64, none⟩ (.int .u64 tv2) = w_18 at q_ hB_19 q_gt q_gr s_0 s_1 s_2 s_3 s_4 ⊢
          have K_ga := q_; clear q_
          have K_gt := q_gt; clear q_gt
          have K_gr := q_gr; clear q_gr
          refine hK.out _ _ ⟨s_0, s_1, s_2, s_3, s_4⟩ (fun hHeld => ?_)
          have HH := Lib.hid hHeld
          clear hHeld s_0 s_1 s_2 s_3 s_4
          clear hK K
          refine pure_ (i := 18) (N := some 90) (v := ?_) (a' := ?_) #[true, true, true, true, true, true, true, true, true, true, true, true, true, true, true, true, true, true, true, false] rfl rfl (by kernel_rfl) (fun _ _ _ h => h) (Or.inl ⟨by rfl, ?_⟩) ?_ ?_
          rotate_left
          · intro w'
            go_simp
            with_reducible rfl
          rotate_left
          · simp only [Act.put, List.setIfInBounds_toArray, List.set_cons_zero, List.set_cons_succ, i64_w, i32_w]
            rfl
          refine one_ (i := 19) (N := none) #[true, true, true, true, true, true, true, true, true, true, true, true, true, true, true, true, true, true, true, true] rfl rfl (by kernel_rfl) (by decide) (fun K hK => ?_)
          refine skipH (h := _) (v := .int .u64 tn) (by rfl) rfl rfl rfl rfl (by kernel_rfl) rfl rfl K_ga.out (by decide) ?_
          have q_ := Lib.hid (Hb.put 65 (tn) K_ga.out)
          have hB_21 := Lib.hid (below_set (j := 65) (v := (.int .u64 tn)) hB_19.out G_ga.out)
          have q_gt := Lib.hid (blk_far K_gt.out (p := ⟨ga, 65, none⟩) (Ne.symm N_ga_gt.out) (.int .u64 tn))
          have q_gr := Lib.hid (Hb.far (j := 65) (u := (.int .u64 tn)) (Ne.symm N_ga_gr.out) K_gr.out)
          have s_0 := (cell_ne (u := (.int .u64 tn)) HH.out.1 (show 0 ≠ 65 by decide))
          have s_1 := (cell_far' (j := 65) (u := (.int .u64 tn)) HH.out.2.1 (Ne.symm N_ga_gt.out))
          have s_2 := (cell_far' (j := 65) (u := (.int .u64 tn)) HH.out.2.2.1 (Ne.symm N_ga_gt.out))
          have s_3 := (cell_far' (j := 65) (u := (.int .u64 tn)) HH.out.2.2.2.1 (Ne.symm N_ga_gt.out))
          have s_4 := (cell_far' (j := 65) (u := (.int .u64 tn)) HH.out.2.2.2.2 (Ne.symm N_ga_gt.out))
          clear HH K_ga K_gt K_gr hB_19
          generalize World.setCell w_18 ⟨ga, 65, none⟩ (.int .u64 tn) = w_20 at q_ hB_21 q_gt q_gr s_0 s_1 s_2 s_3 s_4 ⊢
          have K_ga := q_; clear q_
          have K_gt := q_gt; clear q_gt
          have K_gr := q_gr; clear q_gr
          refine hK.out _ _ ⟨s_0, s_1, s_2, s_3, s_4⟩ (fun hHeld => ?_)
          have HH := Lib.hid hHeld
          clear hHeld s_0 s_1 s_2 s_3 s_4
          clear hK K
          refine done_ (by kernel_rfl) ?_
          try clear HH
          have c_gt_1 := (show World.cell? _ ⟨gt, 1, none⟩ = some (.int .u64 tc) from (blk_cell K_gt.out 1).trans rfl); have f_gt_1 := blk_frozen K_gt.out 1
          have c_gt_5 := (show World.cell? _ ⟨gt, 5, none⟩ = some (.bool tg) from (blk_cell K_gt.out 5).trans rfl); have f_gt_5 := blk_frozen K_gt.out 5
          have c_ga_33 := (show World.cell? _ ⟨ga, 33, none⟩ = some (.int .u8 (h.x 33)) from (K_ga.out.p).trans rfl); have f_ga_33 := K_ga.out.fr 33
          have c_ga_34 := (show World.cell? _ ⟨ga, 34, none⟩ = some (.bool h.v) from (K_ga.out.cv).trans rfl); have f_ga_34 := K_ga.out.fr 34
          have c_ga_0 := (show World.cell? _ ⟨ga, 0, none⟩ = some (.int .u64 (h.x 0)) from (K_ga.out.u 0 rfl).trans rfl); have f_ga_0 := K_ga.out.fr 0
          have c_ga_38 := (show World.cell? _ ⟨ga, 38, none⟩ = some (.int .u64 (h.x 38)) from (K_ga.out.u 38 rfl).trans rfl); have f_ga_38 := K_ga.out.fr 38
          have c_ga_51 := (show World.cell? _ ⟨ga, 51, none⟩ = some (.int .u64 (h.x 51)) from (K_ga.out.u 51 rfl).trans rfl); have f_ga_51 := K_ga.out.fr 51
          have c_ga_58 := (show World.cell? _ ⟨ga, 58, none⟩ = some (.int .u64 (h.x 58)) from (K_ga.out.u 58 rfl).trans rfl); have f_ga_58 := K_ga.out.fr 58
          go_upto_region 18 with (first | (go_at_call 18; refine (on_c _ _ _ (by decide)).mono ?_; rintro e_ w_ ⟨rfl, ⟨n_, rfl⟩⟩) | (go_at_call 17; refine (set_c _ _ _ _ (by decide)).mono ?_; rintro e_ w_ ⟨rfl, ⟨n_, rfl⟩⟩) | (go_at_call 19; refine (place_c _ _ _).mono ?_; rintro e_ w_ ⟨rfl, ⟨n_, rfl⟩⟩) | (go_at_call 20; refine (taken_c _ _ _).mono ?_; rintro e_ w_ ⟨rfl, ⟨n_, rfl⟩⟩) | (go_at_call 21; refine (split_c _ _).mono ?_; rintro e_ w_ ⟨rfl, ⟨n_, rfl⟩⟩))
          refine start_ (n := 10) (S := fun w' => w'.cell? ⟨ga, 58, none⟩ = some (.int .u64 (setV (h.x 58) 8 (h.x 33 == 1))) ∧ w'.cell? ⟨ga, 34, none⟩ = some (.bool true) ∧ w'.cell? ⟨gt, 5, none⟩ = some (.bool tg)) (ds := [9]) #[false, false, false, false, false, false, false, false, false, false] (by kernel_rfl) rfl rfl ⟨(show World.cell? _ ⟨ga, 58, none⟩ = some (.int .u64 (setV (h.x 58) 8 (h.x 33 == 1))) by first | (go_simp; done) | (go_simp; rfl)), (show World.cell? _ ⟨ga, 34, none⟩ = some (.bool true) by first | (go_simp; done) | (go_simp; rfl)), (show World.cell? _ ⟨gt, 5, none⟩ = some (.bool tg) by first | (go_simp; done) | (go_simp; rfl))⟩ (fun hHeld => ?_)
          have HH0 := Lib.hid hHeld
          clear hHeld
          refine world_any ga (by repeat (with_reducible first | exact K_ga.out | apply Hb.put | apply Hb.putP | apply Hb.putV | apply Hb.putW | apply Hb.putH | apply Hb.far N_ga_gt.out | apply Hb.far N_ga_gr.out | apply Hb.drewN | apply Hb.drew)) (fun w' => Below w.heap.size w w' ∧ w'.heap[gt]? = some (.cells #[.bool ti, .int .u64 tc, .int .u64 tv, .int .u64 tv2, .int .u64 tn, .bool tg] 27 (0, 0)) ∧ Hb w' gr Ht.zero ∧ (w'.cell? ⟨ga, 58, none⟩ = some (.int .u64 (setV (h.x 58) 8 (h.x 33 == 1))) ∧ w'.cell? ⟨ga, 34, none⟩ = some (.bool true) ∧ w'.cell? ⟨gt, 5, none⟩ = some (.bool tg))) ⟨(by repeat (first | (with_reducible first | exact hB_21.out | apply pw_below_drewN | apply below_drew1 | refine below_set ?_ G_ga.out | refine below_set ?_ G_gt.out | refine below_set ?_ G_gr.out) | exact hB_21.out)), (by repeat (with_reducible first | exact K_gt.out | apply blk_drewN | apply blk_drew | refine blk_far ?_ (show gt ≠ _ from (Ne.symm N_ga_gt.out)) _ | refine blk_far ?_ (show gt ≠ _ from N_gt_gr.out) _)), (by repeat (with_reducible first | exact K_gr.out | apply Hb.put | apply Hb.putP | apply Hb.putV | apply Hb.putW | apply Hb.putH | apply Hb.far (Ne.symm N_ga_gr.out) | apply Hb.far (Ne.symm N_gt_gr.out) | apply Hb.drewN | apply Hb.drew)), HH0.out⟩ ?_
          clear HH0
          clear c_gt_1 f_gt_1 c_gt_5 f_gt_5 c_ga_33 f_ga_33 c_ga_34 f_ga_34 c_ga_0 f_ga_0 c_ga_38 f_ga_38 c_ga_51 f_ga_51 c_ga_58 f_ga_58
          clear K_ga K_gt K_gr hB_21
          rintro w_22 q_ ⟨b_, q_gt, q_gr, hHeld⟩
          have K_ga := Lib.hid q_; have hB_23 := Lib.hid b_; have K_gt := Lib.hid q_gt; have K_gr := Lib.hid q_gr
          clear q_ b_ q_gt q_gr
          refine pure_ (i := 0) (N := some 103) (v := ?_) (a' := ?_) #[true, false, false, false, false, false, false, false, false, false] rfl rfl (by kernel_rfl) (fun _ _ _ h => h) (Or.inl ⟨by rfl, ?_⟩) ?_ ?_
          rotate_left
          · intro w'
            go_simp
            with_reducible rfl
          rotate_left
          · simp only [Act.put, List.setIfInBounds_toArray, List.set_cons_zero, List.set_cons_succ, i64_w, i32_w]
            rfl
          refine pure_ (i := 2) (N := some 105) (v := ?_) (a' := ?_) #[true, false, true, false, false, false, false, false, false, false] rfl rfl (by kernel_rfl) (fun _ _ _ h => h) (Or.inl ⟨by rfl, ?_⟩) ?_ ?_
          rotate_left
          · intro w'
            go_simp
            with_reducible rfl
          rotate_left
          · simp only [Act.put, List.setIfInBounds_toArray, List.set_cons_zero, List.set_cons_succ, i64_w, i32_w]
            rfl
          refine pure_ (i := 5) (N := some 108) (v := ?_) (a' := ?_) #[true, false, true, false, false, true, false, false, false, false] rfl rfl (by kernel_rfl) (fun _ _ _ h => h) (Or.inl ⟨by rfl, ?_⟩) ?_ ?_
          rotate_left
          · intro w'
            go_simp
            with_reducible rfl
          rotate_left
          · simp only [Act.put, List.setIfInBounds_toArray, List.set_cons_zero, List.set_cons_succ, i64_w, i32_w]
            rfl
          refine take_ (i := 1) (N := some 104) (v := ?_) (a' := ?_) #[true, true, true, false, false, true, false, false, false, false] rfl rfl (by kernel_rfl) (fun _ _ _ h => h) (Or.inl ⟨by rfl, ?_⟩) hHeld ?_ ?_
          rotate_left
          · rintro w' ⟨s0, s1, s2⟩
            go_simp
            with_reducible rfl
          rotate_left
          · simp only [Act.put, List.setIfInBounds_toArray, List.set_cons_zero, List.set_cons_succ, i64_w, i32_w]
            rfl
          refine take_ (i := 3) (N := some 106) (v := ?_) (a' := ?_) #[true, true, true, true, false, true, false, false, false, false] rfl rfl (by kernel_rfl) (fun _ _ _ h => h) (Or.inl ⟨by rfl, ?_⟩) hHeld ?_ ?_
          rotate_left
          · rintro w' ⟨s0, s1, s2⟩
            go_simp
            with_reducible rfl
          rotate_left
          · simp only [Act.put, List.setIfInBounds_toArray, List.set_cons_zero, List.set_cons_succ, i64_w, i32_w]
            rfl
          refine take_ (i := 6) (N := some 109) (v := ?_) (a' := ?_) #[true, true, true, true, false, true, true, false, false, false] rfl rfl (by kernel_rfl) (fun _ _ _ h => h) (Or.inl ⟨by rfl, ?_⟩) hHeld ?_ ?_
          rotate_left
          · rintro w' ⟨s0, s1, s2⟩
            go_simp
            with_reducible rfl
          rotate_left
          · simp only [Act.put, List.setIfInBounds_toArray, List.set_cons_zero, List.set_cons_succ, i64_w, i32_w]
            rfl
          have HH := Lib.hid hHeld
          clear hHeld
          refine one_ (i := 4) (N := some 107) #[true, true, true, true, true, true, true, false, false, false] rfl rfl (by kernel_rfl) (by decide) (fun K hK => ?_)
          refine goes_ Tryd.func17 (by kernel_rfl) rfl #[.int .u64 (setV (h.x 58) 8 (h.x 33 == 1)), .int .i64 7, .bool true] (by rfl) rfl rfl (by simp only [List.map_toArray, List.map_cons, List.map_nil]; rfl) ?_
          with_reducible refine (set_c _ 7 _ _ (by decide)).mono ?_
          rintro e_ w_ ⟨rfl, ⟨n_, rfl⟩⟩
          refine ⟨_, rfl, ?_⟩
          have q_ := Lib.hid (Hb.drewN n_ K_ga.out)
          have hB_25 := Lib.hid (pw_below_drewN hB_23.out n_)
          have q_gt := Lib.hid (blk_drewN K_gt.out n_)
          have q_gr := Lib.hid (Hb.drewN n_ K_gr.out)
          have s_0 := (cell_drewN n_ HH.out.1)
          have s_1 := (cell_drewN n_ HH.out.2.1)
          have s_2 := (cell_drewN n_ HH.out.2.2)
          clear HH K_ga K_gt K_gr hB_23
          generalize World.drewN w_22 n_ = w_24 at q_ hB_25 q_gt q_gr s_0 s_1 s_2 ⊢
          have K_ga := q_; clear q_
          have K_gt := q_gt; clear q_gt
          have K_gr := q_gr; clear q_gr
          refine hK.out _ _ ⟨s_0, s_1, s_2⟩ (fun hHeld => ?_)
          have HH := Lib.hid hHeld
          clear hHeld s_0 s_1 s_2
          clear hK K
          refine norm_ (a' := ?_) ?_ ?_
          rotate_left
          · show Act.put _ (some 107) _ = _
            simp only [Act.put, List.setIfInBounds_toArray, List.set_cons_zero, List.set_cons_succ, i64_w, i32_w]
            rfl
          refine one_ (i := 7) (N := some 110) #[true, true, true, true, true, true, true, true, false, false] rfl rfl (by kernel_rfl) (by decide) (fun K hK => ?_)
          refine goes_ Tryd.func17 (by kernel_rfl) rfl #[.int .u64 (setV (setV (h.x 58) 8 (h.x 33 == 1)) 7 true), .int .i64 6, .bool tg] (by rfl) rfl rfl (by simp only [List.map_toArray, List.map_cons, List.map_nil]; rfl) ?_
          with_reducible refine (set_c _ 6 _ _ (by decide)).mono ?_
          rintro e_ w_ ⟨rfl, ⟨n_, rfl⟩⟩
          refine ⟨_, rfl, ?_⟩
          have q_ := Lib.hid (Hb.drewN n_ K_ga.out)
          have hB_27 := Lib.hid (pw_below_drewN hB_25.out n_)
          have q_gt := Lib.hid (blk_drewN K_gt.out n_)
          have q_gr := Lib.hid (Hb.drewN n_ K_gr.out)
          have s_0 := (cell_drewN n_ HH.out.1)
          have s_1 := (cell_drewN n_ HH.out.2.1)
          have s_2 := (cell_drewN n_ HH.out.2.2)
          clear HH K_ga K_gt K_gr hB_25
          generalize World.drewN w_24 n_ = w_26 at q_ hB_27 q_gt q_gr s_0 s_1 s_2 ⊢
          have K_ga := q_; clear q_
          have K_gt := q_gt; clear q_gt
          have K_gr := q_gr; clear q_gr
          refine hK.out _ _ ⟨s_0, s_1, s_2⟩ (fun hHeld => ?_)
          have HH := Lib.hid hHeld
          clear hHeld s_0 s_1 s_2
          clear hK K
          refine norm_ (a' := ?_) ?_ ?_
          rotate_left
          · show Act.put _ (some 110) _ = _
            simp only [Act.put, List.setIfInBounds_toArray, List.set_cons_zero, List.set_cons_succ, i64_w, i32_w]
            rfl
          refine pure_ (i := 8) (N := some 111) (v := ?_) (a' := ?_) #[true, true, true, true, true, true, true, true, true, false] rfl rfl (by kernel_rfl) (fun _ _ _ h => h) (Or.inl ⟨by rfl, ?_⟩) ?_ ?_
          rotate_left
          · intro w'
            go_simp
            with_reducible rfl
          rotate_left
          · simp only [Act.put, List.setIfInBounds_toArray, List.set_cons_zero, List.set_cons_succ, i64_w, i32_w]
            rfl
          refine last_ (i := 9) (N := none) #[true, true, true, true, true, true, true, true, true, true] rfl rfl (by kernel_rfl) (by decide) (fun K hK => ?_)
          refine skipH (h := _) (v := .int .u64 (setV (setV (setV (h.x 58) 8 (h.x 33 == 1)) 7 true) 6 tg)) (by rfl) rfl rfl rfl rfl (by kernel_rfl) rfl rfl K_ga.out (by decide) ?_
          have q_ := Lib.hid (Hb.put 58 ((setV (setV (setV (h.x 58) 8 (h.x 33 == 1)) 7 true) 6 tg)) K_ga.out)
          have hB_29 := Lib.hid (below_set (j := 58) (v := (.int .u64 (setV (setV (setV (h.x 58) 8 (h.x 33 == 1)) 7 true) 6 tg))) hB_27.out G_ga.out)
          have q_gt := Lib.hid (blk_far K_gt.out (p := ⟨ga, 58, none⟩) (Ne.symm N_ga_gt.out) (.int .u64 (setV (setV (setV (h.x 58) 8 (h.x 33 == 1)) 7 true) 6 tg)))
          have q_gr := Lib.hid (Hb.far (j := 58) (u := (.int .u64 (setV (setV (setV (h.x 58) 8 (h.x 33 == 1)) 7 true) 6 tg))) (Ne.symm N_ga_gr.out) K_gr.out)
          clear HH K_ga K_gt K_gr hB_27
          generalize World.setCell w_26 ⟨ga, 58, none⟩ (.int .u64 (setV (setV (setV (h.x 58) 8 (h.x 33 == 1)) 7 true) 6 tg)) = w_28 at q_ hB_29 q_gt q_gr ⊢
          have K_ga := q_; clear q_
          have K_gt := q_gt; clear q_gt
          have K_gr := q_gr; clear q_gr
          refine hK.out _ _ ?_
          clear hK K
          refine done_ (by kernel_rfl) ?_
          try clear HH
          have c_gt_1 := (show World.cell? _ ⟨gt, 1, none⟩ = some (.int .u64 tc) from (blk_cell K_gt.out 1).trans rfl); have f_gt_1 := blk_frozen K_gt.out 1
          have c_ga_33 := (show World.cell? _ ⟨ga, 33, none⟩ = some (.int .u8 (h.x 33)) from (K_ga.out.p).trans rfl); have f_ga_33 := K_ga.out.fr 33
          have c_ga_34 := (show World.cell? _ ⟨ga, 34, none⟩ = some (.bool h.v) from (K_ga.out.cv).trans rfl); have f_ga_34 := K_ga.out.fr 34
          have c_ga_0 := (show World.cell? _ ⟨ga, 0, none⟩ = some (.int .u64 (h.x 0)) from (K_ga.out.u 0 rfl).trans rfl); have f_ga_0 := K_ga.out.fr 0
          have c_ga_51 := (show World.cell? _ ⟨ga, 51, none⟩ = some (.int .u64 (h.x 51)) from (K_ga.out.u 51 rfl).trans rfl); have f_ga_51 := K_ga.out.fr 51
          go_upto_region 28 with (first | (go_at_call 18; refine (on_c _ _ _ (by decide)).mono ?_; rintro e_ w_ ⟨rfl, ⟨n_, rfl⟩⟩) | (go_at_call 17; refine (set_c _ _ _ _ (by decide)).mono ?_; rintro e_ w_ ⟨rfl, ⟨n_, rfl⟩⟩) | (go_at_call 19; refine (place_c _ _ _).mono ?_; rintro e_ w_ ⟨rfl, ⟨n_, rfl⟩⟩) | (go_at_call 20; refine (taken_c _ _ _).mono ?_; rintro e_ w_ ⟨rfl, ⟨n_, rfl⟩⟩) | (go_at_call 21; refine (split_c _ _).mono ?_; rintro e_ w_ ⟨rfl, ⟨n_, rfl⟩⟩))
          refine wp_region_list ?_
          refine load_hart (h := _) rfl (.tmp 2) rfl ga rfl (by repeat (with_reducible first | exact K_ga.out | apply Hb.put | apply Hb.putP | apply Hb.putV | apply Hb.putW | apply Hb.putH | apply Hb.far N_ga_gt.out | apply Hb.far N_ga_gr.out | apply Hb.drewN | apply Hb.drew)) ?_
          refine store_hart rfl (.tmp 4) (.tmp 163) rfl gr _ rfl rfl Ht.zero (by repeat (with_reducible first | exact K_gr.out | apply Hb.put | apply Hb.putP | apply Hb.putV | apply Hb.putW | apply Hb.putH | apply Hb.far (Ne.symm N_ga_gr.out) | apply Hb.far (Ne.symm N_gt_gr.out) | apply Hb.drewN | apply Hb.drew)) ?_
          go_wp2
          refine bodyPost_ret (results_cell_row rfl _ _ gr 25 _ (0, 0) _ rfl (Hb.putAll _ (by repeat (with_reducible first | exact K_gr.out | apply Hb.put | apply Hb.putP | apply Hb.putV | apply Hb.putW | apply Hb.putH | apply Hb.far (Ne.symm N_ga_gr.out) | apply Hb.far (Ne.symm N_gt_gr.out) | apply Hb.drewN | apply Hb.drew))) Tryd.underlying25 rfl (by rw [Ht.size]; exact hartSize)) rfl ?_
          exact ⟨by (first | rfl | (simp only [enter, enterM, enterH, enterG, guestCause, t0, t1, hv, if_true, if_false, Bool.false_eq_true, cond_true, cond_false]; done) | (simp only [enter, enterM, enterH, enterG, guestCause, t0, t1, hv, if_true, if_false, Bool.false_eq_true, cond_true, cond_false]; rfl)), setCells_below G_gr.out _ _ _ (by repeat (first | (with_reducible first | exact hB_29.out | apply pw_below_drewN | apply below_drew1 | refine below_set ?_ G_ga.out | refine below_set ?_ G_gt.out | refine below_set ?_ G_gr.out) | exact hB_29.out))⟩
    · skip
      have C0 := Lib.hid c0; have C1 := Lib.hid c1
      clear c0 c1
      have hu25 := Tryd.underlying25
      go_enter Tryd.func6, Tryd.ntmps6
      have hu27 := Tryd.underlying27
      go_upto_region 3 with (first | ((with_reducible refine gate_dst (N := 2) rfl ?_); refine box_event ?hg (N := 2) ?hd (cs := h.cs) (t := 25) ?hr ?_; (case hd => rfl); (case hg => rfl); (case hr => first | (go_simp; done) | (go_simp; rfl)); intro ga hg w_1 H1 hb; have hB_2 := Lib.hid (below_step (Below.refl w.heap.size w) hb); have G_ga := Lib.hid (show w.heap.size ≤ ga by rw [hg]; exact ((Below.refl w.heap.size w)).size); have K_ga := Lib.hid (show Hb w_1 ga h from H1); clear hg hb H1) | ((with_reducible refine gate_dst (N := 3) rfl ?_); refine box_event ?hg (N := 3) ?hd (cs := #[.bool ti, .int .u64 tc, .int .u64 tv, .int .u64 tv2, .int .u64 tn, .bool tg]) (t := 27) ?hr ?_; (case hd => rfl); (case hg => rfl); (case hr => first | (go_simp; done) | (go_simp; rfl)); intro gt hg w_3 H1 hb; have hB_4 := Lib.hid (below_step hB_2.out hb); have G_gt := Lib.hid (show w.heap.size ≤ gt by rw [hg]; exact (hB_2.out).size); have N_ga_gt := Lib.hid (show ga ≠ gt by rw [hg]; exact Nat.ne_of_lt (K_ga.out.lt)); replace K_ga := Lib.hid (K_ga.out.below hb); have K_gt := Lib.hid (show w_3.heap[gt]? = some (.cells #[.bool ti, .int .u64 tc, .int .u64 tv, .int .u64 tv2, .int .u64 tn, .bool tg] 27 (0, 0)) from H1); clear hg hb H1 hB_2) | ((with_reducible refine gate_dst (N := 4) rfl ?_); refine box_event ?hg (N := 4) ?hd (cs := Ht.zero.cs) (t := 25) ?hr ?_; (case hd => rfl); (case hg => rfl); (case hr => first | (go_simp; done) | (go_simp; rfl)); intro gr hg w_5 H1 hb; have hB_6 := Lib.hid (below_step hB_4.out hb); have G_gr := Lib.hid (show w.heap.size ≤ gr by rw [hg]; exact (hB_4.out).size); have N_ga_gr := Lib.hid (show ga ≠ gr by rw [hg]; exact Nat.ne_of_lt (K_ga.out.lt)); have N_gt_gr := Lib.hid (show gt ≠ gr by rw [hg]; exact Nat.ne_of_lt (blk_lt K_gt.out)); replace K_ga := Lib.hid (K_ga.out.below hb); replace K_gt := Lib.hid (blk_below K_gt.out hb); have K_gr := Lib.hid (show Hb w_5 gr Ht.zero from H1); clear hg hb H1 hB_4; have c_gt_0 := (show World.cell? _ ⟨gt, 0, none⟩ = some (.bool ti) from (blk_cell K_gt.out 0).trans rfl); have f_gt_0 := blk_frozen K_gt.out 0; have c_gt_1 := (show World.cell? _ ⟨gt, 1, none⟩ = some (.int .u64 tc) from (blk_cell K_gt.out 1).trans rfl); have f_gt_1 := blk_frozen K_gt.out 1; clear hu25 hu27))
      refine wp_region_list ?_
      refine load_hart (h := h) rfl (.tmp 2) rfl ga rfl K_ga.out ?_
      go_wp2_with fail
      refine (to_c h tc _ C0.out C1.out).mono ?_
      rintro e_7 w_8 ⟨rfl, hb⟩
      clear c_gt_0 f_gt_0 c_gt_1 f_gt_1
      have hB_9 := Lib.hid (below_step hB_6.out hb)
      replace K_ga := Lib.hid (K_ga.out.below hb)
      replace K_gt := Lib.hid (blk_below K_gt.out hb)
      replace K_gr := Lib.hid (K_gr.out.below hb)
      clear hb hB_6
      have c_gt_1 := (show World.cell? _ ⟨gt, 1, none⟩ = some (.int .u64 tc) from (blk_cell K_gt.out 1).trans rfl); have f_gt_1 := blk_frozen K_gt.out 1
      have c_gt_2 := (show World.cell? _ ⟨gt, 2, none⟩ = some (.int .u64 tv) from (blk_cell K_gt.out 2).trans rfl); have f_gt_2 := blk_frozen K_gt.out 2
      have c_gt_3 := (show World.cell? _ ⟨gt, 3, none⟩ = some (.int .u64 tv2) from (blk_cell K_gt.out 3).trans rfl); have f_gt_3 := blk_frozen K_gt.out 3
      have c_gt_4 := (show World.cell? _ ⟨gt, 4, none⟩ = some (.int .u64 tn) from (blk_cell K_gt.out 4).trans rfl); have f_gt_4 := blk_frozen K_gt.out 4
      have c_gt_5 := (show World.cell? _ ⟨gt, 5, none⟩ = some (.bool tg) from (blk_cell K_gt.out 5).trans rfl); have f_gt_5 := blk_frozen K_gt.out 5
      have c_ga_0 := K_ga.out.u 0 rfl; have f_ga_0 := K_ga.out.fr 0
      have c_ga_33 := K_ga.out.p; have f_ga_33 := K_ga.out.fr 33
      have c_ga_34 := K_ga.out.cv; have f_ga_34 := K_ga.out.fr 34
      have c_ga_35 := K_ga.out.cw; have f_ga_35 := K_ga.out.fr 35
      have c_ga_36 := K_ga.out.ch; have f_ga_36 := K_ga.out.fr 36
      have c_ga_37 := K_ga.out.u 37 rfl; have f_ga_37 := K_ga.out.fr 37
      have c_ga_38 := K_ga.out.u 38 rfl; have f_ga_38 := K_ga.out.fr 38
      have c_ga_43 := K_ga.out.u 43 rfl; have f_ga_43 := K_ga.out.fr 43
      have c_ga_46 := K_ga.out.u 46 rfl; have f_ga_46 := K_ga.out.fr 46
      have c_ga_47 := K_ga.out.u 47 rfl; have f_ga_47 := K_ga.out.fr 47
      have c_ga_48 := K_ga.out.u 48 rfl; have f_ga_48 := K_ga.out.fr 48
      have c_ga_49 := K_ga.out.u 49 rfl; have f_ga_49 := K_ga.out.fr 49
      have c_ga_50 := K_ga.out.u 50 rfl; have f_ga_50 := K_ga.out.fr 50
      go_upto_region 8 with (first | (go_at_call 18; refine (on_c _ _ _ (by decide)).mono ?_; rintro e_ w_ ⟨rfl, ⟨n_, rfl⟩⟩) | (go_at_call 17; refine (set_c _ _ _ _ (by decide)).mono ?_; rintro e_ w_ ⟨rfl, ⟨n_, rfl⟩⟩) | (go_at_call 19; refine (place_c _ _ _).mono ?_; rintro e_ w_ ⟨rfl, ⟨n_, rfl⟩⟩) | (go_at_call 20; refine (taken_c _ _ _).mono ?_; rintro e_ w_ ⟨rfl, ⟨n_, rfl⟩⟩) | (go_at_call 21; refine (split_c _ _).mono ?_; rintro e_ w_ ⟨rfl, ⟨n_, rfl⟩⟩))
      refine start_ (n := 20) (S := fun w' => w'.cell? ⟨ga, 0, none⟩ = some (.int .u64 (h.x 0)) ∧ w'.cell? ⟨gt, 1, none⟩ = some (.int .u64 tc) ∧ w'.cell? ⟨gt, 2, none⟩ = some (.int .u64 tv) ∧ w'.cell? ⟨gt, 3, none⟩ = some (.int .u64 tv2) ∧ w'.cell? ⟨gt, 4, none⟩ = some (.int .u64 tn)) (ds := []) #[false, false, false, false, false, false, false, false, false, false, false, false, false, false, false, false, false, false, false, false] (by kernel_rfl) rfl rfl ⟨(show World.cell? _ ⟨ga, 0, none⟩ = some (.int .u64 (h.x 0)) by first | (go_simp; done) | (go_simp; rfl)), (show World.cell? _ ⟨gt, 1, none⟩ = some (.int .u64 tc) by first | (go_simp; done) | (go_simp; rfl)), (show World.cell? _ ⟨gt, 2, none⟩ = some (.int .u64 tv) by first | (go_simp; done) | (go_simp; rfl)), (show World.cell? _ ⟨gt, 3, none⟩ = some (.int .u64 tv2) by first | (go_simp; done) | (go_simp; rfl)), (show World.cell? _ ⟨gt, 4, none⟩ = some (.int .u64 tn) by first | (go_simp; done) | (go_simp; rfl))⟩ (fun hHeld => ?_)
      have HH0 := Lib.hid hHeld
      clear hHeld
      refine world_any ga (by repeat (with_reducible first | exact K_ga.out | apply Hb.put | apply Hb.putP | apply Hb.putV | apply Hb.putW | apply Hb.putH | apply Hb.far N_ga_gt.out | apply Hb.far N_ga_gr.out | apply Hb.drewN | apply Hb.drew)) (fun w' => Below w.heap.size w w' ∧ w'.heap[gt]? = some (.cells #[.bool ti, .int .u64 tc, .int .u64 tv, .int .u64 tv2, .int .u64 tn, .bool tg] 27 (0, 0)) ∧ Hb w' gr Ht.zero ∧ (w'.cell? ⟨ga, 0, none⟩ = some (.int .u64 (h.x 0)) ∧ w'.cell? ⟨gt, 1, none⟩ = some (.int .u64 tc) ∧ w'.cell? ⟨gt, 2, none⟩ = some (.int .u64 tv) ∧ w'.cell? ⟨gt, 3, none⟩ = some (.int .u64 tv2) ∧ w'.cell? ⟨gt, 4, none⟩ = some (.int .u64 tn))) ⟨(by repeat (first | (with_reducible first | exact hB_9.out | apply pw_below_drewN | apply below_drew1 | refine below_set ?_ G_ga.out | refine below_set ?_ G_gt.out | refine below_set ?_ G_gr.out) | exact hB_9.out)), (by repeat (with_reducible first | exact K_gt.out | apply blk_drewN | apply blk_drew | refine blk_far ?_ (show gt ≠ _ from (Ne.symm N_ga_gt.out)) _ | refine blk_far ?_ (show gt ≠ _ from N_gt_gr.out) _)), (by repeat (with_reducible first | exact K_gr.out | apply Hb.put | apply Hb.putP | apply Hb.putV | apply Hb.putW | apply Hb.putH | apply Hb.far (Ne.symm N_ga_gr.out) | apply Hb.far (Ne.symm N_gt_gr.out) | apply Hb.drewN | apply Hb.drew)), HH0.out⟩ ?_
      clear HH0
      clear c_gt_1 f_gt_1 c_gt_2 f_gt_2 c_gt_3 f_gt_3 c_gt_4 f_gt_4 c_gt_5 f_gt_5 c_ga_0 f_ga_0 c_ga_33 f_ga_33 c_ga_34 f_ga_34 c_ga_35 f_ga_35 c_ga_36 f_ga_36 c_ga_37 f_ga_37 c_ga_38 f_ga_38 c_ga_43 f_ga_43 c_ga_46 f_ga_46 c_ga_47 f_ga_47 c_ga_48 f_ga_48 c_ga_49 f_ga_49 c_ga_50 f_ga_50
      clear K_ga K_gt K_gr hB_9
      rintro w_10 q_ ⟨b_, q_gt, q_gr, hHeld⟩
      have K_ga := Lib.hid q_; have hB_11 := Lib.hid b_; have K_gt := Lib.hid q_gt; have K_gr := Lib.hid q_gr
      clear q_ b_ q_gt q_gr
      refine pure_ (i := 0) (N := some 28) (v := ?_) (a' := ?_) #[true, false, false, false, false, false, false, false, false, false, false, false, false, false, false, false, false, false, false, false] rfl rfl (by kernel_rfl) (fun _ _ _ h => h) (Or.inl ⟨by rfl, ?_⟩) ?_ ?_
      rotate_left
      · intro w'
        go_simp
        with_reducible rfl
      rotate_left
      · simp only [Act.put, List.setIfInBounds_toArray, List.set_cons_zero, List.set_cons_succ, i64_w, i32_w]
        rfl
      refine pure_ (i := 2) (N := some 30) (v := ?_) (a' := ?_) #[true, false, true, false, false, false, false, false, false, false, false, false, false, false, false, false, false, false, false, false] rfl rfl (by kernel_rfl) (fun _ _ _ h => h) (Or.inl ⟨by rfl, ?_⟩) ?_ ?_
      rotate_left
      · intro w'
        go_simp
        with_reducible rfl
      rotate_left
      · simp only [Act.put, List.setIfInBounds_toArray, List.set_cons_zero, List.set_cons_succ, i64_w, i32_w]
        rfl
      refine pure_ (i := 4) (N := some 32) (v := ?_) (a' := ?_) #[true, false, true, false, true, false, false, false, false, false, false, false, false, false, false, false, false, false, false, false] rfl rfl (by kernel_rfl) (fun _ _ _ h => h) (Or.inl ⟨by rfl, ?_⟩) ?_ ?_
      rotate_left
      · intro w'
        go_simp
        with_reducible rfl
      rotate_left
      · simp only [Act.put, List.setIfInBounds_toArray, List.set_cons_zero, List.set_cons_succ, i64_w, i32_w]
        rfl
      refine pure_ (i := 6) (N := some 34) (v := ?_) (a' := ?_) #[true, false, true, false, true, false, true, false, false, false, false, false, false, false, false, false, false, false, false, false] rfl rfl (by kernel_rfl) (fun _ _ _ h => h) (Or.inl ⟨by rfl, ?_⟩) ?_ ?_
      rotate_left
      · intro w'
        go_simp
        with_reducible rfl
      rotate_left
      · simp only [Act.put, List.setIfInBounds_toArray, List.set_cons_zero, List.set_cons_succ, i64_w, i32_w]
        rfl
      refine pure_ (i := 8) (N := some 36) (v := ?_) (a' := ?_) #[true, false, true, false, true, false, true, false, true, false, false, false, false, false, false, false, false, false, false, false] rfl rfl (by kernel_rfl) (fun _ _ _ h => h) (Or.inl ⟨by rfl, ?_⟩) ?_ ?_
      rotate_left
      · intro w'
        go_simp
        with_reducible rfl
      rotate_left
      · simp only [Act.put, List.setIfInBounds_toArray, List.set_cons_zero, List.set_cons_succ, i64_w, i32_w]
        rfl
      refine take_ (i := 1) (N := some 29) (v := ?_) (a' := ?_) #[true, true, true, false, true, false, true, false, true, false, false, false, false, false, false, false, false, false, false, false] rfl rfl (by kernel_rfl) (fun _ _ _ h => h) (Or.inl ⟨by rfl, ?_⟩) hHeld ?_ ?_
      rotate_left
      · rintro w' ⟨s0, s1, s2, s3, s4⟩
        go_simp
        with_reducible rfl
      rotate_left
      · simp only [Act.put, List.setIfInBounds_toArray, List.set_cons_zero, List.set_cons_succ, i64_w, i32_w]
        rfl
      refine pure_ (i := 10) (N := some 38) (v := ?_) (a' := ?_) #[true, true, true, false, true, false, true, false, true, false, true, false, false, false, false, false, false, false, false, false] rfl rfl (by kernel_rfl) (fun _ _ _ h => h) (Or.inl ⟨by rfl, ?_⟩) ?_ ?_
      rotate_left
      · intro w'
        go_simp
        with_reducible rfl
      rotate_left
      · simp only [Act.put, List.setIfInBounds_toArray, List.set_cons_zero, List.set_cons_succ, i64_w, i32_w]
        rfl
      refine take_ (i := 3) (N := some 31) (v := ?_) (a' := ?_) #[true, true, true, true, true, false, true, false, true, false, true, false, false, false, false, false, false, false, false, false] rfl rfl (by kernel_rfl) (fun _ _ _ h => h) (Or.inl ⟨by rfl, ?_⟩) hHeld ?_ ?_
      rotate_left
      · rintro w' ⟨s0, s1, s2, s3, s4⟩
        go_simp
        with_reducible rfl
      rotate_left
      · simp only [Act.put, List.setIfInBounds_toArray, List.set_cons_zero, List.set_cons_succ, i64_w, i32_w]
        rfl
      refine take_ (i := 5) (N := some 33) (v := ?_) (a' := ?_) #[true, true, true, true, true, true, true, false, true, false, true, false, false, false, false, false, false, false, false, false] rfl rfl (by kernel_rfl) (fun _ _ _ h => h) (Or.inl ⟨by rfl, ?_⟩) hHeld ?_ ?_
      rotate_left
      · rintro w' ⟨s0, s1, s2, s3, s4⟩
        go_simp
        with_reducible rfl
      rotate_left
      · simp only [Act.put, List.setIfInBounds_toArray, List.set_cons_zero, List.set_cons_succ, i64_w, i32_w]
        rfl
      refine take_ (i := 7) (N := some 35) (v := ?_) (a' := ?_) #[true, true, true, true, true, true, true, true, true, false, true, false, false, false, false, false, false, false, false, false] rfl rfl (by kernel_rfl) (fun _ _ _ h => h) (Or.inl ⟨by rfl, ?_⟩) hHeld ?_ ?_
      rotate_left
      · rintro w' ⟨s0, s1, s2, s3, s4⟩
        go_simp
        with_reducible rfl
      rotate_left
      · simp only [Act.put, List.setIfInBounds_toArray, List.set_cons_zero, List.set_cons_succ, i64_w, i32_w]
        rfl
      refine take_ (i := 9) (N := some 37) (v := ?_) (a' := ?_) #[true, true, true, true, true, true, true, true, true, true, true, false, false, false, false, false, false, false, false, false] rfl rfl (by kernel_rfl) (fun _ _ _ h => h) (Or.inl ⟨by rfl, ?_⟩) hHeld ?_ ?_
      rotate_left
      · rintro w' ⟨s0, s1, s2, s3, s4⟩
        go_simp
        with_reducible rfl
      rotate_left
      · simp only [Act.put, List.setIfInBounds_toArray, List.set_cons_zero, List.set_cons_succ, i64_w, i32_w]
        rfl
      have HH := Lib.hid hHeld
      clear hHeld
      refine one_ (i := 11) (N := none) #[true, true, true, true, true, true, true, true, true, true, true, true, false, false, false, false, false, false, false, false] rfl rfl (by kernel_rfl) (by decide) (fun K hK => ?_)
      refine skipH (h := _) (v := .int .u64 (h.x 0)) (by rfl) rfl rfl rfl rfl (by kernel_rfl) rfl rfl K_ga.out (by decide) ?_
      have q_ := Lib.hid (Hb.put 46 ((h.x 0)) K_ga.out)
      have hB_13 := Lib.hid (below_set (j := 46) (v := (.int .u64 (h.x 0))) hB_11.out G_ga.out)
      have q_gt := Lib.hid (blk_far K_gt.out (p := ⟨ga, 46, none⟩) (Ne.symm N_ga_gt.out) (.int .u64 (h.x 0)))
      have q_gr := Lib.hid (Hb.far (j := 46) (u := (.int .u64 (h.x 0))) (Ne.symm N_ga_gr.out) K_gr.out)
      have s_0 := (cell_ne (u := (.int .u64 (h.x 0))) HH.out.1 (show 0 ≠ 46 by decide))
      have s_1 := (cell_far' (j := 46) (u := (.int .u64 (h.x 0))) HH.out.2.1 (Ne.symm N_ga_gt.out))
      have s_2 := (cell_far' (j := 46) (u := (.int .u64 (h.x 0))) HH.out.2.2.1 (Ne.symm N_ga_gt.out))
      have s_3 := (cell_far' (j := 46) (u := (.int .u64 (h.x 0))) HH.out.2.2.2.1 (Ne.symm N_ga_gt.out))
      have s_4 := (cell_far' (j := 46) (u := (.int .u64 (h.x 0))) HH.out.2.2.2.2 (Ne.symm N_ga_gt.out))
      clear HH K_ga K_gt K_gr hB_11
      generalize World.setCell w_10 ⟨ga, 46, none⟩ (.int .u64 (h.x 0)) = w_12 at q_ hB_13 q_gt q_gr s_0 s_1 s_2 s_3 s_4 ⊢
      have K_ga := q_; clear q_
      have K_gt := q_gt; clear q_gt
      have K_gr := q_gr; clear q_gr
      refine hK.out _ _ ⟨s_0, s_1, s_2, s_3, s_4⟩ (fun hHeld => ?_)
      have HH := Lib.hid hHeld
      clear hHeld s_0 s_1 s_2 s_3 s_4
      clear hK K
      refine pure_ (i := 12) (N := some 39) (v := ?_) (a' := ?_) #[true, true, true, true, true, true, true, true, true, true, true, true, true, false, false, false, false, false, false, false] rfl rfl (by kernel_rfl) (fun _ _ _ h => h) (Or.inl ⟨by rfl, ?_⟩) ?_ ?_
      rotate_left
      · intro w'
        go_simp
        with_reducible rfl
      rotate_left
      · simp only [Act.put, List.setIfInBounds_toArray, List.set_cons_zero, List.set_cons_succ, i64_w, i32_w]
        rfl
      refine one_ (i := 13) (N := none) #[true, true, true, true, true, true, true, true, true, true, true, true, true, true, false, false, false, false, false, false] rfl rfl (by kernel_rfl) (by decide) (fun K hK => ?_)
      refine skipH (h := _) (v := .int .u64 tc) (by rfl) rfl rfl rfl rfl (by kernel_rfl) rfl rfl K_ga.out (by decide) ?_
      have q_ := Lib.hid (Hb.put 47 (tc) K_ga.out)
      have hB_15 := Lib.hid (below_set (j := 47) (v := (.int .u64 tc)) hB_13.out G_ga.out)
      have q_gt := Lib.hid (blk_far K_gt.out (p := ⟨ga, 47, none⟩) (Ne.symm N_ga_gt.out) (.int .u64 tc))
      have q_gr := Lib.hid (Hb.far (j := 47) (u := (.int .u64 tc)) (Ne.symm N_ga_gr.out) K_gr.out)
      have s_0 := (cell_ne (u := (.int .u64 tc)) HH.out.1 (show 0 ≠ 47 by decide))
      have s_1 := (cell_far' (j := 47) (u := (.int .u64 tc)) HH.out.2.1 (Ne.symm N_ga_gt.out))
      have s_2 := (cell_far' (j := 47) (u := (.int .u64 tc)) HH.out.2.2.1 (Ne.symm N_ga_gt.out))
      have s_3 := (cell_far' (j := 47) (u := (.int .u64 tc)) HH.out.2.2.2.1 (Ne.symm N_ga_gt.out))
      have s_4 := (cell_far' (j := 47) (u := (.int .u64 tc)) HH.out.2.2.2.2 (Ne.symm N_ga_gt.out))
      clear HH K_ga K_gt K_gr hB_13
      generalize World.setCell w_12 ⟨ga, 47, none⟩ (.int .u64 tc) = w_14 at q_ hB_15 q_gt q_gr s_0 s_1 s_2 s_3 s_4 ⊢
      have K_ga := q_; clear q_
      have K_gt := q_gt; clear q_gt
      have K_gr := q_gr; clear q_gr
      refine hK.out _ _ ⟨s_0, s_1, s_2, s_3, s_4⟩ (fun hHeld => ?_)
      have HH := Lib.hid hHeld
      clear hHeld s_0 s_1 s_2 s_3 s_4
      clear hK K
      refine pure_ (i := 14) (N := some 40) (v := ?_) (a' := ?_) #[true, true, true, true, true, true, true, true, true, true, true, true, true, true, true, false, false, false, false, false] rfl rfl (by kernel_rfl) (fun _ _ _ h => h) (Or.inl ⟨by rfl, ?_⟩) ?_ ?_
      rotate_left
      · intro w'
        go_simp
        with_reducible rfl
      rotate_left
      · simp only [Act.put, List.setIfInBounds_toArray, List.set_cons_zero, List.set_cons_succ, i64_w, i32_w]
        rfl
      refine one_ (i := 15) (N := none) #[true, true, true, true, true, true, true, true, true, true, true, true, true, true, true, true, false, false, false, false] rfl rfl (by kernel_rfl) (by decide) (fun K hK => ?_)
      refine skipH (h := _) (v := .int .u64 tv) (by rfl) rfl rfl rfl rfl (by kernel_rfl) rfl rfl K_ga.out (by decide) ?_
      have q_ := Lib.hid (Hb.put 48 (tv) K_ga.out)
      have hB_17 := Lib.hid (below_set (j := 48) (v := (.int .u64 tv)) hB_15.out G_ga.out)
      have q_gt := Lib.hid (blk_far K_gt.out (p := ⟨ga, 48, none⟩) (Ne.symm N_ga_gt.out) (.int .u64 tv))
      have q_gr := Lib.hid (Hb.far (j := 48) (u := (.int .u64 tv)) (Ne.symm N_ga_gr.out) K_gr.out)
      have s_0 := (cell_ne (u := (.int .u64 tv)) HH.out.1 (show 0 ≠ 48 by decide))
      have s_1 := (cell_far' (j := 48) (u := (.int .u64 tv)) HH.out.2.1 (Ne.symm N_ga_gt.out))
      have s_2 := (cell_far' (j := 48) (u := (.int .u64 tv)) HH.out.2.2.1 (Ne.symm N_ga_gt.out))
      have s_3 := (cell_far' (j := 48) (u := (.int .u64 tv)) HH.out.2.2.2.1 (Ne.symm N_ga_gt.out))
      have s_4 := (cell_far' (j := 48) (u := (.int .u64 tv)) HH.out.2.2.2.2 (Ne.symm N_ga_gt.out))
      clear HH K_ga K_gt K_gr hB_15
      generalize World.setCell w_14 ⟨ga, 48, none⟩ (.int .u64 tv) = w_16 at q_ hB_17 q_gt q_gr s_0 s_1 s_2 s_3 s_4 ⊢
      have K_ga := q_; clear q_
      have K_gt := q_gt; clear q_gt
      have K_gr := q_gr; clear q_gr
      refine hK.out _ _ ⟨s_0, s_1, s_2, s_3, s_4⟩ (fun hHeld => ?_)
      have HH := Lib.hid hHeld
      clear hHeld s_0 s_1 s_2 s_3 s_4
      clear hK K
      refine pure_ (i := 16) (N := some 41) (v := ?_) (a' := ?_) #[true, true, true, true, true, true, true, true, true, true, true, true, true, true, true, true, true, false, false, false] rfl rfl (by kernel_rfl) (fun _ _ _ h => h) (Or.inl ⟨by rfl, ?_⟩) ?_ ?_
      rotate_left
      · intro w'
        go_simp
        with_reducible rfl
      rotate_left
      · simp only [Act.put, List.setIfInBounds_toArray, List.set_cons_zero, List.set_cons_succ, i64_w, i32_w]
        rfl
      refine one_ (i := 17) (N := none) #[true, true, true, true, true, true, true, true, true, true, true, true, true, true, true, true, true, true, false, false] rfl rfl (by kernel_rfl) (by decide) (fun K hK => ?_)
      refine skipH (h := _) (v := .int .u64 tv2) (by rfl) rfl rfl rfl rfl (by kernel_rfl) rfl rfl K_ga.out (by decide) ?_
      have q_ := Lib.hid (Hb.put 49 (tv2) K_ga.out)
      have hB_19 := Lib.hid (below_set (j := 49) (v := (.int .u64 tv2)) hB_17.out G_ga.out)
      have q_gt := Lib.hid (blk_far K_gt.out (p := ⟨ga, 49, none⟩) (Ne.symm N_ga_gt.out) (.int .u64 tv2))
      have q_gr := Lib.hid (Hb.far (j := 49) (u := (.int .u64 tv2)) (Ne.symm N_ga_gr.out) K_gr.out)
      have s_0 := (cell_ne (u := (.int .u64 tv2)) HH.out.1 (show 0 ≠ 49 by decide))
      have s_1 := (cell_far' (j := 49) (u := (.int .u64 tv2)) HH.out.2.1 (Ne.symm N_ga_gt.out))
      have s_2 := (cell_far' (j := 49) (u := (.int .u64 tv2)) HH.out.2.2.1 (Ne.symm N_ga_gt.out))
      have s_3 := (cell_far' (j := 49) (u := (.int .u64 tv2)) HH.out.2.2.2.1 (Ne.symm N_ga_gt.out))
      have s_4 := (cell_far' (j := 49) (u := (.int .u64 tv2)) HH.out.2.2.2.2 (Ne.symm N_ga_gt.out))
      clear HH K_ga K_gt K_gr hB_17
      generalize World.setCell w_16 ⟨ga, 49, none⟩ (.int .u64 tv2) = w_18 at q_ hB_19 q_gt q_gr s_0 s_1 s_2 s_3 s_4 ⊢
      have K_ga := q_; clear q_
      have K_gt := q_gt; clear q_gt
      have K_gr := q_gr; clear q_gr
      refine hK.out _ _ ⟨s_0, s_1, s_2, s_3, s_4⟩ (fun hHeld => ?_)
      have HH := Lib.hid hHeld
      clear hHeld s_0 s_1 s_2 s_3 s_4
      clear hK K
      refine pure_ (i := 18) (N := some 42) (v := ?_) (a' := ?_) #[true, true, true, true, true, true, true, true, true, true, true, true, true, true, true, true, true, true, true, false] rfl rfl (by kernel_rfl) (fun _ _ _ h => h) (Or.inl ⟨by rfl, ?_⟩) ?_ ?_
      rotate_left
      · intro w'
        go_simp
        with_reducible rfl
      rotate_left
      · simp only [Act.put, List.setIfInBounds_toArray, List.set_cons_zero, List.set_cons_succ, i64_w, i32_w]
        rfl
      refine one_ (i := 19) (N := none) #[true, true, true, true, true, true, true, true, true, true, true, true, true, true, true, true, true, true, true, true] rfl rfl (by kernel_rfl) (by decide) (fun K hK => ?_)
      refine skipH (h := _) (v := .int .u64 tn) (by rfl) rfl rfl rfl rfl (by kernel_rfl) rfl rfl K_ga.out (by decide) ?_
      have q_ := Lib.hid (Hb.put 50 (tn) K_ga.out)
      have hB_21 := Lib.hid (below_set (j := 50) (v := (.int .u64 tn)) hB_19.out G_ga.out)
      have q_gt := Lib.hid (blk_far K_gt.out (p := ⟨ga, 50, none⟩) (Ne.symm N_ga_gt.out) (.int .u64 tn))
      have q_gr := Lib.hid (Hb.far (j := 50) (u := (.int .u64 tn)) (Ne.symm N_ga_gr.out) K_gr.out)
      have s_0 := (cell_ne (u := (.int .u64 tn)) HH.out.1 (show 0 ≠ 50 by decide))
      have s_1 := (cell_far' (j := 50) (u := (.int .u64 tn)) HH.out.2.1 (Ne.symm N_ga_gt.out))
      have s_2 := (cell_far' (j := 50) (u := (.int .u64 tn)) HH.out.2.2.1 (Ne.symm N_ga_gt.out))
      have s_3 := (cell_far' (j := 50) (u := (.int .u64 tn)) HH.out.2.2.2.1 (Ne.symm N_ga_gt.out))
      have s_4 := (cell_far' (j := 50) (u := (.int .u64 tn)) HH.out.2.2.2.2 (Ne.symm N_ga_gt.out))
      clear HH K_ga K_gt K_gr hB_19
      generalize World.setCell w_18 ⟨ga, 50, none⟩ (.int .u64 tn) = w_20 at q_ hB_21 q_gt q_gr s_0 s_1 s_2 s_3 s_4 ⊢
      have K_ga := q_; clear q_
      have K_gt := q_gt; clear q_gt
      have K_gr := q_gr; clear q_gr
      refine hK.out _ _ ⟨s_0, s_1, s_2, s_3, s_4⟩ (fun hHeld => ?_)
      have HH := Lib.hid hHeld
      clear hHeld s_0 s_1 s_2 s_3 s_4
      clear hK K
      refine done_ (by kernel_rfl) ?_
      try clear HH
      have c_gt_1 := (show World.cell? _ ⟨gt, 1, none⟩ = some (.int .u64 tc) from (blk_cell K_gt.out 1).trans rfl); have f_gt_1 := blk_frozen K_gt.out 1
      have c_gt_5 := (show World.cell? _ ⟨gt, 5, none⟩ = some (.bool tg) from (blk_cell K_gt.out 5).trans rfl); have f_gt_5 := blk_frozen K_gt.out 5
      have c_ga_33 := (show World.cell? _ ⟨ga, 33, none⟩ = some (.int .u8 (h.x 33)) from (K_ga.out.p).trans rfl); have f_ga_33 := K_ga.out.fr 33
      have c_ga_34 := (show World.cell? _ ⟨ga, 34, none⟩ = some (.bool h.v) from (K_ga.out.cv).trans rfl); have f_ga_34 := K_ga.out.fr 34
      have c_ga_0 := (show World.cell? _ ⟨ga, 0, none⟩ = some (.int .u64 (h.x 0)) from (K_ga.out.u 0 rfl).trans rfl); have f_ga_0 := K_ga.out.fr 0
      have c_ga_38 := (show World.cell? _ ⟨ga, 38, none⟩ = some (.int .u64 (h.x 38)) from (K_ga.out.u 38 rfl).trans rfl); have f_ga_38 := K_ga.out.fr 38
      have c_ga_43 := (show World.cell? _ ⟨ga, 43, none⟩ = some (.int .u64 (h.x 43)) from (K_ga.out.u 43 rfl).trans rfl); have f_ga_43 := K_ga.out.fr 43
      go_upto_region 9 with (first | (go_at_call 18; refine (on_c _ _ _ (by decide)).mono ?_; rintro e_ w_ ⟨rfl, ⟨n_, rfl⟩⟩) | (go_at_call 17; refine (set_c _ _ _ _ (by decide)).mono ?_; rintro e_ w_ ⟨rfl, ⟨n_, rfl⟩⟩) | (go_at_call 19; refine (place_c _ _ _).mono ?_; rintro e_ w_ ⟨rfl, ⟨n_, rfl⟩⟩) | (go_at_call 20; refine (taken_c _ _ _).mono ?_; rintro e_ w_ ⟨rfl, ⟨n_, rfl⟩⟩) | (go_at_call 21; refine (split_c _ _).mono ?_; rintro e_ w_ ⟨rfl, ⟨n_, rfl⟩⟩))
      go_quiet (first | (go_at_call 18; refine (on_c _ _ _ (by decide)).mono ?_; rintro e_ w_ ⟨rfl, ⟨n_, rfl⟩⟩; (try first | exact ⟨rfl, _, World.drewN_drewN _ _ _⟩ | exact ⟨rfl, _, Eq.trans (World.drewN_drewN _ _ _) (congrArg (World.drewN _) (Nat.add_assoc _ _ _))⟩)) | (go_at_call 17; refine (set_c _ _ _ _ (by decide)).mono ?_; rintro e_ w_ ⟨rfl, ⟨n_, rfl⟩⟩; (try first | exact ⟨rfl, _, World.drewN_drewN _ _ _⟩ | exact ⟨rfl, _, Eq.trans (World.drewN_drewN _ _ _) (congrArg (World.drewN _) (Nat.add_assoc _ _ _))⟩)) | (go_at_call 19; refine (place_c _ _ _).mono ?_; rintro e_ w_ ⟨rfl, ⟨n_, rfl⟩⟩; (try first | exact ⟨rfl, _, World.drewN_drewN _ _ _⟩ | exact ⟨rfl, _, Eq.trans (World.drewN_drewN _ _ _) (congrArg (World.drewN _) (Nat.add_assoc _ _ _))⟩)) | (go_at_call 20; refine (taken_c _ _ _).mono ?_; rintro e_ w_ ⟨rfl, ⟨n_, rfl⟩⟩; (try first | exact ⟨rfl, _, World.drewN_drewN _ _ _⟩ | exact ⟨rfl, _, Eq.trans (World.drewN_drewN _ _ _) (congrArg (World.drewN _) (Nat.add_assoc _ _ _))⟩)) | (go_at_call 21; refine (split_c _ _).mono ?_; rintro e_ w_ ⟨rfl, ⟨n_, rfl⟩⟩; (try first | exact ⟨rfl, _, World.drewN_drewN _ _ _⟩ | exact ⟨rfl, _, Eq.trans (World.drewN_drewN _ _ _) (congrArg (World.drewN _) (Nat.add_assoc _ _ _))⟩)))
      go_upto_region 11 with (first | (go_at_call 18; refine (on_c _ _ _ (by decide)).mono ?_; rintro e_ w_ ⟨rfl, ⟨n_, rfl⟩⟩) | (go_at_call 17; refine (set_c _ _ _ _ (by decide)).mono ?_; rintro e_ w_ ⟨rfl, ⟨n_, rfl⟩⟩) | (go_at_call 19; refine (place_c _ _ _).mono ?_; rintro e_ w_ ⟨rfl, ⟨n_, rfl⟩⟩) | (go_at_call 20; refine (taken_c _ _ _).mono ?_; rintro e_ w_ ⟨rfl, ⟨n_, rfl⟩⟩) | (go_at_call 21; refine (split_c _ _).mono ?_; rintro e_ w_ ⟨rfl, ⟨n_, rfl⟩⟩))
      refine start_ (n := 9) (S := fun w' => w'.cell? ⟨ga, 34, none⟩ = some (.bool h.v) ∧ w'.cell? ⟨gt, 5, none⟩ = some (.bool tg)) (ds := []) #[false, false, false, false, false, false, false, false, false] (by kernel_rfl) rfl rfl ⟨(show World.cell? _ ⟨ga, 34, none⟩ = some (.bool h.v) by first | (go_simp; done) | (go_simp; rfl)), (show World.cell? _ ⟨gt, 5, none⟩ = some (.bool tg) by first | (go_simp; done) | (go_simp; rfl))⟩ (fun hHeld => ?_)
      have HH0 := Lib.hid hHeld
      clear hHeld
      refine world_any ga (by repeat (with_reducible first | exact K_ga.out | apply Hb.put | apply Hb.putP | apply Hb.putV | apply Hb.putW | apply Hb.putH | apply Hb.far N_ga_gt.out | apply Hb.far N_ga_gr.out | apply Hb.drewN | apply Hb.drew)) (fun w' => Below w.heap.size w w' ∧ w'.heap[gt]? = some (.cells #[.bool ti, .int .u64 tc, .int .u64 tv, .int .u64 tv2, .int .u64 tn, .bool tg] 27 (0, 0)) ∧ Hb w' gr Ht.zero ∧ (w'.cell? ⟨ga, 34, none⟩ = some (.bool h.v) ∧ w'.cell? ⟨gt, 5, none⟩ = some (.bool tg))) ⟨(by repeat (first | (with_reducible first | exact hB_21.out | apply pw_below_drewN | apply below_drew1 | refine below_set ?_ G_ga.out | refine below_set ?_ G_gt.out | refine below_set ?_ G_gr.out) | exact hB_21.out)), (by repeat (with_reducible first | exact K_gt.out | apply blk_drewN | apply blk_drew | refine blk_far ?_ (show gt ≠ _ from (Ne.symm N_ga_gt.out)) _ | refine blk_far ?_ (show gt ≠ _ from N_gt_gr.out) _)), (by repeat (with_reducible first | exact K_gr.out | apply Hb.put | apply Hb.putP | apply Hb.putV | apply Hb.putW | apply Hb.putH | apply Hb.far (Ne.symm N_ga_gr.out) | apply Hb.far (Ne.symm N_gt_gr.out) | apply Hb.drewN | apply Hb.drew)), HH0.out⟩ ?_
      clear HH0
      clear c_gt_1 f_gt_1 c_gt_5 f_gt_5 c_ga_33 f_ga_33 c_ga_34 f_ga_34 c_ga_0 f_ga_0 c_ga_38 f_ga_38 c_ga_43 f_ga_43
      clear K_ga K_gt K_gr hB_21
      rintro w_22 q_ ⟨b_, q_gt, q_gr, hHeld⟩
      have K_ga := Lib.hid q_; have hB_23 := Lib.hid b_; have K_gt := Lib.hid q_gt; have K_gr := Lib.hid q_gr
      clear q_ b_ q_gt q_gr
      refine pure_ (i := 0) (N := some 58) (v := ?_) (a' := ?_) #[true, false, false, false, false, false, false, false, false] rfl rfl (by kernel_rfl) (fun _ _ _ h => h) (Or.inl ⟨by rfl, ?_⟩) ?_ ?_
      rotate_left
      · intro w'
        go_simp
        with_reducible rfl
      rotate_left
      · simp only [Act.put, List.setIfInBounds_toArray, List.set_cons_zero, List.set_cons_succ, i64_w, i32_w]
        rfl
      refine pure_ (i := 1) (N := some 59) (v := ?_) (a' := ?_) #[true, true, false, false, false, false, false, false, false] rfl rfl (by kernel_rfl) (fun _ _ _ h => h) (Or.inl ⟨by rfl, ?_⟩) ?_ ?_
      rotate_left
      · intro w'
        go_simp
        with_reducible rfl
      rotate_left
      · simp only [Act.put, List.setIfInBounds_toArray, List.set_cons_zero, List.set_cons_succ, i64_w, i32_w]
        rfl
      refine pure_ (i := 4) (N := some 62) (v := ?_) (a' := ?_) #[true, true, false, false, true, false, false, false, false] rfl rfl (by kernel_rfl) (fun _ _ _ h => h) (Or.inl ⟨by rfl, ?_⟩) ?_ ?_
      rotate_left
      · intro w'
        go_simp
        with_reducible rfl
      rotate_left
      · simp only [Act.put, List.setIfInBounds_toArray, List.set_cons_zero, List.set_cons_succ, i64_w, i32_w]
        rfl
      refine take_ (i := 2) (N := some 60) (v := ?_) (a' := ?_) #[true, true, true, false, true, false, false, false, false] rfl rfl (by kernel_rfl) (fun _ _ _ h => h) (Or.inl ⟨by rfl, ?_⟩) hHeld ?_ ?_
      rotate_left
      · rintro w' ⟨s0, s1⟩
        go_simp
        with_reducible rfl
      rotate_left
      · simp only [Act.put, List.setIfInBounds_toArray, List.set_cons_zero, List.set_cons_succ, i64_w, i32_w]
        rfl
      refine take_ (i := 5) (N := some 63) (v := ?_) (a' := ?_) #[true, true, true, false, true, true, false, false, false] rfl rfl (by kernel_rfl) (fun _ _ _ h => h) (Or.inl ⟨by rfl, ?_⟩) hHeld ?_ ?_
      rotate_left
      · rintro w' ⟨s0, s1⟩
        go_simp
        with_reducible rfl
      rotate_left
      · simp only [Act.put, List.setIfInBounds_toArray, List.set_cons_zero, List.set_cons_succ, i64_w, i32_w]
        rfl
      have HH := Lib.hid hHeld
      clear hHeld
      refine one_ (i := 3) (N := some 61) #[true, true, true, true, true, true, false, false, false] rfl rfl (by kernel_rfl) (by decide) (fun K hK => ?_)
      refine goes_ Tryd.func17 (by kernel_rfl) rfl #[.int .u64 (Go.bits .or .u64 (Go.bits .andNot .u64 (setV (setV (h.x 38) 7 (onV (h.x 38) 3)) 3 false) 6144) (IntKind.u64.wrap (IntKind.u64.wrap (Go.bits .and .u8 (h.x 33) 3) * 2048))), .int .i64 39, .bool h.v] (by rfl) rfl rfl (by simp only [List.map_toArray, List.map_cons, List.map_nil]; rfl) ?_
      with_reducible refine (set_c _ 39 _ _ (by decide)).mono ?_
      rintro e_ w_ ⟨rfl, ⟨n_, rfl⟩⟩
      refine ⟨_, rfl, ?_⟩
      have q_ := Lib.hid (Hb.drewN n_ K_ga.out)
      have hB_25 := Lib.hid (pw_below_drewN hB_23.out n_)
      have q_gt := Lib.hid (blk_drewN K_gt.out n_)
      have q_gr := Lib.hid (Hb.drewN n_ K_gr.out)
      have s_0 := (cell_drewN n_ HH.out.1)
      have s_1 := (cell_drewN n_ HH.out.2)
      clear HH K_ga K_gt K_gr hB_23
      generalize World.drewN w_22 n_ = w_24 at q_ hB_25 q_gt q_gr s_0 s_1 ⊢
      have K_ga := q_; clear q_
      have K_gt := q_gt; clear q_gt
      have K_gr := q_gr; clear q_gr
      refine hK.out _ _ ⟨s_0, s_1⟩ (fun hHeld => ?_)
      have HH := Lib.hid hHeld
      clear hHeld s_0 s_1
      clear hK K
      refine norm_ (a' := ?_) ?_ ?_
      rotate_left
      · show Act.put _ (some 61) _ = _
        simp only [Act.put, List.setIfInBounds_toArray, List.set_cons_zero, List.set_cons_succ, i64_w, i32_w]
        rfl
      refine one_ (i := 6) (N := some 64) #[true, true, true, true, true, true, true, false, false] rfl rfl (by kernel_rfl) (by decide) (fun K hK => ?_)
      refine goes_ Tryd.func17 (by kernel_rfl) rfl #[.int .u64 (setV (Go.bits .or .u64 (Go.bits .andNot .u64 (setV (setV (h.x 38) 7 (onV (h.x 38) 3)) 3 false) 6144) (IntKind.u64.wrap (IntKind.u64.wrap (Go.bits .and .u8 (h.x 33) 3) * 2048))) 39 h.v), .int .i64 38, .bool tg] (by rfl) rfl rfl (by simp only [List.map_toArray, List.map_cons, List.map_nil]; rfl) ?_
      with_reducible refine (set_c _ 38 _ _ (by decide)).mono ?_
      rintro e_ w_ ⟨rfl, ⟨n_, rfl⟩⟩
      refine ⟨_, rfl, ?_⟩
      have q_ := Lib.hid (Hb.drewN n_ K_ga.out)
      have hB_27 := Lib.hid (pw_below_drewN hB_25.out n_)
      have q_gt := Lib.hid (blk_drewN K_gt.out n_)
      have q_gr := Lib.hid (Hb.drewN n_ K_gr.out)
      have s_0 := (cell_drewN n_ HH.out.1)
      have s_1 := (cell_drewN n_ HH.out.2)
      clear HH K_ga K_gt K_gr hB_25
      generalize World.drewN w_24 n_ = w_26 at q_ hB_27 q_gt q_gr s_0 s_1 ⊢
      have K_ga := q_; clear q_
      have K_gt := q_gt; clear q_gt
      have K_gr := q_gr; clear q_gr
      refine hK.out _ _ ⟨s_0, s_1⟩ (fun hHeld => ?_)
      have HH := Lib.hid hHeld
      clear hHeld s_0 s_1
      clear hK K
      refine norm_ (a' := ?_) ?_ ?_
      rotate_left
      · show Act.put _ (some 64) _ = _
        simp only [Act.put, List.setIfInBounds_toArray, List.set_cons_zero, List.set_cons_succ, i64_w, i32_w]
        rfl
      refine pure_ (i := 7) (N := some 65) (v := ?_) (a' := ?_) #[true, true, true, true, true, true, true, true, false] rfl rfl (by kernel_rfl) (fun _ _ _ h => h) (Or.inl ⟨by rfl, ?_⟩) ?_ ?_
      rotate_left
      · intro w'
        go_simp
        with_reducible rfl
      rotate_left
      · simp only [Act.put, List.setIfInBounds_toArray, List.set_cons_zero, List.set_cons_succ, i64_w, i32_w]
        rfl
      refine one_ (i := 8) (N := none) #[true, true, true, true, true, true, true, true, true] rfl rfl (by kernel_rfl) (by decide) (fun K hK => ?_)
      refine skipH (h := _) (v := .int .u64 (setV (setV (Go.bits .or .u64 (Go.bits .andNot .u64 (setV (setV (h.x 38) 7 (onV (h.x 38) 3)) 3 false) 6144) (IntKind.u64.wrap (IntKind.u64.wrap (Go.bits .and .u8 (h.x 33) 3) * 2048))) 39 h.v) 38 tg)) (by rfl) rfl rfl rfl rfl (by kernel_rfl) rfl rfl K_ga.out (by decide) ?_
      have q_ := Lib.hid (Hb.put 38 ((setV (setV (Go.bits .or .u64 (Go.bits .andNot .u64 (setV (setV (h.x 38) 7 (onV (h.x 38) 3)) 3 false) 6144) (IntKind.u64.wrap (IntKind.u64.wrap (Go.bits .and .u8 (h.x 33) 3) * 2048))) 39 h.v) 38 tg)) K_ga.out)
      have hB_29 := Lib.hid (below_set (j := 38) (v := (.int .u64 (setV (setV (Go.bits .or .u64 (Go.bits .andNot .u64 (setV (setV (h.x 38) 7 (onV (h.x 38) 3)) 3 false) 6144) (IntKind.u64.wrap (IntKind.u64.wrap (Go.bits .and .u8 (h.x 33) 3) * 2048))) 39 h.v) 38 tg))) hB_27.out G_ga.out)
      have q_gt := Lib.hid (blk_far K_gt.out (p := ⟨ga, 38, none⟩) (Ne.symm N_ga_gt.out) (.int .u64 (setV (setV (Go.bits .or .u64 (Go.bits .andNot .u64 (setV (setV (h.x 38) 7 (onV (h.x 38) 3)) 3 false) 6144) (IntKind.u64.wrap (IntKind.u64.wrap (Go.bits .and .u8 (h.x 33) 3) * 2048))) 39 h.v) 38 tg)))
      have q_gr := Lib.hid (Hb.far (j := 38) (u := (.int .u64 (setV (setV (Go.bits .or .u64 (Go.bits .andNot .u64 (setV (setV (h.x 38) 7 (onV (h.x 38) 3)) 3 false) 6144) (IntKind.u64.wrap (IntKind.u64.wrap (Go.bits .and .u8 (h.x 33) 3) * 2048))) 39 h.v) 38 tg))) (Ne.symm N_ga_gr.out) K_gr.out)
      have s_0 := (cell_ne (u := (.int .u64 (setV (setV (Go.bits .or .u64 (Go.bits .andNot .u64 (setV (setV (h.x 38) 7 (onV (h.x 38) 3)) 3 false) 6144) (IntKind.u64.wrap (IntKind.u64.wrap (Go.bits .and .u8 (h.x 33) 3) * 2048))) 39 h.v) 38 tg))) HH.out.1 (show 34 ≠ 38 by decide))
      have s_1 := (cell_far' (j := 38) (u := (.int .u64 (setV (setV (Go.bits .or .u64 (Go.bits .andNot .u64 (setV (setV (h.x 38) 7 (onV (h.x 38) 3)) 3 false) 6144) (IntKind.u64.wrap (IntKind.u64.wrap (Go.bits .and .u8 (h.x 33) 3) * 2048))) 39 h.v) 38 tg))) HH.out.2 (Ne.symm N_ga_gt.out))
      clear HH K_ga K_gt K_gr hB_27
      generalize World.setCell w_26 ⟨ga, 38, none⟩ (.int .u64 (setV (setV (Go.bits .or .u64 (Go.bits .andNot .u64 (setV (setV (h.x 38) 7 (onV (h.x 38) 3)) 3 false) 6144) (IntKind.u64.wrap (IntKind.u64.wrap (Go.bits .and .u8 (h.x 33) 3) * 2048))) 39 h.v) 38 tg)) = w_28 at q_ hB_29 q_gt q_gr s_0 s_1 ⊢
      have K_ga := q_; clear q_
      have K_gt := q_gt; clear q_gt
      have K_gr := q_gr; clear q_gr
      refine hK.out _ _ ⟨s_0, s_1⟩ (fun hHeld => ?_)
      have HH := Lib.hid hHeld
      clear hHeld s_0 s_1
      clear hK K
      refine done_ (by kernel_rfl) ?_
      try clear HH
      have c_gt_1 := (show World.cell? _ ⟨gt, 1, none⟩ = some (.int .u64 tc) from (blk_cell K_gt.out 1).trans rfl); have f_gt_1 := blk_frozen K_gt.out 1
      have c_ga_33 := (show World.cell? _ ⟨ga, 33, none⟩ = some (.int .u8 (h.x 33)) from (K_ga.out.p).trans rfl); have f_ga_33 := K_ga.out.fr 33
      have c_ga_34 := (show World.cell? _ ⟨ga, 34, none⟩ = some (.bool h.v) from (K_ga.out.cv).trans rfl); have f_ga_34 := K_ga.out.fr 34
      have c_ga_0 := (show World.cell? _ ⟨ga, 0, none⟩ = some (.int .u64 (h.x 0)) from (K_ga.out.u 0 rfl).trans rfl); have f_ga_0 := K_ga.out.fr 0
      have c_ga_43 := (show World.cell? _ ⟨ga, 43, none⟩ = some (.int .u64 (h.x 43)) from (K_ga.out.u 43 rfl).trans rfl); have f_ga_43 := K_ga.out.fr 43
      go_upto_region 28 with (first | (go_at_call 18; refine (on_c _ _ _ (by decide)).mono ?_; rintro e_ w_ ⟨rfl, ⟨n_, rfl⟩⟩) | (go_at_call 17; refine (set_c _ _ _ _ (by decide)).mono ?_; rintro e_ w_ ⟨rfl, ⟨n_, rfl⟩⟩) | (go_at_call 19; refine (place_c _ _ _).mono ?_; rintro e_ w_ ⟨rfl, ⟨n_, rfl⟩⟩) | (go_at_call 20; refine (taken_c _ _ _).mono ?_; rintro e_ w_ ⟨rfl, ⟨n_, rfl⟩⟩) | (go_at_call 21; refine (split_c _ _).mono ?_; rintro e_ w_ ⟨rfl, ⟨n_, rfl⟩⟩))
      refine wp_region_list ?_
      refine load_hart (h := _) rfl (.tmp 2) rfl ga rfl (by repeat (with_reducible first | exact K_ga.out | apply Hb.put | apply Hb.putP | apply Hb.putV | apply Hb.putW | apply Hb.putH | apply Hb.far N_ga_gt.out | apply Hb.far N_ga_gr.out | apply Hb.drewN | apply Hb.drew)) ?_
      refine store_hart rfl (.tmp 4) (.tmp 163) rfl gr _ rfl rfl Ht.zero (by repeat (with_reducible first | exact K_gr.out | apply Hb.put | apply Hb.putP | apply Hb.putV | apply Hb.putW | apply Hb.putH | apply Hb.far (Ne.symm N_ga_gr.out) | apply Hb.far (Ne.symm N_gt_gr.out) | apply Hb.drewN | apply Hb.drew)) ?_
      go_wp2
      refine bodyPost_ret (results_cell_row rfl _ _ gr 25 _ (0, 0) _ rfl (Hb.putAll _ (by repeat (with_reducible first | exact K_gr.out | apply Hb.put | apply Hb.putP | apply Hb.putV | apply Hb.putW | apply Hb.putH | apply Hb.far (Ne.symm N_ga_gr.out) | apply Hb.far (Ne.symm N_gt_gr.out) | apply Hb.drewN | apply Hb.drew))) Tryd.underlying25 rfl (by rw [Ht.size]; exact hartSize)) rfl ?_
      exact ⟨by (first | rfl | (simp only [enter, enterM, enterH, enterG, guestCause, t0, if_true, if_false, Bool.false_eq_true, cond_true, cond_false]; done) | (simp only [enter, enterM, enterH, enterG, guestCause, t0, if_true, if_false, Bool.false_eq_true, cond_true, cond_false]; rfl)), setCells_below G_gr.out _ _ _ (by repeat (first | (with_reducible first | exact hB_29.out | apply pw_below_drewN | apply below_drew1 | refine below_set ?_ G_ga.out | refine below_set ?_ G_gt.out | refine below_set ?_ G_gr.out) | exact hB_29.out))⟩
end Go.Proofs.YtfehchhmghpfpaaDoor.Hx
