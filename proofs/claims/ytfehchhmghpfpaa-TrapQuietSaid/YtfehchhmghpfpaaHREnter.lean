/- The hart that took a trap: the document's. (Walked; by a program of this session.) -/
import Derived.Test.YtfehchhmghpfpaaHBase
import Derived.Test.YtfehchhmghpfpaaHTo
set_option linter.unusedSimpArgs false
set_option linter.unusedVariables false
namespace Go.Proofs.Ytfehchhmghpfpaa.Hx
open Go.RowKit Go.Proofs.Ytfehchhmghpfpaa.Q Go.Proofs.YtfehchhmghpfpaaW.PrintWords Go.Proofs.YtfehchhmghpfpaaW.PrintLast Go.Proofs.YtfehchhmghpfpaaW.PrintMore Go.Proofs.Ytfehchhmghpfpaa.Rg

def renterM (h h0 : Ht) (tc tv tv2 tn : Int) (tg : Bool) : Ht :=
  let h1 := ((((h0.set 46 (h.x 0)).set 47 tc).set 48 tv).set 49 tv2).set 50 tn
  let s := withV (withV (withV (withV (h.x 38) 7 (onV (h.x 38) 3)) 3 false) 11 (Go.bits .and .u8 (h.x 33) 1 == 1)) 12 (Go.bits .and .u8 (h.x 33) 2 == 2)
  let h2 := (h1.set 38 (withV (withV s 39 h.v) 38 tg)).set 33 3
  ({ h2 with v := false } : Ht).set 0 (rplaceV (h.x 43) tc)
def renterH (h h0 : Ht) (tc tv tv2 tn : Int) (tg : Bool) : Ht :=
  let h1 := (((((h0.set 33 1).set 54 (h.x 0)).set 55 tc).set 56 tv).set 64 tv2).set 65 tn
  let h2 := h1.set 38 (withV (withV (withV (h.x 38) 5 (onV (h.x 38) 1)) 1 false) 8 (h.x 33 == 1))
  let x := withV (h.x 58) 7 h.v
  let h4 := h2.set 58 (withV (if h.v = true then withV x 8 (h.x 33 == 1) else x) 6 tg)
  ({ h4 with v := false } : Ht).set 0 (rplaceV (h.x 51) tc)
def rguestCause (tc : Int) : Int := if (tc == 9223372036854775810) = true then IntKind.u64.wrap (tc - 1) else if (tc == 9223372036854775814) = true then IntKind.u64.wrap (tc - 1) else if (tc == 9223372036854775818) = true then IntKind.u64.wrap (tc - 1) else tc
def renterG (h h0 : Ht) (tc tv : Int) : Ht :=
  let h1 := (((h0.set 33 1).set 71 (h.x 0)).set 72 (rguestCause tc)).set 73 tv
  (h1.set 68 (withV (withV (withV (h.x 68) 5 (onV (h.x 68) 1)) 1 false) 8 (h.x 33 == 1))).set 0 (rplaceV (h.x 69) (rguestCause tc))
/-- The document's. -/
def renter (h : Ht) (ti : Bool) (tc tv tv2 tn : Int) (tg : Bool) : Ht :=
  if ti = true then
    let h0 := ({ ({ h with wt := false } : Ht) with hl := false } : Ht).set 37 0
    if (rtoV h tc == 0) = true then renterM h h0 tc tv tv2 tn tg
    else if (rtoV h tc == 1) = true then renterH h h0 tc tv tv2 tn tg
    else renterG h h0 tc tv
  else h

set_option maxHeartbeats 16000000 in
set_option maxRecDepth 100000 in
theorem renter_c (h : Ht) (ti : Bool) (tc tv tv2 tn : Int) (tg : Bool) (c0 : 0 ≤ tc) (c1 : tc < 18446744073709551616) (w : World) : Calls Try.prog 9 #[.agg h.cs, .agg #[.bool ti, .int .u64 tc, .int .u64 tv, .int .u64 tv2, .int .u64 tn, .bool tg]] w fun e w' => e = .returned (.agg (renter h ti tc tv tv2 tn tg).cs) ∧ Below w.heap.size w w' := by
  cases hi : ti
  · skip
    have C0 := Lib.hid c0; have C1 := Lib.hid c1
    clear c0 c1
    have hu25 := Try.underlying25
    go_enter Try.func9, Try.ntmps9
    have hu27 := Try.underlying27
    go_upto_region 2 with (first | ((with_reducible refine gate_dst (N := 2) rfl ?_); refine box_event ?hg (N := 2) ?hd (cs := h.cs) (t := 25) ?hr ?_; (case hd => rfl); (case hg => rfl); (case hr => first | (go_simp; done) | (go_simp; rfl)); intro ga hg w_1 H1 hb; have hB_2 := Lib.hid (below_step (Below.refl w.heap.size w) hb); have G_ga := Lib.hid (show w.heap.size ≤ ga by rw [hg]; exact ((Below.refl w.heap.size w)).size); have K_ga := Lib.hid (show Hb w_1 ga h from H1); clear hg hb H1) | ((with_reducible refine gate_dst (N := 3) rfl ?_); refine box_event ?hg (N := 3) ?hd (cs := #[.bool ti, .int .u64 tc, .int .u64 tv, .int .u64 tv2, .int .u64 tn, .bool tg]) (t := 27) ?hr ?_; (case hd => rfl); (case hg => rfl); (case hr => first | (go_simp; done) | (go_simp; rfl)); intro gt hg w_3 H1 hb; have hB_4 := Lib.hid (below_step hB_2.out hb); have G_gt := Lib.hid (show w.heap.size ≤ gt by rw [hg]; exact (hB_2.out).size); have N_ga_gt := Lib.hid (show ga ≠ gt by rw [hg]; exact Nat.ne_of_lt (K_ga.out.lt)); replace K_ga := Lib.hid (K_ga.out.below hb); have K_gt := Lib.hid (show w_3.heap[gt]? = some (.cells #[.bool ti, .int .u64 tc, .int .u64 tv, .int .u64 tv2, .int .u64 tn, .bool tg] 27 (0, 0)) from H1); clear hg hb H1 hB_2) | ((with_reducible refine gate_dst (N := 4) rfl ?_); refine box_event ?hg (N := 4) ?hd (cs := Ht.zero.cs) (t := 25) ?hr ?_; (case hd => rfl); (case hg => rfl); (case hr => first | (go_simp; done) | (go_simp; rfl)); intro gr hg w_5 H1 hb; have hB_6 := Lib.hid (below_step hB_4.out hb); have G_gr := Lib.hid (show w.heap.size ≤ gr by rw [hg]; exact (hB_4.out).size); have N_ga_gr := Lib.hid (show ga ≠ gr by rw [hg]; exact Nat.ne_of_lt (K_ga.out.lt)); have N_gt_gr := Lib.hid (show gt ≠ gr by rw [hg]; exact Nat.ne_of_lt (blk_lt K_gt.out)); replace K_ga := Lib.hid (K_ga.out.below hb); replace K_gt := Lib.hid (blk_below K_gt.out hb); have K_gr := Lib.hid (show Hb w_5 gr Ht.zero from H1); clear hg hb H1 hB_4; have c_gt_0 := (show World.cell? _ ⟨gt, 0, none⟩ = some (.bool ti) from (blk_cell K_gt.out 0).trans rfl); have f_gt_0 := blk_frozen K_gt.out 0; have c_gt_1 := (show World.cell? _ ⟨gt, 1, none⟩ = some (.int .u64 tc) from (blk_cell K_gt.out 1).trans rfl); have f_gt_1 := blk_frozen K_gt.out 1; clear hu25 hu27))
    refine wp_region_list ?_
    refine load_hart (h := _) rfl (.tmp 2) rfl ga rfl (by repeat (with_reducible first | exact K_ga.out | apply Hb.put | apply Hb.putP | apply Hb.putV | apply Hb.putW | apply Hb.putH | apply Hb.far N_ga_gt.out | apply Hb.far N_ga_gr.out | apply Hb.drewN | apply Hb.drew)) ?_
    refine store_hart rfl (.tmp 4) (.tmp 15) rfl gr _ rfl rfl Ht.zero (by repeat (with_reducible first | exact K_gr.out | apply Hb.put | apply Hb.putP | apply Hb.putV | apply Hb.putW | apply Hb.putH | apply Hb.far (Ne.symm N_ga_gr.out) | apply Hb.far (Ne.symm N_gt_gr.out) | apply Hb.drewN | apply Hb.drew)) ?_
    go_wp2
    refine bodyPost_ret (results_cell_row rfl _ _ gr 25 _ (0, 0) _ rfl (Hb.putAll _ (by repeat (with_reducible first | exact K_gr.out | apply Hb.put | apply Hb.putP | apply Hb.putV | apply Hb.putW | apply Hb.putH | apply Hb.far (Ne.symm N_ga_gr.out) | apply Hb.far (Ne.symm N_gt_gr.out) | apply Hb.drewN | apply Hb.drew))) Try.underlying25 rfl (by rw [Ht.size]; exact hartSize)) rfl ?_
    exact ⟨by (first | rfl | (simp only [renter, if_true, if_false, Bool.false_eq_true, cond_true, cond_false]; done) | (simp only [renter, if_true, if_false, Bool.false_eq_true, cond_true, cond_false]; rfl)), setCells_below G_gr.out _ _ _ (by repeat (first | (with_reducible first | exact hB_6.out | apply pw_below_drewN | apply below_drew1 | refine below_set ?_ G_ga.out | refine below_set ?_ G_gt.out | refine below_set ?_ G_gr.out) | exact hB_6.out))⟩
  · skip
    cases t0 : (rtoV h tc == 0)
    · skip
      cases t1 : (rtoV h tc == 1)
      · skip
        cases e2 : (tc == 9223372036854775810)
        · skip
          cases e6 : (tc == 9223372036854775814)
          · skip
            cases e10 : (tc == 9223372036854775818)
            · skip
              have C0 := Lib.hid c0; have C1 := Lib.hid c1
              clear c0 c1
              have hu25 := Try.underlying25
              go_enter Try.func9, Try.ntmps9
              have hu27 := Try.underlying27
              go_upto_region 3 with (first | ((with_reducible refine gate_dst (N := 2) rfl ?_); refine box_event ?hg (N := 2) ?hd (cs := h.cs) (t := 25) ?hr ?_; (case hd => rfl); (case hg => rfl); (case hr => first | (go_simp; done) | (go_simp; rfl)); intro ga hg w_1 H1 hb; have hB_2 := Lib.hid (below_step (Below.refl w.heap.size w) hb); have G_ga := Lib.hid (show w.heap.size ≤ ga by rw [hg]; exact ((Below.refl w.heap.size w)).size); have K_ga := Lib.hid (show Hb w_1 ga h from H1); clear hg hb H1) | ((with_reducible refine gate_dst (N := 3) rfl ?_); refine box_event ?hg (N := 3) ?hd (cs := #[.bool ti, .int .u64 tc, .int .u64 tv, .int .u64 tv2, .int .u64 tn, .bool tg]) (t := 27) ?hr ?_; (case hd => rfl); (case hg => rfl); (case hr => first | (go_simp; done) | (go_simp; rfl)); intro gt hg w_3 H1 hb; have hB_4 := Lib.hid (below_step hB_2.out hb); have G_gt := Lib.hid (show w.heap.size ≤ gt by rw [hg]; exact (hB_2.out).size); have N_ga_gt := Lib.hid (show ga ≠ gt by rw [hg]; exact Nat.ne_of_lt (K_ga.out.lt)); replace K_ga := Lib.hid (K_ga.out.below hb); have K_gt := Lib.hid (show w_3.heap[gt]? = some (.cells #[.bool ti, .int .u64 tc, .int .u64 tv, .int .u64 tv2, .int .u64 tn, .bool tg] 27 (0, 0)) from H1); clear hg hb H1 hB_2) | ((with_reducible refine gate_dst (N := 4) rfl ?_); refine box_event ?hg (N := 4) ?hd (cs := Ht.zero.cs) (t := 25) ?hr ?_; (case hd => rfl); (case hg => rfl); (case hr => first | (go_simp; done) | (go_simp; rfl)); intro gr hg w_5 H1 hb; have hB_6 := Lib.hid (below_step hB_4.out hb); have G_gr := Lib.hid (show w.heap.size ≤ gr by rw [hg]; exact (hB_4.out).size); have N_ga_gr := Lib.hid (show ga ≠ gr by rw [hg]; exact Nat.ne_of_lt (K_ga.out.lt)); have N_gt_gr := Lib.hid (show gt ≠ gr by rw [hg]; exact Nat.ne_of_lt (blk_lt K_gt.out)); replace K_ga := Lib.hid (K_ga.out.below hb); replace K_gt := Lib.hid (blk_below K_gt.out hb); have K_gr := Lib.hid (show Hb w_5 gr Ht.zero from H1); clear hg hb H1 hB_4; have c_gt_0 := (show World.cell? _ ⟨gt, 0, none⟩ = some (.bool ti) from (blk_cell K_gt.out 0).trans rfl); have f_gt_0 := blk_frozen K_gt.out 0; have c_gt_1 := (show World.cell? _ ⟨gt, 1, none⟩ = some (.int .u64 tc) from (blk_cell K_gt.out 1).trans rfl); have f_gt_1 := blk_frozen K_gt.out 1; clear hu25 hu27))
              go_upto_region 3 with (first | (go_at_call 17; refine (bit_c _ _ _ (by decide)).mono ?_; rintro e_ w_ ⟨rfl, ⟨n_, rfl⟩⟩) | (go_at_call 21; refine (with_c _ _ _ _ (by decide)).mono ?_; rintro e_ w_ ⟨rfl, ⟨n_, rfl⟩⟩) | (go_at_call 22; refine (rplace_c _ _ _).mono ?_; rintro e_ w_ ⟨rfl, ⟨n_, rfl⟩⟩))
              have hu25 := Try.underlying25
              refine wp_region_list ?_
              refine load_hart (h := h) rfl (.tmp 2) rfl ga rfl (by repeat (with_reducible first | exact K_ga.out | apply Hb.put | apply Hb.putP | apply Hb.putV | apply Hb.putW | apply Hb.putH | apply Hb.far N_ga_gt.out | apply Hb.far N_ga_gr.out | apply Hb.drewN | apply Hb.drew)) ?_
              refine box_event rfl (N := 5) rfl (cs := Ht.zero.cs) (t := 25) (by first | (go_simp; done) | (go_simp; rfl)) ?_
              intro gk hg w_7 H1 hb
              clear hu25
              clear c_gt_0 f_gt_0 c_gt_1 f_gt_1
              have hB_9 := Lib.hid (below_step (by repeat (first | (with_reducible first | exact hB_6.out | apply pw_below_drewN | apply below_drew1 | refine below_set ?_ G_ga.out | refine below_set ?_ G_gt.out | refine below_set ?_ G_gr.out) | exact hB_6.out)) hb)
              have G_gk := Lib.hid (show w.heap.size ≤ gk by rw [hg]; exact below_size (w := w) (by repeat (first | (with_reducible first | exact hB_6.out | apply pw_below_drewN | apply below_drew1 | refine below_set ?_ G_ga.out | refine below_set ?_ G_gt.out | refine below_set ?_ G_gr.out) | exact hB_6.out)))
              have N_ga_gk := Lib.hid (show ga ≠ gk by rw [hg]; exact Nat.ne_of_lt (Hb.lt (h := h) (by repeat (with_reducible first | exact K_ga.out | apply Hb.put | apply Hb.putP | apply Hb.putV | apply Hb.putW | apply Hb.putH | apply Hb.far N_ga_gt.out | apply Hb.far N_ga_gr.out | apply Hb.drewN | apply Hb.drew))))
              have N_gt_gk := Lib.hid (show gt ≠ gk by rw [hg]; exact Nat.ne_of_lt (blk_lt (o := .cells #[.bool ti, .int .u64 tc, .int .u64 tv, .int .u64 tv2, .int .u64 tn, .bool tg] 27 (0, 0)) (by repeat (with_reducible first | exact K_gt.out | apply blk_drewN | apply blk_drew | refine blk_far ?_ (show gt ≠ _ from (Ne.symm N_ga_gt.out)) _ | refine blk_far ?_ (show gt ≠ _ from N_gt_gr.out) _))))
              have N_gr_gk := Lib.hid (show gr ≠ gk by rw [hg]; exact Nat.ne_of_lt (Hb.lt (h := Ht.zero) (by repeat (with_reducible first | exact K_gr.out | apply Hb.put | apply Hb.putP | apply Hb.putV | apply Hb.putW | apply Hb.putH | apply Hb.far (Ne.symm N_ga_gr.out) | apply Hb.far (Ne.symm N_gt_gr.out) | apply Hb.drewN | apply Hb.drew))))
              replace K_ga := Lib.hid (Hb.below (h := h) (by repeat (with_reducible first | exact K_ga.out | apply Hb.put | apply Hb.putP | apply Hb.putV | apply Hb.putW | apply Hb.putH | apply Hb.far N_ga_gt.out | apply Hb.far N_ga_gr.out | apply Hb.drewN | apply Hb.drew)) hb)
              replace K_gt := Lib.hid (blk_below (o := .cells #[.bool ti, .int .u64 tc, .int .u64 tv, .int .u64 tv2, .int .u64 tn, .bool tg] 27 (0, 0)) (by repeat (with_reducible first | exact K_gt.out | apply blk_drewN | apply blk_drew | refine blk_far ?_ (show gt ≠ _ from (Ne.symm N_ga_gt.out)) _ | refine blk_far ?_ (show gt ≠ _ from N_gt_gr.out) _)) hb)
              replace K_gr := Lib.hid (Hb.below (h := Ht.zero) (by repeat (with_reducible first | exact K_gr.out | apply Hb.put | apply Hb.putP | apply Hb.putV | apply Hb.putW | apply Hb.putH | apply Hb.far (Ne.symm N_ga_gr.out) | apply Hb.far (Ne.symm N_gt_gr.out) | apply Hb.drewN | apply Hb.drew)) hb)
              have K_gk := Lib.hid (show Hb w_7 gk Ht.zero from H1)
              clear hg hb H1 hB_6
              refine store_hart rfl (.tmp 5) (.tmp 16) rfl gk h rfl rfl Ht.zero K_gk.out ?_
              have hB_10 := Lib.hid (setCells_below G_gk.out (Ht.cs h).toList 0 _ hB_9.out)
              replace K_ga := Lib.hid (Hb.farAll (vs := (Ht.cs h).toList) (o := 0) N_ga_gk.out K_ga.out)
              replace K_gt := Lib.hid (setCells_far' (vs := (Ht.cs h).toList) (o := 0) N_gt_gk.out K_gt.out)
              replace K_gr := Lib.hid (Hb.farAll (vs := (Ht.cs h).toList) (o := 0) N_gr_gk.out K_gr.out)
              replace K_gk := Lib.hid (Hb.putAll h K_gk.out)
              clear hB_9
              generalize World.setCells w_7 gk 0 (Ht.cs h).toList = w_8 at K_ga K_gt K_gr K_gk hB_10 ⊢
              have c_gt_1 := (show World.cell? _ ⟨gt, 1, none⟩ = some (.int .u64 tc) from (blk_cell K_gt.out 1).trans rfl); have f_gt_1 := blk_frozen K_gt.out 1
              have c_gk_35 := K_gk.out.cw; have f_gk_35 := K_gk.out.fr 35
              have c_gk_36 := K_gk.out.ch; have f_gk_36 := K_gk.out.fr 36
              have c_gk_37 := K_gk.out.u 37 rfl; have f_gk_37 := K_gk.out.fr 37
              go_upto_region 7 with (first | (go_at_call 17; refine (bit_c _ _ _ (by decide)).mono ?_; rintro e_ w_ ⟨rfl, ⟨n_, rfl⟩⟩) | (go_at_call 21; refine (with_c _ _ _ _ (by decide)).mono ?_; rintro e_ w_ ⟨rfl, ⟨n_, rfl⟩⟩) | (go_at_call 22; refine (rplace_c _ _ _).mono ?_; rintro e_ w_ ⟨rfl, ⟨n_, rfl⟩⟩))
              refine wp_region_list ?_
              refine load_hart (h := h) rfl (.tmp 2) rfl ga rfl (by repeat (with_reducible first | exact K_ga.out | apply Hb.put | apply Hb.putP | apply Hb.putV | apply Hb.putW | apply Hb.putH | apply Hb.far N_ga_gt.out | apply Hb.far N_ga_gr.out | apply Hb.far N_ga_gk.out | apply Hb.drewN | apply Hb.drew)) ?_
              go_wp2_with fail
              refine (rto_c h tc _ C0.out).mono ?_
              rintro e_11 w_12 ⟨rfl, hb⟩
              clear c_gt_1 f_gt_1 c_gk_35 f_gk_35 c_gk_36 f_gk_36 c_gk_37 f_gk_37
              have hB_13 := Lib.hid (below_step (by repeat (first | (with_reducible first | exact hB_10.out | apply pw_below_drewN | apply below_drew1 | refine below_set ?_ G_ga.out | refine below_set ?_ G_gt.out | refine below_set ?_ G_gr.out | refine below_set ?_ G_gk.out) | exact hB_10.out)) hb)
              have k_ga := Lib.hid (Hb.below (h := h) (by repeat (with_reducible first | exact K_ga.out | apply Hb.put | apply Hb.putP | apply Hb.putV | apply Hb.putW | apply Hb.putH | apply Hb.far N_ga_gt.out | apply Hb.far N_ga_gr.out | apply Hb.far N_ga_gk.out | apply Hb.drewN | apply Hb.drew)) hb)
              have k_gt := Lib.hid (blk_below (o := .cells #[.bool ti, .int .u64 tc, .int .u64 tv, .int .u64 tv2, .int .u64 tn, .bool tg] 27 (0, 0)) (by repeat (with_reducible first | exact K_gt.out | apply blk_drewN | apply blk_drew | refine blk_far ?_ (show gt ≠ _ from (Ne.symm N_ga_gt.out)) _ | refine blk_far ?_ (show gt ≠ _ from N_gt_gr.out) _ | refine blk_far ?_ (show gt ≠ _ from N_gt_gk.out) _)) hb)
              have k_gr := Lib.hid (Hb.below (h := Ht.zero) (by repeat (with_reducible first | exact K_gr.out | apply Hb.put | apply Hb.putP | apply Hb.putV | apply Hb.putW | apply Hb.putH | apply Hb.far (Ne.symm N_ga_gr.out) | apply Hb.far (Ne.symm N_gt_gr.out) | apply Hb.far N_gr_gk.out | apply Hb.drewN | apply Hb.drew)) hb)
              have k_gk := Lib.hid (Hb.below (h := (Ht.set { ({ h with wt := false } : Ht) with hl := false } 37 0)) (by repeat (with_reducible first | exact K_gk.out | apply Hb.put | apply Hb.putP | apply Hb.putV | apply Hb.putW | apply Hb.putH | apply Hb.far (Ne.symm N_ga_gk.out) | apply Hb.far (Ne.symm N_gt_gk.out) | apply Hb.far (Ne.symm N_gr_gk.out) | apply Hb.drewN | apply Hb.drew)) hb)
              clear hb K_ga K_gt K_gr K_gk hB_10
              have K_ga := k_ga; clear k_ga
              have K_gt := k_gt; clear k_gt
              have K_gr := k_gr; clear k_gr
              have K_gk := k_gk; clear k_gk
              have n_1 := N_ga_gk.out; have n_2 := Ne.symm N_ga_gk.out; have n_3 := N_gt_gk.out; have n_4 := Ne.symm N_gt_gk.out
              have c_gt_1 := (show World.cell? _ ⟨gt, 1, none⟩ = some (.int .u64 tc) from (blk_cell K_gt.out 1).trans rfl); have f_gt_1 := blk_frozen K_gt.out 1
              have c_gt_2 := (show World.cell? _ ⟨gt, 2, none⟩ = some (.int .u64 tv) from (blk_cell K_gt.out 2).trans rfl); have f_gt_2 := blk_frozen K_gt.out 2
              have c_ga_0 := K_ga.out.u 0 rfl; have f_ga_0 := K_ga.out.fr 0
              have c_ga_33 := K_ga.out.p; have f_ga_33 := K_ga.out.fr 33
              have c_ga_68 := K_ga.out.u 68 rfl; have f_ga_68 := K_ga.out.fr 68
              have c_ga_69 := K_ga.out.u 69 rfl; have f_ga_69 := K_ga.out.fr 69
              have c_gk_0 := K_gk.out.u 0 rfl; have f_gk_0 := K_gk.out.fr 0
              have c_gk_33 := K_gk.out.p; have f_gk_33 := K_gk.out.fr 33
              have c_gk_68 := K_gk.out.u 68 rfl; have f_gk_68 := K_gk.out.fr 68
              have c_gk_71 := K_gk.out.u 71 rfl; have f_gk_71 := K_gk.out.fr 71
              have c_gk_72 := K_gk.out.u 72 rfl; have f_gk_72 := K_gk.out.fr 72
              have c_gk_73 := K_gk.out.u 73 rfl; have f_gk_73 := K_gk.out.fr 73
              go_upto_region 47 with (first | (go_at_call 17; refine (bit_c _ _ _ (by decide)).mono ?_; rintro e_ w_ ⟨rfl, ⟨n_, rfl⟩⟩) | (go_at_call 21; refine (with_c _ _ _ _ (by decide)).mono ?_; rintro e_ w_ ⟨rfl, ⟨n_, rfl⟩⟩) | (go_at_call 22; refine (rplace_c _ _ _).mono ?_; rintro e_ w_ ⟨rfl, ⟨n_, rfl⟩⟩))
              refine world_code gk (by repeat (with_reducible first | exact K_gk.out | apply Hb.put | apply Hb.putP | apply Hb.putV | apply Hb.putW | apply Hb.putH | apply Hb.far (Ne.symm N_ga_gk.out) | apply Hb.far (Ne.symm N_gt_gk.out) | apply Hb.far (Ne.symm N_gr_gk.out) | apply Hb.drewN | apply Hb.drew)) (fun w' => Below w.heap.size w w' ∧ Hb w' ga h ∧ w'.heap[gt]? = some (.cells #[.bool ti, .int .u64 tc, .int .u64 tv, .int .u64 tv2, .int .u64 tn, .bool tg] 27 (0, 0)) ∧ Hb w' gr Ht.zero) ⟨(by repeat (first | (with_reducible first | exact hB_13.out | apply pw_below_drewN | apply below_drew1 | refine below_set ?_ G_ga.out | refine below_set ?_ G_gt.out | refine below_set ?_ G_gr.out | refine below_set ?_ G_gk.out) | exact hB_13.out)), (by repeat (with_reducible first | exact K_ga.out | apply Hb.put | apply Hb.putP | apply Hb.putV | apply Hb.putW | apply Hb.putH | apply Hb.far N_ga_gt.out | apply Hb.far N_ga_gr.out | apply Hb.far N_ga_gk.out | apply Hb.drewN | apply Hb.drew)), (by repeat (with_reducible first | exact K_gt.out | apply blk_drewN | apply blk_drew | refine blk_far ?_ (show gt ≠ _ from (Ne.symm N_ga_gt.out)) _ | refine blk_far ?_ (show gt ≠ _ from N_gt_gr.out) _ | refine blk_far ?_ (show gt ≠ _ from N_gt_gk.out) _)), (by repeat (with_reducible first | exact K_gr.out | apply Hb.put | apply Hb.putP | apply Hb.putV | apply Hb.putW | apply Hb.putH | apply Hb.far (Ne.symm N_ga_gr.out) | apply Hb.far (Ne.symm N_gt_gr.out) | apply Hb.far N_gr_gk.out | apply Hb.drewN | apply Hb.drew))⟩ ?_
              clear c_gt_1 f_gt_1 c_gt_2 f_gt_2 c_ga_0 f_ga_0 c_ga_33 f_ga_33 c_ga_68 f_ga_68 c_ga_69 f_ga_69 c_gk_0 f_gk_0 c_gk_33 f_gk_33 c_gk_68 f_gk_68 c_gk_71 f_gk_71 c_gk_72 f_gk_72 c_gk_73 f_gk_73
              clear K_ga K_gt K_gr K_gk hB_13
              rintro w_14 q_ ⟨b_, q_ga, q_gt, q_gr⟩
              have K_gk := Lib.hid q_; have hB_15 := Lib.hid b_; have K_ga := Lib.hid q_ga; have K_gt := Lib.hid q_gt; have K_gr := Lib.hid q_gr
              clear q_ b_ q_ga q_gt q_gr
              have c_ga_33 := K_ga.out.p; have f_ga_33 := K_ga.out.fr 33
              have c_ga_68 := K_ga.out.u 68 rfl; have f_ga_68 := K_ga.out.fr 68
              have c_ga_69 := K_ga.out.u 69 rfl; have f_ga_69 := K_ga.out.fr 69
              have c_gk_0 := K_gk.out.u 0 rfl; have f_gk_0 := K_gk.out.fr 0
              have c_gk_68 := K_gk.out.u 68 rfl; have f_gk_68 := K_gk.out.fr 68
              go_quiet (first | (go_at_call 17; refine (bit_c _ _ _ (by decide)).mono ?_; rintro e_ w_ ⟨rfl, ⟨n_, rfl⟩⟩; (try first | exact ⟨rfl, _, World.drewN_drewN _ _ _⟩ | exact ⟨rfl, _, Eq.trans (World.drewN_drewN _ _ _) (congrArg (World.drewN _) (Nat.add_assoc _ _ _))⟩)) | (go_at_call 21; refine (with_c _ _ _ _ (by decide)).mono ?_; rintro e_ w_ ⟨rfl, ⟨n_, rfl⟩⟩; (try first | exact ⟨rfl, _, World.drewN_drewN _ _ _⟩ | exact ⟨rfl, _, Eq.trans (World.drewN_drewN _ _ _) (congrArg (World.drewN _) (Nat.add_assoc _ _ _))⟩)) | (go_at_call 22; refine (rplace_c _ _ _).mono ?_; rintro e_ w_ ⟨rfl, ⟨n_, rfl⟩⟩; (try first | exact ⟨rfl, _, World.drewN_drewN _ _ _⟩ | exact ⟨rfl, _, Eq.trans (World.drewN_drewN _ _ _) (congrArg (World.drewN _) (Nat.add_assoc _ _ _))⟩)))
              go_upto_region 51 with (first | (go_at_call 17; refine (bit_c _ _ _ (by decide)).mono ?_; rintro e_ w_ ⟨rfl, ⟨n_, rfl⟩⟩) | (go_at_call 21; refine (with_c _ _ _ _ (by decide)).mono ?_; rintro e_ w_ ⟨rfl, ⟨n_, rfl⟩⟩) | (go_at_call 22; refine (rplace_c _ _ _).mono ?_; rintro e_ w_ ⟨rfl, ⟨n_, rfl⟩⟩))
              refine wp_region_list ?_
              refine load_hart (h := _) rfl (.tmp 5) rfl gk rfl (by repeat (with_reducible first | exact K_gk.out | apply Hb.put | apply Hb.putP | apply Hb.putV | apply Hb.putW | apply Hb.putH | apply Hb.far (Ne.symm N_ga_gk.out) | apply Hb.far (Ne.symm N_gt_gk.out) | apply Hb.far (Ne.symm N_gr_gk.out) | apply Hb.drewN | apply Hb.drew)) ?_
              refine store_hart rfl (.tmp 4) (.tmp 177) rfl gr _ rfl rfl Ht.zero (by repeat (with_reducible first | exact K_gr.out | apply Hb.put | apply Hb.putP | apply Hb.putV | apply Hb.putW | apply Hb.putH | apply Hb.far (Ne.symm N_ga_gr.out) | apply Hb.far (Ne.symm N_gt_gr.out) | apply Hb.far N_gr_gk.out | apply Hb.drewN | apply Hb.drew)) ?_
              go_wp2
              refine bodyPost_ret (results_cell_row rfl _ _ gr 25 _ (0, 0) _ rfl (Hb.putAll _ (by repeat (with_reducible first | exact K_gr.out | apply Hb.put | apply Hb.putP | apply Hb.putV | apply Hb.putW | apply Hb.putH | apply Hb.far (Ne.symm N_ga_gr.out) | apply Hb.far (Ne.symm N_gt_gr.out) | apply Hb.far N_gr_gk.out | apply Hb.drewN | apply Hb.drew))) Try.underlying25 rfl (by rw [Ht.size]; exact hartSize)) rfl ?_
              exact ⟨by (first | rfl | (simp only [renter, renterM, renterH, renterG, rguestCause, t0, t1, e2, e6, e10, if_true, if_false, Bool.false_eq_true, cond_true, cond_false]; done) | (simp only [renter, renterM, renterH, renterG, rguestCause, t0, t1, e2, e6, e10, if_true, if_false, Bool.false_eq_true, cond_true, cond_false]; rfl)), setCells_below G_gr.out _ _ _ (by repeat (first | (with_reducible first | exact hB_15.out | apply pw_below_drewN | apply below_drew1 | refine below_set ?_ G_ga.out | refine below_set ?_ G_gt.out | refine below_set ?_ G_gr.out | refine below_set ?_ G_gk.out) | exact hB_15.out))⟩
            · skip
              have C0 := Lib.hid c0; have C1 := Lib.hid c1
              clear c0 c1
              have hu25 := Try.underlying25
              go_enter Try.func9, Try.ntmps9
              have hu27 := Try.underlying27
              go_upto_region 3 with (first | ((with_reducible refine gate_dst (N := 2) rfl ?_); refine box_event ?hg (N := 2) ?hd (cs := h.cs) (t := 25) ?hr ?_; (case hd => rfl); (case hg => rfl); (case hr => first | (go_simp; done) | (go_simp; rfl)); intro ga hg w_1 H1 hb; have hB_2 := Lib.hid (below_step (Below.refl w.heap.size w) hb); have G_ga := Lib.hid (show w.heap.size ≤ ga by rw [hg]; exact ((Below.refl w.heap.size w)).size); have K_ga := Lib.hid (show Hb w_1 ga h from H1); clear hg hb H1) | ((with_reducible refine gate_dst (N := 3) rfl ?_); refine box_event ?hg (N := 3) ?hd (cs := #[.bool ti, .int .u64 tc, .int .u64 tv, .int .u64 tv2, .int .u64 tn, .bool tg]) (t := 27) ?hr ?_; (case hd => rfl); (case hg => rfl); (case hr => first | (go_simp; done) | (go_simp; rfl)); intro gt hg w_3 H1 hb; have hB_4 := Lib.hid (below_step hB_2.out hb); have G_gt := Lib.hid (show w.heap.size ≤ gt by rw [hg]; exact (hB_2.out).size); have N_ga_gt := Lib.hid (show ga ≠ gt by rw [hg]; exact Nat.ne_of_lt (K_ga.out.lt)); replace K_ga := Lib.hid (K_ga.out.below hb); have K_gt := Lib.hid (show w_3.heap[gt]? = some (.cells #[.bool ti, .int .u64 tc, .int .u64 tv, .int .u64 tv2, .int .u64 tn, .bool tg] 27 (0, 0)) from H1); clear hg hb H1 hB_2) | ((with_reducible refine gate_dst (N := 4) rfl ?_); refine box_event ?hg (N := 4) ?hd (cs := Ht.zero.cs) (t := 25) ?hr ?_; (case hd => rfl); (case hg => rfl); (case hr => first | (go_simp; done) | (go_simp; rfl)); intro gr hg w_5 H1 hb; have hB_6 := Lib.hid (below_step hB_4.out hb); have G_gr := Lib.hid (show w.heap.size ≤ gr by rw [hg]; exact (hB_4.out).size); have N_ga_gr := Lib.hid (show ga ≠ gr by rw [hg]; exact Nat.ne_of_lt (K_ga.out.lt)); have N_gt_gr := Lib.hid (show gt ≠ gr by rw [hg]; exact Nat.ne_of_lt (blk_lt K_gt.out)); replace K_ga := Lib.hid (K_ga.out.below hb); replace K_gt := Lib.hid (blk_below K_gt.out hb); have K_gr := Lib.hid (show Hb w_5 gr Ht.zero from H1); clear hg hb H1 hB_4; have c_gt_0 := (show World.cell? _ ⟨gt, 0, none⟩ = some (.bool ti) from (blk_cell K_gt.out 0).trans rfl); have f_gt_0 := blk_frozen K_gt.out 0; have c_gt_1 := (show World.cell? _ ⟨gt, 1, none⟩ = some (.int .u64 tc) from (blk_cell K_gt.out 1).trans rfl); have f_gt_1 := blk_frozen K_gt.out 1; clear hu25 hu27))
              go_upto_region 3 with (first | (go_at_call 17; refine (bit_c _ _ _ (by decide)).mono ?_; rintro e_ w_ ⟨rfl, ⟨n_, rfl⟩⟩) | (go_at_call 21; refine (with_c _ _ _ _ (by decide)).mono ?_; rintro e_ w_ ⟨rfl, ⟨n_, rfl⟩⟩) | (go_at_call 22; refine (rplace_c _ _ _).mono ?_; rintro e_ w_ ⟨rfl, ⟨n_, rfl⟩⟩))
              have hu25 := Try.underlying25
              refine wp_region_list ?_
              refine load_hart (h := h) rfl (.tmp 2) rfl ga rfl (by repeat (with_reducible first | exact K_ga.out | apply Hb.put | apply Hb.putP | apply Hb.putV | apply Hb.putW | apply Hb.putH | apply Hb.far N_ga_gt.out | apply Hb.far N_ga_gr.out | apply Hb.drewN | apply Hb.drew)) ?_
              refine box_event rfl (N := 5) rfl (cs := Ht.zero.cs) (t := 25) (by first | (go_simp; done) | (go_simp; rfl)) ?_
              intro gk hg w_7 H1 hb
              clear hu25
              clear c_gt_0 f_gt_0 c_gt_1 f_gt_1
              have hB_9 := Lib.hid (below_step (by repeat (first | (with_reducible first | exact hB_6.out | apply pw_below_drewN | apply below_drew1 | refine below_set ?_ G_ga.out | refine below_set ?_ G_gt.out | refine below_set ?_ G_gr.out) | exact hB_6.out)) hb)
              have G_gk := Lib.hid (show w.heap.size ≤ gk by rw [hg]; exact below_size (w := w) (by repeat (first | (with_reducible first | exact hB_6.out | apply pw_below_drewN | apply below_drew1 | refine below_set ?_ G_ga.out | refine below_set ?_ G_gt.out | refine below_set ?_ G_gr.out) | exact hB_6.out)))
              have N_ga_gk := Lib.hid (show ga ≠ gk by rw [hg]; exact Nat.ne_of_lt (Hb.lt (h := h) (by repeat (with_reducible first | exact K_ga.out | apply Hb.put | apply Hb.putP | apply Hb.putV | apply Hb.putW | apply Hb.putH | apply Hb.far N_ga_gt.out | apply Hb.far N_ga_gr.out | apply Hb.drewN | apply Hb.drew))))
              have N_gt_gk := Lib.hid (show gt ≠ gk by rw [hg]; exact Nat.ne_of_lt (blk_lt (o := .cells #[.bool ti, .int .u64 tc, .int .u64 tv, .int .u64 tv2, .int .u64 tn, .bool tg] 27 (0, 0)) (by repeat (with_reducible first | exact K_gt.out | apply blk_drewN | apply blk_drew | refine blk_far ?_ (show gt ≠ _ from (Ne.symm N_ga_gt.out)) _ | refine blk_far ?_ (show gt ≠ _ from N_gt_gr.out) _))))
              have N_gr_gk := Lib.hid (show gr ≠ gk by rw [hg]; exact Nat.ne_of_lt (Hb.lt (h := Ht.zero) (by repeat (with_reducible first | exact K_gr.out | apply Hb.put | apply Hb.putP | apply Hb.putV | apply Hb.putW | apply Hb.putH | apply Hb.far (Ne.symm N_ga_gr.out) | apply Hb.far (Ne.symm N_gt_gr.out) | apply Hb.drewN | apply Hb.drew))))
              replace K_ga := Lib.hid (Hb.below (h := h) (by repeat (with_reducible first | exact K_ga.out | apply Hb.put | apply Hb.putP | apply Hb.putV | apply Hb.putW | apply Hb.putH | apply Hb.far N_ga_gt.out | apply Hb.far N_ga_gr.out | apply Hb.drewN | apply Hb.drew)) hb)
              replace K_gt := Lib.hid (blk_below (o := .cells #[.bool ti, .int .u64 tc, .int .u64 tv, .int .u64 tv2, .int .u64 tn, .bool tg] 27 (0, 0)) (by repeat (with_reducible first | exact K_gt.out | apply blk_drewN | apply blk_drew | refine blk_far ?_ (show gt ≠ _ from (Ne.symm N_ga_gt.out)) _ | refine blk_far ?_ (show gt ≠ _ from N_gt_gr.out) _)) hb)
              replace K_gr := Lib.hid (Hb.below (h := Ht.zero) (by repeat (with_reducible first | exact K_gr.out | apply Hb.put | apply Hb.putP | apply Hb.putV | apply Hb.putW | apply Hb.putH | apply Hb.far (Ne.symm N_ga_gr.out) | apply Hb.far (Ne.symm N_gt_gr.out) | apply Hb.drewN | apply Hb.drew)) hb)
              have K_gk := Lib.hid (show Hb w_7 gk Ht.zero from H1)
              clear hg hb H1 hB_6
              refine store_hart rfl (.tmp 5) (.tmp 16) rfl gk h rfl rfl Ht.zero K_gk.out ?_
              have hB_10 := Lib.hid (setCells_below G_gk.out (Ht.cs h).toList 0 _ hB_9.out)
              replace K_ga := Lib.hid (Hb.farAll (vs := (Ht.cs h).toList) (o := 0) N_ga_gk.out K_ga.out)
              replace K_gt := Lib.hid (setCells_far' (vs := (Ht.cs h).toList) (o := 0) N_gt_gk.out K_gt.out)
              replace K_gr := Lib.hid (Hb.farAll (vs := (Ht.cs h).toList) (o := 0) N_gr_gk.out K_gr.out)
              replace K_gk := Lib.hid (Hb.putAll h K_gk.out)
              clear hB_9
              generalize World.setCells w_7 gk 0 (Ht.cs h).toList = w_8 at K_ga K_gt K_gr K_gk hB_10 ⊢
              have c_gt_1 := (show World.cell? _ ⟨gt, 1, none⟩ = some (.int .u64 tc) from (blk_cell K_gt.out 1).trans rfl); have f_gt_1 := blk_frozen K_gt.out 1
              have c_gk_35 := K_gk.out.cw; have f_gk_35 := K_gk.out.fr 35
              have c_gk_36 := K_gk.out.ch; have f_gk_36 := K_gk.out.fr 36
              have c_gk_37 := K_gk.out.u 37 rfl; have f_gk_37 := K_gk.out.fr 37
              go_upto_region 7 with (first | (go_at_call 17; refine (bit_c _ _ _ (by decide)).mono ?_; rintro e_ w_ ⟨rfl, ⟨n_, rfl⟩⟩) | (go_at_call 21; refine (with_c _ _ _ _ (by decide)).mono ?_; rintro e_ w_ ⟨rfl, ⟨n_, rfl⟩⟩) | (go_at_call 22; refine (rplace_c _ _ _).mono ?_; rintro e_ w_ ⟨rfl, ⟨n_, rfl⟩⟩))
              refine wp_region_list ?_
              refine load_hart (h := h) rfl (.tmp 2) rfl ga rfl (by repeat (with_reducible first | exact K_ga.out | apply Hb.put | apply Hb.putP | apply Hb.putV | apply Hb.putW | apply Hb.putH | apply Hb.far N_ga_gt.out | apply Hb.far N_ga_gr.out | apply Hb.far N_ga_gk.out | apply Hb.drewN | apply Hb.drew)) ?_
              go_wp2_with fail
              refine (rto_c h tc _ C0.out).mono ?_
              rintro e_11 w_12 ⟨rfl, hb⟩
              clear c_gt_1 f_gt_1 c_gk_35 f_gk_35 c_gk_36 f_gk_36 c_gk_37 f_gk_37
              have hB_13 := Lib.hid (below_step (by repeat (first | (with_reducible first | exact hB_10.out | apply pw_below_drewN | apply below_drew1 | refine below_set ?_ G_ga.out | refine below_set ?_ G_gt.out | refine below_set ?_ G_gr.out | refine below_set ?_ G_gk.out) | exact hB_10.out)) hb)
              have k_ga := Lib.hid (Hb.below (h := h) (by repeat (with_reducible first | exact K_ga.out | apply Hb.put | apply Hb.putP | apply Hb.putV | apply Hb.putW | apply Hb.putH | apply Hb.far N_ga_gt.out | apply Hb.far N_ga_gr.out | apply Hb.far N_ga_gk.out | apply Hb.drewN | apply Hb.drew)) hb)
              have k_gt := Lib.hid (blk_below (o := .cells #[.bool ti, .int .u64 tc, .int .u64 tv, .int .u64 tv2, .int .u64 tn, .bool tg] 27 (0, 0)) (by repeat (with_reducible first | exact K_gt.out | apply blk_drewN | apply blk_drew | refine blk_far ?_ (show gt ≠ _ from (Ne.symm N_ga_gt.out)) _ | refine blk_far ?_ (show gt ≠ _ from N_gt_gr.out) _ | refine blk_far ?_ (show gt ≠ _ from N_gt_gk.out) _)) hb)
              have k_gr := Lib.hid (Hb.below (h := Ht.zero) (by repeat (with_reducible first | exact K_gr.out | apply Hb.put | apply Hb.putP | apply Hb.putV | apply Hb.putW | apply Hb.putH | apply Hb.far (Ne.symm N_ga_gr.out) | apply Hb.far (Ne.symm N_gt_gr.out) | apply Hb.far N_gr_gk.out | apply Hb.drewN | apply Hb.drew)) hb)
              have k_gk := Lib.hid (Hb.below (h := (Ht.set { ({ h with wt := false } : Ht) with hl := false } 37 0)) (by repeat (with_reducible first | exact K_gk.out | apply Hb.put | apply Hb.putP | apply Hb.putV | apply Hb.putW | apply Hb.putH | apply Hb.far (Ne.symm N_ga_gk.out) | apply Hb.far (Ne.symm N_gt_gk.out) | apply Hb.far (Ne.symm N_gr_gk.out) | apply Hb.drewN | apply Hb.drew)) hb)
              clear hb K_ga K_gt K_gr K_gk hB_10
              have K_ga := k_ga; clear k_ga
              have K_gt := k_gt; clear k_gt
              have K_gr := k_gr; clear k_gr
              have K_gk := k_gk; clear k_gk
              have n_1 := N_ga_gk.out; have n_2 := Ne.symm N_ga_gk.out; have n_3 := N_gt_gk.out; have n_4 := Ne.symm N_gt_gk.out
              have c_gt_1 := (show World.cell? _ ⟨gt, 1, none⟩ = some (.int .u64 tc) from (blk_cell K_gt.out 1).trans rfl); have f_gt_1 := blk_frozen K_gt.out 1
              have c_gt_2 := (show World.cell? _ ⟨gt, 2, none⟩ = some (.int .u64 tv) from (blk_cell K_gt.out 2).trans rfl); have f_gt_2 := blk_frozen K_gt.out 2
              have c_ga_0 := K_ga.out.u 0 rfl; have f_ga_0 := K_ga.out.fr 0
              have c_ga_33 := K_ga.out.p; have f_ga_33 := K_ga.out.fr 33
              have c_ga_68 := K_ga.out.u 68 rfl; have f_ga_68 := K_ga.out.fr 68
              have c_ga_69 := K_ga.out.u 69 rfl; have f_ga_69 := K_ga.out.fr 69
              have c_gk_0 := K_gk.out.u 0 rfl; have f_gk_0 := K_gk.out.fr 0
              have c_gk_33 := K_gk.out.p; have f_gk_33 := K_gk.out.fr 33
              have c_gk_68 := K_gk.out.u 68 rfl; have f_gk_68 := K_gk.out.fr 68
              have c_gk_71 := K_gk.out.u 71 rfl; have f_gk_71 := K_gk.out.fr 71
              have c_gk_72 := K_gk.out.u 72 rfl; have f_gk_72 := K_gk.out.fr 72
              have c_gk_73 := K_gk.out.u 73 rfl; have f_gk_73 := K_gk.out.fr 73
              go_upto_region 47 with (first | (go_at_call 17; refine (bit_c _ _ _ (by decide)).mono ?_; rintro e_ w_ ⟨rfl, ⟨n_, rfl⟩⟩) | (go_at_call 21; refine (with_c _ _ _ _ (by decide)).mono ?_; rintro e_ w_ ⟨rfl, ⟨n_, rfl⟩⟩) | (go_at_call 22; refine (rplace_c _ _ _).mono ?_; rintro e_ w_ ⟨rfl, ⟨n_, rfl⟩⟩))
              refine world_code gk (by repeat (with_reducible first | exact K_gk.out | apply Hb.put | apply Hb.putP | apply Hb.putV | apply Hb.putW | apply Hb.putH | apply Hb.far (Ne.symm N_ga_gk.out) | apply Hb.far (Ne.symm N_gt_gk.out) | apply Hb.far (Ne.symm N_gr_gk.out) | apply Hb.drewN | apply Hb.drew)) (fun w' => Below w.heap.size w w' ∧ Hb w' ga h ∧ w'.heap[gt]? = some (.cells #[.bool ti, .int .u64 tc, .int .u64 tv, .int .u64 tv2, .int .u64 tn, .bool tg] 27 (0, 0)) ∧ Hb w' gr Ht.zero) ⟨(by repeat (first | (with_reducible first | exact hB_13.out | apply pw_below_drewN | apply below_drew1 | refine below_set ?_ G_ga.out | refine below_set ?_ G_gt.out | refine below_set ?_ G_gr.out | refine below_set ?_ G_gk.out) | exact hB_13.out)), (by repeat (with_reducible first | exact K_ga.out | apply Hb.put | apply Hb.putP | apply Hb.putV | apply Hb.putW | apply Hb.putH | apply Hb.far N_ga_gt.out | apply Hb.far N_ga_gr.out | apply Hb.far N_ga_gk.out | apply Hb.drewN | apply Hb.drew)), (by repeat (with_reducible first | exact K_gt.out | apply blk_drewN | apply blk_drew | refine blk_far ?_ (show gt ≠ _ from (Ne.symm N_ga_gt.out)) _ | refine blk_far ?_ (show gt ≠ _ from N_gt_gr.out) _ | refine blk_far ?_ (show gt ≠ _ from N_gt_gk.out) _)), (by repeat (with_reducible first | exact K_gr.out | apply Hb.put | apply Hb.putP | apply Hb.putV | apply Hb.putW | apply Hb.putH | apply Hb.far (Ne.symm N_ga_gr.out) | apply Hb.far (Ne.symm N_gt_gr.out) | apply Hb.far N_gr_gk.out | apply Hb.drewN | apply Hb.drew))⟩ ?_
              clear c_gt_1 f_gt_1 c_gt_2 f_gt_2 c_ga_0 f_ga_0 c_ga_33 f_ga_33 c_ga_68 f_ga_68 c_ga_69 f_ga_69 c_gk_0 f_gk_0 c_gk_33 f_gk_33 c_gk_68 f_gk_68 c_gk_71 f_gk_71 c_gk_72 f_gk_72 c_gk_73 f_gk_73
              clear K_ga K_gt K_gr K_gk hB_13
              rintro w_14 q_ ⟨b_, q_ga, q_gt, q_gr⟩
              have K_gk := Lib.hid q_; have hB_15 := Lib.hid b_; have K_ga := Lib.hid q_ga; have K_gt := Lib.hid q_gt; have K_gr := Lib.hid q_gr
              clear q_ b_ q_ga q_gt q_gr
              have c_ga_33 := K_ga.out.p; have f_ga_33 := K_ga.out.fr 33
              have c_ga_68 := K_ga.out.u 68 rfl; have f_ga_68 := K_ga.out.fr 68
              have c_ga_69 := K_ga.out.u 69 rfl; have f_ga_69 := K_ga.out.fr 69
              have c_gk_0 := K_gk.out.u 0 rfl; have f_gk_0 := K_gk.out.fr 0
              have c_gk_68 := K_gk.out.u 68 rfl; have f_gk_68 := K_gk.out.fr 68
              go_quiet (first | (go_at_call 17; refine (bit_c _ _ _ (by decide)).mono ?_; rintro e_ w_ ⟨rfl, ⟨n_, rfl⟩⟩; (try first | exact ⟨rfl, _, World.drewN_drewN _ _ _⟩ | exact ⟨rfl, _, Eq.trans (World.drewN_drewN _ _ _) (congrArg (World.drewN _) (Nat.add_assoc _ _ _))⟩)) | (go_at_call 21; refine (with_c _ _ _ _ (by decide)).mono ?_; rintro e_ w_ ⟨rfl, ⟨n_, rfl⟩⟩; (try first | exact ⟨rfl, _, World.drewN_drewN _ _ _⟩ | exact ⟨rfl, _, Eq.trans (World.drewN_drewN _ _ _) (congrArg (World.drewN _) (Nat.add_assoc _ _ _))⟩)) | (go_at_call 22; refine (rplace_c _ _ _).mono ?_; rintro e_ w_ ⟨rfl, ⟨n_, rfl⟩⟩; (try first | exact ⟨rfl, _, World.drewN_drewN _ _ _⟩ | exact ⟨rfl, _, Eq.trans (World.drewN_drewN _ _ _) (congrArg (World.drewN _) (Nat.add_assoc _ _ _))⟩)))
              go_upto_region 51 with (first | (go_at_call 17; refine (bit_c _ _ _ (by decide)).mono ?_; rintro e_ w_ ⟨rfl, ⟨n_, rfl⟩⟩) | (go_at_call 21; refine (with_c _ _ _ _ (by decide)).mono ?_; rintro e_ w_ ⟨rfl, ⟨n_, rfl⟩⟩) | (go_at_call 22; refine (rplace_c _ _ _).mono ?_; rintro e_ w_ ⟨rfl, ⟨n_, rfl⟩⟩))
              refine wp_region_list ?_
              refine load_hart (h := _) rfl (.tmp 5) rfl gk rfl (by repeat (with_reducible first | exact K_gk.out | apply Hb.put | apply Hb.putP | apply Hb.putV | apply Hb.putW | apply Hb.putH | apply Hb.far (Ne.symm N_ga_gk.out) | apply Hb.far (Ne.symm N_gt_gk.out) | apply Hb.far (Ne.symm N_gr_gk.out) | apply Hb.drewN | apply Hb.drew)) ?_
              refine store_hart rfl (.tmp 4) (.tmp 177) rfl gr _ rfl rfl Ht.zero (by repeat (with_reducible first | exact K_gr.out | apply Hb.put | apply Hb.putP | apply Hb.putV | apply Hb.putW | apply Hb.putH | apply Hb.far (Ne.symm N_ga_gr.out) | apply Hb.far (Ne.symm N_gt_gr.out) | apply Hb.far N_gr_gk.out | apply Hb.drewN | apply Hb.drew)) ?_
              go_wp2
              refine bodyPost_ret (results_cell_row rfl _ _ gr 25 _ (0, 0) _ rfl (Hb.putAll _ (by repeat (with_reducible first | exact K_gr.out | apply Hb.put | apply Hb.putP | apply Hb.putV | apply Hb.putW | apply Hb.putH | apply Hb.far (Ne.symm N_ga_gr.out) | apply Hb.far (Ne.symm N_gt_gr.out) | apply Hb.far N_gr_gk.out | apply Hb.drewN | apply Hb.drew))) Try.underlying25 rfl (by rw [Ht.size]; exact hartSize)) rfl ?_
              exact ⟨by (first | rfl | (simp only [renter, renterM, renterH, renterG, rguestCause, t0, t1, e2, e6, e10, if_true, if_false, Bool.false_eq_true, cond_true, cond_false]; done) | (simp only [renter, renterM, renterH, renterG, rguestCause, t0, t1, e2, e6, e10, if_true, if_false, Bool.false_eq_true, cond_true, cond_false]; rfl)), setCells_below G_gr.out _ _ _ (by repeat (first | (with_reducible first | exact hB_15.out | apply pw_below_drewN | apply below_drew1 | refine below_set ?_ G_ga.out | refine below_set ?_ G_gt.out | refine below_set ?_ G_gr.out | refine below_set ?_ G_gk.out) | exact hB_15.out))⟩
          · skip
            have C0 := Lib.hid c0; have C1 := Lib.hid c1
            clear c0 c1
            have hu25 := Try.underlying25
            go_enter Try.func9, Try.ntmps9
            have hu27 := Try.underlying27
            go_upto_region 3 with (first | ((with_reducible refine gate_dst (N := 2) rfl ?_); refine box_event ?hg (N := 2) ?hd (cs := h.cs) (t := 25) ?hr ?_; (case hd => rfl); (case hg => rfl); (case hr => first | (go_simp; done) | (go_simp; rfl)); intro ga hg w_1 H1 hb; have hB_2 := Lib.hid (below_step (Below.refl w.heap.size w) hb); have G_ga := Lib.hid (show w.heap.size ≤ ga by rw [hg]; exact ((Below.refl w.heap.size w)).size); have K_ga := Lib.hid (show Hb w_1 ga h from H1); clear hg hb H1) | ((with_reducible refine gate_dst (N := 3) rfl ?_); refine box_event ?hg (N := 3) ?hd (cs := #[.bool ti, .int .u64 tc, .int .u64 tv, .int .u64 tv2, .int .u64 tn, .bool tg]) (t := 27) ?hr ?_; (case hd => rfl); (case hg => rfl); (case hr => first | (go_simp; done) | (go_simp; rfl)); intro gt hg w_3 H1 hb; have hB_4 := Lib.hid (below_step hB_2.out hb); have G_gt := Lib.hid (show w.heap.size ≤ gt by rw [hg]; exact (hB_2.out).size); have N_ga_gt := Lib.hid (show ga ≠ gt by rw [hg]; exact Nat.ne_of_lt (K_ga.out.lt)); replace K_ga := Lib.hid (K_ga.out.below hb); have K_gt := Lib.hid (show w_3.heap[gt]? = some (.cells #[.bool ti, .int .u64 tc, .int .u64 tv, .int .u64 tv2, .int .u64 tn, .bool tg] 27 (0, 0)) from H1); clear hg hb H1 hB_2) | ((with_reducible refine gate_dst (N := 4) rfl ?_); refine box_event ?hg (N := 4) ?hd (cs := Ht.zero.cs) (t := 25) ?hr ?_; (case hd => rfl); (case hg => rfl); (case hr => first | (go_simp; done) | (go_simp; rfl)); intro gr hg w_5 H1 hb; have hB_6 := Lib.hid (below_step hB_4.out hb); have G_gr := Lib.hid (show w.heap.size ≤ gr by rw [hg]; exact (hB_4.out).size); have N_ga_gr := Lib.hid (show ga ≠ gr by rw [hg]; exact Nat.ne_of_lt (K_ga.out.lt)); have N_gt_gr := Lib.hid (show gt ≠ gr by rw [hg]; exact Nat.ne_of_lt (blk_lt K_gt.out)); replace K_ga := Lib.hid (K_ga.out.below hb); replace K_gt := Lib.hid (blk_below K_gt.out hb); have K_gr := Lib.hid (show Hb w_5 gr Ht.zero from H1); clear hg hb H1 hB_4; have c_gt_0 := (show World.cell? _ ⟨gt, 0, none⟩ = some (.bool ti) from (blk_cell K_gt.out 0).trans rfl); have f_gt_0 := blk_frozen K_gt.out 0; have c_gt_1 := (show World.cell? _ ⟨gt, 1, none⟩ = some (.int .u64 tc) from (blk_cell K_gt.out 1).trans rfl); have f_gt_1 := blk_frozen K_gt.out 1; clear hu25 hu27))
            go_upto_region 3 with (first | (go_at_call 17; refine (bit_c _ _ _ (by decide)).mono ?_; rintro e_ w_ ⟨rfl, ⟨n_, rfl⟩⟩) | (go_at_call 21; refine (with_c _ _ _ _ (by decide)).mono ?_; rintro e_ w_ ⟨rfl, ⟨n_, rfl⟩⟩) | (go_at_call 22; refine (rplace_c _ _ _).mono ?_; rintro e_ w_ ⟨rfl, ⟨n_, rfl⟩⟩))
            have hu25 := Try.underlying25
            refine wp_region_list ?_
            refine load_hart (h := h) rfl (.tmp 2) rfl ga rfl (by repeat (with_reducible first | exact K_ga.out | apply Hb.put | apply Hb.putP | apply Hb.putV | apply Hb.putW | apply Hb.putH | apply Hb.far N_ga_gt.out | apply Hb.far N_ga_gr.out | apply Hb.drewN | apply Hb.drew)) ?_
            refine box_event rfl (N := 5) rfl (cs := Ht.zero.cs) (t := 25) (by first | (go_simp; done) | (go_simp; rfl)) ?_
            intro gk hg w_7 H1 hb
            clear hu25
            clear c_gt_0 f_gt_0 c_gt_1 f_gt_1
            have hB_9 := Lib.hid (below_step (by repeat (first | (with_reducible first | exact hB_6.out | apply pw_below_drewN | apply below_drew1 | refine below_set ?_ G_ga.out | refine below_set ?_ G_gt.out | refine below_set ?_ G_gr.out) | exact hB_6.out)) hb)
            have G_gk := Lib.hid (show w.heap.size ≤ gk by rw [hg]; exact below_size (w := w) (by repeat (first | (with_reducible first | exact hB_6.out | apply pw_below_drewN | apply below_drew1 | refine below_set ?_ G_ga.out | refine below_set ?_ G_gt.out | refine below_set ?_ G_gr.out) | exact hB_6.out)))
            have N_ga_gk := Lib.hid (show ga ≠ gk by rw [hg]; exact Nat.ne_of_lt (Hb.lt (h := h) (by repeat (with_reducible first | exact K_ga.out | apply Hb.put | apply Hb.putP | apply Hb.putV | apply Hb.putW | apply Hb.putH | apply Hb.far N_ga_gt.out | apply Hb.far N_ga_gr.out | apply Hb.drewN | apply Hb.drew))))
            have N_gt_gk := Lib.hid (show gt ≠ gk by rw [hg]; exact Nat.ne_of_lt (blk_lt (o := .cells #[.bool ti, .int .u64 tc, .int .u64 tv, .int .u64 tv2, .int .u64 tn, .bool tg] 27 (0, 0)) (by repeat (with_reducible first | exact K_gt.out | apply blk_drewN | apply blk_drew | refine blk_far ?_ (show gt ≠ _ from (Ne.symm N_ga_gt.out)) _ | refine blk_far ?_ (show gt ≠ _ from N_gt_gr.out) _))))
            have N_gr_gk := Lib.hid (show gr ≠ gk by rw [hg]; exact Nat.ne_of_lt (Hb.lt (h := Ht.zero) (by repeat (with_reducible first | exact K_gr.out | apply Hb.put | apply Hb.putP | apply Hb.putV | apply Hb.putW | apply Hb.putH | apply Hb.far (Ne.symm N_ga_gr.out) | apply Hb.far (Ne.symm N_gt_gr.out) | apply Hb.drewN | apply Hb.drew))))
            replace K_ga := Lib.hid (Hb.below (h := h) (by repeat (with_reducible first | exact K_ga.out | apply Hb.put | apply Hb.putP | apply Hb.putV | apply Hb.putW | apply Hb.putH | apply Hb.far N_ga_gt.out | apply Hb.far N_ga_gr.out | apply Hb.drewN | apply Hb.drew)) hb)
            replace K_gt := Lib.hid (blk_below (o := .cells #[.bool ti, .int .u64 tc, .int .u64 tv, .int .u64 tv2, .int .u64 tn, .bool tg] 27 (0, 0)) (by repeat (with_reducible first | exact K_gt.out | apply blk_drewN | apply blk_drew | refine blk_far ?_ (show gt ≠ _ from (Ne.symm N_ga_gt.out)) _ | refine blk_far ?_ (show gt ≠ _ from N_gt_gr.out) _)) hb)
            replace K_gr := Lib.hid (Hb.below (h := Ht.zero) (by repeat (with_reducible first | exact K_gr.out | apply Hb.put | apply Hb.putP | apply Hb.putV | apply Hb.putW | apply Hb.putH | apply Hb.far (Ne.symm N_ga_gr.out) | apply Hb.far (Ne.symm N_gt_gr.out) | apply Hb.drewN | apply Hb.drew)) hb)
            have K_gk := Lib.hid (show Hb w_7 gk Ht.zero from H1)
            clear hg hb H1 hB_6
            refine store_hart rfl (.tmp 5) (.tmp 16) rfl gk h rfl rfl Ht.zero K_gk.out ?_
            have hB_10 := Lib.hid (setCells_below G_gk.out (Ht.cs h).toList 0 _ hB_9.out)
            replace K_ga := Lib.hid (Hb.farAll (vs := (Ht.cs h).toList) (o := 0) N_ga_gk.out K_ga.out)
            replace K_gt := Lib.hid (setCells_far' (vs := (Ht.cs h).toList) (o := 0) N_gt_gk.out K_gt.out)
            replace K_gr := Lib.hid (Hb.farAll (vs := (Ht.cs h).toList) (o := 0) N_gr_gk.out K_gr.out)
            replace K_gk := Lib.hid (Hb.putAll h K_gk.out)
            clear hB_9
            generalize World.setCells w_7 gk 0 (Ht.cs h).toList = w_8 at K_ga K_gt K_gr K_gk hB_10 ⊢
            have c_gt_1 := (show World.cell? _ ⟨gt, 1, none⟩ = some (.int .u64 tc) from (blk_cell K_gt.out 1).trans rfl); have f_gt_1 := blk_frozen K_gt.out 1
            have c_gk_35 := K_gk.out.cw; have f_gk_35 := K_gk.out.fr 35
            have c_gk_36 := K_gk.out.ch; have f_gk_36 := K_gk.out.fr 36
            have c_gk_37 := K_gk.out.u 37 rfl; have f_gk_37 := K_gk.out.fr 37
            go_upto_region 7 with (first | (go_at_call 17; refine (bit_c _ _ _ (by decide)).mono ?_; rintro e_ w_ ⟨rfl, ⟨n_, rfl⟩⟩) | (go_at_call 21; refine (with_c _ _ _ _ (by decide)).mono ?_; rintro e_ w_ ⟨rfl, ⟨n_, rfl⟩⟩) | (go_at_call 22; refine (rplace_c _ _ _).mono ?_; rintro e_ w_ ⟨rfl, ⟨n_, rfl⟩⟩))
            refine wp_region_list ?_
            refine load_hart (h := h) rfl (.tmp 2) rfl ga rfl (by repeat (with_reducible first | exact K_ga.out | apply Hb.put | apply Hb.putP | apply Hb.putV | apply Hb.putW | apply Hb.putH | apply Hb.far N_ga_gt.out | apply Hb.far N_ga_gr.out | apply Hb.far N_ga_gk.out | apply Hb.drewN | apply Hb.drew)) ?_
            go_wp2_with fail
            refine (rto_c h tc _ C0.out).mono ?_
            rintro e_11 w_12 ⟨rfl, hb⟩
            clear c_gt_1 f_gt_1 c_gk_35 f_gk_35 c_gk_36 f_gk_36 c_gk_37 f_gk_37
            have hB_13 := Lib.hid (below_step (by repeat (first | (with_reducible first | exact hB_10.out | apply pw_below_drewN | apply below_drew1 | refine below_set ?_ G_ga.out | refine below_set ?_ G_gt.out | refine below_set ?_ G_gr.out | refine below_set ?_ G_gk.out) | exact hB_10.out)) hb)
            have k_ga := Lib.hid (Hb.below (h := h) (by repeat (with_reducible first | exact K_ga.out | apply Hb.put | apply Hb.putP | apply Hb.putV | apply Hb.putW | apply Hb.putH | apply Hb.far N_ga_gt.out | apply Hb.far N_ga_gr.out | apply Hb.far N_ga_gk.out | apply Hb.drewN | apply Hb.drew)) hb)
            have k_gt := Lib.hid (blk_below (o := .cells #[.bool ti, .int .u64 tc, .int .u64 tv, .int .u64 tv2, .int .u64 tn, .bool tg] 27 (0, 0)) (by repeat (with_reducible first | exact K_gt.out | apply blk_drewN | apply blk_drew | refine blk_far ?_ (show gt ≠ _ from (Ne.symm N_ga_gt.out)) _ | refine blk_far ?_ (show gt ≠ _ from N_gt_gr.out) _ | refine blk_far ?_ (show gt ≠ _ from N_gt_gk.out) _)) hb)
            have k_gr := Lib.hid (Hb.below (h := Ht.zero) (by repeat (with_reducible first | exact K_gr.out | apply Hb.put | apply Hb.putP | apply Hb.putV | apply Hb.putW | apply Hb.putH | apply Hb.far (Ne.symm N_ga_gr.out) | apply Hb.far (Ne.symm N_gt_gr.out) | apply Hb.far N_gr_gk.out | apply Hb.drewN | apply Hb.drew)) hb)
            have k_gk := Lib.hid (Hb.below (h := (Ht.set { ({ h with wt := false } : Ht) with hl := false } 37 0)) (by repeat (with_reducible first | exact K_gk.out | apply Hb.put | apply Hb.putP | apply Hb.putV | apply Hb.putW | apply Hb.putH | apply Hb.far (Ne.symm N_ga_gk.out) | apply Hb.far (Ne.symm N_gt_gk.out) | apply Hb.far (Ne.symm N_gr_gk.out) | apply Hb.drewN | apply Hb.drew)) hb)
            clear hb K_ga K_gt K_gr K_gk hB_10
            have K_ga := k_ga; clear k_ga
            have K_gt := k_gt; clear k_gt
            have K_gr := k_gr; clear k_gr
            have K_gk := k_gk; clear k_gk
            have n_1 := N_ga_gk.out; have n_2 := Ne.symm N_ga_gk.out; have n_3 := N_gt_gk.out; have n_4 := Ne.symm N_gt_gk.out
            have c_gt_1 := (show World.cell? _ ⟨gt, 1, none⟩ = some (.int .u64 tc) from (blk_cell K_gt.out 1).trans rfl); have f_gt_1 := blk_frozen K_gt.out 1
            have c_gt_2 := (show World.cell? _ ⟨gt, 2, none⟩ = some (.int .u64 tv) from (blk_cell K_gt.out 2).trans rfl); have f_gt_2 := blk_frozen K_gt.out 2
            have c_ga_0 := K_ga.out.u 0 rfl; have f_ga_0 := K_ga.out.fr 0
            have c_ga_33 := K_ga.out.p; have f_ga_33 := K_ga.out.fr 33
            have c_ga_68 := K_ga.out.u 68 rfl; have f_ga_68 := K_ga.out.fr 68
            have c_ga_69 := K_ga.out.u 69 rfl; have f_ga_69 := K_ga.out.fr 69
            have c_gk_0 := K_gk.out.u 0 rfl; have f_gk_0 := K_gk.out.fr 0
            have c_gk_33 := K_gk.out.p; have f_gk_33 := K_gk.out.fr 33
            have c_gk_68 := K_gk.out.u 68 rfl; have f_gk_68 := K_gk.out.fr 68
            have c_gk_71 := K_gk.out.u 71 rfl; have f_gk_71 := K_gk.out.fr 71
            have c_gk_72 := K_gk.out.u 72 rfl; have f_gk_72 := K_gk.out.fr 72
            have c_gk_73 := K_gk.out.u 73 rfl; have f_gk_73 := K_gk.out.fr 73
            go_upto_region 47 with (first | (go_at_call 17; refine (bit_c _ _ _ (by decide)).mono ?_; rintro e_ w_ ⟨rfl, ⟨n_, rfl⟩⟩) | (go_at_call 21; refine (with_c _ _ _ _ (by decide)).mono ?_; rintro e_ w_ ⟨rfl, ⟨n_, rfl⟩⟩) | (go_at_call 22; refine (rplace_c _ _ _).mono ?_; rintro e_ w_ ⟨rfl, ⟨n_, rfl⟩⟩))
            refine world_code gk (by repeat (with_reducible first | exact K_gk.out | apply Hb.put | apply Hb.putP | apply Hb.putV | apply Hb.putW | apply Hb.putH | apply Hb.far (Ne.symm N_ga_gk.out) | apply Hb.far (Ne.symm N_gt_gk.out) | apply Hb.far (Ne.symm N_gr_gk.out) | apply Hb.drewN | apply Hb.drew)) (fun w' => Below w.heap.size w w' ∧ Hb w' ga h ∧ w'.heap[gt]? = some (.cells #[.bool ti, .int .u64 tc, .int .u64 tv, .int .u64 tv2, .int .u64 tn, .bool tg] 27 (0, 0)) ∧ Hb w' gr Ht.zero) ⟨(by repeat (first | (with_reducible first | exact hB_13.out | apply pw_below_drewN | apply below_drew1 | refine below_set ?_ G_ga.out | refine below_set ?_ G_gt.out | refine below_set ?_ G_gr.out | refine below_set ?_ G_gk.out) | exact hB_13.out)), (by repeat (with_reducible first | exact K_ga.out | apply Hb.put | apply Hb.putP | apply Hb.putV | apply Hb.putW | apply Hb.putH | apply Hb.far N_ga_gt.out | apply Hb.far N_ga_gr.out | apply Hb.far N_ga_gk.out | apply Hb.drewN | apply Hb.drew)), (by repeat (with_reducible first | exact K_gt.out | apply blk_drewN | apply blk_drew | refine blk_far ?_ (show gt ≠ _ from (Ne.symm N_ga_gt.out)) _ | refine blk_far ?_ (show gt ≠ _ from N_gt_gr.out) _ | refine blk_far ?_ (show gt ≠ _ from N_gt_gk.out) _)), (by repeat (with_reducible first | exact K_gr.out | apply Hb.put | apply Hb.putP | apply Hb.putV | apply Hb.putW | apply Hb.putH | apply Hb.far (Ne.symm N_ga_gr.out) | apply Hb.far (Ne.symm N_gt_gr.out) | apply Hb.far N_gr_gk.out | apply Hb.drewN | apply Hb.drew))⟩ ?_
            clear c_gt_1 f_gt_1 c_gt_2 f_gt_2 c_ga_0 f_ga_0 c_ga_33 f_ga_33 c_ga_68 f_ga_68 c_ga_69 f_ga_69 c_gk_0 f_gk_0 c_gk_33 f_gk_33 c_gk_68 f_gk_68 c_gk_71 f_gk_71 c_gk_72 f_gk_72 c_gk_73 f_gk_73
            clear K_ga K_gt K_gr K_gk hB_13
            rintro w_14 q_ ⟨b_, q_ga, q_gt, q_gr⟩
            have K_gk := Lib.hid q_; have hB_15 := Lib.hid b_; have K_ga := Lib.hid q_ga; have K_gt := Lib.hid q_gt; have K_gr := Lib.hid q_gr
            clear q_ b_ q_ga q_gt q_gr
            have c_ga_33 := K_ga.out.p; have f_ga_33 := K_ga.out.fr 33
            have c_ga_68 := K_ga.out.u 68 rfl; have f_ga_68 := K_ga.out.fr 68
            have c_ga_69 := K_ga.out.u 69 rfl; have f_ga_69 := K_ga.out.fr 69
            have c_gk_0 := K_gk.out.u 0 rfl; have f_gk_0 := K_gk.out.fr 0
            have c_gk_68 := K_gk.out.u 68 rfl; have f_gk_68 := K_gk.out.fr 68
            go_quiet (first | (go_at_call 17; refine (bit_c _ _ _ (by decide)).mono ?_; rintro e_ w_ ⟨rfl, ⟨n_, rfl⟩⟩; (try first | exact ⟨rfl, _, World.drewN_drewN _ _ _⟩ | exact ⟨rfl, _, Eq.trans (World.drewN_drewN _ _ _) (congrArg (World.drewN _) (Nat.add_assoc _ _ _))⟩)) | (go_at_call 21; refine (with_c _ _ _ _ (by decide)).mono ?_; rintro e_ w_ ⟨rfl, ⟨n_, rfl⟩⟩; (try first | exact ⟨rfl, _, World.drewN_drewN _ _ _⟩ | exact ⟨rfl, _, Eq.trans (World.drewN_drewN _ _ _) (congrArg (World.drewN _) (Nat.add_assoc _ _ _))⟩)) | (go_at_call 22; refine (rplace_c _ _ _).mono ?_; rintro e_ w_ ⟨rfl, ⟨n_, rfl⟩⟩; (try first | exact ⟨rfl, _, World.drewN_drewN _ _ _⟩ | exact ⟨rfl, _, Eq.trans (World.drewN_drewN _ _ _) (congrArg (World.drewN _) (Nat.add_assoc _ _ _))⟩)))
            go_upto_region 51 with (first | (go_at_call 17; refine (bit_c _ _ _ (by decide)).mono ?_; rintro e_ w_ ⟨rfl, ⟨n_, rfl⟩⟩) | (go_at_call 21; refine (with_c _ _ _ _ (by decide)).mono ?_; rintro e_ w_ ⟨rfl, ⟨n_, rfl⟩⟩) | (go_at_call 22; refine (rplace_c _ _ _).mono ?_; rintro e_ w_ ⟨rfl, ⟨n_, rfl⟩⟩))
            refine wp_region_list ?_
            refine load_hart (h := _) rfl (.tmp 5) rfl gk rfl (by repeat (with_reducible first | exact K_gk.out | apply Hb.put | apply Hb.putP | apply Hb.putV | apply Hb.putW | apply Hb.putH | apply Hb.far (Ne.symm N_ga_gk.out) | apply Hb.far (Ne.symm N_gt_gk.out) | apply Hb.far (Ne.symm N_gr_gk.out) | apply Hb.drewN | apply Hb.drew)) ?_
            refine store_hart rfl (.tmp 4) (.tmp 177) rfl gr _ rfl rfl Ht.zero (by repeat (with_reducible first | exact K_gr.out | apply Hb.put | apply Hb.putP | apply Hb.putV | apply Hb.putW | apply Hb.putH | apply Hb.far (Ne.symm N_ga_gr.out) | apply Hb.far (Ne.symm N_gt_gr.out) | apply Hb.far N_gr_gk.out | apply Hb.drewN | apply Hb.drew)) ?_
            go_wp2
            refine bodyPost_ret (results_cell_row rfl _ _ gr 25 _ (0, 0) _ rfl (Hb.putAll _ (by repeat (with_reducible first | exact K_gr.out | apply Hb.put | apply Hb.putP | apply Hb.putV | apply Hb.putW | apply Hb.putH | apply Hb.far (Ne.symm N_ga_gr.out) | apply Hb.far (Ne.symm N_gt_gr.out) | apply Hb.far N_gr_gk.out | apply Hb.drewN | apply Hb.drew))) Try.underlying25 rfl (by rw [Ht.size]; exact hartSize)) rfl ?_
            exact ⟨by (first | rfl | (simp only [renter, renterM, renterH, renterG, rguestCause, t0, t1, e2, e6, if_true, if_false, Bool.false_eq_true, cond_true, cond_false]; done) | (simp only [renter, renterM, renterH, renterG, rguestCause, t0, t1, e2, e6, if_true, if_false, Bool.false_eq_true, cond_true, cond_false]; rfl)), setCells_below G_gr.out _ _ _ (by repeat (first | (with_reducible first | exact hB_15.out | apply pw_below_drewN | apply below_drew1 | refine below_set ?_ G_ga.out | refine below_set ?_ G_gt.out | refine below_set ?_ G_gr.out | refine below_set ?_ G_gk.out) | exact hB_15.out))⟩
        · skip
          have C0 := Lib.hid c0; have C1 := Lib.hid c1
          clear c0 c1
          have hu25 := Try.underlying25
          go_enter Try.func9, Try.ntmps9
          have hu27 := Try.underlying27
          go_upto_region 3 with (first | ((with_reducible refine gate_dst (N := 2) rfl ?_); refine box_event ?hg (N := 2) ?hd (cs := h.cs) (t := 25) ?hr ?_; (case hd => rfl); (case hg => rfl); (case hr => first | (go_simp; done) | (go_simp; rfl)); intro ga hg w_1 H1 hb; have hB_2 := Lib.hid (below_step (Below.refl w.heap.size w) hb); have G_ga := Lib.hid (show w.heap.size ≤ ga by rw [hg]; exact ((Below.refl w.heap.size w)).size); have K_ga := Lib.hid (show Hb w_1 ga h from H1); clear hg hb H1) | ((with_reducible refine gate_dst (N := 3) rfl ?_); refine box_event ?hg (N := 3) ?hd (cs := #[.bool ti, .int .u64 tc, .int .u64 tv, .int .u64 tv2, .int .u64 tn, .bool tg]) (t := 27) ?hr ?_; (case hd => rfl); (case hg => rfl); (case hr => first | (go_simp; done) | (go_simp; rfl)); intro gt hg w_3 H1 hb; have hB_4 := Lib.hid (below_step hB_2.out hb); have G_gt := Lib.hid (show w.heap.size ≤ gt by rw [hg]; exact (hB_2.out).size); have N_ga_gt := Lib.hid (show ga ≠ gt by rw [hg]; exact Nat.ne_of_lt (K_ga.out.lt)); replace K_ga := Lib.hid (K_ga.out.below hb); have K_gt := Lib.hid (show w_3.heap[gt]? = some (.cells #[.bool ti, .int .u64 tc, .int .u64 tv, .int .u64 tv2, .int .u64 tn, .bool tg] 27 (0, 0)) from H1); clear hg hb H1 hB_2) | ((with_reducible refine gate_dst (N := 4) rfl ?_); refine box_event ?hg (N := 4) ?hd (cs := Ht.zero.cs) (t := 25) ?hr ?_; (case hd => rfl); (case hg => rfl); (case hr => first | (go_simp; done) | (go_simp; rfl)); intro gr hg w_5 H1 hb; have hB_6 := Lib.hid (below_step hB_4.out hb); have G_gr := Lib.hid (show w.heap.size ≤ gr by rw [hg]; exact (hB_4.out).size); have N_ga_gr := Lib.hid (show ga ≠ gr by rw [hg]; exact Nat.ne_of_lt (K_ga.out.lt)); have N_gt_gr := Lib.hid (show gt ≠ gr by rw [hg]; exact Nat.ne_of_lt (blk_lt K_gt.out)); replace K_ga := Lib.hid (K_ga.out.below hb); replace K_gt := Lib.hid (blk_below K_gt.out hb); have K_gr := Lib.hid (show Hb w_5 gr Ht.zero from H1); clear hg hb H1 hB_4; have c_gt_0 := (show World.cell? _ ⟨gt, 0, none⟩ = some (.bool ti) from (blk_cell K_gt.out 0).trans rfl); have f_gt_0 := blk_frozen K_gt.out 0; have c_gt_1 := (show World.cell? _ ⟨gt, 1, none⟩ = some (.int .u64 tc) from (blk_cell K_gt.out 1).trans rfl); have f_gt_1 := blk_frozen K_gt.out 1; clear hu25 hu27))
          go_upto_region 3 with (first | (go_at_call 17; refine (bit_c _ _ _ (by decide)).mono ?_; rintro e_ w_ ⟨rfl, ⟨n_, rfl⟩⟩) | (go_at_call 21; refine (with_c _ _ _ _ (by decide)).mono ?_; rintro e_ w_ ⟨rfl, ⟨n_, rfl⟩⟩) | (go_at_call 22; refine (rplace_c _ _ _).mono ?_; rintro e_ w_ ⟨rfl, ⟨n_, rfl⟩⟩))
          have hu25 := Try.underlying25
          refine wp_region_list ?_
          refine load_hart (h := h) rfl (.tmp 2) rfl ga rfl (by repeat (with_reducible first | exact K_ga.out | apply Hb.put | apply Hb.putP | apply Hb.putV | apply Hb.putW | apply Hb.putH | apply Hb.far N_ga_gt.out | apply Hb.far N_ga_gr.out | apply Hb.drewN | apply Hb.drew)) ?_
          refine box_event rfl (N := 5) rfl (cs := Ht.zero.cs) (t := 25) (by first | (go_simp; done) | (go_simp; rfl)) ?_
          intro gk hg w_7 H1 hb
          clear hu25
          clear c_gt_0 f_gt_0 c_gt_1 f_gt_1
          have hB_9 := Lib.hid (below_step (by repeat (first | (with_reducible first | exact hB_6.out | apply pw_below_drewN | apply below_drew1 | refine below_set ?_ G_ga.out | refine below_set ?_ G_gt.out | refine below_set ?_ G_gr.out) | exact hB_6.out)) hb)
          have G_gk := Lib.hid (show w.heap.size ≤ gk by rw [hg]; exact below_size (w := w) (by repeat (first | (with_reducible first | exact hB_6.out | apply pw_below_drewN | apply below_drew1 | refine below_set ?_ G_ga.out | refine below_set ?_ G_gt.out | refine below_set ?_ G_gr.out) | exact hB_6.out)))
          have N_ga_gk := Lib.hid (show ga ≠ gk by rw [hg]; exact Nat.ne_of_lt (Hb.lt (h := h) (by repeat (with_reducible first | exact K_ga.out | apply Hb.put | apply Hb.putP | apply Hb.putV | apply Hb.putW | apply Hb.putH | apply Hb.far N_ga_gt.out | apply Hb.far N_ga_gr.out | apply Hb.drewN | apply Hb.drew))))
          have N_gt_gk := Lib.hid (show gt ≠ gk by rw [hg]; exact Nat.ne_of_lt (blk_lt (o := .cells #[.bool ti, .int .u64 tc, .int .u64 tv, .int .u64 tv2, .int .u64 tn, .bool tg] 27 (0, 0)) (by repeat (with_reducible first | exact K_gt.out | apply blk_drewN | apply blk_drew | refine blk_far ?_ (show gt ≠ _ from (Ne.symm N_ga_gt.out)) _ | refine blk_far ?_ (show gt ≠ _ from N_gt_gr.out) _))))
          have N_gr_gk := Lib.hid (show gr ≠ gk by rw [hg]; exact Nat.ne_of_lt (Hb.lt (h := Ht.zero) (by repeat (with_reducible first | exact K_gr.out | apply Hb.put | apply Hb.putP | apply Hb.putV | apply Hb.putW | apply Hb.putH | apply Hb.far (Ne.symm N_ga_gr.out) | apply Hb.far (Ne.symm N_gt_gr.out) | apply Hb.drewN | apply Hb.drew))))
          replace K_ga := Lib.hid (Hb.below (h := h) (by repeat (with_reducible first | exact K_ga.out | apply Hb.put | apply Hb.putP | apply Hb.putV | apply Hb.putW | apply Hb.putH | apply Hb.far N_ga_gt.out | apply Hb.far N_ga_gr.out | apply Hb.drewN | apply Hb.drew)) hb)
          replace K_gt := Lib.hid (blk_below (o := .cells #[.bool ti, .int .u64 tc, .int .u64 tv, .int .u64 tv2, .int .u64 tn, .bool tg] 27 (0, 0)) (by repeat (with_reducible first | exact K_gt.out | apply blk_drewN | apply blk_drew | refine blk_far ?_ (show gt ≠ _ from (Ne.symm N_ga_gt.out)) _ | refine blk_far ?_ (show gt ≠ _ from N_gt_gr.out) _)) hb)
          replace K_gr := Lib.hid (Hb.below (h := Ht.zero) (by repeat (with_reducible first | exact K_gr.out | apply Hb.put | apply Hb.putP | apply Hb.putV | apply Hb.putW | apply Hb.putH | apply Hb.far (Ne.symm N_ga_gr.out) | apply Hb.far (Ne.symm N_gt_gr.out) | apply Hb.drewN | apply Hb.drew)) hb)
          have K_gk := Lib.hid (show Hb w_7 gk Ht.zero from H1)
          clear hg hb H1 hB_6
          refine store_hart rfl (.tmp 5) (.tmp 16) rfl gk h rfl rfl Ht.zero K_gk.out ?_
          have hB_10 := Lib.hid (setCells_below G_gk.out (Ht.cs h).toList 0 _ hB_9.out)
          replace K_ga := Lib.hid (Hb.farAll (vs := (Ht.cs h).toList) (o := 0) N_ga_gk.out K_ga.out)
          replace K_gt := Lib.hid (setCells_far' (vs := (Ht.cs h).toList) (o := 0) N_gt_gk.out K_gt.out)
          replace K_gr := Lib.hid (Hb.farAll (vs := (Ht.cs h).toList) (o := 0) N_gr_gk.out K_gr.out)
          replace K_gk := Lib.hid (Hb.putAll h K_gk.out)
          clear hB_9
          generalize World.setCells w_7 gk 0 (Ht.cs h).toList = w_8 at K_ga K_gt K_gr K_gk hB_10 ⊢
          have c_gt_1 := (show World.cell? _ ⟨gt, 1, none⟩ = some (.int .u64 tc) from (blk_cell K_gt.out 1).trans rfl); have f_gt_1 := blk_frozen K_gt.out 1
          have c_gk_35 := K_gk.out.cw; have f_gk_35 := K_gk.out.fr 35
          have c_gk_36 := K_gk.out.ch; have f_gk_36 := K_gk.out.fr 36
          have c_gk_37 := K_gk.out.u 37 rfl; have f_gk_37 := K_gk.out.fr 37
          go_upto_region 7 with (first | (go_at_call 17; refine (bit_c _ _ _ (by decide)).mono ?_; rintro e_ w_ ⟨rfl, ⟨n_, rfl⟩⟩) | (go_at_call 21; refine (with_c _ _ _ _ (by decide)).mono ?_; rintro e_ w_ ⟨rfl, ⟨n_, rfl⟩⟩) | (go_at_call 22; refine (rplace_c _ _ _).mono ?_; rintro e_ w_ ⟨rfl, ⟨n_, rfl⟩⟩))
          refine wp_region_list ?_
          refine load_hart (h := h) rfl (.tmp 2) rfl ga rfl (by repeat (with_reducible first | exact K_ga.out | apply Hb.put | apply Hb.putP | apply Hb.putV | apply Hb.putW | apply Hb.putH | apply Hb.far N_ga_gt.out | apply Hb.far N_ga_gr.out | apply Hb.far N_ga_gk.out | apply Hb.drewN | apply Hb.drew)) ?_
          go_wp2_with fail
          refine (rto_c h tc _ C0.out).mono ?_
          rintro e_11 w_12 ⟨rfl, hb⟩
          clear c_gt_1 f_gt_1 c_gk_35 f_gk_35 c_gk_36 f_gk_36 c_gk_37 f_gk_37
          have hB_13 := Lib.hid (below_step (by repeat (first | (with_reducible first | exact hB_10.out | apply pw_below_drewN | apply below_drew1 | refine below_set ?_ G_ga.out | refine below_set ?_ G_gt.out | refine below_set ?_ G_gr.out | refine below_set ?_ G_gk.out) | exact hB_10.out)) hb)
          have k_ga := Lib.hid (Hb.below (h := h) (by repeat (with_reducible first | exact K_ga.out | apply Hb.put | apply Hb.putP | apply Hb.putV | apply Hb.putW | apply Hb.putH | apply Hb.far N_ga_gt.out | apply Hb.far N_ga_gr.out | apply Hb.far N_ga_gk.out | apply Hb.drewN | apply Hb.drew)) hb)
          have k_gt := Lib.hid (blk_below (o := .cells #[.bool ti, .int .u64 tc, .int .u64 tv, .int .u64 tv2, .int .u64 tn, .bool tg] 27 (0, 0)) (by repeat (with_reducible first | exact K_gt.out | apply blk_drewN | apply blk_drew | refine blk_far ?_ (show gt ≠ _ from (Ne.symm N_ga_gt.out)) _ | refine blk_far ?_ (show gt ≠ _ from N_gt_gr.out) _ | refine blk_far ?_ (show gt ≠ _ from N_gt_gk.out) _)) hb)
          have k_gr := Lib.hid (Hb.below (h := Ht.zero) (by repeat (with_reducible first | exact K_gr.out | apply Hb.put | apply Hb.putP | apply Hb.putV | apply Hb.putW | apply Hb.putH | apply Hb.far (Ne.symm N_ga_gr.out) | apply Hb.far (Ne.symm N_gt_gr.out) | apply Hb.far N_gr_gk.out | apply Hb.drewN | apply Hb.drew)) hb)
          have k_gk := Lib.hid (Hb.below (h := (Ht.set { ({ h with wt := false } : Ht) with hl := false } 37 0)) (by repeat (with_reducible first | exact K_gk.out | apply Hb.put | apply Hb.putP | apply Hb.putV | apply Hb.putW | apply Hb.putH | apply Hb.far (Ne.symm N_ga_gk.out) | apply Hb.far (Ne.symm N_gt_gk.out) | apply Hb.far (Ne.symm N_gr_gk.out) | apply Hb.drewN | apply Hb.drew)) hb)
          clear hb K_ga K_gt K_gr K_gk hB_10
          have K_ga := k_ga; clear k_ga
          have K_gt := k_gt; clear k_gt
          have K_gr := k_gr; clear k_gr
          have K_gk := k_gk; clear k_gk
          have n_1 := N_ga_gk.out; have n_2 := Ne.symm N_ga_gk.out; have n_3 := N_gt_gk.out; have n_4 := Ne.symm N_gt_gk.out
          have c_gt_1 := (show World.cell? _ ⟨gt, 1, none⟩ = some (.int .u64 tc) from (blk_cell K_gt.out 1).trans rfl); have f_gt_1 := blk_frozen K_gt.out 1
          have c_gt_2 := (show World.cell? _ ⟨gt, 2, none⟩ = some (.int .u64 tv) from (blk_cell K_gt.out 2).trans rfl); have f_gt_2 := blk_frozen K_gt.out 2
          have c_ga_0 := K_ga.out.u 0 rfl; have f_ga_0 := K_ga.out.fr 0
          have c_ga_33 := K_ga.out.p; have f_ga_33 := K_ga.out.fr 33
          have c_ga_68 := K_ga.out.u 68 rfl; have f_ga_68 := K_ga.out.fr 68
          have c_ga_69 := K_ga.out.u 69 rfl; have f_ga_69 := K_ga.out.fr 69
          have c_gk_0 := K_gk.out.u 0 rfl; have f_gk_0 := K_gk.out.fr 0
          have c_gk_33 := K_gk.out.p; have f_gk_33 := K_gk.out.fr 33
          have c_gk_68 := K_gk.out.u 68 rfl; have f_gk_68 := K_gk.out.fr 68
          have c_gk_71 := K_gk.out.u 71 rfl; have f_gk_71 := K_gk.out.fr 71
          have c_gk_72 := K_gk.out.u 72 rfl; have f_gk_72 := K_gk.out.fr 72
          have c_gk_73 := K_gk.out.u 73 rfl; have f_gk_73 := K_gk.out.fr 73
          go_upto_region 47 with (first | (go_at_call 17; refine (bit_c _ _ _ (by decide)).mono ?_; rintro e_ w_ ⟨rfl, ⟨n_, rfl⟩⟩) | (go_at_call 21; refine (with_c _ _ _ _ (by decide)).mono ?_; rintro e_ w_ ⟨rfl, ⟨n_, rfl⟩⟩) | (go_at_call 22; refine (rplace_c _ _ _).mono ?_; rintro e_ w_ ⟨rfl, ⟨n_, rfl⟩⟩))
          refine world_code gk (by repeat (with_reducible first | exact K_gk.out | apply Hb.put | apply Hb.putP | apply Hb.putV | apply Hb.putW | apply Hb.putH | apply Hb.far (Ne.symm N_ga_gk.out) | apply Hb.far (Ne.symm N_gt_gk.out) | apply Hb.far (Ne.symm N_gr_gk.out) | apply Hb.drewN | apply Hb.drew)) (fun w' => Below w.heap.size w w' ∧ Hb w' ga h ∧ w'.heap[gt]? = some (.cells #[.bool ti, .int .u64 tc, .int .u64 tv, .int .u64 tv2, .int .u64 tn, .bool tg] 27 (0, 0)) ∧ Hb w' gr Ht.zero) ⟨(by repeat (first | (with_reducible first | exact hB_13.out | apply pw_below_drewN | apply below_drew1 | refine below_set ?_ G_ga.out | refine below_set ?_ G_gt.out | refine below_set ?_ G_gr.out | refine below_set ?_ G_gk.out) | exact hB_13.out)), (by repeat (with_reducible first | exact K_ga.out | apply Hb.put | apply Hb.putP | apply Hb.putV | apply Hb.putW | apply Hb.putH | apply Hb.far N_ga_gt.out | apply Hb.far N_ga_gr.out | apply Hb.far N_ga_gk.out | apply Hb.drewN | apply Hb.drew)), (by repeat (with_reducible first | exact K_gt.out | apply blk_drewN | apply blk_drew | refine blk_far ?_ (show gt ≠ _ from (Ne.symm N_ga_gt.out)) _ | refine blk_far ?_ (show gt ≠ _ from N_gt_gr.out) _ | refine blk_far ?_ (show gt ≠ _ from N_gt_gk.out) _)), (by repeat (with_reducible first | exact K_gr.out | apply Hb.put | apply Hb.putP | apply Hb.putV | apply Hb.putW | apply Hb.putH | apply Hb.far (Ne.symm N_ga_gr.out) | apply Hb.far (Ne.symm N_gt_gr.out) | apply Hb.far N_gr_gk.out | apply Hb.drewN | apply Hb.drew))⟩ ?_
          clear c_gt_1 f_gt_1 c_gt_2 f_gt_2 c_ga_0 f_ga_0 c_ga_33 f_ga_33 c_ga_68 f_ga_68 c_ga_69 f_ga_69 c_gk_0 f_gk_0 c_gk_33 f_gk_33 c_gk_68 f_gk_68 c_gk_71 f_gk_71 c_gk_72 f_gk_72 c_gk_73 f_gk_73
          clear K_ga K_gt K_gr K_gk hB_13
          rintro w_14 q_ ⟨b_, q_ga, q_gt, q_gr⟩
          have K_gk := Lib.hid q_; have hB_15 := Lib.hid b_; have K_ga := Lib.hid q_ga; have K_gt := Lib.hid q_gt; have K_gr := Lib.hid q_gr
          clear q_ b_ q_ga q_gt q_gr
          have c_ga_33 := K_ga.out.p; have f_ga_33 := K_ga.out.fr 33
          have c_ga_68 := K_ga.out.u 68 rfl; have f_ga_68 := K_ga.out.fr 68
          have c_ga_69 := K_ga.out.u 69 rfl; have f_ga_69 := K_ga.out.fr 69
          have c_gk_0 := K_gk.out.u 0 rfl; have f_gk_0 := K_gk.out.fr 0
          have c_gk_68 := K_gk.out.u 68 rfl; have f_gk_68 := K_gk.out.fr 68
          go_quiet (first | (go_at_call 17; refine (bit_c _ _ _ (by decide)).mono ?_; rintro e_ w_ ⟨rfl, ⟨n_, rfl⟩⟩; (try first | exact ⟨rfl, _, World.drewN_drewN _ _ _⟩ | exact ⟨rfl, _, Eq.trans (World.drewN_drewN _ _ _) (congrArg (World.drewN _) (Nat.add_assoc _ _ _))⟩)) | (go_at_call 21; refine (with_c _ _ _ _ (by decide)).mono ?_; rintro e_ w_ ⟨rfl, ⟨n_, rfl⟩⟩; (try first | exact ⟨rfl, _, World.drewN_drewN _ _ _⟩ | exact ⟨rfl, _, Eq.trans (World.drewN_drewN _ _ _) (congrArg (World.drewN _) (Nat.add_assoc _ _ _))⟩)) | (go_at_call 22; refine (rplace_c _ _ _).mono ?_; rintro e_ w_ ⟨rfl, ⟨n_, rfl⟩⟩; (try first | exact ⟨rfl, _, World.drewN_drewN _ _ _⟩ | exact ⟨rfl, _, Eq.trans (World.drewN_drewN _ _ _) (congrArg (World.drewN _) (Nat.add_assoc _ _ _))⟩)))
          go_upto_region 51 with (first | (go_at_call 17; refine (bit_c _ _ _ (by decide)).mono ?_; rintro e_ w_ ⟨rfl, ⟨n_, rfl⟩⟩) | (go_at_call 21; refine (with_c _ _ _ _ (by decide)).mono ?_; rintro e_ w_ ⟨rfl, ⟨n_, rfl⟩⟩) | (go_at_call 22; refine (rplace_c _ _ _).mono ?_; rintro e_ w_ ⟨rfl, ⟨n_, rfl⟩⟩))
          refine wp_region_list ?_
          refine load_hart (h := _) rfl (.tmp 5) rfl gk rfl (by repeat (with_reducible first | exact K_gk.out | apply Hb.put | apply Hb.putP | apply Hb.putV | apply Hb.putW | apply Hb.putH | apply Hb.far (Ne.symm N_ga_gk.out) | apply Hb.far (Ne.symm N_gt_gk.out) | apply Hb.far (Ne.symm N_gr_gk.out) | apply Hb.drewN | apply Hb.drew)) ?_
          refine store_hart rfl (.tmp 4) (.tmp 177) rfl gr _ rfl rfl Ht.zero (by repeat (with_reducible first | exact K_gr.out | apply Hb.put | apply Hb.putP | apply Hb.putV | apply Hb.putW | apply Hb.putH | apply Hb.far (Ne.symm N_ga_gr.out) | apply Hb.far (Ne.symm N_gt_gr.out) | apply Hb.far N_gr_gk.out | apply Hb.drewN | apply Hb.drew)) ?_
          go_wp2
          refine bodyPost_ret (results_cell_row rfl _ _ gr 25 _ (0, 0) _ rfl (Hb.putAll _ (by repeat (with_reducible first | exact K_gr.out | apply Hb.put | apply Hb.putP | apply Hb.putV | apply Hb.putW | apply Hb.putH | apply Hb.far (Ne.symm N_ga_gr.out) | apply Hb.far (Ne.symm N_gt_gr.out) | apply Hb.far N_gr_gk.out | apply Hb.drewN | apply Hb.drew))) Try.underlying25 rfl (by rw [Ht.size]; exact hartSize)) rfl ?_
          exact ⟨by (first | rfl | (simp only [renter, renterM, renterH, renterG, rguestCause, t0, t1, e2, if_true, if_false, Bool.false_eq_true, cond_true, cond_false]; done) | (simp only [renter, renterM, renterH, renterG, rguestCause, t0, t1, e2, if_true, if_false, Bool.false_eq_true, cond_true, cond_false]; rfl)), setCells_below G_gr.out _ _ _ (by repeat (first | (with_reducible first | exact hB_15.out | apply pw_below_drewN | apply below_drew1 | refine below_set ?_ G_ga.out | refine below_set ?_ G_gt.out | refine below_set ?_ G_gr.out | refine below_set ?_ G_gk.out) | exact hB_15.out))⟩
      · skip
        cases hv : h.v
        · skip
          have C0 := Lib.hid c0; have C1 := Lib.hid c1
          clear c0 c1
          have hu25 := Try.underlying25
          go_enter Try.func9, Try.ntmps9
          have hu27 := Try.underlying27
          go_upto_region 3 with (first | ((with_reducible refine gate_dst (N := 2) rfl ?_); refine box_event ?hg (N := 2) ?hd (cs := h.cs) (t := 25) ?hr ?_; (case hd => rfl); (case hg => rfl); (case hr => first | (go_simp; done) | (go_simp; rfl)); intro ga hg w_1 H1 hb; have hB_2 := Lib.hid (below_step (Below.refl w.heap.size w) hb); have G_ga := Lib.hid (show w.heap.size ≤ ga by rw [hg]; exact ((Below.refl w.heap.size w)).size); have K_ga := Lib.hid (show Hb w_1 ga h from H1); clear hg hb H1) | ((with_reducible refine gate_dst (N := 3) rfl ?_); refine box_event ?hg (N := 3) ?hd (cs := #[.bool ti, .int .u64 tc, .int .u64 tv, .int .u64 tv2, .int .u64 tn, .bool tg]) (t := 27) ?hr ?_; (case hd => rfl); (case hg => rfl); (case hr => first | (go_simp; done) | (go_simp; rfl)); intro gt hg w_3 H1 hb; have hB_4 := Lib.hid (below_step hB_2.out hb); have G_gt := Lib.hid (show w.heap.size ≤ gt by rw [hg]; exact (hB_2.out).size); have N_ga_gt := Lib.hid (show ga ≠ gt by rw [hg]; exact Nat.ne_of_lt (K_ga.out.lt)); replace K_ga := Lib.hid (K_ga.out.below hb); have K_gt := Lib.hid (show w_3.heap[gt]? = some (.cells #[.bool ti, .int .u64 tc, .int .u64 tv, .int .u64 tv2, .int .u64 tn, .bool tg] 27 (0, 0)) from H1); clear hg hb H1 hB_2) | ((with_reducible refine gate_dst (N := 4) rfl ?_); refine box_event ?hg (N := 4) ?hd (cs := Ht.zero.cs) (t := 25) ?hr ?_; (case hd => rfl); (case hg => rfl); (case hr => first | (go_simp; done) | (go_simp; rfl)); intro gr hg w_5 H1 hb; have hB_6 := Lib.hid (below_step hB_4.out hb); have G_gr := Lib.hid (show w.heap.size ≤ gr by rw [hg]; exact (hB_4.out).size); have N_ga_gr := Lib.hid (show ga ≠ gr by rw [hg]; exact Nat.ne_of_lt (K_ga.out.lt)); have N_gt_gr := Lib.hid (show gt ≠ gr by rw [hg]; exact Nat.ne_of_lt (blk_lt K_gt.out)); replace K_ga := Lib.hid (K_ga.out.below hb); replace K_gt := Lib.hid (blk_below K_gt.out hb); have K_gr := Lib.hid (show Hb w_5 gr Ht.zero from H1); clear hg hb H1 hB_4; have c_gt_0 := (show World.cell? _ ⟨gt, 0, none⟩ = some (.bool ti) from (blk_cell K_gt.out 0).trans rfl); have f_gt_0 := blk_frozen K_gt.out 0; have c_gt_1 := (show World.cell? _ ⟨gt, 1, none⟩ = some (.int .u64 tc) from (blk_cell K_gt.out 1).trans rfl); have f_gt_1 := blk_frozen K_gt.out 1; clear hu25 hu27))
          go_upto_region 3 with (first | (go_at_call 17; refine (bit_c _ _ _ (by decide)).mono ?_; rintro e_ w_ ⟨rfl, ⟨n_, rfl⟩⟩) | (go_at_call 21; refine (with_c _ _ _ _ (by decide)).mono ?_; rintro e_ w_ ⟨rfl, ⟨n_, rfl⟩⟩) | (go_at_call 22; refine (rplace_c _ _ _).mono ?_; rintro e_ w_ ⟨rfl, ⟨n_, rfl⟩⟩))
          have hu25 := Try.underlying25
          refine wp_region_list ?_
          refine load_hart (h := h) rfl (.tmp 2) rfl ga rfl (by repeat (with_reducible first | exact K_ga.out | apply Hb.put | apply Hb.putP | apply Hb.putV | apply Hb.putW | apply Hb.putH | apply Hb.far N_ga_gt.out | apply Hb.far N_ga_gr.out | apply Hb.drewN | apply Hb.drew)) ?_
          refine box_event rfl (N := 5) rfl (cs := Ht.zero.cs) (t := 25) (by first | (go_simp; done) | (go_simp; rfl)) ?_
          intro gk hg w_7 H1 hb
          clear hu25
          clear c_gt_0 f_gt_0 c_gt_1 f_gt_1
          have hB_9 := Lib.hid (below_step (by repeat (first | (with_reducible first | exact hB_6.out | apply pw_below_drewN | apply below_drew1 | refine below_set ?_ G_ga.out | refine below_set ?_ G_gt.out | refine below_set ?_ G_gr.out) | exact hB_6.out)) hb)
          have G_gk := Lib.hid (show w.heap.size ≤ gk by rw [hg]; exact below_size (w := w) (by repeat (first | (with_reducible first | exact hB_6.out | apply pw_below_drewN | apply below_drew1 | refine below_set ?_ G_ga.out | refine below_set ?_ G_gt.out | refine below_set ?_ G_gr.out) | exact hB_6.out)))
          have N_ga_gk := Lib.hid (show ga ≠ gk by rw [hg]; exact Nat.ne_of_lt (Hb.lt (h := h) (by repeat (with_reducible first | exact K_ga.out | apply Hb.put | apply Hb.putP | apply Hb.putV | apply Hb.putW | apply Hb.putH | apply Hb.far N_ga_gt.out | apply Hb.far N_ga_gr.out | apply Hb.drewN | apply Hb.drew))))
          have N_gt_gk := Lib.hid (show gt ≠ gk by rw [hg]; exact Nat.ne_of_lt (blk_lt (o := .cells #[.bool ti, .int .u64 tc, .int .u64 tv, .int .u64 tv2, .int .u64 tn, .bool tg] 27 (0, 0)) (by repeat (with_reducible first | exact K_gt.out | apply blk_drewN | apply blk_drew | refine blk_far ?_ (show gt ≠ _ from (Ne.symm N_ga_gt.out)) _ | refine blk_far ?_ (show gt ≠ _ from N_gt_gr.out) _))))
          have N_gr_gk := Lib.hid (show gr ≠ gk by rw [hg]; exact Nat.ne_of_lt (Hb.lt (h := Ht.zero) (by repeat (with_reducible first | exact K_gr.out | apply Hb.put | apply Hb.putP | apply Hb.putV | apply Hb.putW | apply Hb.putH | apply Hb.far (Ne.symm N_ga_gr.out) | apply Hb.far (Ne.symm N_gt_gr.out) | apply Hb.drewN | apply Hb.drew))))
          replace K_ga := Lib.hid (Hb.below (h := h) (by repeat (with_reducible first | exact K_ga.out | apply Hb.put | apply Hb.putP | apply Hb.putV | apply Hb.putW | apply Hb.putH | apply Hb.far N_ga_gt.out | apply Hb.far N_ga_gr.out | apply Hb.drewN | apply Hb.drew)) hb)
          replace K_gt := Lib.hid (blk_below (o := .cells #[.bool ti, .int .u64 tc, .int .u64 tv, .int .u64 tv2, .int .u64 tn, .bool tg] 27 (0, 0)) (by repeat (with_reducible first | exact K_gt.out | apply blk_drewN | apply blk_drew | refine blk_far ?_ (show gt ≠ _ from (Ne.symm N_ga_gt.out)) _ | refine blk_far ?_ (show gt ≠ _ from N_gt_gr.out) _)) hb)
          replace K_gr := Lib.hid (Hb.below (h := Ht.zero) (by repeat (with_reducible first | exact K_gr.out | apply Hb.put | apply Hb.putP | apply Hb.putV | apply Hb.putW | apply Hb.putH | apply Hb.far (Ne.symm N_ga_gr.out) | apply Hb.far (Ne.symm N_gt_gr.out) | apply Hb.drewN | apply Hb.drew)) hb)
          have K_gk := Lib.hid (show Hb w_7 gk Ht.zero from H1)
          clear hg hb H1 hB_6
          refine store_hart rfl (.tmp 5) (.tmp 16) rfl gk h rfl rfl Ht.zero K_gk.out ?_
          have hB_10 := Lib.hid (setCells_below G_gk.out (Ht.cs h).toList 0 _ hB_9.out)
          replace K_ga := Lib.hid (Hb.farAll (vs := (Ht.cs h).toList) (o := 0) N_ga_gk.out K_ga.out)
          replace K_gt := Lib.hid (setCells_far' (vs := (Ht.cs h).toList) (o := 0) N_gt_gk.out K_gt.out)
          replace K_gr := Lib.hid (Hb.farAll (vs := (Ht.cs h).toList) (o := 0) N_gr_gk.out K_gr.out)
          replace K_gk := Lib.hid (Hb.putAll h K_gk.out)
          clear hB_9
          generalize World.setCells w_7 gk 0 (Ht.cs h).toList = w_8 at K_ga K_gt K_gr K_gk hB_10 ⊢
          have c_gt_1 := (show World.cell? _ ⟨gt, 1, none⟩ = some (.int .u64 tc) from (blk_cell K_gt.out 1).trans rfl); have f_gt_1 := blk_frozen K_gt.out 1
          have c_gk_35 := K_gk.out.cw; have f_gk_35 := K_gk.out.fr 35
          have c_gk_36 := K_gk.out.ch; have f_gk_36 := K_gk.out.fr 36
          have c_gk_37 := K_gk.out.u 37 rfl; have f_gk_37 := K_gk.out.fr 37
          go_upto_region 7 with (first | (go_at_call 17; refine (bit_c _ _ _ (by decide)).mono ?_; rintro e_ w_ ⟨rfl, ⟨n_, rfl⟩⟩) | (go_at_call 21; refine (with_c _ _ _ _ (by decide)).mono ?_; rintro e_ w_ ⟨rfl, ⟨n_, rfl⟩⟩) | (go_at_call 22; refine (rplace_c _ _ _).mono ?_; rintro e_ w_ ⟨rfl, ⟨n_, rfl⟩⟩))
          refine wp_region_list ?_
          refine load_hart (h := h) rfl (.tmp 2) rfl ga rfl (by repeat (with_reducible first | exact K_ga.out | apply Hb.put | apply Hb.putP | apply Hb.putV | apply Hb.putW | apply Hb.putH | apply Hb.far N_ga_gt.out | apply Hb.far N_ga_gr.out | apply Hb.far N_ga_gk.out | apply Hb.drewN | apply Hb.drew)) ?_
          go_wp2_with fail
          refine (rto_c h tc _ C0.out).mono ?_
          rintro e_11 w_12 ⟨rfl, hb⟩
          clear c_gt_1 f_gt_1 c_gk_35 f_gk_35 c_gk_36 f_gk_36 c_gk_37 f_gk_37
          have hB_13 := Lib.hid (below_step (by repeat (first | (with_reducible first | exact hB_10.out | apply pw_below_drewN | apply below_drew1 | refine below_set ?_ G_ga.out | refine below_set ?_ G_gt.out | refine below_set ?_ G_gr.out | refine below_set ?_ G_gk.out) | exact hB_10.out)) hb)
          have k_ga := Lib.hid (Hb.below (h := h) (by repeat (with_reducible first | exact K_ga.out | apply Hb.put | apply Hb.putP | apply Hb.putV | apply Hb.putW | apply Hb.putH | apply Hb.far N_ga_gt.out | apply Hb.far N_ga_gr.out | apply Hb.far N_ga_gk.out | apply Hb.drewN | apply Hb.drew)) hb)
          have k_gt := Lib.hid (blk_below (o := .cells #[.bool ti, .int .u64 tc, .int .u64 tv, .int .u64 tv2, .int .u64 tn, .bool tg] 27 (0, 0)) (by repeat (with_reducible first | exact K_gt.out | apply blk_drewN | apply blk_drew | refine blk_far ?_ (show gt ≠ _ from (Ne.symm N_ga_gt.out)) _ | refine blk_far ?_ (show gt ≠ _ from N_gt_gr.out) _ | refine blk_far ?_ (show gt ≠ _ from N_gt_gk.out) _)) hb)
          have k_gr := Lib.hid (Hb.below (h := Ht.zero) (by repeat (with_reducible first | exact K_gr.out | apply Hb.put | apply Hb.putP | apply Hb.putV | apply Hb.putW | apply Hb.putH | apply Hb.far (Ne.symm N_ga_gr.out) | apply Hb.far (Ne.symm N_gt_gr.out) | apply Hb.far N_gr_gk.out | apply Hb.drewN | apply Hb.drew)) hb)
          have k_gk := Lib.hid (Hb.below (h := (Ht.set { ({ h with wt := false } : Ht) with hl := false } 37 0)) (by repeat (with_reducible first | exact K_gk.out | apply Hb.put | apply Hb.putP | apply Hb.putV | apply Hb.putW | apply Hb.putH | apply Hb.far (Ne.symm N_ga_gk.out) | apply Hb.far (Ne.symm N_gt_gk.out) | apply Hb.far (Ne.symm N_gr_gk.out) | apply Hb.drewN | apply Hb.drew)) hb)
          clear hb K_ga K_gt K_gr K_gk hB_10
          have K_ga := k_ga; clear k_ga
          have K_gt := k_gt; clear k_gt
          have K_gr := k_gr; clear k_gr
          have K_gk := k_gk; clear k_gk
          have n_1 := N_ga_gk.out; have n_2 := Ne.symm N_ga_gk.out; have n_3 := N_gt_gk.out; have n_4 := Ne.symm N_gt_gk.out
          have c_gt_1 := (show World.cell? _ ⟨gt, 1, none⟩ = some (.int .u64 tc) from (blk_cell K_gt.out 1).trans rfl); have f_gt_1 := blk_frozen K_gt.out 1
          have c_gt_2 := (show World.cell? _ ⟨gt, 2, none⟩ = some (.int .u64 tv) from (blk_cell K_gt.out 2).trans rfl); have f_gt_2 := blk_frozen K_gt.out 2
          have c_gt_3 := (show World.cell? _ ⟨gt, 3, none⟩ = some (.int .u64 tv2) from (blk_cell K_gt.out 3).trans rfl); have f_gt_3 := blk_frozen K_gt.out 3
          have c_gt_4 := (show World.cell? _ ⟨gt, 4, none⟩ = some (.int .u64 tn) from (blk_cell K_gt.out 4).trans rfl); have f_gt_4 := blk_frozen K_gt.out 4
          have c_gt_5 := (show World.cell? _ ⟨gt, 5, none⟩ = some (.bool tg) from (blk_cell K_gt.out 5).trans rfl); have f_gt_5 := blk_frozen K_gt.out 5
          have c_ga_0 := K_ga.out.u 0 rfl; have f_ga_0 := K_ga.out.fr 0
          have c_ga_33 := K_ga.out.p; have f_ga_33 := K_ga.out.fr 33
          have c_ga_34 := K_ga.out.cv; have f_ga_34 := K_ga.out.fr 34
          have c_ga_38 := K_ga.out.u 38 rfl; have f_ga_38 := K_ga.out.fr 38
          have c_ga_51 := K_ga.out.u 51 rfl; have f_ga_51 := K_ga.out.fr 51
          have c_ga_58 := K_ga.out.u 58 rfl; have f_ga_58 := K_ga.out.fr 58
          have c_gk_0 := K_gk.out.u 0 rfl; have f_gk_0 := K_gk.out.fr 0
          have c_gk_33 := K_gk.out.p; have f_gk_33 := K_gk.out.fr 33
          have c_gk_34 := K_gk.out.cv; have f_gk_34 := K_gk.out.fr 34
          have c_gk_38 := K_gk.out.u 38 rfl; have f_gk_38 := K_gk.out.fr 38
          have c_gk_54 := K_gk.out.u 54 rfl; have f_gk_54 := K_gk.out.fr 54
          have c_gk_55 := K_gk.out.u 55 rfl; have f_gk_55 := K_gk.out.fr 55
          have c_gk_56 := K_gk.out.u 56 rfl; have f_gk_56 := K_gk.out.fr 56
          have c_gk_58 := K_gk.out.u 58 rfl; have f_gk_58 := K_gk.out.fr 58
          have c_gk_64 := K_gk.out.u 64 rfl; have f_gk_64 := K_gk.out.fr 64
          have c_gk_65 := K_gk.out.u 65 rfl; have f_gk_65 := K_gk.out.fr 65
          go_upto_region 31 with (first | (go_at_call 17; refine (bit_c _ _ _ (by decide)).mono ?_; rintro e_ w_ ⟨rfl, ⟨n_, rfl⟩⟩) | (go_at_call 21; refine (with_c _ _ _ _ (by decide)).mono ?_; rintro e_ w_ ⟨rfl, ⟨n_, rfl⟩⟩) | (go_at_call 22; refine (rplace_c _ _ _).mono ?_; rintro e_ w_ ⟨rfl, ⟨n_, rfl⟩⟩))
          refine world_code gk (by repeat (with_reducible first | exact K_gk.out | apply Hb.put | apply Hb.putP | apply Hb.putV | apply Hb.putW | apply Hb.putH | apply Hb.far (Ne.symm N_ga_gk.out) | apply Hb.far (Ne.symm N_gt_gk.out) | apply Hb.far (Ne.symm N_gr_gk.out) | apply Hb.drewN | apply Hb.drew)) (fun w' => Below w.heap.size w w' ∧ Hb w' ga h ∧ w'.heap[gt]? = some (.cells #[.bool ti, .int .u64 tc, .int .u64 tv, .int .u64 tv2, .int .u64 tn, .bool tg] 27 (0, 0)) ∧ Hb w' gr Ht.zero) ⟨(by repeat (first | (with_reducible first | exact hB_13.out | apply pw_below_drewN | apply below_drew1 | refine below_set ?_ G_ga.out | refine below_set ?_ G_gt.out | refine below_set ?_ G_gr.out | refine below_set ?_ G_gk.out) | exact hB_13.out)), (by repeat (with_reducible first | exact K_ga.out | apply Hb.put | apply Hb.putP | apply Hb.putV | apply Hb.putW | apply Hb.putH | apply Hb.far N_ga_gt.out | apply Hb.far N_ga_gr.out | apply Hb.far N_ga_gk.out | apply Hb.drewN | apply Hb.drew)), (by repeat (with_reducible first | exact K_gt.out | apply blk_drewN | apply blk_drew | refine blk_far ?_ (show gt ≠ _ from (Ne.symm N_ga_gt.out)) _ | refine blk_far ?_ (show gt ≠ _ from N_gt_gr.out) _ | refine blk_far ?_ (show gt ≠ _ from N_gt_gk.out) _)), (by repeat (with_reducible first | exact K_gr.out | apply Hb.put | apply Hb.putP | apply Hb.putV | apply Hb.putW | apply Hb.putH | apply Hb.far (Ne.symm N_ga_gr.out) | apply Hb.far (Ne.symm N_gt_gr.out) | apply Hb.far N_gr_gk.out | apply Hb.drewN | apply Hb.drew))⟩ ?_
          clear c_gt_1 f_gt_1 c_gt_2 f_gt_2 c_gt_3 f_gt_3 c_gt_4 f_gt_4 c_gt_5 f_gt_5 c_ga_0 f_ga_0 c_ga_33 f_ga_33 c_ga_34 f_ga_34 c_ga_38 f_ga_38 c_ga_51 f_ga_51 c_ga_58 f_ga_58 c_gk_0 f_gk_0 c_gk_33 f_gk_33 c_gk_34 f_gk_34 c_gk_38 f_gk_38 c_gk_54 f_gk_54 c_gk_55 f_gk_55 c_gk_56 f_gk_56 c_gk_58 f_gk_58 c_gk_64 f_gk_64 c_gk_65 f_gk_65
          clear K_ga K_gt K_gr K_gk hB_13
          rintro w_14 q_ ⟨b_, q_ga, q_gt, q_gr⟩
          have K_gk := Lib.hid q_; have hB_15 := Lib.hid b_; have K_ga := Lib.hid q_ga; have K_gt := Lib.hid q_gt; have K_gr := Lib.hid q_gr
          clear q_ b_ q_ga q_gt q_gr
          have c_gt_1 := (show World.cell? _ ⟨gt, 1, none⟩ = some (.int .u64 tc) from (blk_cell K_gt.out 1).trans rfl); have f_gt_1 := blk_frozen K_gt.out 1
          have c_gt_5 := (show World.cell? _ ⟨gt, 5, none⟩ = some (.bool tg) from (blk_cell K_gt.out 5).trans rfl); have f_gt_5 := blk_frozen K_gt.out 5
          have c_ga_33 := K_ga.out.p; have f_ga_33 := K_ga.out.fr 33
          have c_ga_34 := K_ga.out.cv; have f_ga_34 := K_ga.out.fr 34
          have c_ga_38 := K_ga.out.u 38 rfl; have f_ga_38 := K_ga.out.fr 38
          have c_ga_51 := K_ga.out.u 51 rfl; have f_ga_51 := K_ga.out.fr 51
          have c_ga_58 := K_ga.out.u 58 rfl; have f_ga_58 := K_ga.out.fr 58
          have c_gk_0 := K_gk.out.u 0 rfl; have f_gk_0 := K_gk.out.fr 0
          have c_gk_34 := K_gk.out.cv; have f_gk_34 := K_gk.out.fr 34
          have c_gk_38 := K_gk.out.u 38 rfl; have f_gk_38 := K_gk.out.fr 38
          have c_gk_58 := K_gk.out.u 58 rfl; have f_gk_58 := K_gk.out.fr 58
          go_quiet (first | (go_at_call 17; refine (bit_c _ _ _ (by decide)).mono ?_; rintro e_ w_ ⟨rfl, ⟨n_, rfl⟩⟩; (try first | exact ⟨rfl, _, World.drewN_drewN _ _ _⟩ | exact ⟨rfl, _, Eq.trans (World.drewN_drewN _ _ _) (congrArg (World.drewN _) (Nat.add_assoc _ _ _))⟩)) | (go_at_call 21; refine (with_c _ _ _ _ (by decide)).mono ?_; rintro e_ w_ ⟨rfl, ⟨n_, rfl⟩⟩; (try first | exact ⟨rfl, _, World.drewN_drewN _ _ _⟩ | exact ⟨rfl, _, Eq.trans (World.drewN_drewN _ _ _) (congrArg (World.drewN _) (Nat.add_assoc _ _ _))⟩)) | (go_at_call 22; refine (rplace_c _ _ _).mono ?_; rintro e_ w_ ⟨rfl, ⟨n_, rfl⟩⟩; (try first | exact ⟨rfl, _, World.drewN_drewN _ _ _⟩ | exact ⟨rfl, _, Eq.trans (World.drewN_drewN _ _ _) (congrArg (World.drewN _) (Nat.add_assoc _ _ _))⟩)))
          go_upto_region 40 with (first | (go_at_call 17; refine (bit_c _ _ _ (by decide)).mono ?_; rintro e_ w_ ⟨rfl, ⟨n_, rfl⟩⟩) | (go_at_call 21; refine (with_c _ _ _ _ (by decide)).mono ?_; rintro e_ w_ ⟨rfl, ⟨n_, rfl⟩⟩) | (go_at_call 22; refine (rplace_c _ _ _).mono ?_; rintro e_ w_ ⟨rfl, ⟨n_, rfl⟩⟩))
          refine wp_region_list ?_
          refine load_hart (h := _) rfl (.tmp 5) rfl gk rfl (by repeat (with_reducible first | exact K_gk.out | apply Hb.put | apply Hb.putP | apply Hb.putV | apply Hb.putW | apply Hb.putH | apply Hb.far (Ne.symm N_ga_gk.out) | apply Hb.far (Ne.symm N_gt_gk.out) | apply Hb.far (Ne.symm N_gr_gk.out) | apply Hb.drewN | apply Hb.drew)) ?_
          refine store_hart rfl (.tmp 4) (.tmp 135) rfl gr _ rfl rfl Ht.zero (by repeat (with_reducible first | exact K_gr.out | apply Hb.put | apply Hb.putP | apply Hb.putV | apply Hb.putW | apply Hb.putH | apply Hb.far (Ne.symm N_ga_gr.out) | apply Hb.far (Ne.symm N_gt_gr.out) | apply Hb.far N_gr_gk.out | apply Hb.drewN | apply Hb.drew)) ?_
          go_wp2
          refine bodyPost_ret (results_cell_row rfl _ _ gr 25 _ (0, 0) _ rfl (Hb.putAll _ (by repeat (with_reducible first | exact K_gr.out | apply Hb.put | apply Hb.putP | apply Hb.putV | apply Hb.putW | apply Hb.putH | apply Hb.far (Ne.symm N_ga_gr.out) | apply Hb.far (Ne.symm N_gt_gr.out) | apply Hb.far N_gr_gk.out | apply Hb.drewN | apply Hb.drew))) Try.underlying25 rfl (by rw [Ht.size]; exact hartSize)) rfl ?_
          exact ⟨by (first | rfl | (simp only [renter, renterM, renterH, renterG, rguestCause, t0, t1, hv, if_true, if_false, Bool.false_eq_true, cond_true, cond_false]; done) | (simp only [renter, renterM, renterH, renterG, rguestCause, t0, t1, hv, if_true, if_false, Bool.false_eq_true, cond_true, cond_false]; rfl)), setCells_below G_gr.out _ _ _ (by repeat (first | (with_reducible first | exact hB_15.out | apply pw_below_drewN | apply below_drew1 | refine below_set ?_ G_ga.out | refine below_set ?_ G_gt.out | refine below_set ?_ G_gr.out | refine below_set ?_ G_gk.out) | exact hB_15.out))⟩
        · skip
          have C0 := Lib.hid c0; have C1 := Lib.hid c1
          clear c0 c1
          have hu25 := Try.underlying25
          go_enter Try.func9, Try.ntmps9
          have hu27 := Try.underlying27
          go_upto_region 3 with (first | ((with_reducible refine gate_dst (N := 2) rfl ?_); refine box_event ?hg (N := 2) ?hd (cs := h.cs) (t := 25) ?hr ?_; (case hd => rfl); (case hg => rfl); (case hr => first | (go_simp; done) | (go_simp; rfl)); intro ga hg w_1 H1 hb; have hB_2 := Lib.hid (below_step (Below.refl w.heap.size w) hb); have G_ga := Lib.hid (show w.heap.size ≤ ga by rw [hg]; exact ((Below.refl w.heap.size w)).size); have K_ga := Lib.hid (show Hb w_1 ga h from H1); clear hg hb H1) | ((with_reducible refine gate_dst (N := 3) rfl ?_); refine box_event ?hg (N := 3) ?hd (cs := #[.bool ti, .int .u64 tc, .int .u64 tv, .int .u64 tv2, .int .u64 tn, .bool tg]) (t := 27) ?hr ?_; (case hd => rfl); (case hg => rfl); (case hr => first | (go_simp; done) | (go_simp; rfl)); intro gt hg w_3 H1 hb; have hB_4 := Lib.hid (below_step hB_2.out hb); have G_gt := Lib.hid (show w.heap.size ≤ gt by rw [hg]; exact (hB_2.out).size); have N_ga_gt := Lib.hid (show ga ≠ gt by rw [hg]; exact Nat.ne_of_lt (K_ga.out.lt)); replace K_ga := Lib.hid (K_ga.out.below hb); have K_gt := Lib.hid (show w_3.heap[gt]? = some (.cells #[.bool ti, .int .u64 tc, .int .u64 tv, .int .u64 tv2, .int .u64 tn, .bool tg] 27 (0, 0)) from H1); clear hg hb H1 hB_2) | ((with_reducible refine gate_dst (N := 4) rfl ?_); refine box_event ?hg (N := 4) ?hd (cs := Ht.zero.cs) (t := 25) ?hr ?_; (case hd => rfl); (case hg => rfl); (case hr => first | (go_simp; done) | (go_simp; rfl)); intro gr hg w_5 H1 hb; have hB_6 := Lib.hid (below_step hB_4.out hb); have G_gr := Lib.hid (show w.heap.size ≤ gr by rw [hg]; exact (hB_4.out).size); have N_ga_gr := Lib.hid (show ga ≠ gr by rw [hg]; exact Nat.ne_of_lt (K_ga.out.lt)); have N_gt_gr := Lib.hid (show gt ≠ gr by rw [hg]; exact Nat.ne_of_lt (blk_lt K_gt.out)); replace K_ga := Lib.hid (K_ga.out.below hb); replace K_gt := Lib.hid (blk_below K_gt.out hb); have K_gr := Lib.hid (show Hb w_5 gr Ht.zero from H1); clear hg hb H1 hB_4; have c_gt_0 := (show World.cell? _ ⟨gt, 0, none⟩ = some (.bool ti) from (blk_cell K_gt.out 0).trans rfl); have f_gt_0 := blk_frozen K_gt.out 0; have c_gt_1 := (show World.cell? _ ⟨gt, 1, none⟩ = some (.int .u64 tc) from (blk_cell K_gt.out 1).trans rfl); have f_gt_1 := blk_frozen K_gt.out 1; clear hu25 hu27))
          go_upto_region 3 with (first | (go_at_call 17; refine (bit_c _ _ _ (by decide)).mono ?_; rintro e_ w_ ⟨rfl, ⟨n_, rfl⟩⟩) | (go_at_call 21; refine (with_c _ _ _ _ (by decide)).mono ?_; rintro e_ w_ ⟨rfl, ⟨n_, rfl⟩⟩) | (go_at_call 22; refine (rplace_c _ _ _).mono ?_; rintro e_ w_ ⟨rfl, ⟨n_, rfl⟩⟩))
          have hu25 := Try.underlying25
          refine wp_region_list ?_
          refine load_hart (h := h) rfl (.tmp 2) rfl ga rfl (by repeat (with_reducible first | exact K_ga.out | apply Hb.put | apply Hb.putP | apply Hb.putV | apply Hb.putW | apply Hb.putH | apply Hb.far N_ga_gt.out | apply Hb.far N_ga_gr.out | apply Hb.drewN | apply Hb.drew)) ?_
          refine box_event rfl (N := 5) rfl (cs := Ht.zero.cs) (t := 25) (by first | (go_simp; done) | (go_simp; rfl)) ?_
          intro gk hg w_7 H1 hb
          clear hu25
          clear c_gt_0 f_gt_0 c_gt_1 f_gt_1
          have hB_9 := Lib.hid (below_step (by repeat (first | (with_reducible first | exact hB_6.out | apply pw_below_drewN | apply below_drew1 | refine below_set ?_ G_ga.out | refine below_set ?_ G_gt.out | refine below_set ?_ G_gr.out) | exact hB_6.out)) hb)
          have G_gk := Lib.hid (show w.heap.size ≤ gk by rw [hg]; exact below_size (w := w) (by repeat (first | (with_reducible first | exact hB_6.out | apply pw_below_drewN | apply below_drew1 | refine below_set ?_ G_ga.out | refine below_set ?_ G_gt.out | refine below_set ?_ G_gr.out) | exact hB_6.out)))
          have N_ga_gk := Lib.hid (show ga ≠ gk by rw [hg]; exact Nat.ne_of_lt (Hb.lt (h := h) (by repeat (with_reducible first | exact K_ga.out | apply Hb.put | apply Hb.putP | apply Hb.putV | apply Hb.putW | apply Hb.putH | apply Hb.far N_ga_gt.out | apply Hb.far N_ga_gr.out | apply Hb.drewN | apply Hb.drew))))
          have N_gt_gk := Lib.hid (show gt ≠ gk by rw [hg]; exact Nat.ne_of_lt (blk_lt (o := .cells #[.bool ti, .int .u64 tc, .int .u64 tv, .int .u64 tv2, .int .u64 tn, .bool tg] 27 (0, 0)) (by repeat (with_reducible first | exact K_gt.out | apply blk_drewN | apply blk_drew | refine blk_far ?_ (show gt ≠ _ from (Ne.symm N_ga_gt.out)) _ | refine blk_far ?_ (show gt ≠ _ from N_gt_gr.out) _))))
          have N_gr_gk := Lib.hid (show gr ≠ gk by rw [hg]; exact Nat.ne_of_lt (Hb.lt (h := Ht.zero) (by repeat (with_reducible first | exact K_gr.out | apply Hb.put | apply Hb.putP | apply Hb.putV | apply Hb.putW | apply Hb.putH | apply Hb.far (Ne.symm N_ga_gr.out) | apply Hb.far (Ne.symm N_gt_gr.out) | apply Hb.drewN | apply Hb.drew))))
          replace K_ga := Lib.hid (Hb.below (h := h) (by repeat (with_reducible first | exact K_ga.out | apply Hb.put | apply Hb.putP | apply Hb.putV | apply Hb.putW | apply Hb.putH | apply Hb.far N_ga_gt.out | apply Hb.far N_ga_gr.out | apply Hb.drewN | apply Hb.drew)) hb)
          replace K_gt := Lib.hid (blk_below (o := .cells #[.bool ti, .int .u64 tc, .int .u64 tv, .int .u64 tv2, .int .u64 tn, .bool tg] 27 (0, 0)) (by repeat (with_reducible first | exact K_gt.out | apply blk_drewN | apply blk_drew | refine blk_far ?_ (show gt ≠ _ from (Ne.symm N_ga_gt.out)) _ | refine blk_far ?_ (show gt ≠ _ from N_gt_gr.out) _)) hb)
          replace K_gr := Lib.hid (Hb.below (h := Ht.zero) (by repeat (with_reducible first | exact K_gr.out | apply Hb.put | apply Hb.putP | apply Hb.putV | apply Hb.putW | apply Hb.putH | apply Hb.far (Ne.symm N_ga_gr.out) | apply Hb.far (Ne.symm N_gt_gr.out) | apply Hb.drewN | apply Hb.drew)) hb)
          have K_gk := Lib.hid (show Hb w_7 gk Ht.zero from H1)
          clear hg hb H1 hB_6
          refine store_hart rfl (.tmp 5) (.tmp 16) rfl gk h rfl rfl Ht.zero K_gk.out ?_
          have hB_10 := Lib.hid (setCells_below G_gk.out (Ht.cs h).toList 0 _ hB_9.out)
          replace K_ga := Lib.hid (Hb.farAll (vs := (Ht.cs h).toList) (o := 0) N_ga_gk.out K_ga.out)
          replace K_gt := Lib.hid (setCells_far' (vs := (Ht.cs h).toList) (o := 0) N_gt_gk.out K_gt.out)
          replace K_gr := Lib.hid (Hb.farAll (vs := (Ht.cs h).toList) (o := 0) N_gr_gk.out K_gr.out)
          replace K_gk := Lib.hid (Hb.putAll h K_gk.out)
          clear hB_9
          generalize World.setCells w_7 gk 0 (Ht.cs h).toList = w_8 at K_ga K_gt K_gr K_gk hB_10 ⊢
          have c_gt_1 := (show World.cell? _ ⟨gt, 1, none⟩ = some (.int .u64 tc) from (blk_cell K_gt.out 1).trans rfl); have f_gt_1 := blk_frozen K_gt.out 1
          have c_gk_35 := K_gk.out.cw; have f_gk_35 := K_gk.out.fr 35
          have c_gk_36 := K_gk.out.ch; have f_gk_36 := K_gk.out.fr 36
          have c_gk_37 := K_gk.out.u 37 rfl; have f_gk_37 := K_gk.out.fr 37
          go_upto_region 7 with (first | (go_at_call 17; refine (bit_c _ _ _ (by decide)).mono ?_; rintro e_ w_ ⟨rfl, ⟨n_, rfl⟩⟩) | (go_at_call 21; refine (with_c _ _ _ _ (by decide)).mono ?_; rintro e_ w_ ⟨rfl, ⟨n_, rfl⟩⟩) | (go_at_call 22; refine (rplace_c _ _ _).mono ?_; rintro e_ w_ ⟨rfl, ⟨n_, rfl⟩⟩))
          refine wp_region_list ?_
          refine load_hart (h := h) rfl (.tmp 2) rfl ga rfl (by repeat (with_reducible first | exact K_ga.out | apply Hb.put | apply Hb.putP | apply Hb.putV | apply Hb.putW | apply Hb.putH | apply Hb.far N_ga_gt.out | apply Hb.far N_ga_gr.out | apply Hb.far N_ga_gk.out | apply Hb.drewN | apply Hb.drew)) ?_
          go_wp2_with fail
          refine (rto_c h tc _ C0.out).mono ?_
          rintro e_11 w_12 ⟨rfl, hb⟩
          clear c_gt_1 f_gt_1 c_gk_35 f_gk_35 c_gk_36 f_gk_36 c_gk_37 f_gk_37
          have hB_13 := Lib.hid (below_step (by repeat (first | (with_reducible first | exact hB_10.out | apply pw_below_drewN | apply below_drew1 | refine below_set ?_ G_ga.out | refine below_set ?_ G_gt.out | refine below_set ?_ G_gr.out | refine below_set ?_ G_gk.out) | exact hB_10.out)) hb)
          have k_ga := Lib.hid (Hb.below (h := h) (by repeat (with_reducible first | exact K_ga.out | apply Hb.put | apply Hb.putP | apply Hb.putV | apply Hb.putW | apply Hb.putH | apply Hb.far N_ga_gt.out | apply Hb.far N_ga_gr.out | apply Hb.far N_ga_gk.out | apply Hb.drewN | apply Hb.drew)) hb)
          have k_gt := Lib.hid (blk_below (o := .cells #[.bool ti, .int .u64 tc, .int .u64 tv, .int .u64 tv2, .int .u64 tn, .bool tg] 27 (0, 0)) (by repeat (with_reducible first | exact K_gt.out | apply blk_drewN | apply blk_drew | refine blk_far ?_ (show gt ≠ _ from (Ne.symm N_ga_gt.out)) _ | refine blk_far ?_ (show gt ≠ _ from N_gt_gr.out) _ | refine blk_far ?_ (show gt ≠ _ from N_gt_gk.out) _)) hb)
          have k_gr := Lib.hid (Hb.below (h := Ht.zero) (by repeat (with_reducible first | exact K_gr.out | apply Hb.put | apply Hb.putP | apply Hb.putV | apply Hb.putW | apply Hb.putH | apply Hb.far (Ne.symm N_ga_gr.out) | apply Hb.far (Ne.symm N_gt_gr.out) | apply Hb.far N_gr_gk.out | apply Hb.drewN | apply Hb.drew)) hb)
          have k_gk := Lib.hid (Hb.below (h := (Ht.set { ({ h with wt := false } : Ht) with hl := false } 37 0)) (by repeat (with_reducible first | exact K_gk.out | apply Hb.put | apply Hb.putP | apply Hb.putV | apply Hb.putW | apply Hb.putH | apply Hb.far (Ne.symm N_ga_gk.out) | apply Hb.far (Ne.symm N_gt_gk.out) | apply Hb.far (Ne.symm N_gr_gk.out) | apply Hb.drewN | apply Hb.drew)) hb)
          clear hb K_ga K_gt K_gr K_gk hB_10
          have K_ga := k_ga; clear k_ga
          have K_gt := k_gt; clear k_gt
          have K_gr := k_gr; clear k_gr
          have K_gk := k_gk; clear k_gk
          have n_1 := N_ga_gk.out; have n_2 := Ne.symm N_ga_gk.out; have n_3 := N_gt_gk.out; have n_4 := Ne.symm N_gt_gk.out
          have c_gt_1 := (show World.cell? _ ⟨gt, 1, none⟩ = some (.int .u64 tc) from (blk_cell K_gt.out 1).trans rfl); have f_gt_1 := blk_frozen K_gt.out 1
          have c_gt_2 := (show World.cell? _ ⟨gt, 2, none⟩ = some (.int .u64 tv) from (blk_cell K_gt.out 2).trans rfl); have f_gt_2 := blk_frozen K_gt.out 2
          have c_gt_3 := (show World.cell? _ ⟨gt, 3, none⟩ = some (.int .u64 tv2) from (blk_cell K_gt.out 3).trans rfl); have f_gt_3 := blk_frozen K_gt.out 3
          have c_gt_4 := (show World.cell? _ ⟨gt, 4, none⟩ = some (.int .u64 tn) from (blk_cell K_gt.out 4).trans rfl); have f_gt_4 := blk_frozen K_gt.out 4
          have c_gt_5 := (show World.cell? _ ⟨gt, 5, none⟩ = some (.bool tg) from (blk_cell K_gt.out 5).trans rfl); have f_gt_5 := blk_frozen K_gt.out 5
          have c_ga_0 := K_ga.out.u 0 rfl; have f_ga_0 := K_ga.out.fr 0
          have c_ga_33 := K_ga.out.p; have f_ga_33 := K_ga.out.fr 33
          have c_ga_34 := K_ga.out.cv; have f_ga_34 := K_ga.out.fr 34
          have c_ga_38 := K_ga.out.u 38 rfl; have f_ga_38 := K_ga.out.fr 38
          have c_ga_51 := K_ga.out.u 51 rfl; have f_ga_51 := K_ga.out.fr 51
          have c_ga_58 := K_ga.out.u 58 rfl; have f_ga_58 := K_ga.out.fr 58
          have c_gk_0 := K_gk.out.u 0 rfl; have f_gk_0 := K_gk.out.fr 0
          have c_gk_33 := K_gk.out.p; have f_gk_33 := K_gk.out.fr 33
          have c_gk_34 := K_gk.out.cv; have f_gk_34 := K_gk.out.fr 34
          have c_gk_38 := K_gk.out.u 38 rfl; have f_gk_38 := K_gk.out.fr 38
          have c_gk_54 := K_gk.out.u 54 rfl; have f_gk_54 := K_gk.out.fr 54
          have c_gk_55 := K_gk.out.u 55 rfl; have f_gk_55 := K_gk.out.fr 55
          have c_gk_56 := K_gk.out.u 56 rfl; have f_gk_56 := K_gk.out.fr 56
          have c_gk_58 := K_gk.out.u 58 rfl; have f_gk_58 := K_gk.out.fr 58
          have c_gk_64 := K_gk.out.u 64 rfl; have f_gk_64 := K_gk.out.fr 64
          have c_gk_65 := K_gk.out.u 65 rfl; have f_gk_65 := K_gk.out.fr 65
          go_upto_region 31 with (first | (go_at_call 17; refine (bit_c _ _ _ (by decide)).mono ?_; rintro e_ w_ ⟨rfl, ⟨n_, rfl⟩⟩) | (go_at_call 21; refine (with_c _ _ _ _ (by decide)).mono ?_; rintro e_ w_ ⟨rfl, ⟨n_, rfl⟩⟩) | (go_at_call 22; refine (rplace_c _ _ _).mono ?_; rintro e_ w_ ⟨rfl, ⟨n_, rfl⟩⟩))
          refine world_code gk (by repeat (with_reducible first | exact K_gk.out | apply Hb.put | apply Hb.putP | apply Hb.putV | apply Hb.putW | apply Hb.putH | apply Hb.far (Ne.symm N_ga_gk.out) | apply Hb.far (Ne.symm N_gt_gk.out) | apply Hb.far (Ne.symm N_gr_gk.out) | apply Hb.drewN | apply Hb.drew)) (fun w' => Below w.heap.size w w' ∧ Hb w' ga h ∧ w'.heap[gt]? = some (.cells #[.bool ti, .int .u64 tc, .int .u64 tv, .int .u64 tv2, .int .u64 tn, .bool tg] 27 (0, 0)) ∧ Hb w' gr Ht.zero) ⟨(by repeat (first | (with_reducible first | exact hB_13.out | apply pw_below_drewN | apply below_drew1 | refine below_set ?_ G_ga.out | refine below_set ?_ G_gt.out | refine below_set ?_ G_gr.out | refine below_set ?_ G_gk.out) | exact hB_13.out)), (by repeat (with_reducible first | exact K_ga.out | apply Hb.put | apply Hb.putP | apply Hb.putV | apply Hb.putW | apply Hb.putH | apply Hb.far N_ga_gt.out | apply Hb.far N_ga_gr.out | apply Hb.far N_ga_gk.out | apply Hb.drewN | apply Hb.drew)), (by repeat (with_reducible first | exact K_gt.out | apply blk_drewN | apply blk_drew | refine blk_far ?_ (show gt ≠ _ from (Ne.symm N_ga_gt.out)) _ | refine blk_far ?_ (show gt ≠ _ from N_gt_gr.out) _ | refine blk_far ?_ (show gt ≠ _ from N_gt_gk.out) _)), (by repeat (with_reducible first | exact K_gr.out | apply Hb.put | apply Hb.putP | apply Hb.putV | apply Hb.putW | apply Hb.putH | apply Hb.far (Ne.symm N_ga_gr.out) | apply Hb.far (Ne.symm N_gt_gr.out) | apply Hb.far N_gr_gk.out | apply Hb.drewN | apply Hb.drew))⟩ ?_
          clear c_gt_1 f_gt_1 c_gt_2 f_gt_2 c_gt_3 f_gt_3 c_gt_4 f_gt_4 c_gt_5 f_gt_5 c_ga_0 f_ga_0 c_ga_33 f_ga_33 c_ga_34 f_ga_34 c_ga_38 f_ga_38 c_ga_51 f_ga_51 c_ga_58 f_ga_58 c_gk_0 f_gk_0 c_gk_33 f_gk_33 c_gk_34 f_gk_34 c_gk_38 f_gk_38 c_gk_54 f_gk_54 c_gk_55 f_gk_55 c_gk_56 f_gk_56 c_gk_58 f_gk_58 c_gk_64 f_gk_64 c_gk_65 f_gk_65
          clear K_ga K_gt K_gr K_gk hB_13
          rintro w_14 q_ ⟨b_, q_ga, q_gt, q_gr⟩
          have K_gk := Lib.hid q_; have hB_15 := Lib.hid b_; have K_ga := Lib.hid q_ga; have K_gt := Lib.hid q_gt; have K_gr := Lib.hid q_gr
          clear q_ b_ q_ga q_gt q_gr
          have c_gt_1 := (show World.cell? _ ⟨gt, 1, none⟩ = some (.int .u64 tc) from (blk_cell K_gt.out 1).trans rfl); have f_gt_1 := blk_frozen K_gt.out 1
          have c_gt_5 := (show World.cell? _ ⟨gt, 5, none⟩ = some (.bool tg) from (blk_cell K_gt.out 5).trans rfl); have f_gt_5 := blk_frozen K_gt.out 5
          have c_ga_33 := K_ga.out.p; have f_ga_33 := K_ga.out.fr 33
          have c_ga_34 := K_ga.out.cv; have f_ga_34 := K_ga.out.fr 34
          have c_ga_38 := K_ga.out.u 38 rfl; have f_ga_38 := K_ga.out.fr 38
          have c_ga_51 := K_ga.out.u 51 rfl; have f_ga_51 := K_ga.out.fr 51
          have c_ga_58 := K_ga.out.u 58 rfl; have f_ga_58 := K_ga.out.fr 58
          have c_gk_0 := K_gk.out.u 0 rfl; have f_gk_0 := K_gk.out.fr 0
          have c_gk_34 := K_gk.out.cv; have f_gk_34 := K_gk.out.fr 34
          have c_gk_38 := K_gk.out.u 38 rfl; have f_gk_38 := K_gk.out.fr 38
          have c_gk_58 := K_gk.out.u 58 rfl; have f_gk_58 := K_gk.out.fr 58
          go_quiet (first | (go_at_call 17; refine (bit_c _ _ _ (by decide)).mono ?_; rintro e_ w_ ⟨rfl, ⟨n_, rfl⟩⟩; (try first | exact ⟨rfl, _, World.drewN_drewN _ _ _⟩ | exact ⟨rfl, _, Eq.trans (World.drewN_drewN _ _ _) (congrArg (World.drewN _) (Nat.add_assoc _ _ _))⟩)) | (go_at_call 21; refine (with_c _ _ _ _ (by decide)).mono ?_; rintro e_ w_ ⟨rfl, ⟨n_, rfl⟩⟩; (try first | exact ⟨rfl, _, World.drewN_drewN _ _ _⟩ | exact ⟨rfl, _, Eq.trans (World.drewN_drewN _ _ _) (congrArg (World.drewN _) (Nat.add_assoc _ _ _))⟩)) | (go_at_call 22; refine (rplace_c _ _ _).mono ?_; rintro e_ w_ ⟨rfl, ⟨n_, rfl⟩⟩; (try first | exact ⟨rfl, _, World.drewN_drewN _ _ _⟩ | exact ⟨rfl, _, Eq.trans (World.drewN_drewN _ _ _) (congrArg (World.drewN _) (Nat.add_assoc _ _ _))⟩)))
          go_upto_region 40 with (first | (go_at_call 17; refine (bit_c _ _ _ (by decide)).mono ?_; rintro e_ w_ ⟨rfl, ⟨n_, rfl⟩⟩) | (go_at_call 21; refine (with_c _ _ _ _ (by decide)).mono ?_; rintro e_ w_ ⟨rfl, ⟨n_, rfl⟩⟩) | (go_at_call 22; refine (rplace_c _ _ _).mono ?_; rintro e_ w_ ⟨rfl, ⟨n_, rfl⟩⟩))
          refine wp_region_list ?_
          refine load_hart (h := _) rfl (.tmp 5) rfl gk rfl (by repeat (with_reducible first | exact K_gk.out | apply Hb.put | apply Hb.putP | apply Hb.putV | apply Hb.putW | apply Hb.putH | apply Hb.far (Ne.symm N_ga_gk.out) | apply Hb.far (Ne.symm N_gt_gk.out) | apply Hb.far (Ne.symm N_gr_gk.out) | apply Hb.drewN | apply Hb.drew)) ?_
          refine store_hart rfl (.tmp 4) (.tmp 135) rfl gr _ rfl rfl Ht.zero (by repeat (with_reducible first | exact K_gr.out | apply Hb.put | apply Hb.putP | apply Hb.putV | apply Hb.putW | apply Hb.putH | apply Hb.far (Ne.symm N_ga_gr.out) | apply Hb.far (Ne.symm N_gt_gr.out) | apply Hb.far N_gr_gk.out | apply Hb.drewN | apply Hb.drew)) ?_
          go_wp2
          refine bodyPost_ret (results_cell_row rfl _ _ gr 25 _ (0, 0) _ rfl (Hb.putAll _ (by repeat (with_reducible first | exact K_gr.out | apply Hb.put | apply Hb.putP | apply Hb.putV | apply Hb.putW | apply Hb.putH | apply Hb.far (Ne.symm N_ga_gr.out) | apply Hb.far (Ne.symm N_gt_gr.out) | apply Hb.far N_gr_gk.out | apply Hb.drewN | apply Hb.drew))) Try.underlying25 rfl (by rw [Ht.size]; exact hartSize)) rfl ?_
          exact ⟨by (first | rfl | (simp only [renter, renterM, renterH, renterG, rguestCause, t0, t1, hv, if_true, if_false, Bool.false_eq_true, cond_true, cond_false]; done) | (simp only [renter, renterM, renterH, renterG, rguestCause, t0, t1, hv, if_true, if_false, Bool.false_eq_true, cond_true, cond_false]; rfl)), setCells_below G_gr.out _ _ _ (by repeat (first | (with_reducible first | exact hB_15.out | apply pw_below_drewN | apply below_drew1 | refine below_set ?_ G_ga.out | refine below_set ?_ G_gt.out | refine below_set ?_ G_gr.out | refine below_set ?_ G_gk.out) | exact hB_15.out))⟩
    · skip
      have C0 := Lib.hid c0; have C1 := Lib.hid c1
      clear c0 c1
      have hu25 := Try.underlying25
      go_enter Try.func9, Try.ntmps9
      have hu27 := Try.underlying27
      go_upto_region 3 with (first | ((with_reducible refine gate_dst (N := 2) rfl ?_); refine box_event ?hg (N := 2) ?hd (cs := h.cs) (t := 25) ?hr ?_; (case hd => rfl); (case hg => rfl); (case hr => first | (go_simp; done) | (go_simp; rfl)); intro ga hg w_1 H1 hb; have hB_2 := Lib.hid (below_step (Below.refl w.heap.size w) hb); have G_ga := Lib.hid (show w.heap.size ≤ ga by rw [hg]; exact ((Below.refl w.heap.size w)).size); have K_ga := Lib.hid (show Hb w_1 ga h from H1); clear hg hb H1) | ((with_reducible refine gate_dst (N := 3) rfl ?_); refine box_event ?hg (N := 3) ?hd (cs := #[.bool ti, .int .u64 tc, .int .u64 tv, .int .u64 tv2, .int .u64 tn, .bool tg]) (t := 27) ?hr ?_; (case hd => rfl); (case hg => rfl); (case hr => first | (go_simp; done) | (go_simp; rfl)); intro gt hg w_3 H1 hb; have hB_4 := Lib.hid (below_step hB_2.out hb); have G_gt := Lib.hid (show w.heap.size ≤ gt by rw [hg]; exact (hB_2.out).size); have N_ga_gt := Lib.hid (show ga ≠ gt by rw [hg]; exact Nat.ne_of_lt (K_ga.out.lt)); replace K_ga := Lib.hid (K_ga.out.below hb); have K_gt := Lib.hid (show w_3.heap[gt]? = some (.cells #[.bool ti, .int .u64 tc, .int .u64 tv, .int .u64 tv2, .int .u64 tn, .bool tg] 27 (0, 0)) from H1); clear hg hb H1 hB_2) | ((with_reducible refine gate_dst (N := 4) rfl ?_); refine box_event ?hg (N := 4) ?hd (cs := Ht.zero.cs) (t := 25) ?hr ?_; (case hd => rfl); (case hg => rfl); (case hr => first | (go_simp; done) | (go_simp; rfl)); intro gr hg w_5 H1 hb; have hB_6 := Lib.hid (below_step hB_4.out hb); have G_gr := Lib.hid (show w.heap.size ≤ gr by rw [hg]; exact (hB_4.out).size); have N_ga_gr := Lib.hid (show ga ≠ gr by rw [hg]; exact Nat.ne_of_lt (K_ga.out.lt)); have N_gt_gr := Lib.hid (show gt ≠ gr by rw [hg]; exact Nat.ne_of_lt (blk_lt K_gt.out)); replace K_ga := Lib.hid (K_ga.out.below hb); replace K_gt := Lib.hid (blk_below K_gt.out hb); have K_gr := Lib.hid (show Hb w_5 gr Ht.zero from H1); clear hg hb H1 hB_4; have c_gt_0 := (show World.cell? _ ⟨gt, 0, none⟩ = some (.bool ti) from (blk_cell K_gt.out 0).trans rfl); have f_gt_0 := blk_frozen K_gt.out 0; have c_gt_1 := (show World.cell? _ ⟨gt, 1, none⟩ = some (.int .u64 tc) from (blk_cell K_gt.out 1).trans rfl); have f_gt_1 := blk_frozen K_gt.out 1; clear hu25 hu27))
      go_upto_region 3 with (first | (go_at_call 17; refine (bit_c _ _ _ (by decide)).mono ?_; rintro e_ w_ ⟨rfl, ⟨n_, rfl⟩⟩) | (go_at_call 21; refine (with_c _ _ _ _ (by decide)).mono ?_; rintro e_ w_ ⟨rfl, ⟨n_, rfl⟩⟩) | (go_at_call 22; refine (rplace_c _ _ _).mono ?_; rintro e_ w_ ⟨rfl, ⟨n_, rfl⟩⟩))
      have hu25 := Try.underlying25
      refine wp_region_list ?_
      refine load_hart (h := h) rfl (.tmp 2) rfl ga rfl (by repeat (with_reducible first | exact K_ga.out | apply Hb.put | apply Hb.putP | apply Hb.putV | apply Hb.putW | apply Hb.putH | apply Hb.far N_ga_gt.out | apply Hb.far N_ga_gr.out | apply Hb.drewN | apply Hb.drew)) ?_
      refine box_event rfl (N := 5) rfl (cs := Ht.zero.cs) (t := 25) (by first | (go_simp; done) | (go_simp; rfl)) ?_
      intro gk hg w_7 H1 hb
      clear hu25
      clear c_gt_0 f_gt_0 c_gt_1 f_gt_1
      have hB_9 := Lib.hid (below_step (by repeat (first | (with_reducible first | exact hB_6.out | apply pw_below_drewN | apply below_drew1 | refine below_set ?_ G_ga.out | refine below_set ?_ G_gt.out | refine below_set ?_ G_gr.out) | exact hB_6.out)) hb)
      have G_gk := Lib.hid (show w.heap.size ≤ gk by rw [hg]; exact below_size (w := w) (by repeat (first | (with_reducible first | exact hB_6.out | apply pw_below_drewN | apply below_drew1 | refine below_set ?_ G_ga.out | refine below_set ?_ G_gt.out | refine below_set ?_ G_gr.out) | exact hB_6.out)))
      have N_ga_gk := Lib.hid (show ga ≠ gk by rw [hg]; exact Nat.ne_of_lt (Hb.lt (h := h) (by repeat (with_reducible first | exact K_ga.out | apply Hb.put | apply Hb.putP | apply Hb.putV | apply Hb.putW | apply Hb.putH | apply Hb.far N_ga_gt.out | apply Hb.far N_ga_gr.out | apply Hb.drewN | apply Hb.drew))))
      have N_gt_gk := Lib.hid (show gt ≠ gk by rw [hg]; exact Nat.ne_of_lt (blk_lt (o := .cells #[.bool ti, .int .u64 tc, .int .u64 tv, .int .u64 tv2, .int .u64 tn, .bool tg] 27 (0, 0)) (by repeat (with_reducible first | exact K_gt.out | apply blk_drewN | apply blk_drew | refine blk_far ?_ (show gt ≠ _ from (Ne.symm N_ga_gt.out)) _ | refine blk_far ?_ (show gt ≠ _ from N_gt_gr.out) _))))
      have N_gr_gk := Lib.hid (show gr ≠ gk by rw [hg]; exact Nat.ne_of_lt (Hb.lt (h := Ht.zero) (by repeat (with_reducible first | exact K_gr.out | apply Hb.put | apply Hb.putP | apply Hb.putV | apply Hb.putW | apply Hb.putH | apply Hb.far (Ne.symm N_ga_gr.out) | apply Hb.far (Ne.symm N_gt_gr.out) | apply Hb.drewN | apply Hb.drew))))
      replace K_ga := Lib.hid (Hb.below (h := h) (by repeat (with_reducible first | exact K_ga.out | apply Hb.put | apply Hb.putP | apply Hb.putV | apply Hb.putW | apply Hb.putH | apply Hb.far N_ga_gt.out | apply Hb.far N_ga_gr.out | apply Hb.drewN | apply Hb.drew)) hb)
      replace K_gt := Lib.hid (blk_below (o := .cells #[.bool ti, .int .u64 tc, .int .u64 tv, .int .u64 tv2, .int .u64 tn, .bool tg] 27 (0, 0)) (by repeat (with_reducible first | exact K_gt.out | apply blk_drewN | apply blk_drew | refine blk_far ?_ (show gt ≠ _ from (Ne.symm N_ga_gt.out)) _ | refine blk_far ?_ (show gt ≠ _ from N_gt_gr.out) _)) hb)
      replace K_gr := Lib.hid (Hb.below (h := Ht.zero) (by repeat (with_reducible first | exact K_gr.out | apply Hb.put | apply Hb.putP | apply Hb.putV | apply Hb.putW | apply Hb.putH | apply Hb.far (Ne.symm N_ga_gr.out) | apply Hb.far (Ne.symm N_gt_gr.out) | apply Hb.drewN | apply Hb.drew)) hb)
      have K_gk := Lib.hid (show Hb w_7 gk Ht.zero from H1)
      clear hg hb H1 hB_6
      refine store_hart rfl (.tmp 5) (.tmp 16) rfl gk h rfl rfl Ht.zero K_gk.out ?_
      have hB_10 := Lib.hid (setCells_below G_gk.out (Ht.cs h).toList 0 _ hB_9.out)
      replace K_ga := Lib.hid (Hb.farAll (vs := (Ht.cs h).toList) (o := 0) N_ga_gk.out K_ga.out)
      replace K_gt := Lib.hid (setCells_far' (vs := (Ht.cs h).toList) (o := 0) N_gt_gk.out K_gt.out)
      replace K_gr := Lib.hid (Hb.farAll (vs := (Ht.cs h).toList) (o := 0) N_gr_gk.out K_gr.out)
      replace K_gk := Lib.hid (Hb.putAll h K_gk.out)
      clear hB_9
      generalize World.setCells w_7 gk 0 (Ht.cs h).toList = w_8 at K_ga K_gt K_gr K_gk hB_10 ⊢
      have c_gt_1 := (show World.cell? _ ⟨gt, 1, none⟩ = some (.int .u64 tc) from (blk_cell K_gt.out 1).trans rfl); have f_gt_1 := blk_frozen K_gt.out 1
      have c_gk_35 := K_gk.out.cw; have f_gk_35 := K_gk.out.fr 35
      have c_gk_36 := K_gk.out.ch; have f_gk_36 := K_gk.out.fr 36
      have c_gk_37 := K_gk.out.u 37 rfl; have f_gk_37 := K_gk.out.fr 37
      go_upto_region 7 with (first | (go_at_call 17; refine (bit_c _ _ _ (by decide)).mono ?_; rintro e_ w_ ⟨rfl, ⟨n_, rfl⟩⟩) | (go_at_call 21; refine (with_c _ _ _ _ (by decide)).mono ?_; rintro e_ w_ ⟨rfl, ⟨n_, rfl⟩⟩) | (go_at_call 22; refine (rplace_c _ _ _).mono ?_; rintro e_ w_ ⟨rfl, ⟨n_, rfl⟩⟩))
      refine wp_region_list ?_
      refine load_hart (h := h) rfl (.tmp 2) rfl ga rfl (by repeat (with_reducible first | exact K_ga.out | apply Hb.put | apply Hb.putP | apply Hb.putV | apply Hb.putW | apply Hb.putH | apply Hb.far N_ga_gt.out | apply Hb.far N_ga_gr.out | apply Hb.far N_ga_gk.out | apply Hb.drewN | apply Hb.drew)) ?_
      go_wp2_with fail
      refine (rto_c h tc _ C0.out).mono ?_
      rintro e_11 w_12 ⟨rfl, hb⟩
      clear c_gt_1 f_gt_1 c_gk_35 f_gk_35 c_gk_36 f_gk_36 c_gk_37 f_gk_37
      have hB_13 := Lib.hid (below_step (by repeat (first | (with_reducible first | exact hB_10.out | apply pw_below_drewN | apply below_drew1 | refine below_set ?_ G_ga.out | refine below_set ?_ G_gt.out | refine below_set ?_ G_gr.out | refine below_set ?_ G_gk.out) | exact hB_10.out)) hb)
      have k_ga := Lib.hid (Hb.below (h := h) (by repeat (with_reducible first | exact K_ga.out | apply Hb.put | apply Hb.putP | apply Hb.putV | apply Hb.putW | apply Hb.putH | apply Hb.far N_ga_gt.out | apply Hb.far N_ga_gr.out | apply Hb.far N_ga_gk.out | apply Hb.drewN | apply Hb.drew)) hb)
      have k_gt := Lib.hid (blk_below (o := .cells #[.bool ti, .int .u64 tc, .int .u64 tv, .int .u64 tv2, .int .u64 tn, .bool tg] 27 (0, 0)) (by repeat (with_reducible first | exact K_gt.out | apply blk_drewN | apply blk_drew | refine blk_far ?_ (show gt ≠ _ from (Ne.symm N_ga_gt.out)) _ | refine blk_far ?_ (show gt ≠ _ from N_gt_gr.out) _ | refine blk_far ?_ (show gt ≠ _ from N_gt_gk.out) _)) hb)
      have k_gr := Lib.hid (Hb.below (h := Ht.zero) (by repeat (with_reducible first | exact K_gr.out | apply Hb.put | apply Hb.putP | apply Hb.putV | apply Hb.putW | apply Hb.putH | apply Hb.far (Ne.symm N_ga_gr.out) | apply Hb.far (Ne.symm N_gt_gr.out) | apply Hb.far N_gr_gk.out | apply Hb.drewN | apply Hb.drew)) hb)
      have k_gk := Lib.hid (Hb.below (h := (Ht.set { ({ h with wt := false } : Ht) with hl := false } 37 0)) (by repeat (with_reducible first | exact K_gk.out | apply Hb.put | apply Hb.putP | apply Hb.putV | apply Hb.putW | apply Hb.putH | apply Hb.far (Ne.symm N_ga_gk.out) | apply Hb.far (Ne.symm N_gt_gk.out) | apply Hb.far (Ne.symm N_gr_gk.out) | apply Hb.drewN | apply Hb.drew)) hb)
      clear hb K_ga K_gt K_gr K_gk hB_10
      have K_ga := k_ga; clear k_ga
      have K_gt := k_gt; clear k_gt
      have K_gr := k_gr; clear k_gr
      have K_gk := k_gk; clear k_gk
      have n_1 := N_ga_gk.out; have n_2 := Ne.symm N_ga_gk.out; have n_3 := N_gt_gk.out; have n_4 := Ne.symm N_gt_gk.out
      have c_gt_1 := (show World.cell? _ ⟨gt, 1, none⟩ = some (.int .u64 tc) from (blk_cell K_gt.out 1).trans rfl); have f_gt_1 := blk_frozen K_gt.out 1
      have c_gt_2 := (show World.cell? _ ⟨gt, 2, none⟩ = some (.int .u64 tv) from (blk_cell K_gt.out 2).trans rfl); have f_gt_2 := blk_frozen K_gt.out 2
      have c_gt_3 := (show World.cell? _ ⟨gt, 3, none⟩ = some (.int .u64 tv2) from (blk_cell K_gt.out 3).trans rfl); have f_gt_3 := blk_frozen K_gt.out 3
      have c_gt_4 := (show World.cell? _ ⟨gt, 4, none⟩ = some (.int .u64 tn) from (blk_cell K_gt.out 4).trans rfl); have f_gt_4 := blk_frozen K_gt.out 4
      have c_gt_5 := (show World.cell? _ ⟨gt, 5, none⟩ = some (.bool tg) from (blk_cell K_gt.out 5).trans rfl); have f_gt_5 := blk_frozen K_gt.out 5
      have c_ga_0 := K_ga.out.u 0 rfl; have f_ga_0 := K_ga.out.fr 0
      have c_ga_33 := K_ga.out.p; have f_ga_33 := K_ga.out.fr 33
      have c_ga_34 := K_ga.out.cv; have f_ga_34 := K_ga.out.fr 34
      have c_ga_38 := K_ga.out.u 38 rfl; have f_ga_38 := K_ga.out.fr 38
      have c_ga_43 := K_ga.out.u 43 rfl; have f_ga_43 := K_ga.out.fr 43
      have c_gk_0 := K_gk.out.u 0 rfl; have f_gk_0 := K_gk.out.fr 0
      have c_gk_33 := K_gk.out.p; have f_gk_33 := K_gk.out.fr 33
      have c_gk_34 := K_gk.out.cv; have f_gk_34 := K_gk.out.fr 34
      have c_gk_38 := K_gk.out.u 38 rfl; have f_gk_38 := K_gk.out.fr 38
      have c_gk_46 := K_gk.out.u 46 rfl; have f_gk_46 := K_gk.out.fr 46
      have c_gk_47 := K_gk.out.u 47 rfl; have f_gk_47 := K_gk.out.fr 47
      have c_gk_48 := K_gk.out.u 48 rfl; have f_gk_48 := K_gk.out.fr 48
      have c_gk_49 := K_gk.out.u 49 rfl; have f_gk_49 := K_gk.out.fr 49
      have c_gk_50 := K_gk.out.u 50 rfl; have f_gk_50 := K_gk.out.fr 50
      go_upto_region 14 with (first | (go_at_call 17; refine (bit_c _ _ _ (by decide)).mono ?_; rintro e_ w_ ⟨rfl, ⟨n_, rfl⟩⟩) | (go_at_call 21; refine (with_c _ _ _ _ (by decide)).mono ?_; rintro e_ w_ ⟨rfl, ⟨n_, rfl⟩⟩) | (go_at_call 22; refine (rplace_c _ _ _).mono ?_; rintro e_ w_ ⟨rfl, ⟨n_, rfl⟩⟩))
      refine world_code gk (by repeat (with_reducible first | exact K_gk.out | apply Hb.put | apply Hb.putP | apply Hb.putV | apply Hb.putW | apply Hb.putH | apply Hb.far (Ne.symm N_ga_gk.out) | apply Hb.far (Ne.symm N_gt_gk.out) | apply Hb.far (Ne.symm N_gr_gk.out) | apply Hb.drewN | apply Hb.drew)) (fun w' => Below w.heap.size w w' ∧ Hb w' ga h ∧ w'.heap[gt]? = some (.cells #[.bool ti, .int .u64 tc, .int .u64 tv, .int .u64 tv2, .int .u64 tn, .bool tg] 27 (0, 0)) ∧ Hb w' gr Ht.zero) ⟨(by repeat (first | (with_reducible first | exact hB_13.out | apply pw_below_drewN | apply below_drew1 | refine below_set ?_ G_ga.out | refine below_set ?_ G_gt.out | refine below_set ?_ G_gr.out | refine below_set ?_ G_gk.out) | exact hB_13.out)), (by repeat (with_reducible first | exact K_ga.out | apply Hb.put | apply Hb.putP | apply Hb.putV | apply Hb.putW | apply Hb.putH | apply Hb.far N_ga_gt.out | apply Hb.far N_ga_gr.out | apply Hb.far N_ga_gk.out | apply Hb.drewN | apply Hb.drew)), (by repeat (with_reducible first | exact K_gt.out | apply blk_drewN | apply blk_drew | refine blk_far ?_ (show gt ≠ _ from (Ne.symm N_ga_gt.out)) _ | refine blk_far ?_ (show gt ≠ _ from N_gt_gr.out) _ | refine blk_far ?_ (show gt ≠ _ from N_gt_gk.out) _)), (by repeat (with_reducible first | exact K_gr.out | apply Hb.put | apply Hb.putP | apply Hb.putV | apply Hb.putW | apply Hb.putH | apply Hb.far (Ne.symm N_ga_gr.out) | apply Hb.far (Ne.symm N_gt_gr.out) | apply Hb.far N_gr_gk.out | apply Hb.drewN | apply Hb.drew))⟩ ?_
      clear c_gt_1 f_gt_1 c_gt_2 f_gt_2 c_gt_3 f_gt_3 c_gt_4 f_gt_4 c_gt_5 f_gt_5 c_ga_0 f_ga_0 c_ga_33 f_ga_33 c_ga_34 f_ga_34 c_ga_38 f_ga_38 c_ga_43 f_ga_43 c_gk_0 f_gk_0 c_gk_33 f_gk_33 c_gk_34 f_gk_34 c_gk_38 f_gk_38 c_gk_46 f_gk_46 c_gk_47 f_gk_47 c_gk_48 f_gk_48 c_gk_49 f_gk_49 c_gk_50 f_gk_50
      clear K_ga K_gt K_gr K_gk hB_13
      rintro w_14 q_ ⟨b_, q_ga, q_gt, q_gr⟩
      have K_gk := Lib.hid q_; have hB_15 := Lib.hid b_; have K_ga := Lib.hid q_ga; have K_gt := Lib.hid q_gt; have K_gr := Lib.hid q_gr
      clear q_ b_ q_ga q_gt q_gr
      have c_gt_1 := (show World.cell? _ ⟨gt, 1, none⟩ = some (.int .u64 tc) from (blk_cell K_gt.out 1).trans rfl); have f_gt_1 := blk_frozen K_gt.out 1
      have c_gt_5 := (show World.cell? _ ⟨gt, 5, none⟩ = some (.bool tg) from (blk_cell K_gt.out 5).trans rfl); have f_gt_5 := blk_frozen K_gt.out 5
      have c_ga_33 := K_ga.out.p; have f_ga_33 := K_ga.out.fr 33
      have c_ga_34 := K_ga.out.cv; have f_ga_34 := K_ga.out.fr 34
      have c_ga_38 := K_ga.out.u 38 rfl; have f_ga_38 := K_ga.out.fr 38
      have c_ga_43 := K_ga.out.u 43 rfl; have f_ga_43 := K_ga.out.fr 43
      have c_gk_0 := K_gk.out.u 0 rfl; have f_gk_0 := K_gk.out.fr 0
      have c_gk_33 := K_gk.out.p; have f_gk_33 := K_gk.out.fr 33
      have c_gk_34 := K_gk.out.cv; have f_gk_34 := K_gk.out.fr 34
      have c_gk_38 := K_gk.out.u 38 rfl; have f_gk_38 := K_gk.out.fr 38
      go_quiet (first | (go_at_call 17; refine (bit_c _ _ _ (by decide)).mono ?_; rintro e_ w_ ⟨rfl, ⟨n_, rfl⟩⟩; (try first | exact ⟨rfl, _, World.drewN_drewN _ _ _⟩ | exact ⟨rfl, _, Eq.trans (World.drewN_drewN _ _ _) (congrArg (World.drewN _) (Nat.add_assoc _ _ _))⟩)) | (go_at_call 21; refine (with_c _ _ _ _ (by decide)).mono ?_; rintro e_ w_ ⟨rfl, ⟨n_, rfl⟩⟩; (try first | exact ⟨rfl, _, World.drewN_drewN _ _ _⟩ | exact ⟨rfl, _, Eq.trans (World.drewN_drewN _ _ _) (congrArg (World.drewN _) (Nat.add_assoc _ _ _))⟩)) | (go_at_call 22; refine (rplace_c _ _ _).mono ?_; rintro e_ w_ ⟨rfl, ⟨n_, rfl⟩⟩; (try first | exact ⟨rfl, _, World.drewN_drewN _ _ _⟩ | exact ⟨rfl, _, Eq.trans (World.drewN_drewN _ _ _) (congrArg (World.drewN _) (Nat.add_assoc _ _ _))⟩)))
      go_upto_region 23 with (first | (go_at_call 17; refine (bit_c _ _ _ (by decide)).mono ?_; rintro e_ w_ ⟨rfl, ⟨n_, rfl⟩⟩) | (go_at_call 21; refine (with_c _ _ _ _ (by decide)).mono ?_; rintro e_ w_ ⟨rfl, ⟨n_, rfl⟩⟩) | (go_at_call 22; refine (rplace_c _ _ _).mono ?_; rintro e_ w_ ⟨rfl, ⟨n_, rfl⟩⟩))
      refine wp_region_list ?_
      refine load_hart (h := _) rfl (.tmp 5) rfl gk rfl (by repeat (with_reducible first | exact K_gk.out | apply Hb.put | apply Hb.putP | apply Hb.putV | apply Hb.putW | apply Hb.putH | apply Hb.far (Ne.symm N_ga_gk.out) | apply Hb.far (Ne.symm N_gt_gk.out) | apply Hb.far (Ne.symm N_gr_gk.out) | apply Hb.drewN | apply Hb.drew)) ?_
      refine store_hart rfl (.tmp 4) (.tmp 78) rfl gr _ rfl rfl Ht.zero (by repeat (with_reducible first | exact K_gr.out | apply Hb.put | apply Hb.putP | apply Hb.putV | apply Hb.putW | apply Hb.putH | apply Hb.far (Ne.symm N_ga_gr.out) | apply Hb.far (Ne.symm N_gt_gr.out) | apply Hb.far N_gr_gk.out | apply Hb.drewN | apply Hb.drew)) ?_
      go_wp2
      refine bodyPost_ret (results_cell_row rfl _ _ gr 25 _ (0, 0) _ rfl (Hb.putAll _ (by repeat (with_reducible first | exact K_gr.out | apply Hb.put | apply Hb.putP | apply Hb.putV | apply Hb.putW | apply Hb.putH | apply Hb.far (Ne.symm N_ga_gr.out) | apply Hb.far (Ne.symm N_gt_gr.out) | apply Hb.far N_gr_gk.out | apply Hb.drewN | apply Hb.drew))) Try.underlying25 rfl (by rw [Ht.size]; exact hartSize)) rfl ?_
      exact ⟨by (first | rfl | (simp only [renter, renterM, renterH, renterG, rguestCause, t0, if_true, if_false, Bool.false_eq_true, cond_true, cond_false]; done) | (simp only [renter, renterM, renterH, renterG, rguestCause, t0, if_true, if_false, Bool.false_eq_true, cond_true, cond_false]; rfl)), setCells_below G_gr.out _ _ _ (by repeat (first | (with_reducible first | exact hB_15.out | apply pw_below_drewN | apply below_drew1 | refine below_set ?_ G_ga.out | refine below_set ?_ G_gt.out | refine below_set ?_ G_gr.out | refine below_set ?_ G_gk.out) | exact hB_15.out))⟩
end Go.Proofs.Ytfehchhmghpfpaa.Hx
