/- Behind a trap its mode takes no interrupts: of any hart, any trap. (Walked; by a program of this session.) -/
import Derived.Test.YtfehchhmghpfpaaHBase
import Derived.Test.YtfehchhmghpfpaaHWakes
import Derived.Test.YtfehchhmghpfpaaHEntEq
set_option linter.unusedSimpArgs false
set_option linter.unusedVariables false
namespace Go.Proofs.Ytfehchhmghpfpaa.Hx
open Go.RowKit Go.Proofs.Ytfehchhmghpfpaa.Q Go.Proofs.YtfehchhmghpfpaaW.PrintWords Go.Proofs.YtfehchhmghpfpaaW.PrintLast Go.Proofs.YtfehchhmghpfpaaW.PrintMore Go.Proofs.Ytfehchhmghpfpaa.Rg

open Go.Proofs.Ytfehchhmghpfpaa.Bv
theorem bit_at (x : BitVec 64) (n : Nat) : Go.bits .and .u64 (U x / 2 ^ n) 1 = if x.getLsbD n = true then 1 else 0 := by
  rw [U_div_pow, and_u64, ofInt_U, show BitVec.ofInt 64 1 = 1#64 from rfl]
  have e : (x >>> n) &&& 1#64 = if x.getLsbD n = true then 1#64 else 0#64 := by
    apply BitVec.eq_of_getLsbD_eq; intro i hi
    rw [BitVec.getLsbD_and, BitVec.getLsbD_ushiftRight]
    by_cases h : i = 0
    · subst h; cases x.getLsbD n <;> simp_all
    · have h1 : (1#64).getLsbD i = false := by rw [show (1#64) = 1#64 <<< 0 from rfl, one_bit 0 i (by decide)]; simp [h]
      rw [h1]; cases x.getLsbD n <;> simp_all
  rw [e]
  cases x.getLsbD n <;> rfl
theorem bit1 (x : BitVec 64) : Go.bits .and .u64 (U x / 2) 1 = if x.getLsbD 1 = true then 1 else 0 := bit_at x 1
theorem bit3 (x : BitVec 64) : Go.bits .and .u64 (U x / 8) 1 = if x.getLsbD 3 = true then 1 else 0 := bit_at x 3
/-- What is asked of the hart behind a trap. -/
def Quiet (h k : Ht) (t : Int) : Prop :=
  if (t == 0) = true then (Go.bits .and .u64 (k.x 38 / 8) 1 == 0) = true
  else if (t == 1) = true then (Go.bits .and .u64 (k.x 38 / 2) 1 == 0) = true ∧ (Go.bits .and .u64 (k.x 38 / 8) 1 == Go.bits .and .u64 (h.x 38 / 8) 1) = true
  else (Go.bits .and .u64 (k.x 68 / 2) 1 == 0) = true ∧ (k.x 38 == h.x 38) = true ∧ (k.x 58 == h.x 58) = true
theorem quiet_of (h : Ht) (hw : h.wf) (tc tv tv2 tn : Int) (tg : Bool) : Quiet h (enter h true tc tv tv2 tn tg) (toV h tc) := by
  obtain ⟨s, hs⟩ := U_of (hw.1 38).1 (hw.1 38).2
  obtain ⟨v, hv⟩ := U_of (hw.1 68).1 (hw.1 68).2
  unfold Quiet enter
  rw [if_pos rfl]
  simp only
  rcases toV_cases h tc with e | e | e
  · simp only [e, show ((0 : Int) == 0) = true from rfl, show ((1 : Int) == 0) = false from rfl, show ((1 : Int) == 1) = true from rfl, show ((2 : Int) == 0) = false from rfl, show ((2 : Int) == 1) = false from rfl, show ((2 : Int) == 2) = true from rfl, Bool.false_eq_true, if_false, if_true]
    show (Go.bits .and .u64 (setV (setV (Go.bits .or .u64 (Go.bits .andNot .u64 (setV (setV (h.x 38) 7 (onV (h.x 38) 3)) 3 false) 6144) (IntKind.u64.wrap (IntKind.u64.wrap (Go.bits .and .u8 (h.x 33) 3) * 2048))) 39 h.v) 38 tg / 8) 1 == 0) = true
    rw [hs, sv_7, sv_3, mpp_eq _ (hw.1 33).1 hw.2, sv_39, sv_38, bit3]
    simp only [bset_bit _ _ _ (show 38 < 64 by decide) 3 (by decide), bset_bit _ _ _ (show 39 < 64 by decide) 3 (by decide), bset_bit _ _ _ (show 11 < 64 by decide) 3 (by decide), bset_bit _ _ _ (show 12 < 64 by decide) 3 (by decide), bset_bit _ _ _ (show 3 < 64 by decide) 3 (by decide)]
    rfl
  · simp only [e, show ((0 : Int) == 0) = true from rfl, show ((1 : Int) == 0) = false from rfl, show ((1 : Int) == 1) = true from rfl, show ((2 : Int) == 0) = false from rfl, show ((2 : Int) == 1) = false from rfl, show ((2 : Int) == 2) = true from rfl, Bool.false_eq_true, if_false, if_true]
    have e38 : (enterH h (({ ({ h with wt := false } : Ht) with hl := false } : Ht).set 37 0) tc tv tv2 tn tg).x 38 = takenV (h.x 38) (h.x 33 == 1) := by
      unfold enterH; cases h.v <;> rfl
    rw [e38, hs]
    unfold takenV
    rw [sv_5, sv_1, sv_8, bit1, bit3, bit3]
    simp only [bset_bit _ _ _ (show 8 < 64 by decide) 1 (by decide), bset_bit _ _ _ (show 1 < 64 by decide) 1 (by decide), bset_bit _ _ _ (show 8 < 64 by decide) 3 (by decide), bset_bit _ _ _ (show 1 < 64 by decide) 3 (by decide), bset_bit _ _ _ (show 5 < 64 by decide) 3 (by decide)]
    refine ⟨rfl, ?_⟩
    simp
  · simp only [e, show ((0 : Int) == 0) = true from rfl, show ((1 : Int) == 0) = false from rfl, show ((1 : Int) == 1) = true from rfl, show ((2 : Int) == 0) = false from rfl, show ((2 : Int) == 1) = false from rfl, show ((2 : Int) == 2) = true from rfl, Bool.false_eq_true, if_false, if_true]
    refine ⟨?_, ?_, ?_⟩
    · show (Go.bits .and .u64 (takenV (h.x 68) (h.x 33 == 1) / 2) 1 == 0) = true
      rw [hv]
      unfold takenV
      rw [sv_5, sv_1, sv_8, bit1]
      simp only [bset_bit _ _ _ (show 8 < 64 by decide) 1 (by decide), bset_bit _ _ _ (show 1 < 64 by decide) 1 (by decide)]
      rfl
    · exact beq_self_eq_true _
    · exact beq_self_eq_true _

set_option maxHeartbeats 16000000 in
set_option maxRecDepth 100000 in
theorem quiet_c (h : Ht) (ti : Bool) (tc tv tv2 tn : Int) (tg : Bool) (hw : h.wf) (c0 : 0 ≤ tc) (c1 : tc < 18446744073709551616) (w : World) : Calls Try.prog 4 #[.agg h.cs, .agg #[.bool ti, .int .u64 tc, .int .u64 tv, .int .u64 tv2, .int .u64 tn, .bool tg]] w fun e w' => e = .returned (.bool true) ∧ Below w.heap.size w w' := by
  have hq := quiet_of h hw tc tv tv2 tn tg
  have he := enter_c h true tc tv tv2 tn tg c0 c1
  generalize enter h true tc tv tv2 tn tg = k at hq he
  have HE := Lib.hid he; have C0 := Lib.hid c0; have C1 := Lib.hid c1
  clear he c0 c1 hw
  unfold Quiet at hq
  cases t0 : (toV h tc == 0)
  · skip
    cases t1 : (toV h tc == 1)
    · skip
      rw [t0, t1, if_neg (show ¬ (false = true) by decide), if_neg (show ¬ (false = true) by decide)] at hq
      obtain ⟨q1, q2, q3⟩ := hq
      have hu25 := Try.underlying25
      go_enter Try.func4, Try.ntmps4
      have hu27 := Try.underlying27
      go_upto_region 2 with (first | ((with_reducible refine gate_dst (N := 2) rfl ?_); refine box_event ?hg (N := 2) ?hd (cs := h.cs) (t := 25) ?hr ?_; (case hd => rfl); (case hg => rfl); (case hr => first | (go_simp; done) | (go_simp; rfl)); intro ga hg w_1 H1 hb; have hB_2 := Lib.hid (below_step (Below.refl w.heap.size w) hb); have G_ga := Lib.hid (show w.heap.size ≤ ga by rw [hg]; exact ((Below.refl w.heap.size w)).size); have K_ga := Lib.hid (show Hb w_1 ga h from H1); clear hg hb H1) | ((with_reducible refine gate_dst (N := 3) rfl ?_); refine box_event ?hg (N := 3) ?hd (cs := #[.bool ti, .int .u64 tc, .int .u64 tv, .int .u64 tv2, .int .u64 tn, .bool tg]) (t := 27) ?hr ?_; (case hd => rfl); (case hg => rfl); (case hr => first | (go_simp; done) | (go_simp; rfl)); intro gt hg w_3 H1 hb; have hB_4 := Lib.hid (below_step hB_2.out hb); have G_gt := Lib.hid (show w.heap.size ≤ gt by rw [hg]; exact (hB_2.out).size); have N_ga_gt := Lib.hid (show ga ≠ gt by rw [hg]; exact Nat.ne_of_lt (K_ga.out.lt)); replace K_ga := Lib.hid (K_ga.out.below hb); have K_gt := Lib.hid (show w_3.heap[gt]? = some (.cells #[.bool ti, .int .u64 tc, .int .u64 tv, .int .u64 tv2, .int .u64 tn, .bool tg] 27 (0, 0)) from H1); clear hg hb H1 hB_2; have c_gt_0 := (show World.cell? _ ⟨gt, 0, none⟩ = some (.bool ti) from (blk_cell K_gt.out 0).trans rfl); have f_gt_0 := blk_frozen K_gt.out 0))
      clear hu27
      refine world_code ga (by repeat (with_reducible first | exact K_ga.out | apply Hb.put | apply Hb.putP | apply Hb.putV | apply Hb.putW | apply Hb.putH | apply Hb.far N_ga_gt.out | apply Hb.drewN | apply Hb.drew)) (fun w' => Below w.heap.size w w' ∧ w'.heap[gt]? = some (.cells #[.bool true, .int .u64 tc, .int .u64 tv, .int .u64 tv2, .int .u64 tn, .bool tg] 27 (0, 0))) ⟨(by repeat (first | (with_reducible first | exact hB_4.out | apply pw_below_drewN | apply below_drew1 | refine below_set ?_ G_ga.out | refine below_set ?_ G_gt.out) | exact hB_4.out)), (blk_put K_gt.out 0 _ rfl)⟩ ?_
      clear c_gt_0 f_gt_0
      clear K_ga K_gt hB_4
      rintro w_5 q_ ⟨b_, q_gt⟩
      have K_ga := Lib.hid q_; have hB_6 := Lib.hid b_; have K_gt := Lib.hid q_gt
      clear q_ b_ q_gt
      have c_gt_1 := (show World.cell? _ ⟨gt, 1, none⟩ = some (.int .u64 tc) from (blk_cell K_gt.out 1).trans rfl); have f_gt_1 := blk_frozen K_gt.out 1
      refine wp_region_list ?_
      refine load_hart (h := h) rfl (.tmp 2) rfl ga rfl K_ga.out ?_
      refine wpList_load_row rfl 27 (.tmp 3) rfl gt rfl 27 #[.bool true, .int .u64 tc, .int .u64 tv, .int .u64 tv2, .int .u64 tn, .bool tg] (0, 0) _ K_gt.out Try.underlying27 rfl (by kernel_rfl) ?_
      go_wp2_with fail
      refine (HE.out _).mono ?_
      rintro e_7 w_8 ⟨rfl, hb⟩
      clear c_gt_1 f_gt_1
      have hB_9 := Lib.hid (below_step hB_6.out hb)
      replace K_ga := Lib.hid (K_ga.out.below hb)
      replace K_gt := Lib.hid (blk_below K_gt.out hb)
      clear hb hB_6
      go_upto_region 3 with (first | ((with_reducible refine gate_dst (N := 5) rfl ?_); refine box_event ?hg (N := 5) ?hd (cs := Ht.zero.cs) (t := 25) ?hr ?_; (case hd => rfl); (case hg => rfl); (case hr => first | (go_simp; done) | (go_simp; rfl)); intro gk hg w_10 H1 hb; have hB_12 := Lib.hid (below_step hB_9.out hb); have G_gk := Lib.hid (show w.heap.size ≤ gk by rw [hg]; exact (hB_9.out).size); have N_ga_gk := Lib.hid (show ga ≠ gk by rw [hg]; exact Nat.ne_of_lt (K_ga.out.lt)); have N_gt_gk := Lib.hid (show gt ≠ gk by rw [hg]; exact Nat.ne_of_lt (blk_lt K_gt.out)); replace K_ga := Lib.hid (K_ga.out.below hb); replace K_gt := Lib.hid (blk_below K_gt.out hb); have K_gk := Lib.hid (show Hb w_10 gk Ht.zero from H1); clear hg hb H1 hB_9) | (refine store_hart rfl (.tmp 5) (.tmp 9) rfl gk k rfl rfl Ht.zero K_gk.out ?_; have hB_13 := Lib.hid (setCells_below G_gk.out (Ht.cs k).toList 0 _ hB_12.out); replace K_ga := Lib.hid (Hb.farAll (vs := (Ht.cs k).toList) (o := 0) N_ga_gk.out K_ga.out); replace K_gt := Lib.hid (setCells_far' (vs := (Ht.cs k).toList) (o := 0) N_gt_gk.out K_gt.out); replace K_gk := Lib.hid (Hb.putAll k K_gk.out); clear hB_12; generalize World.setCells w_10 gk 0 (Ht.cs k).toList = w_11 at K_ga K_gt K_gk hB_13 ⊢))
      clear hu25
      refine wp_region_list ?_
      refine load_hart (h := h) rfl (.tmp 2) rfl ga rfl K_ga.out ?_
      have c_gt_1 := (show World.cell? _ ⟨gt, 1, none⟩ = some (.int .u64 tc) from (blk_cell K_gt.out 1).trans rfl); have f_gt_1 := blk_frozen K_gt.out 1
      go_wp2_with fail
      refine (to_c h tc _ C0.out C1.out).mono ?_
      rintro e_14 w_15 ⟨rfl, hb⟩
      clear c_gt_1 f_gt_1
      have hB_16 := Lib.hid (below_step hB_13.out hb)
      replace K_ga := Lib.hid (K_ga.out.below hb)
      replace K_gt := Lib.hid (blk_below K_gt.out hb)
      replace K_gk := Lib.hid (K_gk.out.below hb)
      clear hb hB_13
      have c_ga_38 := K_ga.out.u 38 rfl; have f_ga_38 := K_ga.out.fr 38
      have c_ga_58 := K_ga.out.u 58 rfl; have f_ga_58 := K_ga.out.fr 58
      have c_gk_38 := K_gk.out.u 38 rfl; have f_gk_38 := K_gk.out.fr 38
      have c_gk_58 := K_gk.out.u 58 rfl; have f_gk_58 := K_gk.out.fr 58
      have c_gk_68 := K_gk.out.u 68 rfl; have f_gk_68 := K_gk.out.fr 68
      go_wp2_with fail
      refine (wakes_c _).mono ?_
      rintro e_17 w_18 ⟨rfl, hb⟩
      clear c_ga_38 f_ga_38 c_ga_58 f_ga_58 c_gk_38 f_gk_38 c_gk_58 f_gk_58 c_gk_68 f_gk_68
      have hB_19 := Lib.hid (below_step hB_16.out hb)
      replace K_ga := Lib.hid (K_ga.out.below hb)
      replace K_gt := Lib.hid (blk_below K_gt.out hb)
      replace K_gk := Lib.hid (K_gk.out.below hb)
      clear hb hB_16
      go_wp2
      go_ret
      exact ⟨rfl, hB_19.out⟩
    · skip
      rw [t0, t1, if_neg (show ¬ (false = true) by decide), if_pos rfl] at hq
      obtain ⟨q1, q2⟩ := hq
      have hu25 := Try.underlying25
      go_enter Try.func4, Try.ntmps4
      have hu27 := Try.underlying27
      go_upto_region 2 with (first | ((with_reducible refine gate_dst (N := 2) rfl ?_); refine box_event ?hg (N := 2) ?hd (cs := h.cs) (t := 25) ?hr ?_; (case hd => rfl); (case hg => rfl); (case hr => first | (go_simp; done) | (go_simp; rfl)); intro ga hg w_1 H1 hb; have hB_2 := Lib.hid (below_step (Below.refl w.heap.size w) hb); have G_ga := Lib.hid (show w.heap.size ≤ ga by rw [hg]; exact ((Below.refl w.heap.size w)).size); have K_ga := Lib.hid (show Hb w_1 ga h from H1); clear hg hb H1) | ((with_reducible refine gate_dst (N := 3) rfl ?_); refine box_event ?hg (N := 3) ?hd (cs := #[.bool ti, .int .u64 tc, .int .u64 tv, .int .u64 tv2, .int .u64 tn, .bool tg]) (t := 27) ?hr ?_; (case hd => rfl); (case hg => rfl); (case hr => first | (go_simp; done) | (go_simp; rfl)); intro gt hg w_3 H1 hb; have hB_4 := Lib.hid (below_step hB_2.out hb); have G_gt := Lib.hid (show w.heap.size ≤ gt by rw [hg]; exact (hB_2.out).size); have N_ga_gt := Lib.hid (show ga ≠ gt by rw [hg]; exact Nat.ne_of_lt (K_ga.out.lt)); replace K_ga := Lib.hid (K_ga.out.below hb); have K_gt := Lib.hid (show w_3.heap[gt]? = some (.cells #[.bool ti, .int .u64 tc, .int .u64 tv, .int .u64 tv2, .int .u64 tn, .bool tg] 27 (0, 0)) from H1); clear hg hb H1 hB_2; have c_gt_0 := (show World.cell? _ ⟨gt, 0, none⟩ = some (.bool ti) from (blk_cell K_gt.out 0).trans rfl); have f_gt_0 := blk_frozen K_gt.out 0))
      clear hu27
      refine world_code ga (by repeat (with_reducible first | exact K_ga.out | apply Hb.put | apply Hb.putP | apply Hb.putV | apply Hb.putW | apply Hb.putH | apply Hb.far N_ga_gt.out | apply Hb.drewN | apply Hb.drew)) (fun w' => Below w.heap.size w w' ∧ w'.heap[gt]? = some (.cells #[.bool true, .int .u64 tc, .int .u64 tv, .int .u64 tv2, .int .u64 tn, .bool tg] 27 (0, 0))) ⟨(by repeat (first | (with_reducible first | exact hB_4.out | apply pw_below_drewN | apply below_drew1 | refine below_set ?_ G_ga.out | refine below_set ?_ G_gt.out) | exact hB_4.out)), (blk_put K_gt.out 0 _ rfl)⟩ ?_
      clear c_gt_0 f_gt_0
      clear K_ga K_gt hB_4
      rintro w_5 q_ ⟨b_, q_gt⟩
      have K_ga := Lib.hid q_; have hB_6 := Lib.hid b_; have K_gt := Lib.hid q_gt
      clear q_ b_ q_gt
      have c_gt_1 := (show World.cell? _ ⟨gt, 1, none⟩ = some (.int .u64 tc) from (blk_cell K_gt.out 1).trans rfl); have f_gt_1 := blk_frozen K_gt.out 1
      refine wp_region_list ?_
      refine load_hart (h := h) rfl (.tmp 2) rfl ga rfl K_ga.out ?_
      refine wpList_load_row rfl 27 (.tmp 3) rfl gt rfl 27 #[.bool true, .int .u64 tc, .int .u64 tv, .int .u64 tv2, .int .u64 tn, .bool tg] (0, 0) _ K_gt.out Try.underlying27 rfl (by kernel_rfl) ?_
      go_wp2_with fail
      refine (HE.out _).mono ?_
      rintro e_7 w_8 ⟨rfl, hb⟩
      clear c_gt_1 f_gt_1
      have hB_9 := Lib.hid (below_step hB_6.out hb)
      replace K_ga := Lib.hid (K_ga.out.below hb)
      replace K_gt := Lib.hid (blk_below K_gt.out hb)
      clear hb hB_6
      go_upto_region 3 with (first | ((with_reducible refine gate_dst (N := 5) rfl ?_); refine box_event ?hg (N := 5) ?hd (cs := Ht.zero.cs) (t := 25) ?hr ?_; (case hd => rfl); (case hg => rfl); (case hr => first | (go_simp; done) | (go_simp; rfl)); intro gk hg w_10 H1 hb; have hB_12 := Lib.hid (below_step hB_9.out hb); have G_gk := Lib.hid (show w.heap.size ≤ gk by rw [hg]; exact (hB_9.out).size); have N_ga_gk := Lib.hid (show ga ≠ gk by rw [hg]; exact Nat.ne_of_lt (K_ga.out.lt)); have N_gt_gk := Lib.hid (show gt ≠ gk by rw [hg]; exact Nat.ne_of_lt (blk_lt K_gt.out)); replace K_ga := Lib.hid (K_ga.out.below hb); replace K_gt := Lib.hid (blk_below K_gt.out hb); have K_gk := Lib.hid (show Hb w_10 gk Ht.zero from H1); clear hg hb H1 hB_9) | (refine store_hart rfl (.tmp 5) (.tmp 9) rfl gk k rfl rfl Ht.zero K_gk.out ?_; have hB_13 := Lib.hid (setCells_below G_gk.out (Ht.cs k).toList 0 _ hB_12.out); replace K_ga := Lib.hid (Hb.farAll (vs := (Ht.cs k).toList) (o := 0) N_ga_gk.out K_ga.out); replace K_gt := Lib.hid (setCells_far' (vs := (Ht.cs k).toList) (o := 0) N_gt_gk.out K_gt.out); replace K_gk := Lib.hid (Hb.putAll k K_gk.out); clear hB_12; generalize World.setCells w_10 gk 0 (Ht.cs k).toList = w_11 at K_ga K_gt K_gk hB_13 ⊢))
      clear hu25
      refine wp_region_list ?_
      refine load_hart (h := h) rfl (.tmp 2) rfl ga rfl K_ga.out ?_
      have c_gt_1 := (show World.cell? _ ⟨gt, 1, none⟩ = some (.int .u64 tc) from (blk_cell K_gt.out 1).trans rfl); have f_gt_1 := blk_frozen K_gt.out 1
      go_wp2_with fail
      refine (to_c h tc _ C0.out C1.out).mono ?_
      rintro e_14 w_15 ⟨rfl, hb⟩
      clear c_gt_1 f_gt_1
      have hB_16 := Lib.hid (below_step hB_13.out hb)
      replace K_ga := Lib.hid (K_ga.out.below hb)
      replace K_gt := Lib.hid (blk_below K_gt.out hb)
      replace K_gk := Lib.hid (K_gk.out.below hb)
      clear hb hB_13
      have c_ga_38 := K_ga.out.u 38 rfl; have f_ga_38 := K_ga.out.fr 38
      have c_ga_58 := K_ga.out.u 58 rfl; have f_ga_58 := K_ga.out.fr 58
      have c_gk_38 := K_gk.out.u 38 rfl; have f_gk_38 := K_gk.out.fr 38
      have c_gk_58 := K_gk.out.u 58 rfl; have f_gk_58 := K_gk.out.fr 58
      have c_gk_68 := K_gk.out.u 68 rfl; have f_gk_68 := K_gk.out.fr 68
      go_wp2_with fail
      refine (wakes_c _).mono ?_
      rintro e_17 w_18 ⟨rfl, hb⟩
      clear c_ga_38 f_ga_38 c_ga_58 f_ga_58 c_gk_38 f_gk_38 c_gk_58 f_gk_58 c_gk_68 f_gk_68
      have hB_19 := Lib.hid (below_step hB_16.out hb)
      replace K_ga := Lib.hid (K_ga.out.below hb)
      replace K_gt := Lib.hid (blk_below K_gt.out hb)
      replace K_gk := Lib.hid (K_gk.out.below hb)
      clear hb hB_16
      go_wp2
      go_ret
      exact ⟨rfl, hB_19.out⟩
  · skip
    rw [t0, if_pos rfl] at hq
    have hu25 := Try.underlying25
    go_enter Try.func4, Try.ntmps4
    have hu27 := Try.underlying27
    go_upto_region 2 with (first | ((with_reducible refine gate_dst (N := 2) rfl ?_); refine box_event ?hg (N := 2) ?hd (cs := h.cs) (t := 25) ?hr ?_; (case hd => rfl); (case hg => rfl); (case hr => first | (go_simp; done) | (go_simp; rfl)); intro ga hg w_1 H1 hb; have hB_2 := Lib.hid (below_step (Below.refl w.heap.size w) hb); have G_ga := Lib.hid (show w.heap.size ≤ ga by rw [hg]; exact ((Below.refl w.heap.size w)).size); have K_ga := Lib.hid (show Hb w_1 ga h from H1); clear hg hb H1) | ((with_reducible refine gate_dst (N := 3) rfl ?_); refine box_event ?hg (N := 3) ?hd (cs := #[.bool ti, .int .u64 tc, .int .u64 tv, .int .u64 tv2, .int .u64 tn, .bool tg]) (t := 27) ?hr ?_; (case hd => rfl); (case hg => rfl); (case hr => first | (go_simp; done) | (go_simp; rfl)); intro gt hg w_3 H1 hb; have hB_4 := Lib.hid (below_step hB_2.out hb); have G_gt := Lib.hid (show w.heap.size ≤ gt by rw [hg]; exact (hB_2.out).size); have N_ga_gt := Lib.hid (show ga ≠ gt by rw [hg]; exact Nat.ne_of_lt (K_ga.out.lt)); replace K_ga := Lib.hid (K_ga.out.below hb); have K_gt := Lib.hid (show w_3.heap[gt]? = some (.cells #[.bool ti, .int .u64 tc, .int .u64 tv, .int .u64 tv2, .int .u64 tn, .bool tg] 27 (0, 0)) from H1); clear hg hb H1 hB_2; have c_gt_0 := (show World.cell? _ ⟨gt, 0, none⟩ = some (.bool ti) from (blk_cell K_gt.out 0).trans rfl); have f_gt_0 := blk_frozen K_gt.out 0))
    clear hu27
    refine world_code ga (by repeat (with_reducible first | exact K_ga.out | apply Hb.put | apply Hb.putP | apply Hb.putV | apply Hb.putW | apply Hb.putH | apply Hb.far N_ga_gt.out | apply Hb.drewN | apply Hb.drew)) (fun w' => Below w.heap.size w w' ∧ w'.heap[gt]? = some (.cells #[.bool true, .int .u64 tc, .int .u64 tv, .int .u64 tv2, .int .u64 tn, .bool tg] 27 (0, 0))) ⟨(by repeat (first | (with_reducible first | exact hB_4.out | apply pw_below_drewN | apply below_drew1 | refine below_set ?_ G_ga.out | refine below_set ?_ G_gt.out) | exact hB_4.out)), (blk_put K_gt.out 0 _ rfl)⟩ ?_
    clear c_gt_0 f_gt_0
    clear K_ga K_gt hB_4
    rintro w_5 q_ ⟨b_, q_gt⟩
    have K_ga := Lib.hid q_; have hB_6 := Lib.hid b_; have K_gt := Lib.hid q_gt
    clear q_ b_ q_gt
    have c_gt_1 := (show World.cell? _ ⟨gt, 1, none⟩ = some (.int .u64 tc) from (blk_cell K_gt.out 1).trans rfl); have f_gt_1 := blk_frozen K_gt.out 1
    refine wp_region_list ?_
    refine load_hart (h := h) rfl (.tmp 2) rfl ga rfl K_ga.out ?_
    refine wpList_load_row rfl 27 (.tmp 3) rfl gt rfl 27 #[.bool true, .int .u64 tc, .int .u64 tv, .int .u64 tv2, .int .u64 tn, .bool tg] (0, 0) _ K_gt.out Try.underlying27 rfl (by kernel_rfl) ?_
    go_wp2_with fail
    refine (HE.out _).mono ?_
    rintro e_7 w_8 ⟨rfl, hb⟩
    clear c_gt_1 f_gt_1
    have hB_9 := Lib.hid (below_step hB_6.out hb)
    replace K_ga := Lib.hid (K_ga.out.below hb)
    replace K_gt := Lib.hid (blk_below K_gt.out hb)
    clear hb hB_6
    go_upto_region 3 with (first | ((with_reducible refine gate_dst (N := 5) rfl ?_); refine box_event ?hg (N := 5) ?hd (cs := Ht.zero.cs) (t := 25) ?hr ?_; (case hd => rfl); (case hg => rfl); (case hr => first | (go_simp; done) | (go_simp; rfl)); intro gk hg w_10 H1 hb; have hB_12 := Lib.hid (below_step hB_9.out hb); have G_gk := Lib.hid (show w.heap.size ≤ gk by rw [hg]; exact (hB_9.out).size); have N_ga_gk := Lib.hid (show ga ≠ gk by rw [hg]; exact Nat.ne_of_lt (K_ga.out.lt)); have N_gt_gk := Lib.hid (show gt ≠ gk by rw [hg]; exact Nat.ne_of_lt (blk_lt K_gt.out)); replace K_ga := Lib.hid (K_ga.out.below hb); replace K_gt := Lib.hid (blk_below K_gt.out hb); have K_gk := Lib.hid (show Hb w_10 gk Ht.zero from H1); clear hg hb H1 hB_9) | (refine store_hart rfl (.tmp 5) (.tmp 9) rfl gk k rfl rfl Ht.zero K_gk.out ?_; have hB_13 := Lib.hid (setCells_below G_gk.out (Ht.cs k).toList 0 _ hB_12.out); replace K_ga := Lib.hid (Hb.farAll (vs := (Ht.cs k).toList) (o := 0) N_ga_gk.out K_ga.out); replace K_gt := Lib.hid (setCells_far' (vs := (Ht.cs k).toList) (o := 0) N_gt_gk.out K_gt.out); replace K_gk := Lib.hid (Hb.putAll k K_gk.out); clear hB_12; generalize World.setCells w_10 gk 0 (Ht.cs k).toList = w_11 at K_ga K_gt K_gk hB_13 ⊢))
    clear hu25
    refine wp_region_list ?_
    refine load_hart (h := h) rfl (.tmp 2) rfl ga rfl K_ga.out ?_
    have c_gt_1 := (show World.cell? _ ⟨gt, 1, none⟩ = some (.int .u64 tc) from (blk_cell K_gt.out 1).trans rfl); have f_gt_1 := blk_frozen K_gt.out 1
    go_wp2_with fail
    refine (to_c h tc _ C0.out C1.out).mono ?_
    rintro e_14 w_15 ⟨rfl, hb⟩
    clear c_gt_1 f_gt_1
    have hB_16 := Lib.hid (below_step hB_13.out hb)
    replace K_ga := Lib.hid (K_ga.out.below hb)
    replace K_gt := Lib.hid (blk_below K_gt.out hb)
    replace K_gk := Lib.hid (K_gk.out.below hb)
    clear hb hB_13
    have c_ga_38 := K_ga.out.u 38 rfl; have f_ga_38 := K_ga.out.fr 38
    have c_ga_58 := K_ga.out.u 58 rfl; have f_ga_58 := K_ga.out.fr 58
    have c_gk_38 := K_gk.out.u 38 rfl; have f_gk_38 := K_gk.out.fr 38
    have c_gk_58 := K_gk.out.u 58 rfl; have f_gk_58 := K_gk.out.fr 58
    have c_gk_68 := K_gk.out.u 68 rfl; have f_gk_68 := K_gk.out.fr 68
    go_wp2_with fail
    refine (wakes_c _).mono ?_
    rintro e_17 w_18 ⟨rfl, hb⟩
    clear c_ga_38 f_ga_38 c_ga_58 f_ga_58 c_gk_38 f_gk_38 c_gk_58 f_gk_58 c_gk_68 f_gk_68
    have hB_19 := Lib.hid (below_step hB_16.out hb)
    replace K_ga := Lib.hid (K_ga.out.below hb)
    replace K_gt := Lib.hid (blk_below K_gt.out hb)
    replace K_gk := Lib.hid (K_gk.out.below hb)
    clear hb hB_16
    go_wp2
    go_ret
    exact ⟨rfl, hB_19.out⟩
end Go.Proofs.Ytfehchhmghpfpaa.Hx
