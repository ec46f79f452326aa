/- The hart behind writing a register. (By a program of this session.) -/
import Derived.Test.YtlopmcakfalkpaaDoorCAll
import Derived.Test.YtlopmcakfalkpaaDoorCMask
import Derived.Test.YtlopmcakfalkpaaDoorCRead
import Derived.Test.YtlopmcakfalkpaaDoorCBase
set_option linter.unusedSimpArgs false
set_option linter.unusedVariables false
namespace Go.Proofs.YtlopmcakfalkpaaDoor.Hx
open Go.RowKit Go.Proofs.YtlopmcakfalkpaaDoor.Q Go.Proofs.YtlopmcakfalkpaaDoorW.PrintWords Go.Proofs.YtlopmcakfalkpaaDoorW.PrintLast Go.Proofs.YtlopmcakfalkpaaDoorW.PrintMore Go.Proofs.YtlopmcakfalkpaaDoor.Rg

def shl1 (v : Int) : Int := IntKind.u64.wrap (v * 2)
def knownV (no : Int) : Bool := (csrno_Known.f no).getD false
def writeT (h : Ht) (m v : Int) : Ht := if m = 256 then h.set 38 (putV (h.x 38) 786722 v) else if m = 836 then (h.set 42 (putV (h.x 42) 546 v)).set 61 (putV (h.x 61) 4 v) else if m = 324 then h.set 42 (putV (h.x 42) (Go.bits .and .u64 (h.x 40) 2) v) else if m = 260 then h.set 41 (putV (h.x 41) (Go.bits .and .u64 (h.x 40) 546) v) else if m = 1604 then h.set 61 (putV (h.x 61) 4 v) else if m = 1540 then h.set 41 (putV (h.x 41) 5188 v) else if m = 580 then h.set 61 (putV (h.x 61) (Go.bits .and .u64 (h.x 60) 4) (shl1 v)) else if m = 516 then h.set 41 (putV (h.x 41) (Go.bits .and .u64 (h.x 60) 1092) (shl1 v)) else h
def mayV (m v m1 : Int) : Int := if (m == 768) = true then (if (Go.bits .and .u64 (v / 2048) 3 == 2) = true then Go.bits .andNot .u64 m1 6144 else m1) else m1
def writeM (h : Ht) (m v : Int) : Ht := if knownV m = true then (match fieldOff m with
  | some o => if tablesV m = true then (if modeV v = true then h.set o (putV (h.x o) (mayV m v (maskV m).1) v) else h) else h.set o (putV (h.x o) (mayV m v (maskV m).1) v)
  | none => writeT h m v) else h
/-- The hart behind writing a register. -/
def writeV (h : Ht) (no v : Int) : Ht := writeM h (meantV h.v no) v

set_option maxHeartbeats 16000000 in
set_option maxRecDepth 100000 in
theorem write_c (h : Ht) (la lb lc ld : Bool) (lg lt : Int) (no v : Int) (w : World) (hT : Tab w) : Calls Tryd.prog 19 #[.agg h.cs, .agg #[.bool la, .bool lb, .bool lc, .bool ld, .int .u64 lg, .int .u64 lt], .int .i64 no, .int .u64 v] w fun e w' => e = .returned (.agg (writeV h no v).cs) ∧ Below w.heap.size w w' := by
  have hm := fun g w H => meant_c g no h w H
  obtain ⟨z, hz⟩ : ∃ z, writeV h no v = z := ⟨_, rfl⟩
  rw [hz]
  unfold writeV at hz
  generalize meantV h.v no = no2 at hm hz
  unfold writeM at hz
  have hk : ∀ w, Tab w → Calls Tryd.prog 24 #[.int .i64 no2] w fun e w' => e = .returned (.bool (knownV no2)) ∧ Drawn0 w w' := fun w t => known_c no2 w t
  have HM := Lib.hid hm; have HT := Lib.hid hT
  clear hm hT
  cases hkv : knownV no2
  · rw [hkv] at hk hz
    simp only [Bool.false_eq_true, if_false] at hz
    have HK := Lib.hid hk; have HZ := Lib.hid hz
    clear hk hz hkv
    have hu25 := Tryd.underlying25; have hu27 := Tryd.underlying27
    go_enter Tryd.func19, Tryd.ntmps19
    go_upto_region 1 with (first | ((with_reducible refine gate_dst (N := 4) rfl ?_); refine box_event ?hg (N := 4) ?hd (cs := h.cs) (t := 25) ?hr ?_; (case hd => rfl); (case hg => rfl); (case hr => first | (go_simp; done) | (go_simp; rfl)); intro ga hg w_1 H1 hb; have hB_2 := Lib.hid (below_step (Below.refl w.heap.size w) hb); have G_ga := Lib.hid (show w.heap.size ≤ ga by rw [hg]; exact ((Below.refl w.heap.size w)).size); have K_ga := Lib.hid (show Hb w_1 ga h from H1); clear hg hb H1) | ((with_reducible refine gate_dst (N := 5) rfl ?_); refine box_event ?hg (N := 5) ?hd (cs := #[.bool la, .bool lb, .bool lc, .bool ld, .int .u64 lg, .int .u64 lt]) (t := 27) ?hr ?_; (case hd => rfl); (case hg => rfl); (case hr => first | (go_simp; done) | (go_simp; rfl)); intro gt hg w_3 H1 hb; have hB_4 := Lib.hid (below_step hB_2.out hb); have G_gt := Lib.hid (show w.heap.size ≤ gt by rw [hg]; exact (hB_2.out).size); have N_ga_gt := Lib.hid (show ga ≠ gt by rw [hg]; exact Nat.ne_of_lt (K_ga.out.lt)); replace K_ga := Lib.hid (K_ga.out.below hb); have K_gt := Lib.hid (show w_3.heap[gt]? = some (.cells #[.bool la, .bool lb, .bool lc, .bool ld, .int .u64 lg, .int .u64 lt] 27 (0, 0)) from H1); clear hg hb H1 hB_2) | ((with_reducible refine gate_dst (N := 8) rfl ?_); refine box_event ?hg (N := 8) ?hd (cs := Ht.zero.cs) (t := 25) ?hr ?_; (case hd => rfl); (case hg => rfl); (case hr => first | (go_simp; done) | (go_simp; rfl)); intro gr hg w_5 H1 hb; have hB_6 := Lib.hid (below_step hB_4.out hb); have G_gr := Lib.hid (show w.heap.size ≤ gr by rw [hg]; exact (hB_4.out).size); have N_ga_gr := Lib.hid (show ga ≠ gr by rw [hg]; exact Nat.ne_of_lt (K_ga.out.lt)); have N_gt_gr := Lib.hid (show gt ≠ gr by rw [hg]; exact Nat.ne_of_lt (blk_lt K_gt.out)); replace K_ga := Lib.hid (K_ga.out.below hb); replace K_gt := Lib.hid (blk_below K_gt.out hb); have K_gr := Lib.hid (show Hb w_5 gr Ht.zero from H1); clear hg hb H1 hB_4; clear hu25 hu27))
    go_wp2_with fail
    refine (HM.out ga _ K_ga.out).mono ?_
    rintro e1 w1 ⟨rfl, rfl⟩
    go_wp2_with fail
    refine (HK.out _ (Tab.from HT.out hB_6.out)).mono ?_
    rintro e2 w2 ⟨rfl, n_, e2⟩
    replace K_ga := Lib.hid (Hb.of e2.symm (K_ga.out.drewN n_))
    replace K_gr := Lib.hid (Hb.of e2.symm (K_gr.out.drewN n_))
    have hB_7 := Lib.hid (Below_of e2.symm (pw_below_drewN hB_6.out n_))
    clear e2 hB_6
    go_upto_region 3 with (fail)
    refine wp_region_list ?_
    refine load_hart (h := _) rfl (.tmp 4) rfl ga rfl (by repeat (with_reducible first | exact K_ga.out | apply Hb.put | apply Hb.putP | apply Hb.putV | apply Hb.putW | apply Hb.putH | apply Hb.far N_ga_gr.out | apply Hb.drewN | apply Hb.drew)) ?_
    refine store_hart rfl (.tmp 8) (.tmp 17) rfl gr _ rfl rfl Ht.zero (by repeat (with_reducible first | exact K_gr.out | apply Hb.put | apply Hb.putP | apply Hb.putV | apply Hb.putW | apply Hb.putH | apply Hb.far (Ne.symm N_ga_gr.out) | apply Hb.drewN | apply Hb.drew)) ?_
    go_wp2
    refine bodyPost_ret (results_cell_row rfl _ _ gr 25 _ (0, 0) _ rfl (Hb.putAll _ (by repeat (with_reducible first | exact K_gr.out | apply Hb.put | apply Hb.putP | apply Hb.putV | apply Hb.putW | apply Hb.putH | apply Hb.far (Ne.symm N_ga_gr.out) | apply Hb.drewN | apply Hb.drew))) Tryd.underlying25 rfl (by rw [Ht.size]; exact hartSize)) rfl ?_
    exact ⟨by first | (rw [← HZ.out]; done) | (rw [← HZ.out]; rfl), setCells_below G_gr.out _ _ _ (by repeat (first | (with_reducible first | exact hB_7.out | apply pw_below_drewN | apply below_drew1 | refine below_set ?_ G_ga.out | refine below_set ?_ G_gr.out) | exact hB_7.out))⟩
  · rw [hkv] at hk hz
    simp only [if_true] at hz
    have HK := Lib.hid hk
    clear hk hkv
    have hf := fun g w => field_c g no2 w
    cases ho : fieldOff no2 with
    | none =>
      rw [ho] at hf hz
      simp only at hz
      have HF := Lib.hid hf; have HZ := Lib.hid hz
      clear hf ho hz
      by_cases h_256 : no2 = 256
      · subst h_256
        have hu25 := Tryd.underlying25; have hu27 := Tryd.underlying27
        go_enter Tryd.func19, Tryd.ntmps19
        go_upto_region 1 with (first | ((with_reducible refine gate_dst (N := 4) rfl ?_); refine box_event ?hg (N := 4) ?hd (cs := h.cs) (t := 25) ?hr ?_; (case hd => rfl); (case hg => rfl); (case hr => first | (go_simp; done) | (go_simp; rfl)); intro ga hg w_1 H1 hb; have hB_2 := Lib.hid (below_step (Below.refl w.heap.size w) hb); have G_ga := Lib.hid (show w.heap.size ≤ ga by rw [hg]; exact ((Below.refl w.heap.size w)).size); have K_ga := Lib.hid (show Hb w_1 ga h from H1); clear hg hb H1) | ((with_reducible refine gate_dst (N := 5) rfl ?_); refine box_event ?hg (N := 5) ?hd (cs := #[.bool la, .bool lb, .bool lc, .bool ld, .int .u64 lg, .int .u64 lt]) (t := 27) ?hr ?_; (case hd => rfl); (case hg => rfl); (case hr => first | (go_simp; done) | (go_simp; rfl)); intro gt hg w_3 H1 hb; have hB_4 := Lib.hid (below_step hB_2.out hb); have G_gt := Lib.hid (show w.heap.size ≤ gt by rw [hg]; exact (hB_2.out).size); have N_ga_gt := Lib.hid (show ga ≠ gt by rw [hg]; exact Nat.ne_of_lt (K_ga.out.lt)); replace K_ga := Lib.hid (K_ga.out.below hb); have K_gt := Lib.hid (show w_3.heap[gt]? = some (.cells #[.bool la, .bool lb, .bool lc, .bool ld, .int .u64 lg, .int .u64 lt] 27 (0, 0)) from H1); clear hg hb H1 hB_2) | ((with_reducible refine gate_dst (N := 8) rfl ?_); refine box_event ?hg (N := 8) ?hd (cs := Ht.zero.cs) (t := 25) ?hr ?_; (case hd => rfl); (case hg => rfl); (case hr => first | (go_simp; done) | (go_simp; rfl)); intro gr hg w_5 H1 hb; have hB_6 := Lib.hid (below_step hB_4.out hb); have G_gr := Lib.hid (show w.heap.size ≤ gr by rw [hg]; exact (hB_4.out).size); have N_ga_gr := Lib.hid (show ga ≠ gr by rw [hg]; exact Nat.ne_of_lt (K_ga.out.lt)); have N_gt_gr := Lib.hid (show gt ≠ gr by rw [hg]; exact Nat.ne_of_lt (blk_lt K_gt.out)); replace K_ga := Lib.hid (K_ga.out.below hb); replace K_gt := Lib.hid (blk_below K_gt.out hb); have K_gr := Lib.hid (show Hb w_5 gr Ht.zero from H1); clear hg hb H1 hB_4; clear hu25 hu27))
        go_wp2_with fail
        refine (HM.out ga _ K_ga.out).mono ?_
        rintro e1 w1 ⟨rfl, rfl⟩
        go_wp2_with fail
        refine (HK.out _ (Tab.from HT.out hB_6.out)).mono ?_
        rintro e2 w2 ⟨rfl, n_, e2⟩
        replace K_ga := Lib.hid (Hb.of e2.symm (K_ga.out.drewN n_))
        replace K_gr := Lib.hid (Hb.of e2.symm (K_gr.out.drewN n_))
        have hB_7 := Lib.hid (Below_of e2.symm (pw_below_drewN hB_6.out n_))
        clear e2 hB_6
        go_wp2_with fail
        refine (HF.out ga _).mono ?_
        rintro e3 w3 ⟨rfl, rfl⟩
        simp only [ptrOf, Option.map_none]
        have hz : h.set 38 (putV (h.x 38) 786722 v) = z := HZ.out
        clear HZ
        have HZ := Lib.hid hz
        clear hz
        go_wp2_with fail
        refine (put_c ga 38 _ _ _ _ (by repeat (with_reducible first | exact K_ga.out | apply Hb.put | apply Hb.putP | apply Hb.putV | apply Hb.putW | apply Hb.putH | apply Hb.far N_ga_gr.out | apply Hb.drewN | apply Hb.drew)) rfl).mono ?_
        rintro e4 w4 ⟨rfl, rfl⟩
        go_upto_region 31 with (fail)
        refine wp_region_list ?_
        refine load_hart (h := _) rfl (.tmp 4) rfl ga rfl (by repeat (with_reducible first | exact K_ga.out | apply Hb.put | apply Hb.putP | apply Hb.putV | apply Hb.putW | apply Hb.putH | apply Hb.far N_ga_gr.out | apply Hb.drewN | apply Hb.drew)) ?_
        refine store_hart rfl (.tmp 8) (.tmp 110) rfl gr _ rfl rfl Ht.zero (by repeat (with_reducible first | exact K_gr.out | apply Hb.put | apply Hb.putP | apply Hb.putV | apply Hb.putW | apply Hb.putH | apply Hb.far (Ne.symm N_ga_gr.out) | apply Hb.drewN | apply Hb.drew)) ?_
        go_wp2
        refine bodyPost_ret (results_cell_row rfl _ _ gr 25 _ (0, 0) _ rfl (Hb.putAll _ (by repeat (with_reducible first | exact K_gr.out | apply Hb.put | apply Hb.putP | apply Hb.putV | apply Hb.putW | apply Hb.putH | apply Hb.far (Ne.symm N_ga_gr.out) | apply Hb.drewN | apply Hb.drew))) Tryd.underlying25 rfl (by rw [Ht.size]; exact hartSize)) rfl ?_
        exact ⟨by first | (rw [← HZ.out]; done) | (rw [← HZ.out]; rfl), setCells_below G_gr.out _ _ _ (by repeat (first | (with_reducible first | exact hB_7.out | apply pw_below_drewN | apply below_drew1 | refine below_set ?_ G_ga.out | refine below_set ?_ G_gr.out) | exact hB_7.out))⟩
      by_cases h_836 : no2 = 836
      · subst h_836
        have hu25 := Tryd.underlying25; have hu27 := Tryd.underlying27
        go_enter Tryd.func19, Tryd.ntmps19
        go_upto_region 1 with (first | ((with_reducible refine gate_dst (N := 4) rfl ?_); refine box_event ?hg (N := 4) ?hd (cs := h.cs) (t := 25) ?hr ?_; (case hd => rfl); (case hg => rfl); (case hr => first | (go_simp; done) | (go_simp; rfl)); intro ga hg w_1 H1 hb; have hB_2 := Lib.hid (below_step (Below.refl w.heap.size w) hb); have G_ga := Lib.hid (show w.heap.size ≤ ga by rw [hg]; exact ((Below.refl w.heap.size w)).size); have K_ga := Lib.hid (show Hb w_1 ga h from H1); clear hg hb H1) | ((with_reducible refine gate_dst (N := 5) rfl ?_); refine box_event ?hg (N := 5) ?hd (cs := #[.bool la, .bool lb, .bool lc, .bool ld, .int .u64 lg, .int .u64 lt]) (t := 27) ?hr ?_; (case hd => rfl); (case hg => rfl); (case hr => first | (go_simp; done) | (go_simp; rfl)); intro gt hg w_3 H1 hb; have hB_4 := Lib.hid (below_step hB_2.out hb); have G_gt := Lib.hid (show w.heap.size ≤ gt by rw [hg]; exact (hB_2.out).size); have N_ga_gt := Lib.hid (show ga ≠ gt by rw [hg]; exact Nat.ne_of_lt (K_ga.out.lt)); replace K_ga := Lib.hid (K_ga.out.below hb); have K_gt := Lib.hid (show w_3.heap[gt]? = some (.cells #[.bool la, .bool lb, .bool lc, .bool ld, .int .u64 lg, .int .u64 lt] 27 (0, 0)) from H1); clear hg hb H1 hB_2) | ((with_reducible refine gate_dst (N := 8) rfl ?_); refine box_event ?hg (N := 8) ?hd (cs := Ht.zero.cs) (t := 25) ?hr ?_; (case hd => rfl); (case hg => rfl); (case hr => first | (go_simp; done) | (go_simp; rfl)); intro gr hg w_5 H1 hb; have hB_6 := Lib.hid (below_step hB_4.out hb); have G_gr := Lib.hid (show w.heap.size ≤ gr by rw [hg]; exact (hB_4.out).size); have N_ga_gr := Lib.hid (show ga ≠ gr by rw [hg]; exact Nat.ne_of_lt (K_ga.out.lt)); have N_gt_gr := Lib.hid (show gt ≠ gr by rw [hg]; exact Nat.ne_of_lt (blk_lt K_gt.out)); replace K_ga := Lib.hid (K_ga.out.below hb); replace K_gt := Lib.hid (blk_below K_gt.out hb); have K_gr := Lib.hid (show Hb w_5 gr Ht.zero from H1); clear hg hb H1 hB_4; clear hu25 hu27))
        go_wp2_with fail
        refine (HM.out ga _ K_ga.out).mono ?_
        rintro e1 w1 ⟨rfl, rfl⟩
        go_wp2_with fail
        refine (HK.out _ (Tab.from HT.out hB_6.out)).mono ?_
        rintro e2 w2 ⟨rfl, n_, e2⟩
        replace K_ga := Lib.hid (Hb.of e2.symm (K_ga.out.drewN n_))
        replace K_gr := Lib.hid (Hb.of e2.symm (K_gr.out.drewN n_))
        have hB_7 := Lib.hid (Below_of e2.symm (pw_below_drewN hB_6.out n_))
        clear e2 hB_6
        go_wp2_with fail
        refine (HF.out ga _).mono ?_
        rintro e3 w3 ⟨rfl, rfl⟩
        simp only [ptrOf, Option.map_none]
        have hz : (h.set 42 (putV (h.x 42) 546 v)).set 61 (putV (h.x 61) 4 v) = z := HZ.out
        clear HZ
        have HZ := Lib.hid hz
        clear hz
        go_wp2_with fail
        refine (put_c ga 42 _ _ _ _ (by repeat (with_reducible first | exact K_ga.out | apply Hb.put | apply Hb.putP | apply Hb.putV | apply Hb.putW | apply Hb.putH | apply Hb.far N_ga_gr.out | apply Hb.drewN | apply Hb.drew)) rfl).mono ?_
        rintro e4 w4 ⟨rfl, rfl⟩
        go_wp2_with fail
        refine (put_c ga 61 _ _ _ _ (by repeat (with_reducible first | exact K_ga.out | apply Hb.put | apply Hb.putP | apply Hb.putV | apply Hb.putW | apply Hb.putH | apply Hb.far N_ga_gr.out | apply Hb.drewN | apply Hb.drew)) rfl).mono ?_
        rintro e5 w5 ⟨rfl, rfl⟩
        go_upto_region 31 with (fail)
        refine wp_region_list ?_
        refine load_hart (h := _) rfl (.tmp 4) rfl ga rfl (by repeat (with_reducible first | exact K_ga.out | apply Hb.put | apply Hb.putP | apply Hb.putV | apply Hb.putW | apply Hb.putH | apply Hb.far N_ga_gr.out | apply Hb.drewN | apply Hb.drew)) ?_
        refine store_hart rfl (.tmp 8) (.tmp 110) rfl gr _ rfl rfl Ht.zero (by repeat (with_reducible first | exact K_gr.out | apply Hb.put | apply Hb.putP | apply Hb.putV | apply Hb.putW | apply Hb.putH | apply Hb.far (Ne.symm N_ga_gr.out) | apply Hb.drewN | apply Hb.drew)) ?_
        go_wp2
        refine bodyPost_ret (results_cell_row rfl _ _ gr 25 _ (0, 0) _ rfl (Hb.putAll _ (by repeat (with_reducible first | exact K_gr.out | apply Hb.put | apply Hb.putP | apply Hb.putV | apply Hb.putW | apply Hb.putH | apply Hb.far (Ne.symm N_ga_gr.out) | apply Hb.drewN | apply Hb.drew))) Tryd.underlying25 rfl (by rw [Ht.size]; exact hartSize)) rfl ?_
        exact ⟨by first | (rw [← HZ.out]; done) | (rw [← HZ.out]; rfl), setCells_below G_gr.out _ _ _ (by repeat (first | (with_reducible first | exact hB_7.out | apply pw_below_drewN | apply below_drew1 | refine below_set ?_ G_ga.out | refine below_set ?_ G_gr.out) | exact hB_7.out))⟩
      by_cases h_324 : no2 = 324
      · subst h_324
        have hu25 := Tryd.underlying25; have hu27 := Tryd.underlying27
        go_enter Tryd.func19, Tryd.ntmps19
        go_upto_region 1 with (first | ((with_reducible refine gate_dst (N := 4) rfl ?_); refine box_event ?hg (N := 4) ?hd (cs := h.cs) (t := 25) ?hr ?_; (case hd => rfl); (case hg => rfl); (case hr => first | (go_simp; done) | (go_simp; rfl)); intro ga hg w_1 H1 hb; have hB_2 := Lib.hid (below_step (Below.refl w.heap.size w) hb); have G_ga := Lib.hid (show w.heap.size ≤ ga by rw [hg]; exact ((Below.refl w.heap.size w)).size); have K_ga := Lib.hid (show Hb w_1 ga h from H1); clear hg hb H1) | ((with_reducible refine gate_dst (N := 5) rfl ?_); refine box_event ?hg (N := 5) ?hd (cs := #[.bool la, .bool lb, .bool lc, .bool ld, .int .u64 lg, .int .u64 lt]) (t := 27) ?hr ?_; (case hd => rfl); (case hg => rfl); (case hr => first | (go_simp; done) | (go_simp; rfl)); intro gt hg w_3 H1 hb; have hB_4 := Lib.hid (below_step hB_2.out hb); have G_gt := Lib.hid (show w.heap.size ≤ gt by rw [hg]; exact (hB_2.out).size); have N_ga_gt := Lib.hid (show ga ≠ gt by rw [hg]; exact Nat.ne_of_lt (K_ga.out.lt)); replace K_ga := Lib.hid (K_ga.out.below hb); have K_gt := Lib.hid (show w_3.heap[gt]? = some (.cells #[.bool la, .bool lb, .bool lc, .bool ld, .int .u64 lg, .int .u64 lt] 27 (0, 0)) from H1); clear hg hb H1 hB_2) | ((with_reducible refine gate_dst (N := 8) rfl ?_); refine box_event ?hg (N := 8) ?hd (cs := Ht.zero.cs) (t := 25) ?hr ?_; (case hd => rfl); (case hg => rfl); (case hr => first | (go_simp; done) | (go_simp; rfl)); intro gr hg w_5 H1 hb; have hB_6 := Lib.hid (below_step hB_4.out hb); have G_gr := Lib.hid (show w.heap.size ≤ gr by rw [hg]; exact (hB_4.out).size); have N_ga_gr := Lib.hid (show ga ≠ gr by rw [hg]; exact Nat.ne_of_lt (K_ga.out.lt)); have N_gt_gr := Lib.hid (show gt ≠ gr by rw [hg]; exact Nat.ne_of_lt (blk_lt K_gt.out)); replace K_ga := Lib.hid (K_ga.out.below hb); replace K_gt := Lib.hid (blk_below K_gt.out hb); have K_gr := Lib.hid (show Hb w_5 gr Ht.zero from H1); clear hg hb H1 hB_4; clear hu25 hu27))
        go_wp2_with fail
        refine (HM.out ga _ K_ga.out).mono ?_
        rintro e1 w1 ⟨rfl, rfl⟩
        go_wp2_with fail
        refine (HK.out _ (Tab.from HT.out hB_6.out)).mono ?_
        rintro e2 w2 ⟨rfl, n_, e2⟩
        replace K_ga := Lib.hid (Hb.of e2.symm (K_ga.out.drewN n_))
        replace K_gr := Lib.hid (Hb.of e2.symm (K_gr.out.drewN n_))
        have hB_7 := Lib.hid (Below_of e2.symm (pw_below_drewN hB_6.out n_))
        clear e2 hB_6
        go_wp2_with fail
        refine (HF.out ga _).mono ?_
        rintro e3 w3 ⟨rfl, rfl⟩
        simp only [ptrOf, Option.map_none]
        have hz : h.set 42 (putV (h.x 42) (Go.bits .and .u64 (h.x 40) 2) v) = z := HZ.out
        clear HZ
        have HZ := Lib.hid hz
        clear hz
        have c_ga_40 := K_ga.out.u 40 rfl; have f_ga_40 := K_ga.out.fr 40
        go_wp2_with fail
        refine (put_c ga 42 _ _ _ _ (by repeat (with_reducible first | exact K_ga.out | apply Hb.put | apply Hb.putP | apply Hb.putV | apply Hb.putW | apply Hb.putH | apply Hb.far N_ga_gr.out | apply Hb.drewN | apply Hb.drew)) rfl).mono ?_
        rintro e4 w4 ⟨rfl, rfl⟩
        go_upto_region 31 with (fail)
        refine wp_region_list ?_
        refine load_hart (h := _) rfl (.tmp 4) rfl ga rfl (by repeat (with_reducible first | exact K_ga.out | apply Hb.put | apply Hb.putP | apply Hb.putV | apply Hb.putW | apply Hb.putH | apply Hb.far N_ga_gr.out | apply Hb.drewN | apply Hb.drew)) ?_
        refine store_hart rfl (.tmp 8) (.tmp 110) rfl gr _ rfl rfl Ht.zero (by repeat (with_reducible first | exact K_gr.out | apply Hb.put | apply Hb.putP | apply Hb.putV | apply Hb.putW | apply Hb.putH | apply Hb.far (Ne.symm N_ga_gr.out) | apply Hb.drewN | apply Hb.drew)) ?_
        go_wp2
        refine bodyPost_ret (results_cell_row rfl _ _ gr 25 _ (0, 0) _ rfl (Hb.putAll _ (by repeat (with_reducible first | exact K_gr.out | apply Hb.put | apply Hb.putP | apply Hb.putV | apply Hb.putW | apply Hb.putH | apply Hb.far (Ne.symm N_ga_gr.out) | apply Hb.drewN | apply Hb.drew))) Tryd.underlying25 rfl (by rw [Ht.size]; exact hartSize)) rfl ?_
        exact ⟨by first | (rw [← HZ.out]; done) | (rw [← HZ.out]; rfl), setCells_below G_gr.out _ _ _ (by repeat (first | (with_reducible first | exact hB_7.out | apply pw_below_drewN | apply below_drew1 | refine below_set ?_ G_ga.out | refine below_set ?_ G_gr.out) | exact hB_7.out))⟩
      by_cases h_260 : no2 = 260
      · subst h_260
        have hu25 := Tryd.underlying25; have hu27 := Tryd.underlying27
        go_enter Tryd.func19, Tryd.ntmps19
        go_upto_region 1 with (first | ((with_reducible refine gate_dst (N := 4) rfl ?_); refine box_event ?hg (N := 4) ?hd (cs := h.cs) (t := 25) ?hr ?_; (case hd => rfl); (case hg => rfl); (case hr => first | (go_simp; done) | (go_simp; rfl)); intro ga hg w_1 H1 hb; have hB_2 := Lib.hid (below_step (Below.refl w.heap.size w) hb); have G_ga := Lib.hid (show w.heap.size ≤ ga by rw [hg]; exact ((Below.refl w.heap.size w)).size); have K_ga := Lib.hid (show Hb w_1 ga h from H1); clear hg hb H1) | ((with_reducible refine gate_dst (N := 5) rfl ?_); refine box_event ?hg (N := 5) ?hd (cs := #[.bool la, .bool lb, .bool lc, .bool ld, .int .u64 lg, .int .u64 lt]) (t := 27) ?hr ?_; (case hd => rfl); (case hg => rfl); (case hr => first | (go_simp; done) | (go_simp; rfl)); intro gt hg w_3 H1 hb; have hB_4 := Lib.hid (below_step hB_2.out hb); have G_gt := Lib.hid (show w.heap.size ≤ gt by rw [hg]; exact (hB_2.out).size); have N_ga_gt := Lib.hid (show ga ≠ gt by rw [hg]; exact Nat.ne_of_lt (K_ga.out.lt)); replace K_ga := Lib.hid (K_ga.out.below hb); have K_gt := Lib.hid (show w_3.heap[gt]? = some (.cells #[.bool la, .bool lb, .bool lc, .bool ld, .int .u64 lg, .int .u64 lt] 27 (0, 0)) from H1); clear hg hb H1 hB_2) | ((with_reducible refine gate_dst (N := 8) rfl ?_); refine box_event ?hg (N := 8) ?hd (cs := Ht.zero.cs) (t := 25) ?hr ?_; (case hd => rfl); (case hg => rfl); (case hr => first | (go_simp; done) | (go_simp; rfl)); intro gr hg w_5 H1 hb; have hB_6 := Lib.hid (below_step hB_4.out hb); have G_gr := Lib.hid (show w.heap.size ≤ gr by rw [hg]; exact (hB_4.out).size); have N_ga_gr := Lib.hid (show ga ≠ gr by rw [hg]; exact Nat.ne_of_lt (K_ga.out.lt)); have N_gt_gr := Lib.hid (show gt ≠ gr by rw [hg]; exact Nat.ne_of_lt (blk_lt K_gt.out)); replace K_ga := Lib.hid (K_ga.out.below hb); replace K_gt := Lib.hid (blk_below K_gt.out hb); have K_gr := Lib.hid (show Hb w_5 gr Ht.zero from H1); clear hg hb H1 hB_4; clear hu25 hu27))
        go_wp2_with fail
        refine (HM.out ga _ K_ga.out).mono ?_
        rintro e1 w1 ⟨rfl, rfl⟩
        go_wp2_with fail
        refine (HK.out _ (Tab.from HT.out hB_6.out)).mono ?_
        rintro e2 w2 ⟨rfl, n_, e2⟩
        replace K_ga := Lib.hid (Hb.of e2.symm (K_ga.out.drewN n_))
        replace K_gr := Lib.hid (Hb.of e2.symm (K_gr.out.drewN n_))
        have hB_7 := Lib.hid (Below_of e2.symm (pw_below_drewN hB_6.out n_))
        clear e2 hB_6
        go_wp2_with fail
        refine (HF.out ga _).mono ?_
        rintro e3 w3 ⟨rfl, rfl⟩
        simp only [ptrOf, Option.map_none]
        have hz : h.set 41 (putV (h.x 41) (Go.bits .and .u64 (h.x 40) 546) v) = z := HZ.out
        clear HZ
        have HZ := Lib.hid hz
        clear hz
        have c_ga_40 := K_ga.out.u 40 rfl; have f_ga_40 := K_ga.out.fr 40
        go_wp2_with fail
        refine (put_c ga 41 _ _ _ _ (by repeat (with_reducible first | exact K_ga.out | apply Hb.put | apply Hb.putP | apply Hb.putV | apply Hb.putW | apply Hb.putH | apply Hb.far N_ga_gr.out | apply Hb.drewN | apply Hb.drew)) rfl).mono ?_
        rintro e4 w4 ⟨rfl, rfl⟩
        go_upto_region 31 with (fail)
        refine wp_region_list ?_
        refine load_hart (h := _) rfl (.tmp 4) rfl ga rfl (by repeat (with_reducible first | exact K_ga.out | apply Hb.put | apply Hb.putP | apply Hb.putV | apply Hb.putW | apply Hb.putH | apply Hb.far N_ga_gr.out | apply Hb.drewN | apply Hb.drew)) ?_
        refine store_hart rfl (.tmp 8) (.tmp 110) rfl gr _ rfl rfl Ht.zero (by repeat (with_reducible first | exact K_gr.out | apply Hb.put | apply Hb.putP | apply Hb.putV | apply Hb.putW | apply Hb.putH | apply Hb.far (Ne.symm N_ga_gr.out) | apply Hb.drewN | apply Hb.drew)) ?_
        go_wp2
        refine bodyPost_ret (results_cell_row rfl _ _ gr 25 _ (0, 0) _ rfl (Hb.putAll _ (by repeat (with_reducible first | exact K_gr.out | apply Hb.put | apply Hb.putP | apply Hb.putV | apply Hb.putW | apply Hb.putH | apply Hb.far (Ne.symm N_ga_gr.out) | apply Hb.drewN | apply Hb.drew))) Tryd.underlying25 rfl (by rw [Ht.size]; exact hartSize)) rfl ?_
        exact ⟨by first | (rw [← HZ.out]; done) | (rw [← HZ.out]; rfl), setCells_below G_gr.out _ _ _ (by repeat (first | (with_reducible first | exact hB_7.out | apply pw_below_drewN | apply below_drew1 | refine below_set ?_ G_ga.out | refine below_set ?_ G_gr.out) | exact hB_7.out))⟩
      by_cases h_1604 : no2 = 1604
      · subst h_1604
        have hu25 := Tryd.underlying25; have hu27 := Tryd.underlying27
        go_enter Tryd.func19, Tryd.ntmps19
        go_upto_region 1 with (first | ((with_reducible refine gate_dst (N := 4) rfl ?_); refine box_event ?hg (N := 4) ?hd (cs := h.cs) (t := 25) ?hr ?_; (case hd => rfl); (case hg => rfl); (case hr => first | (go_simp; done) | (go_simp; rfl)); intro ga hg w_1 H1 hb; have hB_2 := Lib.hid (below_step (Below.refl w.heap.size w) hb); have G_ga := Lib.hid (show w.heap.size ≤ ga by rw [hg]; exact ((Below.refl w.heap.size w)).size); have K_ga := Lib.hid (show Hb w_1 ga h from H1); clear hg hb H1) | ((with_reducible refine gate_dst (N := 5) rfl ?_); refine box_event ?hg (N := 5) ?hd (cs := #[.bool la, .bool lb, .bool lc, .bool ld, .int .u64 lg, .int .u64 lt]) (t := 27) ?hr ?_; (case hd => rfl); (case hg => rfl); (case hr => first | (go_simp; done) | (go_simp; rfl)); intro gt hg w_3 H1 hb; have hB_4 := Lib.hid (below_step hB_2.out hb); have G_gt := Lib.hid (show w.heap.size ≤ gt by rw [hg]; exact (hB_2.out).size); have N_ga_gt := Lib.hid (show ga ≠ gt by rw [hg]; exact Nat.ne_of_lt (K_ga.out.lt)); replace K_ga := Lib.hid (K_ga.out.below hb); have K_gt := Lib.hid (show w_3.heap[gt]? = some (.cells #[.bool la, .bool lb, .bool lc, .bool ld, .int .u64 lg, .int .u64 lt] 27 (0, 0)) from H1); clear hg hb H1 hB_2) | ((with_reducible refine gate_dst (N := 8) rfl ?_); refine box_event ?hg (N := 8) ?hd (cs := Ht.zero.cs) (t := 25) ?hr ?_; (case hd => rfl); (case hg => rfl); (case hr => first | (go_simp; done) | (go_simp; rfl)); intro gr hg w_5 H1 hb; have hB_6 := Lib.hid (below_step hB_4.out hb); have G_gr := Lib.hid (show w.heap.size ≤ gr by rw [hg]; exact (hB_4.out).size); have N_ga_gr := Lib.hid (show ga ≠ gr by rw [hg]; exact Nat.ne_of_lt (K_ga.out.lt)); have N_gt_gr := Lib.hid (show gt ≠ gr by rw [hg]; exact Nat.ne_of_lt (blk_lt K_gt.out)); replace K_ga := Lib.hid (K_ga.out.below hb); replace K_gt := Lib.hid (blk_below K_gt.out hb); have K_gr := Lib.hid (show Hb w_5 gr Ht.zero from H1); clear hg hb H1 hB_4; clear hu25 hu27))
        go_wp2_with fail
        refine (HM.out ga _ K_ga.out).mono ?_
        rintro e1 w1 ⟨rfl, rfl⟩
        go_wp2_with fail
        refine (HK.out _ (Tab.from HT.out hB_6.out)).mono ?_
        rintro e2 w2 ⟨rfl, n_, e2⟩
        replace K_ga := Lib.hid (Hb.of e2.symm (K_ga.out.drewN n_))
        replace K_gr := Lib.hid (Hb.of e2.symm (K_gr.out.drewN n_))
        have hB_7 := Lib.hid (Below_of e2.symm (pw_below_drewN hB_6.out n_))
        clear e2 hB_6
        go_wp2_with fail
        refine (HF.out ga _).mono ?_
        rintro e3 w3 ⟨rfl, rfl⟩
        simp only [ptrOf, Option.map_none]
        have hz : h.set 61 (putV (h.x 61) 4 v) = z := HZ.out
        clear HZ
        have HZ := Lib.hid hz
        clear hz
        go_wp2_with fail
        refine (put_c ga 61 _ _ _ _ (by repeat (with_reducible first | exact K_ga.out | apply Hb.put | apply Hb.putP | apply Hb.putV | apply Hb.putW | apply Hb.putH | apply Hb.far N_ga_gr.out | apply Hb.drewN | apply Hb.drew)) rfl).mono ?_
        rintro e4 w4 ⟨rfl, rfl⟩
        go_upto_region 31 with (fail)
        refine wp_region_list ?_
        refine load_hart (h := _) rfl (.tmp 4) rfl ga rfl (by repeat (with_reducible first | exact K_ga.out | apply Hb.put | apply Hb.putP | apply Hb.putV | apply Hb.putW | apply Hb.putH | apply Hb.far N_ga_gr.out | apply Hb.drewN | apply Hb.drew)) ?_
        refine store_hart rfl (.tmp 8) (.tmp 110) rfl gr _ rfl rfl Ht.zero (by repeat (with_reducible first | exact K_gr.out | apply Hb.put | apply Hb.putP | apply Hb.putV | apply Hb.putW | apply Hb.putH | apply Hb.far (Ne.symm N_ga_gr.out) | apply Hb.drewN | apply Hb.drew)) ?_
        go_wp2
        refine bodyPost_ret (results_cell_row rfl _ _ gr 25 _ (0, 0) _ rfl (Hb.putAll _ (by repeat (with_reducible first | exact K_gr.out | apply Hb.put | apply Hb.putP | apply Hb.putV | apply Hb.putW | apply Hb.putH | apply Hb.far (Ne.symm N_ga_gr.out) | apply Hb.drewN | apply Hb.drew))) Tryd.underlying25 rfl (by rw [Ht.size]; exact hartSize)) rfl ?_
        exact ⟨by first | (rw [← HZ.out]; done) | (rw [← HZ.out]; rfl), setCells_below G_gr.out _ _ _ (by repeat (first | (with_reducible first | exact hB_7.out | apply pw_below_drewN | apply below_drew1 | refine below_set ?_ G_ga.out | refine below_set ?_ G_gr.out) | exact hB_7.out))⟩
      by_cases h_1540 : no2 = 1540
      · subst h_1540
        have hu25 := Tryd.underlying25; have hu27 := Tryd.underlying27
        go_enter Tryd.func19, Tryd.ntmps19
        go_upto_region 1 with (first | ((with_reducible refine gate_dst (N := 4) rfl ?_); refine box_event ?hg (N := 4) ?hd (cs := h.cs) (t := 25) ?hr ?_; (case hd => rfl); (case hg => rfl); (case hr => first | (go_simp; done) | (go_simp; rfl)); intro ga hg w_1 H1 hb; have hB_2 := Lib.hid (below_step (Below.refl w.heap.size w) hb); have G_ga := Lib.hid (show w.heap.size ≤ ga by rw [hg]; exact ((Below.refl w.heap.size w)).size); have K_ga := Lib.hid (show Hb w_1 ga h from H1); clear hg hb H1) | ((with_reducible refine gate_dst (N := 5) rfl ?_); refine box_event ?hg (N := 5) ?hd (cs := #[.bool la, .bool lb, .bool lc, .bool ld, .int .u64 lg, .int .u64 lt]) (t := 27) ?hr ?_; (case hd => rfl); (case hg => rfl); (case hr => first | (go_simp; done) | (go_simp; rfl)); intro gt hg w_3 H1 hb; have hB_4 := Lib.hid (below_step hB_2.out hb); have G_gt := Lib.hid (show w.heap.size ≤ gt by rw [hg]; exact (hB_2.out).size); have N_ga_gt := Lib.hid (show ga ≠ gt by rw [hg]; exact Nat.ne_of_lt (K_ga.out.lt)); replace K_ga := Lib.hid (K_ga.out.below hb); have K_gt := Lib.hid (show w_3.heap[gt]? = some (.cells #[.bool la, .bool lb, .bool lc, .bool ld, .int .u64 lg, .int .u64 lt] 27 (0, 0)) from H1); clear hg hb H1 hB_2) | ((with_reducible refine gate_dst (N := 8) rfl ?_); refine box_event ?hg (N := 8) ?hd (cs := Ht.zero.cs) (t := 25) ?hr ?_; (case hd => rfl); (case hg => rfl); (case hr => first | (go_simp; done) | (go_simp; rfl)); intro gr hg w_5 H1 hb; have hB_6 := Lib.hid (below_step hB_4.out hb); have G_gr := Lib.hid (show w.heap.size ≤ gr by rw [hg]; exact (hB_4.out).size); have N_ga_gr := Lib.hid (show ga ≠ gr by rw [hg]; exact Nat.ne_of_lt (K_ga.out.lt)); have N_gt_gr := Lib.hid (show gt ≠ gr by rw [hg]; exact Nat.ne_of_lt (blk_lt K_gt.out)); replace K_ga := Lib.hid (K_ga.out.below hb); replace K_gt := Lib.hid (blk_below K_gt.out hb); have K_gr := Lib.hid (show Hb w_5 gr Ht.zero from H1); clear hg hb H1 hB_4; clear hu25 hu27))
        go_wp2_with fail
        refine (HM.out ga _ K_ga.out).mono ?_
        rintro e1 w1 ⟨rfl, rfl⟩
        go_wp2_with fail
        refine (HK.out _ (Tab.from HT.out hB_6.out)).mono ?_
        rintro e2 w2 ⟨rfl, n_, e2⟩
        replace K_ga := Lib.hid (Hb.of e2.symm (K_ga.out.drewN n_))
        replace K_gr := Lib.hid (Hb.of e2.symm (K_gr.out.drewN n_))
        have hB_7 := Lib.hid (Below_of e2.symm (pw_below_drewN hB_6.out n_))
        clear e2 hB_6
        go_wp2_with fail
        refine (HF.out ga _).mono ?_
        rintro e3 w3 ⟨rfl, rfl⟩
        simp only [ptrOf, Option.map_none]
        have hz : h.set 41 (putV (h.x 41) 5188 v) = z := HZ.out
        clear HZ
        have HZ := Lib.hid hz
        clear hz
        go_wp2_with fail
        refine (put_c ga 41 _ _ _ _ (by repeat (with_reducible first | exact K_ga.out | apply Hb.put | apply Hb.putP | apply Hb.putV | apply Hb.putW | apply Hb.putH | apply Hb.far N_ga_gr.out | apply Hb.drewN | apply Hb.drew)) rfl).mono ?_
        rintro e4 w4 ⟨rfl, rfl⟩
        go_upto_region 31 with (fail)
        refine wp_region_list ?_
        refine load_hart (h := _) rfl (.tmp 4) rfl ga rfl (by repeat (with_reducible first | exact K_ga.out | apply Hb.put | apply Hb.putP | apply Hb.putV | apply Hb.putW | apply Hb.putH | apply Hb.far N_ga_gr.out | apply Hb.drewN | apply Hb.drew)) ?_
        refine store_hart rfl (.tmp 8) (.tmp 110) rfl gr _ rfl rfl Ht.zero (by repeat (with_reducible first | exact K_gr.out | apply Hb.put | apply Hb.putP | apply Hb.putV | apply Hb.putW | apply Hb.putH | apply Hb.far (Ne.symm N_ga_gr.out) | apply Hb.drewN | apply Hb.drew)) ?_
        go_wp2
        refine bodyPost_ret (results_cell_row rfl _ _ gr 25 _ (0, 0) _ rfl (Hb.putAll _ (by repeat (with_reducible first | exact K_gr.out | apply Hb.put | apply Hb.putP | apply Hb.putV | apply Hb.putW | apply Hb.putH | apply Hb.far (Ne.symm N_ga_gr.out) | apply Hb.drewN | apply Hb.drew))) Tryd.underlying25 rfl (by rw [Ht.size]; exact hartSize)) rfl ?_
        exact ⟨by first | (rw [← HZ.out]; done) | (rw [← HZ.out]; rfl), setCells_below G_gr.out _ _ _ (by repeat (first | (with_reducible first | exact hB_7.out | apply pw_below_drewN | apply below_drew1 | refine below_set ?_ G_ga.out | refine below_set ?_ G_gr.out) | exact hB_7.out))⟩
      by_cases h_580 : no2 = 580
      · subst h_580
        have hu25 := Tryd.underlying25; have hu27 := Tryd.underlying27
        go_enter Tryd.func19, Tryd.ntmps19
        go_upto_region 1 with (first | ((with_reducible refine gate_dst (N := 4) rfl ?_); refine box_event ?hg (N := 4) ?hd (cs := h.cs) (t := 25) ?hr ?_; (case hd => rfl); (case hg => rfl); (case hr => first | (go_simp; done) | (go_simp; rfl)); intro ga hg w_1 H1 hb; have hB_2 := Lib.hid (below_step (Below.refl w.heap.size w) hb); have G_ga := Lib.hid (show w.heap.size ≤ ga by rw [hg]; exact ((Below.refl w.heap.size w)).size); have K_ga := Lib.hid (show Hb w_1 ga h from H1); clear hg hb H1) | ((with_reducible refine gate_dst (N := 5) rfl ?_); refine box_event ?hg (N := 5) ?hd (cs := #[.bool la, .bool lb, .bool lc, .bool ld, .int .u64 lg, .int .u64 lt]) (t := 27) ?hr ?_; (case hd => rfl); (case hg => rfl); (case hr => first | (go_simp; done) | (go_simp; rfl)); intro gt hg w_3 H1 hb; have hB_4 := Lib.hid (below_step hB_2.out hb); have G_gt := Lib.hid (show w.heap.size ≤ gt by rw [hg]; exact (hB_2.out).size); have N_ga_gt := Lib.hid (show ga ≠ gt by rw [hg]; exact Nat.ne_of_lt (K_ga.out.lt)); replace K_ga := Lib.hid (K_ga.out.below hb); have K_gt := Lib.hid (show w_3.heap[gt]? = some (.cells #[.bool la, .bool lb, .bool lc, .bool ld, .int .u64 lg, .int .u64 lt] 27 (0, 0)) from H1); clear hg hb H1 hB_2) | ((with_reducible refine gate_dst (N := 8) rfl ?_); refine box_event ?hg (N := 8) ?hd (cs := Ht.zero.cs) (t := 25) ?hr ?_; (case hd => rfl); (case hg => rfl); (case hr => first | (go_simp; done) | (go_simp; rfl)); intro gr hg w_5 H1 hb; have hB_6 := Lib.hid (below_step hB_4.out hb); have G_gr := Lib.hid (show w.heap.size ≤ gr by rw [hg]; exact (hB_4.out).size); have N_ga_gr := Lib.hid (show ga ≠ gr by rw [hg]; exact Nat.ne_of_lt (K_ga.out.lt)); have N_gt_gr := Lib.hid (show gt ≠ gr by rw [hg]; exact Nat.ne_of_lt (blk_lt K_gt.out)); replace K_ga := Lib.hid (K_ga.out.below hb); replace K_gt := Lib.hid (blk_below K_gt.out hb); have K_gr := Lib.hid (show Hb w_5 gr Ht.zero from H1); clear hg hb H1 hB_4; clear hu25 hu27))
        go_wp2_with fail
        refine (HM.out ga _ K_ga.out).mono ?_
        rintro e1 w1 ⟨rfl, rfl⟩
        go_wp2_with fail
        refine (HK.out _ (Tab.from HT.out hB_6.out)).mono ?_
        rintro e2 w2 ⟨rfl, n_, e2⟩
        replace K_ga := Lib.hid (Hb.of e2.symm (K_ga.out.drewN n_))
        replace K_gr := Lib.hid (Hb.of e2.symm (K_gr.out.drewN n_))
        have hB_7 := Lib.hid (Below_of e2.symm (pw_below_drewN hB_6.out n_))
        clear e2 hB_6
        go_wp2_with fail
        refine (HF.out ga _).mono ?_
        rintro e3 w3 ⟨rfl, rfl⟩
        simp only [ptrOf, Option.map_none]
        have hz : h.set 61 (putV (h.x 61) (Go.bits .and .u64 (h.x 60) 4) (shl1 v)) = z := HZ.out
        clear HZ
        have HZ := Lib.hid hz
        clear hz
        have c_ga_60 := K_ga.out.u 60 rfl; have f_ga_60 := K_ga.out.fr 60
        go_wp2_with fail
        refine (put_c ga 61 _ _ _ _ (by repeat (with_reducible first | exact K_ga.out | apply Hb.put | apply Hb.putP | apply Hb.putV | apply Hb.putW | apply Hb.putH | apply Hb.far N_ga_gr.out | apply Hb.drewN | apply Hb.drew)) rfl).mono ?_
        rintro e4 w4 ⟨rfl, rfl⟩
        go_upto_region 31 with (fail)
        refine wp_region_list ?_
        refine load_hart (h := _) rfl (.tmp 4) rfl ga rfl (by repeat (with_reducible first | exact K_ga.out | apply Hb.put | apply Hb.putP | apply Hb.putV | apply Hb.putW | apply Hb.putH | apply Hb.far N_ga_gr.out | apply Hb.drewN | apply Hb.drew)) ?_
        refine store_hart rfl (.tmp 8) (.tmp 110) rfl gr _ rfl rfl Ht.zero (by repeat (with_reducible first | exact K_gr.out | apply Hb.put | apply Hb.putP | apply Hb.putV | apply Hb.putW | apply Hb.putH | apply Hb.far (Ne.symm N_ga_gr.out) | apply Hb.drewN | apply Hb.drew)) ?_
        go_wp2
        refine bodyPost_ret (results_cell_row rfl _ _ gr 25 _ (0, 0) _ rfl (Hb.putAll _ (by repeat (with_reducible first | exact K_gr.out | apply Hb.put | apply Hb.putP | apply Hb.putV | apply Hb.putW | apply Hb.putH | apply Hb.far (Ne.symm N_ga_gr.out) | apply Hb.drewN | apply Hb.drew))) Tryd.underlying25 rfl (by rw [Ht.size]; exact hartSize)) rfl ?_
        exact ⟨by first | (rw [← HZ.out]; done) | (rw [← HZ.out]; rfl), setCells_below G_gr.out _ _ _ (by repeat (first | (with_reducible first | exact hB_7.out | apply pw_below_drewN | apply below_drew1 | refine below_set ?_ G_ga.out | refine below_set ?_ G_gr.out) | exact hB_7.out))⟩
      by_cases h_516 : no2 = 516
      · subst h_516
        have hu25 := Tryd.underlying25; have hu27 := Tryd.underlying27
        go_enter Tryd.func19, Tryd.ntmps19
        go_upto_region 1 with (first | ((with_reducible refine gate_dst (N := 4) rfl ?_); refine box_event ?hg (N := 4) ?hd (cs := h.cs) (t := 25) ?hr ?_; (case hd => rfl); (case hg => rfl); (case hr => first | (go_simp; done) | (go_simp; rfl)); intro ga hg w_1 H1 hb; have hB_2 := Lib.hid (below_step (Below.refl w.heap.size w) hb); have G_ga := Lib.hid (show w.heap.size ≤ ga by rw [hg]; exact ((Below.refl w.heap.size w)).size); have K_ga := Lib.hid (show Hb w_1 ga h from H1); clear hg hb H1) | ((with_reducible refine gate_dst (N := 5) rfl ?_); refine box_event ?hg (N := 5) ?hd (cs := #[.bool la, .bool lb, .bool lc, .bool ld, .int .u64 lg, .int .u64 lt]) (t := 27) ?hr ?_; (case hd => rfl); (case hg => rfl); (case hr => first | (go_simp; done) | (go_simp; rfl)); intro gt hg w_3 H1 hb; have hB_4 := Lib.hid (below_step hB_2.out hb); have G_gt := Lib.hid (show w.heap.size ≤ gt by rw [hg]; exact (hB_2.out).size); have N_ga_gt := Lib.hid (show ga ≠ gt by rw [hg]; exact Nat.ne_of_lt (K_ga.out.lt)); replace K_ga := Lib.hid (K_ga.out.below hb); have K_gt := Lib.hid (show w_3.heap[gt]? = some (.cells #[.bool la, .bool lb, .bool lc, .bool ld, .int .u64 lg, .int .u64 lt] 27 (0, 0)) from H1); clear hg hb H1 hB_2) | ((with_reducible refine gate_dst (N := 8) rfl ?_); refine box_event ?hg (N := 8) ?hd (cs := Ht.zero.cs) (t := 25) ?hr ?_; (case hd => rfl); (case hg => rfl); (case hr => first | (go_simp; done) | (go_simp; rfl)); intro gr hg w_5 H1 hb; have hB_6 := Lib.hid (below_step hB_4.out hb); have G_gr := Lib.hid (show w.heap.size ≤ gr by rw [hg]; exact (hB_4.out).size); have N_ga_gr := Lib.hid (show ga ≠ gr by rw [hg]; exact Nat.ne_of_lt (K_ga.out.lt)); have N_gt_gr := Lib.hid (show gt ≠ gr by rw [hg]; exact Nat.ne_of_lt (blk_lt K_gt.out)); replace K_ga := Lib.hid (K_ga.out.below hb); replace K_gt := Lib.hid (blk_below K_gt.out hb); have K_gr := Lib.hid (show Hb w_5 gr Ht.zero from H1); clear hg hb H1 hB_4; clear hu25 hu27))
        go_wp2_with fail
        refine (HM.out ga _ K_ga.out).mono ?_
        rintro e1 w1 ⟨rfl, rfl⟩
        go_wp2_with fail
        refine (HK.out _ (Tab.from HT.out hB_6.out)).mono ?_
        rintro e2 w2 ⟨rfl, n_, e2⟩
        replace K_ga := Lib.hid (Hb.of e2.symm (K_ga.out.drewN n_))
        replace K_gr := Lib.hid (Hb.of e2.symm (K_gr.out.drewN n_))
        have hB_7 := Lib.hid (Below_of e2.symm (pw_below_drewN hB_6.out n_))
        clear e2 hB_6
        go_wp2_with fail
        refine (HF.out ga _).mono ?_
        rintro e3 w3 ⟨rfl, rfl⟩
        simp only [ptrOf, Option.map_none]
        have hz : h.set 41 (putV (h.x 41) (Go.bits .and .u64 (h.x 60) 1092) (shl1 v)) = z := HZ.out
        clear HZ
        have HZ := Lib.hid hz
        clear hz
        have c_ga_60 := K_ga.out.u 60 rfl; have f_ga_60 := K_ga.out.fr 60
        go_wp2_with fail
        refine (put_c ga 41 _ _ _ _ (by repeat (with_reducible first | exact K_ga.out | apply Hb.put | apply Hb.putP | apply Hb.putV | apply Hb.putW | apply Hb.putH | apply Hb.far N_ga_gr.out | apply Hb.drewN | apply Hb.drew)) rfl).mono ?_
        rintro e4 w4 ⟨rfl, rfl⟩
        go_upto_region 31 with (fail)
        refine wp_region_list ?_
        refine load_hart (h := _) rfl (.tmp 4) rfl ga rfl (by repeat (with_reducible first | exact K_ga.out | apply Hb.put | apply Hb.putP | apply Hb.putV | apply Hb.putW | apply Hb.putH | apply Hb.far N_ga_gr.out | apply Hb.drewN | apply Hb.drew)) ?_
        refine store_hart rfl (.tmp 8) (.tmp 110) rfl gr _ rfl rfl Ht.zero (by repeat (with_reducible first | exact K_gr.out | apply Hb.put | apply Hb.putP | apply Hb.putV | apply Hb.putW | apply Hb.putH | apply Hb.far (Ne.symm N_ga_gr.out) | apply Hb.drewN | apply Hb.drew)) ?_
        go_wp2
        refine bodyPost_ret (results_cell_row rfl _ _ gr 25 _ (0, 0) _ rfl (Hb.putAll _ (by repeat (with_reducible first | exact K_gr.out | apply Hb.put | apply Hb.putP | apply Hb.putV | apply Hb.putW | apply Hb.putH | apply Hb.far (Ne.symm N_ga_gr.out) | apply Hb.drewN | apply Hb.drew))) Tryd.underlying25 rfl (by rw [Ht.size]; exact hartSize)) rfl ?_
        exact ⟨by first | (rw [← HZ.out]; done) | (rw [← HZ.out]; rfl), setCells_below G_gr.out _ _ _ (by repeat (first | (with_reducible first | exact hB_7.out | apply pw_below_drewN | apply below_drew1 | refine below_set ?_ G_ga.out | refine below_set ?_ G_gr.out) | exact hB_7.out))⟩
      have e_256 : (no2 == 256) = false := beq_eq_false_iff_ne.2 h_256
      have e_836 : (no2 == 836) = false := beq_eq_false_iff_ne.2 h_836
      have e_324 : (no2 == 324) = false := beq_eq_false_iff_ne.2 h_324
      have e_260 : (no2 == 260) = false := beq_eq_false_iff_ne.2 h_260
      have e_1604 : (no2 == 1604) = false := beq_eq_false_iff_ne.2 h_1604
      have e_1540 : (no2 == 1540) = false := beq_eq_false_iff_ne.2 h_1540
      have e_580 : (no2 == 580) = false := beq_eq_false_iff_ne.2 h_580
      have e_516 : (no2 == 516) = false := beq_eq_false_iff_ne.2 h_516
      have hm : writeT h no2 v = h := by unfold writeT; rw [if_neg h_256, if_neg h_836, if_neg h_324, if_neg h_260, if_neg h_1604, if_neg h_1540, if_neg h_580, if_neg h_516]
      have hz := HZ.out
      rw [hm] at hz
      clear HZ
      have HZ := Lib.hid hz
      clear hz hm h_256 h_836 h_324 h_260 h_1604 h_1540 h_580 h_516
      have hu25 := Tryd.underlying25; have hu27 := Tryd.underlying27
      go_enter Tryd.func19, Tryd.ntmps19
      go_upto_region 1 with (first | ((with_reducible refine gate_dst (N := 4) rfl ?_); refine box_event ?hg (N := 4) ?hd (cs := h.cs) (t := 25) ?hr ?_; (case hd => rfl); (case hg => rfl); (case hr => first | (go_simp; done) | (go_simp; rfl)); intro ga hg w_1 H1 hb; have hB_2 := Lib.hid (below_step (Below.refl w.heap.size w) hb); have G_ga := Lib.hid (show w.heap.size ≤ ga by rw [hg]; exact ((Below.refl w.heap.size w)).size); have K_ga := Lib.hid (show Hb w_1 ga h from H1); clear hg hb H1) | ((with_reducible refine gate_dst (N := 5) rfl ?_); refine box_event ?hg (N := 5) ?hd (cs := #[.bool la, .bool lb, .bool lc, .bool ld, .int .u64 lg, .int .u64 lt]) (t := 27) ?hr ?_; (case hd => rfl); (case hg => rfl); (case hr => first | (go_simp; done) | (go_simp; rfl)); intro gt hg w_3 H1 hb; have hB_4 := Lib.hid (below_step hB_2.out hb); have G_gt := Lib.hid (show w.heap.size ≤ gt by rw [hg]; exact (hB_2.out).size); have N_ga_gt := Lib.hid (show ga ≠ gt by rw [hg]; exact Nat.ne_of_lt (K_ga.out.lt)); replace K_ga := Lib.hid (K_ga.out.below hb); have K_gt := Lib.hid (show w_3.heap[gt]? = some (.cells #[.bool la, .bool lb, .bool lc, .bool ld, .int .u64 lg, .int .u64 lt] 27 (0, 0)) from H1); clear hg hb H1 hB_2) | ((with_reducible refine gate_dst (N := 8) rfl ?_); refine box_event ?hg (N := 8) ?hd (cs := Ht.zero.cs) (t := 25) ?hr ?_; (case hd => rfl); (case hg => rfl); (case hr => first | (go_simp; done) | (go_simp; rfl)); intro gr hg w_5 H1 hb; have hB_6 := Lib.hid (below_step hB_4.out hb); have G_gr := Lib.hid (show w.heap.size ≤ gr by rw [hg]; exact (hB_4.out).size); have N_ga_gr := Lib.hid (show ga ≠ gr by rw [hg]; exact Nat.ne_of_lt (K_ga.out.lt)); have N_gt_gr := Lib.hid (show gt ≠ gr by rw [hg]; exact Nat.ne_of_lt (blk_lt K_gt.out)); replace K_ga := Lib.hid (K_ga.out.below hb); replace K_gt := Lib.hid (blk_below K_gt.out hb); have K_gr := Lib.hid (show Hb w_5 gr Ht.zero from H1); clear hg hb H1 hB_4; clear hu25 hu27))
      go_wp2_with fail
      refine (HM.out ga _ K_ga.out).mono ?_
      rintro e1 w1 ⟨rfl, rfl⟩
      go_wp2_with fail
      refine (HK.out _ (Tab.from HT.out hB_6.out)).mono ?_
      rintro e2 w2 ⟨rfl, n_, e2⟩
      replace K_ga := Lib.hid (Hb.of e2.symm (K_ga.out.drewN n_))
      replace K_gr := Lib.hid (Hb.of e2.symm (K_gr.out.drewN n_))
      have hB_7 := Lib.hid (Below_of e2.symm (pw_below_drewN hB_6.out n_))
      clear e2 hB_6
      go_wp2_with fail
      refine (HF.out ga _).mono ?_
      rintro e3 w3 ⟨rfl, rfl⟩
      simp only [ptrOf, Option.map_none]
      go_upto_region 31 with (fail)
      refine wp_region_list ?_
      refine load_hart (h := _) rfl (.tmp 4) rfl ga rfl (by repeat (with_reducible first | exact K_ga.out | apply Hb.put | apply Hb.putP | apply Hb.putV | apply Hb.putW | apply Hb.putH | apply Hb.far N_ga_gr.out | apply Hb.drewN | apply Hb.drew)) ?_
      refine store_hart rfl (.tmp 8) (.tmp 110) rfl gr _ rfl rfl Ht.zero (by repeat (with_reducible first | exact K_gr.out | apply Hb.put | apply Hb.putP | apply Hb.putV | apply Hb.putW | apply Hb.putH | apply Hb.far (Ne.symm N_ga_gr.out) | apply Hb.drewN | apply Hb.drew)) ?_
      go_wp2
      refine bodyPost_ret (results_cell_row rfl _ _ gr 25 _ (0, 0) _ rfl (Hb.putAll _ (by repeat (with_reducible first | exact K_gr.out | apply Hb.put | apply Hb.putP | apply Hb.putV | apply Hb.putW | apply Hb.putH | apply Hb.far (Ne.symm N_ga_gr.out) | apply Hb.drewN | apply Hb.drew))) Tryd.underlying25 rfl (by rw [Ht.size]; exact hartSize)) rfl ?_
      exact ⟨by first | (rw [← HZ.out]; done) | (rw [← HZ.out]; rfl), setCells_below G_gr.out _ _ _ (by repeat (first | (with_reducible first | exact hB_7.out | apply pw_below_drewN | apply below_drew1 | refine below_set ?_ G_ga.out | refine below_set ?_ G_gr.out) | exact hB_7.out))⟩
    | some j =>
      rw [ho] at hf hz
      have hj := fieldOff_isU ho
      simp only at hz
      have HF := Lib.hid hf; have HJ := Lib.hid hj
      haveI IJ : IsU j := ⟨hj⟩
      clear hf ho hj
      unfold mayV at hz
      obtain ⟨mv, hmv⟩ : ∃ mv, maskV no2 = mv := ⟨_, rfl⟩
      have hma := fun w => mask_c no2 w
      rw [hmv] at hma hz
      obtain ⟨m1, m2⟩ := mv
      simp only at hma hz
      have HMA := Lib.hid hma
      clear hma hmv
      have ht := fun w => tables_c no2 w
      have hmo := fun w => mode_c v w
      cases dt : tablesV no2
      · skip
        cases d1 : (no2 == 768)
        · skip
          rw [dt] at ht
          skip
          simp only [dt, d1, Bool.false_eq_true, if_false, if_true] at hz
          have HTA := Lib.hid ht; have HMO := Lib.hid hmo; have HZ := Lib.hid hz
          clear ht hmo hz dt
          have hu25 := Tryd.underlying25; have hu27 := Tryd.underlying27
          go_enter Tryd.func19, Tryd.ntmps19
          go_upto_region 1 with (first | ((with_reducible refine gate_dst (N := 4) rfl ?_); refine box_event ?hg (N := 4) ?hd (cs := h.cs) (t := 25) ?hr ?_; (case hd => rfl); (case hg => rfl); (case hr => first | (go_simp; done) | (go_simp; rfl)); intro ga hg w_1 H1 hb; have hB_2 := Lib.hid (below_step (Below.refl w.heap.size w) hb); have G_ga := Lib.hid (show w.heap.size ≤ ga by rw [hg]; exact ((Below.refl w.heap.size w)).size); have K_ga := Lib.hid (show Hb w_1 ga h from H1); clear hg hb H1) | ((with_reducible refine gate_dst (N := 5) rfl ?_); refine box_event ?hg (N := 5) ?hd (cs := #[.bool la, .bool lb, .bool lc, .bool ld, .int .u64 lg, .int .u64 lt]) (t := 27) ?hr ?_; (case hd => rfl); (case hg => rfl); (case hr => first | (go_simp; done) | (go_simp; rfl)); intro gt hg w_3 H1 hb; have hB_4 := Lib.hid (below_step hB_2.out hb); have G_gt := Lib.hid (show w.heap.size ≤ gt by rw [hg]; exact (hB_2.out).size); have N_ga_gt := Lib.hid (show ga ≠ gt by rw [hg]; exact Nat.ne_of_lt (K_ga.out.lt)); replace K_ga := Lib.hid (K_ga.out.below hb); have K_gt := Lib.hid (show w_3.heap[gt]? = some (.cells #[.bool la, .bool lb, .bool lc, .bool ld, .int .u64 lg, .int .u64 lt] 27 (0, 0)) from H1); clear hg hb H1 hB_2) | ((with_reducible refine gate_dst (N := 8) rfl ?_); refine box_event ?hg (N := 8) ?hd (cs := Ht.zero.cs) (t := 25) ?hr ?_; (case hd => rfl); (case hg => rfl); (case hr => first | (go_simp; done) | (go_simp; rfl)); intro gr hg w_5 H1 hb; have hB_6 := Lib.hid (below_step hB_4.out hb); have G_gr := Lib.hid (show w.heap.size ≤ gr by rw [hg]; exact (hB_4.out).size); have N_ga_gr := Lib.hid (show ga ≠ gr by rw [hg]; exact Nat.ne_of_lt (K_ga.out.lt)); have N_gt_gr := Lib.hid (show gt ≠ gr by rw [hg]; exact Nat.ne_of_lt (blk_lt K_gt.out)); replace K_ga := Lib.hid (K_ga.out.below hb); replace K_gt := Lib.hid (blk_below K_gt.out hb); have K_gr := Lib.hid (show Hb w_5 gr Ht.zero from H1); clear hg hb H1 hB_4; clear hu25 hu27))
          go_wp2_with fail
          refine (HM.out ga _ K_ga.out).mono ?_
          rintro e1 w1 ⟨rfl, rfl⟩
          go_wp2_with fail
          refine (HK.out _ (Tab.from HT.out hB_6.out)).mono ?_
          rintro e2 w2 ⟨rfl, n_, e2⟩
          replace K_ga := Lib.hid (Hb.of e2.symm (K_ga.out.drewN n_))
          replace K_gr := Lib.hid (Hb.of e2.symm (K_gr.out.drewN n_))
          have hB_7 := Lib.hid (Below_of e2.symm (pw_below_drewN hB_6.out n_))
          clear e2 hB_6
          go_wp2_with fail
          refine (HF.out ga _).mono ?_
          rintro e3 w3 ⟨rfl, rfl⟩
          simp only [ptrOf, Option.map_some]
          go_wp2_with fail
          refine (HMA.out _).mono ?_
          rintro e4 w4 ⟨rfl, rfl⟩
          go_wp2_with fail
          refine (HTA.out _).mono ?_
          rintro e5 w5 ⟨rfl, n_, e5⟩
          replace K_ga := Lib.hid (Hb.of e5.symm (K_ga.out.drewN n_))
          replace K_gr := Lib.hid (Hb.of e5.symm (K_gr.out.drewN n_))
          have hB_8 := Lib.hid (Below_of e5.symm (pw_below_drewN hB_7.out n_))
          clear e5 hB_7
          go_wp2_with fail
          refine (put_c ga j _ _ _ _ K_ga.out HJ.out).mono ?_
          rintro e7 w7 ⟨rfl, rfl⟩
          go_upto_region 12 with (fail)
          refine wp_region_list ?_
          refine load_hart (h := _) rfl (.tmp 4) rfl ga rfl (by repeat (with_reducible first | exact K_ga.out | apply Hb.put | apply Hb.putP | apply Hb.putV | apply Hb.putW | apply Hb.putH | apply Hb.far N_ga_gr.out | apply Hb.drewN | apply Hb.drew)) ?_
          refine store_hart rfl (.tmp 8) (.tmp 51) rfl gr _ rfl rfl Ht.zero (by repeat (with_reducible first | exact K_gr.out | apply Hb.put | apply Hb.putP | apply Hb.putV | apply Hb.putW | apply Hb.putH | apply Hb.far (Ne.symm N_ga_gr.out) | apply Hb.drewN | apply Hb.drew)) ?_
          go_wp2
          refine bodyPost_ret (results_cell_row rfl _ _ gr 25 _ (0, 0) _ rfl (Hb.putAll _ (by repeat (with_reducible first | exact K_gr.out | apply Hb.put | apply Hb.putP | apply Hb.putV | apply Hb.putW | apply Hb.putH | apply Hb.far (Ne.symm N_ga_gr.out) | apply Hb.drewN | apply Hb.drew))) Tryd.underlying25 rfl (by rw [Ht.size]; exact hartSize)) rfl ?_
          exact ⟨by first | (rw [← HZ.out]; done) | (rw [← HZ.out]; rfl), setCells_below G_gr.out _ _ _ (by repeat (first | (with_reducible first | exact hB_8.out | apply pw_below_drewN | apply below_drew1 | refine below_set ?_ G_ga.out | refine below_set ?_ G_gr.out) | exact hB_8.out))⟩
        · skip
          cases d2 : (Go.bits .and .u64 (v / 2048) 3 == 2)
          · skip
            rw [dt] at ht
            skip
            simp only [dt, d1, d2, Bool.false_eq_true, if_false, if_true] at hz
            have HTA := Lib.hid ht; have HMO := Lib.hid hmo; have HZ := Lib.hid hz
            clear ht hmo hz dt
            have hu25 := Tryd.underlying25; have hu27 := Tryd.underlying27
            go_enter Tryd.func19, Tryd.ntmps19
            go_upto_region 1 with (first | ((with_reducible refine gate_dst (N := 4) rfl ?_); refine box_event ?hg (N := 4) ?hd (cs := h.cs) (t := 25) ?hr ?_; (case hd => rfl); (case hg => rfl); (case hr => first | (go_simp; done) | (go_simp; rfl)); intro ga hg w_1 H1 hb; have hB_2 := Lib.hid (below_step (Below.refl w.heap.size w) hb); have G_ga := Lib.hid (show w.heap.size ≤ ga by rw [hg]; exact ((Below.refl w.heap.size w)).size); have K_ga := Lib.hid (show Hb w_1 ga h from H1); clear hg hb H1) | ((with_reducible refine gate_dst (N := 5) rfl ?_); refine box_event ?hg (N := 5) ?hd (cs := #[.bool la, .bool lb, .bool lc, .bool ld, .int .u64 lg, .int .u64 lt]) (t := 27) ?hr ?_; (case hd => rfl); (case hg => rfl); (case hr => first | (go_simp; done) | (go_simp; rfl)); intro gt hg w_3 H1 hb; have hB_4 := Lib.hid (below_step hB_2.out hb); have G_gt := Lib.hid (show w.heap.size ≤ gt by rw [hg]; exact (hB_2.out).size); have N_ga_gt := Lib.hid (show ga ≠ gt by rw [hg]; exact Nat.ne_of_lt (K_ga.out.lt)); replace K_ga := Lib.hid (K_ga.out.below hb); have K_gt := Lib.hid (show w_3.heap[gt]? = some (.cells #[.bool la, .bool lb, .bool lc, .bool ld, .int .u64 lg, .int .u64 lt] 27 (0, 0)) from H1); clear hg hb H1 hB_2) | ((with_reducible refine gate_dst (N := 8) rfl ?_); refine box_event ?hg (N := 8) ?hd (cs := Ht.zero.cs) (t := 25) ?hr ?_; (case hd => rfl); (case hg => rfl); (case hr => first | (go_simp; done) | (go_simp; rfl)); intro gr hg w_5 H1 hb; have hB_6 := Lib.hid (below_step hB_4.out hb); have G_gr := Lib.hid (show w.heap.size ≤ gr by rw [hg]; exact (hB_4.out).size); have N_ga_gr := Lib.hid (show ga ≠ gr by rw [hg]; exact Nat.ne_of_lt (K_ga.out.lt)); have N_gt_gr := Lib.hid (show gt ≠ gr by rw [hg]; exact Nat.ne_of_lt (blk_lt K_gt.out)); replace K_ga := Lib.hid (K_ga.out.below hb); replace K_gt := Lib.hid (blk_below K_gt.out hb); have K_gr := Lib.hid (show Hb w_5 gr Ht.zero from H1); clear hg hb H1 hB_4; clear hu25 hu27))
            go_wp2_with fail
            refine (HM.out ga _ K_ga.out).mono ?_
            rintro e1 w1 ⟨rfl, rfl⟩
            go_wp2_with fail
            refine (HK.out _ (Tab.from HT.out hB_6.out)).mono ?_
            rintro e2 w2 ⟨rfl, n_, e2⟩
            replace K_ga := Lib.hid (Hb.of e2.symm (K_ga.out.drewN n_))
            replace K_gr := Lib.hid (Hb.of e2.symm (K_gr.out.drewN n_))
            have hB_7 := Lib.hid (Below_of e2.symm (pw_below_drewN hB_6.out n_))
            clear e2 hB_6
            go_wp2_with fail
            refine (HF.out ga _).mono ?_
            rintro e3 w3 ⟨rfl, rfl⟩
            simp only [ptrOf, Option.map_some]
            go_wp2_with fail
            refine (HMA.out _).mono ?_
            rintro e4 w4 ⟨rfl, rfl⟩
            go_wp2_with fail
            refine (HTA.out _).mono ?_
            rintro e5 w5 ⟨rfl, n_, e5⟩
            replace K_ga := Lib.hid (Hb.of e5.symm (K_ga.out.drewN n_))
            replace K_gr := Lib.hid (Hb.of e5.symm (K_gr.out.drewN n_))
            have hB_8 := Lib.hid (Below_of e5.symm (pw_below_drewN hB_7.out n_))
            clear e5 hB_7
            go_wp2_with fail
            refine (put_c ga j _ _ _ _ K_ga.out HJ.out).mono ?_
            rintro e7 w7 ⟨rfl, rfl⟩
            go_upto_region 12 with (fail)
            refine wp_region_list ?_
            refine load_hart (h := _) rfl (.tmp 4) rfl ga rfl (by repeat (with_reducible first | exact K_ga.out | apply Hb.put | apply Hb.putP | apply Hb.putV | apply Hb.putW | apply Hb.putH | apply Hb.far N_ga_gr.out | apply Hb.drewN | apply Hb.drew)) ?_
            refine store_hart rfl (.tmp 8) (.tmp 51) rfl gr _ rfl rfl Ht.zero (by repeat (with_reducible first | exact K_gr.out | apply Hb.put | apply Hb.putP | apply Hb.putV | apply Hb.putW | apply Hb.putH | apply Hb.far (Ne.symm N_ga_gr.out) | apply Hb.drewN | apply Hb.drew)) ?_
            go_wp2
            refine bodyPost_ret (results_cell_row rfl _ _ gr 25 _ (0, 0) _ rfl (Hb.putAll _ (by repeat (with_reducible first | exact K_gr.out | apply Hb.put | apply Hb.putP | apply Hb.putV | apply Hb.putW | apply Hb.putH | apply Hb.far (Ne.symm N_ga_gr.out) | apply Hb.drewN | apply Hb.drew))) Tryd.underlying25 rfl (by rw [Ht.size]; exact hartSize)) rfl ?_
            exact ⟨by first | (rw [← HZ.out]; done) | (rw [← HZ.out]; rfl), setCells_below G_gr.out _ _ _ (by repeat (first | (with_reducible first | exact hB_8.out | apply pw_below_drewN | apply below_drew1 | refine below_set ?_ G_ga.out | refine below_set ?_ G_gr.out) | exact hB_8.out))⟩
          · skip
            rw [dt] at ht
            skip
            simp only [dt, d1, d2, Bool.false_eq_true, if_false, if_true] at hz
            have HTA := Lib.hid ht; have HMO := Lib.hid hmo; have HZ := Lib.hid hz
            clear ht hmo hz dt
            have hu25 := Tryd.underlying25; have hu27 := Tryd.underlying27
            go_enter Tryd.func19, Tryd.ntmps19
            go_upto_region 1 with (first | ((with_reducible refine gate_dst (N := 4) rfl ?_); refine box_event ?hg (N := 4) ?hd (cs := h.cs) (t := 25) ?hr ?_; (case hd => rfl); (case hg => rfl); (case hr => first | (go_simp; done) | (go_simp; rfl)); intro ga hg w_1 H1 hb; have hB_2 := Lib.hid (below_step (Below.refl w.heap.size w) hb); have G_ga := Lib.hid (show w.heap.size ≤ ga by rw [hg]; exact ((Below.refl w.heap.size w)).size); have K_ga := Lib.hid (show Hb w_1 ga h from H1); clear hg hb H1) | ((with_reducible refine gate_dst (N := 5) rfl ?_); refine box_event ?hg (N := 5) ?hd (cs := #[.bool la, .bool lb, .bool lc, .bool ld, .int .u64 lg, .int .u64 lt]) (t := 27) ?hr ?_; (case hd => rfl); (case hg => rfl); (case hr => first | (go_simp; done) | (go_simp; rfl)); intro gt hg w_3 H1 hb; have hB_4 := Lib.hid (below_step hB_2.out hb); have G_gt := Lib.hid (show w.heap.size ≤ gt by rw [hg]; exact (hB_2.out).size); have N_ga_gt := Lib.hid (show ga ≠ gt by rw [hg]; exact Nat.ne_of_lt (K_ga.out.lt)); replace K_ga := Lib.hid (K_ga.out.below hb); have K_gt := Lib.hid (show w_3.heap[gt]? = some (.cells #[.bool la, .bool lb, .bool lc, .bool ld, .int .u64 lg, .int .u64 lt] 27 (0, 0)) from H1); clear hg hb H1 hB_2) | ((with_reducible refine gate_dst (N := 8) rfl ?_); refine box_event ?hg (N := 8) ?hd (cs := Ht.zero.cs) (t := 25) ?hr ?_; (case hd => rfl); (case hg => rfl); (case hr => first | (go_simp; done) | (go_simp; rfl)); intro gr hg w_5 H1 hb; have hB_6 := Lib.hid (below_step hB_4.out hb); have G_gr := Lib.hid (show w.heap.size ≤ gr by rw [hg]; exact (hB_4.out).size); have N_ga_gr := Lib.hid (show ga ≠ gr by rw [hg]; exact Nat.ne_of_lt (K_ga.out.lt)); have N_gt_gr := Lib.hid (show gt ≠ gr by rw [hg]; exact Nat.ne_of_lt (blk_lt K_gt.out)); replace K_ga := Lib.hid (K_ga.out.below hb); replace K_gt := Lib.hid (blk_below K_gt.out hb); have K_gr := Lib.hid (show Hb w_5 gr Ht.zero from H1); clear hg hb H1 hB_4; clear hu25 hu27))
            go_wp2_with fail
            refine (HM.out ga _ K_ga.out).mono ?_
            rintro e1 w1 ⟨rfl, rfl⟩
            go_wp2_with fail
            refine (HK.out _ (Tab.from HT.out hB_6.out)).mono ?_
            rintro e2 w2 ⟨rfl, n_, e2⟩
            replace K_ga := Lib.hid (Hb.of e2.symm (K_ga.out.drewN n_))
            replace K_gr := Lib.hid (Hb.of e2.symm (K_gr.out.drewN n_))
            have hB_7 := Lib.hid (Below_of e2.symm (pw_below_drewN hB_6.out n_))
            clear e2 hB_6
            go_wp2_with fail
            refine (HF.out ga _).mono ?_
            rintro e3 w3 ⟨rfl, rfl⟩
            simp only [ptrOf, Option.map_some]
            go_wp2_with fail
            refine (HMA.out _).mono ?_
            rintro e4 w4 ⟨rfl, rfl⟩
            go_wp2_with fail
            refine (HTA.out _).mono ?_
            rintro e5 w5 ⟨rfl, n_, e5⟩
            replace K_ga := Lib.hid (Hb.of e5.symm (K_ga.out.drewN n_))
            replace K_gr := Lib.hid (Hb.of e5.symm (K_gr.out.drewN n_))
            have hB_8 := Lib.hid (Below_of e5.symm (pw_below_drewN hB_7.out n_))
            clear e5 hB_7
            go_wp2_with fail
            refine (put_c ga j _ _ _ _ K_ga.out HJ.out).mono ?_
            rintro e7 w7 ⟨rfl, rfl⟩
            go_upto_region 12 with (fail)
            refine wp_region_list ?_
            refine load_hart (h := _) rfl (.tmp 4) rfl ga rfl (by repeat (with_reducible first | exact K_ga.out | apply Hb.put | apply Hb.putP | apply Hb.putV | apply Hb.putW | apply Hb.putH | apply Hb.far N_ga_gr.out | apply Hb.drewN | apply Hb.drew)) ?_
            refine store_hart rfl (.tmp 8) (.tmp 51) rfl gr _ rfl rfl Ht.zero (by repeat (with_reducible first | exact K_gr.out | apply Hb.put | apply Hb.putP | apply Hb.putV | apply Hb.putW | apply Hb.putH | apply Hb.far (Ne.symm N_ga_gr.out) | apply Hb.drewN | apply Hb.drew)) ?_
            go_wp2
            refine bodyPost_ret (results_cell_row rfl _ _ gr 25 _ (0, 0) _ rfl (Hb.putAll _ (by repeat (with_reducible first | exact K_gr.out | apply Hb.put | apply Hb.putP | apply Hb.putV | apply Hb.putW | apply Hb.putH | apply Hb.far (Ne.symm N_ga_gr.out) | apply Hb.drewN | apply Hb.drew))) Tryd.underlying25 rfl (by rw [Ht.size]; exact hartSize)) rfl ?_
            exact ⟨by first | (rw [← HZ.out]; done) | (rw [← HZ.out]; rfl), setCells_below G_gr.out _ _ _ (by repeat (first | (with_reducible first | exact hB_8.out | apply pw_below_drewN | apply below_drew1 | refine below_set ?_ G_ga.out | refine below_set ?_ G_gr.out) | exact hB_8.out))⟩
      · skip
        cases dm : modeV v
        · skip
          rw [dt] at ht
          rw [dm] at hmo
          simp only [dt, dm, Bool.false_eq_true, if_false, if_true] at hz
          have HTA := Lib.hid ht; have HMO := Lib.hid hmo; have HZ := Lib.hid hz
          clear ht hmo hz dt dm
          have hu25 := Tryd.underlying25; have hu27 := Tryd.underlying27
          go_enter Tryd.func19, Tryd.ntmps19
          go_upto_region 1 with (first | ((with_reducible refine gate_dst (N := 4) rfl ?_); refine box_event ?hg (N := 4) ?hd (cs := h.cs) (t := 25) ?hr ?_; (case hd => rfl); (case hg => rfl); (case hr => first | (go_simp; done) | (go_simp; rfl)); intro ga hg w_1 H1 hb; have hB_2 := Lib.hid (below_step (Below.refl w.heap.size w) hb); have G_ga := Lib.hid (show w.heap.size ≤ ga by rw [hg]; exact ((Below.refl w.heap.size w)).size); have K_ga := Lib.hid (show Hb w_1 ga h from H1); clear hg hb H1) | ((with_reducible refine gate_dst (N := 5) rfl ?_); refine box_event ?hg (N := 5) ?hd (cs := #[.bool la, .bool lb, .bool lc, .bool ld, .int .u64 lg, .int .u64 lt]) (t := 27) ?hr ?_; (case hd => rfl); (case hg => rfl); (case hr => first | (go_simp; done) | (go_simp; rfl)); intro gt hg w_3 H1 hb; have hB_4 := Lib.hid (below_step hB_2.out hb); have G_gt := Lib.hid (show w.heap.size ≤ gt by rw [hg]; exact (hB_2.out).size); have N_ga_gt := Lib.hid (show ga ≠ gt by rw [hg]; exact Nat.ne_of_lt (K_ga.out.lt)); replace K_ga := Lib.hid (K_ga.out.below hb); have K_gt := Lib.hid (show w_3.heap[gt]? = some (.cells #[.bool la, .bool lb, .bool lc, .bool ld, .int .u64 lg, .int .u64 lt] 27 (0, 0)) from H1); clear hg hb H1 hB_2) | ((with_reducible refine gate_dst (N := 8) rfl ?_); refine box_event ?hg (N := 8) ?hd (cs := Ht.zero.cs) (t := 25) ?hr ?_; (case hd => rfl); (case hg => rfl); (case hr => first | (go_simp; done) | (go_simp; rfl)); intro gr hg w_5 H1 hb; have hB_6 := Lib.hid (below_step hB_4.out hb); have G_gr := Lib.hid (show w.heap.size ≤ gr by rw [hg]; exact (hB_4.out).size); have N_ga_gr := Lib.hid (show ga ≠ gr by rw [hg]; exact Nat.ne_of_lt (K_ga.out.lt)); have N_gt_gr := Lib.hid (show gt ≠ gr by rw [hg]; exact Nat.ne_of_lt (blk_lt K_gt.out)); replace K_ga := Lib.hid (K_ga.out.below hb); replace K_gt := Lib.hid (blk_below K_gt.out hb); have K_gr := Lib.hid (show Hb w_5 gr Ht.zero from H1); clear hg hb H1 hB_4; clear hu25 hu27))
          go_wp2_with fail
          refine (HM.out ga _ K_ga.out).mono ?_
          rintro e1 w1 ⟨rfl, rfl⟩
          go_wp2_with fail
          refine (HK.out _ (Tab.from HT.out hB_6.out)).mono ?_
          rintro e2 w2 ⟨rfl, n_, e2⟩
          replace K_ga := Lib.hid (Hb.of e2.symm (K_ga.out.drewN n_))
          replace K_gr := Lib.hid (Hb.of e2.symm (K_gr.out.drewN n_))
          have hB_7 := Lib.hid (Below_of e2.symm (pw_below_drewN hB_6.out n_))
          clear e2 hB_6
          go_wp2_with fail
          refine (HF.out ga _).mono ?_
          rintro e3 w3 ⟨rfl, rfl⟩
          simp only [ptrOf, Option.map_some]
          go_wp2_with fail
          refine (HMA.out _).mono ?_
          rintro e4 w4 ⟨rfl, rfl⟩
          go_wp2_with fail
          refine (HTA.out _).mono ?_
          rintro e5 w5 ⟨rfl, n_, e5⟩
          replace K_ga := Lib.hid (Hb.of e5.symm (K_ga.out.drewN n_))
          replace K_gr := Lib.hid (Hb.of e5.symm (K_gr.out.drewN n_))
          have hB_8 := Lib.hid (Below_of e5.symm (pw_below_drewN hB_7.out n_))
          clear e5 hB_7
          go_wp2_with fail
          refine (HMO.out _).mono ?_
          rintro e6 w6 ⟨rfl, n_, e6⟩
          replace K_ga := Lib.hid (Hb.of e6.symm (K_ga.out.drewN n_))
          replace K_gr := Lib.hid (Hb.of e6.symm (K_gr.out.drewN n_))
          have hB_9 := Lib.hid (Below_of e6.symm (pw_below_drewN hB_8.out n_))
          clear e6 hB_8
          go_upto_region 8 with (fail)
          refine wp_region_list ?_
          refine load_hart (h := _) rfl (.tmp 4) rfl ga rfl (by repeat (with_reducible first | exact K_ga.out | apply Hb.put | apply Hb.putP | apply Hb.putV | apply Hb.putW | apply Hb.putH | apply Hb.far N_ga_gr.out | apply Hb.drewN | apply Hb.drew)) ?_
          refine store_hart rfl (.tmp 8) (.tmp 35) rfl gr _ rfl rfl Ht.zero (by repeat (with_reducible first | exact K_gr.out | apply Hb.put | apply Hb.putP | apply Hb.putV | apply Hb.putW | apply Hb.putH | apply Hb.far (Ne.symm N_ga_gr.out) | apply Hb.drewN | apply Hb.drew)) ?_
          go_wp2
          refine bodyPost_ret (results_cell_row rfl _ _ gr 25 _ (0, 0) _ rfl (Hb.putAll _ (by repeat (with_reducible first | exact K_gr.out | apply Hb.put | apply Hb.putP | apply Hb.putV | apply Hb.putW | apply Hb.putH | apply Hb.far (Ne.symm N_ga_gr.out) | apply Hb.drewN | apply Hb.drew))) Tryd.underlying25 rfl (by rw [Ht.size]; exact hartSize)) rfl ?_
          exact ⟨by first | (rw [← HZ.out]; done) | (rw [← HZ.out]; rfl), setCells_below G_gr.out _ _ _ (by repeat (first | (with_reducible first | exact hB_9.out | apply pw_below_drewN | apply below_drew1 | refine below_set ?_ G_ga.out | refine below_set ?_ G_gr.out) | exact hB_9.out))⟩
        · skip
          cases d1 : (no2 == 768)
          · skip
            rw [dt] at ht
            rw [dm] at hmo
            simp only [dt, dm, d1, Bool.false_eq_true, if_false, if_true] at hz
            have HTA := Lib.hid ht; have HMO := Lib.hid hmo; have HZ := Lib.hid hz
            clear ht hmo hz dt dm
            have hu25 := Tryd.underlying25; have hu27 := Tryd.underlying27
            go_enter Tryd.func19, Tryd.ntmps19
            go_upto_region 1 with (first | ((with_reducible refine gate_dst (N := 4) rfl ?_); refine box_event ?hg (N := 4) ?hd (cs := h.cs) (t := 25) ?hr ?_; (case hd => rfl); (case hg => rfl); (case hr => first | (go_simp; done) | (go_simp; rfl)); intro ga hg w_1 H1 hb; have hB_2 := Lib.hid (below_step (Below.refl w.heap.size w) hb); have G_ga := Lib.hid (show w.heap.size ≤ ga by rw [hg]; exact ((Below.refl w.heap.size w)).size); have K_ga := Lib.hid (show Hb w_1 ga h from H1); clear hg hb H1) | ((with_reducible refine gate_dst (N := 5) rfl ?_); refine box_event ?hg (N := 5) ?hd (cs := #[.bool la, .bool lb, .bool lc, .bool ld, .int .u64 lg, .int .u64 lt]) (t := 27) ?hr ?_; (case hd => rfl); (case hg => rfl); (case hr => first | (go_simp; done) | (go_simp; rfl)); intro gt hg w_3 H1 hb; have hB_4 := Lib.hid (below_step hB_2.out hb); have G_gt := Lib.hid (show w.heap.size ≤ gt by rw [hg]; exact (hB_2.out).size); have N_ga_gt := Lib.hid (show ga ≠ gt by rw [hg]; exact Nat.ne_of_lt (K_ga.out.lt)); replace K_ga := Lib.hid (K_ga.out.below hb); have K_gt := Lib.hid (show w_3.heap[gt]? = some (.cells #[.bool la, .bool lb, .bool lc, .bool ld, .int .u64 lg, .int .u64 lt] 27 (0, 0)) from H1); clear hg hb H1 hB_2) | ((with_reducible refine gate_dst (N := 8) rfl ?_); refine box_event ?hg (N := 8) ?hd (cs := Ht.zero.cs) (t := 25) ?hr ?_; (case hd => rfl); (case hg => rfl); (case hr => first | (go_simp; done) | (go_simp; rfl)); intro gr hg w_5 H1 hb; have hB_6 := Lib.hid (below_step hB_4.out hb); have G_gr := Lib.hid (show w.heap.size ≤ gr by rw [hg]; exact (hB_4.out).size); have N_ga_gr := Lib.hid (show ga ≠ gr by rw [hg]; exact Nat.ne_of_lt (K_ga.out.lt)); have N_gt_gr := Lib.hid (show gt ≠ gr by rw [hg]; exact Nat.ne_of_lt (blk_lt K_gt.out)); replace K_ga := Lib.hid (K_ga.out.below hb); replace K_gt := Lib.hid (blk_below K_gt.out hb); have K_gr := Lib.hid (show Hb w_5 gr Ht.zero from H1); clear hg hb H1 hB_4; clear hu25 hu27))
            go_wp2_with fail
            refine (HM.out ga _ K_ga.out).mono ?_
            rintro e1 w1 ⟨rfl, rfl⟩
            go_wp2_with fail
            refine (HK.out _ (Tab.from HT.out hB_6.out)).mono ?_
            rintro e2 w2 ⟨rfl, n_, e2⟩
            replace K_ga := Lib.hid (Hb.of e2.symm (K_ga.out.drewN n_))
            replace K_gr := Lib.hid (Hb.of e2.symm (K_gr.out.drewN n_))
            have hB_7 := Lib.hid (Below_of e2.symm (pw_below_drewN hB_6.out n_))
            clear e2 hB_6
            go_wp2_with fail
            refine (HF.out ga _).mono ?_
            rintro e3 w3 ⟨rfl, rfl⟩
            simp only [ptrOf, Option.map_some]
            go_wp2_with fail
            refine (HMA.out _).mono ?_
            rintro e4 w4 ⟨rfl, rfl⟩
            go_wp2_with fail
            refine (HTA.out _).mono ?_
            rintro e5 w5 ⟨rfl, n_, e5⟩
            replace K_ga := Lib.hid (Hb.of e5.symm (K_ga.out.drewN n_))
            replace K_gr := Lib.hid (Hb.of e5.symm (K_gr.out.drewN n_))
            have hB_8 := Lib.hid (Below_of e5.symm (pw_below_drewN hB_7.out n_))
            clear e5 hB_7
            go_wp2_with fail
            refine (HMO.out _).mono ?_
            rintro e6 w6 ⟨rfl, n_, e6⟩
            replace K_ga := Lib.hid (Hb.of e6.symm (K_ga.out.drewN n_))
            replace K_gr := Lib.hid (Hb.of e6.symm (K_gr.out.drewN n_))
            have hB_9 := Lib.hid (Below_of e6.symm (pw_below_drewN hB_8.out n_))
            clear e6 hB_8
            go_wp2_with fail
            refine (put_c ga j _ _ _ _ K_ga.out HJ.out).mono ?_
            rintro e7 w7 ⟨rfl, rfl⟩
            go_upto_region 12 with (fail)
            refine wp_region_list ?_
            refine load_hart (h := _) rfl (.tmp 4) rfl ga rfl (by repeat (with_reducible first | exact K_ga.out | apply Hb.put | apply Hb.putP | apply Hb.putV | apply Hb.putW | apply Hb.putH | apply Hb.far N_ga_gr.out | apply Hb.drewN | apply Hb.drew)) ?_
            refine store_hart rfl (.tmp 8) (.tmp 51) rfl gr _ rfl rfl Ht.zero (by repeat (with_reducible first | exact K_gr.out | apply Hb.put | apply Hb.putP | apply Hb.putV | apply Hb.putW | apply Hb.putH | apply Hb.far (Ne.symm N_ga_gr.out) | apply Hb.drewN | apply Hb.drew)) ?_
            go_wp2
            refine bodyPost_ret (results_cell_row rfl _ _ gr 25 _ (0, 0) _ rfl (Hb.putAll _ (by repeat (with_reducible first | exact K_gr.out | apply Hb.put | apply Hb.putP | apply Hb.putV | apply Hb.putW | apply Hb.putH | apply Hb.far (Ne.symm N_ga_gr.out) | apply Hb.drewN | apply Hb.drew))) Tryd.underlying25 rfl (by rw [Ht.size]; exact hartSize)) rfl ?_
            exact ⟨by first | (rw [← HZ.out]; done) | (rw [← HZ.out]; rfl), setCells_below G_gr.out _ _ _ (by repeat (first | (with_reducible first | exact hB_9.out | apply pw_below_drewN | apply below_drew1 | refine below_set ?_ G_ga.out | refine below_set ?_ G_gr.out) | exact hB_9.out))⟩
          · skip
            cases d2 : (Go.bits .and .u64 (v / 2048) 3 == 2)
            · skip
              rw [dt] at ht
              rw [dm] at hmo
              simp only [dt, dm, d1, d2, Bool.false_eq_true, if_false, if_true] at hz
              have HTA := Lib.hid ht; have HMO := Lib.hid hmo; have HZ := Lib.hid hz
              clear ht hmo hz dt dm
              have hu25 := Tryd.underlying25; have hu27 := Tryd.underlying27
              go_enter Tryd.func19, Tryd.ntmps19
              go_upto_region 1 with (first | ((with_reducible refine gate_dst (N := 4) rfl ?_); refine box_event ?hg (N := 4) ?hd (cs := h.cs) (t := 25) ?hr ?_; (case hd => rfl); (case hg => rfl); (case hr => first | (go_simp; done) | (go_simp; rfl)); intro ga hg w_1 H1 hb; have hB_2 := Lib.hid (below_step (Below.refl w.heap.size w) hb); have G_ga := Lib.hid (show w.heap.size ≤ ga by rw [hg]; exact ((Below.refl w.heap.size w)).size); have K_ga := Lib.hid (show Hb w_1 ga h from H1); clear hg hb H1) | ((with_reducible refine gate_dst (N := 5) rfl ?_); refine box_event ?hg (N := 5) ?hd (cs := #[.bool la, .bool lb, .bool lc, .bool ld, .int .u64 lg, .int .u64 lt]) (t := 27) ?hr ?_; (case hd => rfl); (case hg => rfl); (case hr => first | (go_simp; done) | (go_simp; rfl)); intro gt hg w_3 H1 hb; have hB_4 := Lib.hid (below_step hB_2.out hb); have G_gt := Lib.hid (show w.heap.size ≤ gt by rw [hg]; exact (hB_2.out).size); have N_ga_gt := Lib.hid (show ga ≠ gt by rw [hg]; exact Nat.ne_of_lt (K_ga.out.lt)); replace K_ga := Lib.hid (K_ga.out.below hb); have K_gt := Lib.hid (show w_3.heap[gt]? = some (.cells #[.bool la, .bool lb, .bool lc, .bool ld, .int .u64 lg, .int .u64 lt] 27 (0, 0)) from H1); clear hg hb H1 hB_2) | ((with_reducible refine gate_dst (N := 8) rfl ?_); refine box_event ?hg (N := 8) ?hd (cs := Ht.zero.cs) (t := 25) ?hr ?_; (case hd => rfl); (case hg => rfl); (case hr => first | (go_simp; done) | (go_simp; rfl)); intro gr hg w_5 H1 hb; have hB_6 := Lib.hid (below_step hB_4.out hb); have G_gr := Lib.hid (show w.heap.size ≤ gr by rw [hg]; exact (hB_4.out).size); have N_ga_gr := Lib.hid (show ga ≠ gr by rw [hg]; exact Nat.ne_of_lt (K_ga.out.lt)); have N_gt_gr := Lib.hid (show gt ≠ gr by rw [hg]; exact Nat.ne_of_lt (blk_lt K_gt.out)); replace K_ga := Lib.hid (K_ga.out.below hb); replace K_gt := Lib.hid (blk_below K_gt.out hb); have K_gr := Lib.hid (show Hb w_5 gr Ht.zero from H1); clear hg hb H1 hB_4; clear hu25 hu27))
              go_wp2_with fail
              refine (HM.out ga _ K_ga.out).mono ?_
              rintro e1 w1 ⟨rfl, rfl⟩
              go_wp2_with fail
              refine (HK.out _ (Tab.from HT.out hB_6.out)).mono ?_
              rintro e2 w2 ⟨rfl, n_, e2⟩
              replace K_ga := Lib.hid (Hb.of e2.symm (K_ga.out.drewN n_))
              replace K_gr := Lib.hid (Hb.of e2.symm (K_gr.out.drewN n_))
              have hB_7 := Lib.hid (Below_of e2.symm (pw_below_drewN hB_6.out n_))
              clear e2 hB_6
              go_wp2_with fail
              refine (HF.out ga _).mono ?_
              rintro e3 w3 ⟨rfl, rfl⟩
              simp only [ptrOf, Option.map_some]
              go_wp2_with fail
              refine (HMA.out _).mono ?_
              rintro e4 w4 ⟨rfl, rfl⟩
              go_wp2_with fail
              refine (HTA.out _).mono ?_
              rintro e5 w5 ⟨rfl, n_, e5⟩
              replace K_ga := Lib.hid (Hb.of e5.symm (K_ga.out.drewN n_))
              replace K_gr := Lib.hid (Hb.of e5.symm (K_gr.out.drewN n_))
              have hB_8 := Lib.hid (Below_of e5.symm (pw_below_drewN hB_7.out n_))
              clear e5 hB_7
              go_wp2_with fail
              refine (HMO.out _).mono ?_
              rintro e6 w6 ⟨rfl, n_, e6⟩
              replace K_ga := Lib.hid (Hb.of e6.symm (K_ga.out.drewN n_))
              replace K_gr := Lib.hid (Hb.of e6.symm (K_gr.out.drewN n_))
              have hB_9 := Lib.hid (Below_of e6.symm (pw_below_drewN hB_8.out n_))
              clear e6 hB_8
              go_wp2_with fail
              refine (put_c ga j _ _ _ _ K_ga.out HJ.out).mono ?_
              rintro e7 w7 ⟨rfl, rfl⟩
              go_upto_region 12 with (fail)
              refine wp_region_list ?_
              refine load_hart (h := _) rfl (.tmp 4) rfl ga rfl (by repeat (with_reducible first | exact K_ga.out | apply Hb.put | apply Hb.putP | apply Hb.putV | apply Hb.putW | apply Hb.putH | apply Hb.far N_ga_gr.out | apply Hb.drewN | apply Hb.drew)) ?_
              refine store_hart rfl (.tmp 8) (.tmp 51) rfl gr _ rfl rfl Ht.zero (by repeat (with_reducible first | exact K_gr.out | apply Hb.put | apply Hb.putP | apply Hb.putV | apply Hb.putW | apply Hb.putH | apply Hb.far (Ne.symm N_ga_gr.out) | apply Hb.drewN | apply Hb.drew)) ?_
              go_wp2
              refine bodyPost_ret (results_cell_row rfl _ _ gr 25 _ (0, 0) _ rfl (Hb.putAll _ (by repeat (with_reducible first | exact K_gr.out | apply Hb.put | apply Hb.putP | apply Hb.putV | apply Hb.putW | apply Hb.putH | apply Hb.far (Ne.symm N_ga_gr.out) | apply Hb.drewN | apply Hb.drew))) Tryd.underlying25 rfl (by rw [Ht.size]; exact hartSize)) rfl ?_
              exact ⟨by first | (rw [← HZ.out]; done) | (rw [← HZ.out]; rfl), setCells_below G_gr.out _ _ _ (by repeat (first | (with_reducible first | exact hB_9.out | apply pw_below_drewN | apply below_drew1 | refine below_set ?_ G_ga.out | refine below_set ?_ G_gr.out) | exact hB_9.out))⟩
            · skip
              rw [dt] at ht
              rw [dm] at hmo
              simp only [dt, dm, d1, d2, Bool.false_eq_true, if_false, if_true] at hz
              have HTA := Lib.hid ht; have HMO := Lib.hid hmo; have HZ := Lib.hid hz
              clear ht hmo hz dt dm
              have hu25 := Tryd.underlying25; have hu27 := Tryd.underlying27
              go_enter Tryd.func19, Tryd.ntmps19
              go_upto_region 1 with (first | ((with_reducible refine gate_dst (N := 4) rfl ?_); refine box_event ?hg (N := 4) ?hd (cs := h.cs) (t := 25) ?hr ?_; (case hd => rfl); (case hg => rfl); (case hr => first | (go_simp; done) | (go_simp; rfl)); intro ga hg w_1 H1 hb; have hB_2 := Lib.hid (below_step (Below.refl w.heap.size w) hb); have G_ga := Lib.hid (show w.heap.size ≤ ga by rw [hg]; exact ((Below.refl w.heap.size w)).size); have K_ga := Lib.hid (show Hb w_1 ga h from H1); clear hg hb H1) | ((with_reducible refine gate_dst (N := 5) rfl ?_); refine box_event ?hg (N := 5) ?hd (cs := #[.bool la, .bool lb, .bool lc, .bool ld, .int .u64 lg, .int .u64 lt]) (t := 27) ?hr ?_; (case hd => rfl); (case hg => rfl); (case hr => first | (go_simp; done) | (go_simp; rfl)); intro gt hg w_3 H1 hb; have hB_4 := Lib.hid (below_step hB_2.out hb); have G_gt := Lib.hid (show w.heap.size ≤ gt by rw [hg]; exact (hB_2.out).size); have N_ga_gt := Lib.hid (show ga ≠ gt by rw [hg]; exact Nat.ne_of_lt (K_ga.out.lt)); replace K_ga := Lib.hid (K_ga.out.below hb); have K_gt := Lib.hid (show w_3.heap[gt]? = some (.cells #[.bool la, .bool lb, .bool lc, .bool ld, .int .u64 lg, .int .u64 lt] 27 (0, 0)) from H1); clear hg hb H1 hB_2) | ((with_reducible refine gate_dst (N := 8) rfl ?_); refine box_event ?hg (N := 8) ?hd (cs := Ht.zero.cs) (t := 25) ?hr ?_; (case hd => rfl); (case hg => rfl); (case hr => first | (go_simp; done) | (go_simp; rfl)); intro gr hg w_5 H1 hb; have hB_6 := Lib.hid (below_step hB_4.out hb); have G_gr := Lib.hid (show w.heap.size ≤ gr by rw [hg]; exact (hB_4.out).size); have N_ga_gr := Lib.hid (show ga ≠ gr by rw [hg]; exact Nat.ne_of_lt (K_ga.out.lt)); have N_gt_gr := Lib.hid (show gt ≠ gr by rw [hg]; exact Nat.ne_of_lt (blk_lt K_gt.out)); replace K_ga := Lib.hid (K_ga.out.below hb); replace K_gt := Lib.hid (blk_below K_gt.out hb); have K_gr := Lib.hid (show Hb w_5 gr Ht.zero from H1); clear hg hb H1 hB_4; clear hu25 hu27))
              go_wp2_with fail
              refine (HM.out ga _ K_ga.out).mono ?_
              rintro e1 w1 ⟨rfl, rfl⟩
              go_wp2_with fail
              refine (HK.out _ (Tab.from HT.out hB_6.out)).mono ?_
              rintro e2 w2 ⟨rfl, n_, e2⟩
              replace K_ga := Lib.hid (Hb.of e2.symm (K_ga.out.drewN n_))
              replace K_gr := Lib.hid (Hb.of e2.symm (K_gr.out.drewN n_))
              have hB_7 := Lib.hid (Below_of e2.symm (pw_below_drewN hB_6.out n_))
              clear e2 hB_6
              go_wp2_with fail
              refine (HF.out ga _).mono ?_
              rintro e3 w3 ⟨rfl, rfl⟩
              simp only [ptrOf, Option.map_some]
              go_wp2_with fail
              refine (HMA.out _).mono ?_
              rintro e4 w4 ⟨rfl, rfl⟩
              go_wp2_with fail
              refine (HTA.out _).mono ?_
              rintro e5 w5 ⟨rfl, n_, e5⟩
              replace K_ga := Lib.hid (Hb.of e5.symm (K_ga.out.drewN n_))
              replace K_gr := Lib.hid (Hb.of e5.symm (K_gr.out.drewN n_))
              have hB_8 := Lib.hid (Below_of e5.symm (pw_below_drewN hB_7.out n_))
              clear e5 hB_7
              go_wp2_with fail
              refine (HMO.out _).mono ?_
              rintro e6 w6 ⟨rfl, n_, e6⟩
              replace K_ga := Lib.hid (Hb.of e6.symm (K_ga.out.drewN n_))
              replace K_gr := Lib.hid (Hb.of e6.symm (K_gr.out.drewN n_))
              have hB_9 := Lib.hid (Below_of e6.symm (pw_below_drewN hB_8.out n_))
              clear e6 hB_8
              go_wp2_with fail
              refine (put_c ga j _ _ _ _ K_ga.out HJ.out).mono ?_
              rintro e7 w7 ⟨rfl, rfl⟩
              go_upto_region 12 with (fail)
              refine wp_region_list ?_
              refine load_hart (h := _) rfl (.tmp 4) rfl ga rfl (by repeat (with_reducible first | exact K_ga.out | apply Hb.put | apply Hb.putP | apply Hb.putV | apply Hb.putW | apply Hb.putH | apply Hb.far N_ga_gr.out | apply Hb.drewN | apply Hb.drew)) ?_
              refine store_hart rfl (.tmp 8) (.tmp 51) rfl gr _ rfl rfl Ht.zero (by repeat (with_reducible first | exact K_gr.out | apply Hb.put | apply Hb.putP | apply Hb.putV | apply Hb.putW | apply Hb.putH | apply Hb.far (Ne.symm N_ga_gr.out) | apply Hb.drewN | apply Hb.drew)) ?_
              go_wp2
              refine bodyPost_ret (results_cell_row rfl _ _ gr 25 _ (0, 0) _ rfl (Hb.putAll _ (by repeat (with_reducible first | exact K_gr.out | apply Hb.put | apply Hb.putP | apply Hb.putV | apply Hb.putW | apply Hb.putH | apply Hb.far (Ne.symm N_ga_gr.out) | apply Hb.drewN | apply Hb.drew))) Tryd.underlying25 rfl (by rw [Ht.size]; exact hartSize)) rfl ?_
              exact ⟨by first | (rw [← HZ.out]; done) | (rw [← HZ.out]; rfl), setCells_below G_gr.out _ _ _ (by repeat (first | (with_reducible first | exact hB_9.out | apply pw_below_drewN | apply below_drew1 | refine below_set ?_ G_ga.out | refine below_set ?_ G_gr.out) | exact hB_9.out))⟩
end Go.Proofs.YtlopmcakfalkpaaDoor.Hx
