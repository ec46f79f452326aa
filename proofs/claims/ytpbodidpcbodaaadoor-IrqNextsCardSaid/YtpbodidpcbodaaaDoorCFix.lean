/- The legal hart that is made of one. (By a program of this session.) -/
import Derived.Test.YtpbodidpcbodaaaDoorCAll
import Derived.Test.YtpbodidpcbodaaaDoorCMask
import Derived.Test.YtpbodidpcbodaaaDoorCRead
import Derived.Test.YtpbodidpcbodaaaDoorCBase
set_option linter.unusedSimpArgs false
set_option linter.unusedVariables false
namespace Go.Proofs.YtpbodidpcbodaaaDoor.Hx
open Go.RowKit Go.Proofs.YtpbodidpcbodaaaDoor.Q Go.Proofs.YtpbodidpcbodaaaDoorW.PrintWords Go.Proofs.YtpbodidpcbodaaaDoorW.PrintLast Go.Proofs.YtpbodidpcbodaaaDoorW.PrintMore Go.Proofs.YtpbodidpcbodaaaDoor.Rg

theorem Nos.drewN {w w' : World} {g n : Nat} (H : Nos w g) (e : w' = w.drewN n) : Nos w' g := by
  subst e; intro i hi; exact cell_drewN n (H i hi)
theorem Nos.far {w : World} {g g2 j : Nat} {u : Value} (hne : g ≠ g2) (H : Nos w g) : Nos (w.setCell ⟨g2, j, none⟩ u) g := fun i hi => cell_far' (H i hi) hne
/-- A register's field made legal. -/
def fixAt (h : Ht) (no : Int) : Ht := match fieldOff no with
  | none => h
  | some o => h.set o (Go.bits .or .u64 (Go.bits .and .u64 (if tablesV no = true then (if modeV (h.x o) = true then h.x o else 0) else h.x o) (maskV no).1) (maskV no).2)
def fixTo (h : Ht) : Nat → Ht
  | 0 => h
  | k + 1 => fixAt (fixTo h k) (rowNo k)

theorem nos_index (gs c k : Nat) (h : k < 56) (W : World) : (Instr.indexAt 51 (.slice (some ⟨gs, 0, none⟩) 56 c) (.int .i64 (k : Int))).run Tryd.prog W = .ok (.pointer (some ⟨gs, k, none⟩)) W := by
  rw [run_indexAt_slice (h := by exact Tryd.underlying51), if_pos (by omega)]
  have e : (⟨gs, 0, none⟩ : Addr).add k = ⟨gs, k, none⟩ := by unfold Addr.add; split <;> simp_all
  show Result.ok (Value.pointer (some ((⟨gs, 0, none⟩ : Addr).add (k * 1)))) W = _
  rw [Nat.mul_one, e]
def fixLast (k : Ht) : Ht :=
  let k1 := if (Go.bits .and .u64 (k.x 38) 6144 == 4096) = true then k.set 38 (Go.bits .andNot .u64 (k.x 38) 6144) else k
  let k2 := ((k1.set 42 (Go.bits .and .u64 (k.x 42) 546)).set 1 0).set 0 (Go.bits .andNot .u64 (k.x 0) 3)
  let b := (k.x 33 != 1) = true ∧ (k.x 33 != 3) = true
  let k3 := if b then k2.set 33 0 else k2
  let k4 : Ht := { k3 with v := if k.v = true then (if b then true else (k.x 33 != 3)) else false }
  let k5 := k4.set 37 (Go.bits .and .u64 (k.x 37) 72057594037927928)
  if k.hl = true then k5 else k5.set 37 0
/-- The legal hart that is made of one. -/
def fix (h : Ht) : Ht := fixLast (fixTo h 56)

set_option maxHeartbeats 16000000 in
set_option maxRecDepth 100000 in
theorem fix_c (h : Ht) (w : World) (hT : Tab w) : Calls Tryd.prog 17 #[.agg h.cs] w fun e w' => e = .returned (.agg (fix h).cs) ∧ Below w.heap.size w w' := by
  obtain ⟨z, hz⟩ : ∃ z, fix h = z := ⟨_, rfl⟩
  rw [hz]
  have HZ0 := Lib.hid (show fixLast (fixTo h 56) = z from hz)
  clear hz
  have HT := Lib.hid hT
  clear hT
  have hu25 := Tryd.underlying25
  go_enter Tryd.func17, Tryd.ntmps17
  go_upto_region 1 with (first | ((with_reducible refine gate_dst (N := 1) rfl ?_); refine box_event ?hg (N := 1) ?hd (cs := h.cs) (t := 25) ?hr ?_; (case hd => rfl); (case hg => rfl); (case hr => first | (go_simp; done) | (go_simp; rfl)); intro ga hg w_1 H1 hb; have hB_2 := Lib.hid (below_step (Below.refl w.heap.size w) hb); have G_ga := Lib.hid (show w.heap.size ≤ ga by rw [hg]; exact ((Below.refl w.heap.size w)).size); have K_ga := Lib.hid (show Hb w_1 ga h from H1); clear hg hb H1) | ((with_reducible refine gate_dst (N := 2) rfl ?_); refine box_event ?hg (N := 2) ?hd (cs := Ht.zero.cs) (t := 25) ?hr ?_; (case hd => rfl); (case hg => rfl); (case hr => first | (go_simp; done) | (go_simp; rfl)); intro gr hg w_3 H1 hb; have hB_4 := Lib.hid (below_step hB_2.out hb); have G_gr := Lib.hid (show w.heap.size ≤ gr by rw [hg]; exact (hB_2.out).size); have N_ga_gr := Lib.hid (show ga ≠ gr by rw [hg]; exact Nat.ne_of_lt (K_ga.out.lt)); replace K_ga := Lib.hid (K_ga.out.below hb); have K_gr := Lib.hid (show Hb w_3 gr Ht.zero from H1); clear hg hb H1 hB_2; clear hu25))
  go_wp2_with fail
  refine (all_c _ (Tab.from HT.out hB_4.out)).mono ?_
  rintro e1 w1 ⟨gs, cp, ⟨rfl, hgs, hn⟩, hb⟩
  have N_ga_gs := Lib.hid (Nat.ne_of_lt (Nat.lt_of_lt_of_le K_ga.out.lt hgs)); have N_gr_gs := Lib.hid (Nat.ne_of_lt (Nat.lt_of_lt_of_le K_gr.out.lt hgs))
  have hB1 := Lib.hid (below_step hB_4.out hb); replace K_ga := Lib.hid (K_ga.out.below hb); replace K_gr := Lib.hid (K_gr.out.below hb); have HN := Lib.hid hn
  clear hb hgs hn hB_4
  go_wp2_with fail
  go_loopw [10] (fun v10 wr => ∃ k : Nat, k ≤ 56 ∧ v10 = .int .i64 k ∧ Hb wr ga (fixTo h k) ∧ Hb wr gr Ht.zero ∧ Nos wr gs ∧ Below w.heap.size w wr) (fun v10 _ => 56 - (intOf v10).toNat)
  case atStart => exact ⟨0, by omega, rfl, K_ga.out, K_gr.out, HN.out, hB1.out⟩
  case round =>
    clear K_ga K_gr HN hB1
    obtain ⟨k, hk, rfl, h1, h2, h3, hb⟩ := hrel
    have K_ga := Lib.hid h1; have K_gr := Lib.hid h2; have HN := Lib.hid h3; have HB := Lib.hid hb
    clear h1 h2 h3 hb
    by_cases hlt : k < 56
    · have d0 : decide ((k : Int) < 56) = true := decide_eq_true (by omega)
      have hc := HN.out k hlt; have ix := nos_index gs cp k hlt
      obtain ⟨k2, hk2⟩ : ∃ k2, fixTo h (k+1) = k2 := ⟨_, rfl⟩
      have hs : fixAt (fixTo h k) (rowNo k) = k2 := hk2
      have HK := Lib.hid hk2
      have HLT := Lib.hid hlt
      clear hk2 hlt
      generalize fixTo h k = fk at K_ga hs
      generalize rowNo k = no at hc hs
      have hf := fun w => field_c ga no w
      unfold fixAt at hs
      cases ho : fieldOff no with
      | none =>
        rw [ho] at hf hs
        have hs := Eq.symm hs
        have HF := Lib.hid hf
        simp only at hs
        subst hs
        clear hf ho
        go_wp2_with fail
        refine (HF.out _).mono ?_
        rintro e2 w2 ⟨rfl, rfl⟩
        simp only [ptrOf, Option.map_none]
        go_wp2
        go_roundw
        case rel => exact ⟨k + 1, HLT.out, by simp, HK.out ▸ K_ga.out, K_gr.out, HN.out, HB.out⟩
        case measure => have hlt := HLT.out; first | (simp [intOf]; done) | (simp [intOf]; omega)
      | some j =>
        rw [ho] at hf hs
        have hj := fieldOff_isU ho
        have HF := Lib.hid hf
        clear hf ho
        obtain ⟨mv, hmv⟩ : ∃ mv, maskV no = mv := ⟨_, rfl⟩
        have hma := fun w => mask_c no w
        rw [hmv] at hma hs
        obtain ⟨m1, m2⟩ := mv
        simp only at hma hs
        have HM := Lib.hid hma
        clear hma hmv
        have cj := K_ga.out.u j hj; have fj := K_ga.out.fr j
        have ht := fun w => tables_c no w
        cases htv : tablesV no
        · skip
          rw [htv] at ht hs
          have HTA := Lib.hid ht; have HJ := Lib.hid hj
          clear ht htv hj
          go_wp2_with fail
          refine (HF.out _).mono ?_
          rintro e2 w2 ⟨rfl, rfl⟩
          simp only [ptrOf, Option.map_some]
          go_wp2_with fail
          refine (HM.out _).mono ?_
          rintro e3 w3 ⟨rfl, rfl⟩
          go_wp2_with fail
          refine (HTA.out _).mono ?_
          rintro e4 w4 ⟨rfl, n_, e4⟩
          clear cj fj hc ix
          replace K_ga := Lib.hid (Hb.of e4.symm (K_ga.out.drewN n_))
          replace K_gr := Lib.hid (Hb.of e4.symm (K_gr.out.drewN n_))
          replace HN := Lib.hid (HN.out.drewN e4)
          replace HB := Lib.hid (Below_of e4.symm (pw_below_drewN HB.out n_))
          clear e4
          have cj := K_ga.out.u j HJ.out; have fj := K_ga.out.fr j
          simp only [Bool.false_eq_true, if_false] at hs
          have HS := Lib.hid hs
          clear hs
          go_wp2
          go_roundw
          case rel => exact ⟨k + 1, HLT.out, by simp, by rw [HK.out, ← HS.out]; exact Hb.put (hj := ⟨HJ.out⟩) j _ K_ga.out, by repeat (with_reducible first | exact K_gr.out | apply Hb.far (Ne.symm N_ga_gr.out)), by repeat (with_reducible first | exact HN.out | apply Nos.far (Ne.symm N_ga_gs.out)), by repeat (first | (with_reducible first | exact HB.out | refine below_set ?_ G_ga.out) | exact HB.out)⟩
          case measure => have hlt := HLT.out; first | (simp [intOf]; done) | (simp [intOf]; omega)
        · skip
          rw [htv] at ht hs
          have HTA := Lib.hid ht; have HJ := Lib.hid hj
          clear ht htv hj
          go_wp2_with fail
          refine (HF.out _).mono ?_
          rintro e2 w2 ⟨rfl, rfl⟩
          simp only [ptrOf, Option.map_some]
          go_wp2_with fail
          refine (HM.out _).mono ?_
          rintro e3 w3 ⟨rfl, rfl⟩
          go_wp2_with fail
          refine (HTA.out _).mono ?_
          rintro e4 w4 ⟨rfl, n_, e4⟩
          clear cj fj hc ix
          replace K_ga := Lib.hid (Hb.of e4.symm (K_ga.out.drewN n_))
          replace K_gr := Lib.hid (Hb.of e4.symm (K_gr.out.drewN n_))
          replace HN := Lib.hid (HN.out.drewN e4)
          replace HB := Lib.hid (Below_of e4.symm (pw_below_drewN HB.out n_))
          clear e4
          have cj := K_ga.out.u j HJ.out; have fj := K_ga.out.fr j
          simp only [if_true] at hs
          have hmo := fun w => mode_c (fk.x j) w
          cases hmv : modeV (fk.x j)
          · rw [hmv] at hmo hs
            simp only [Bool.false_eq_true, if_false, if_true] at hs
            have HMO := Lib.hid hmo; have HS := Lib.hid hs
            clear hmo hs hmv
            go_wp2_with fail
            refine (HMO.out _).mono ?_
            rintro e5 w5 ⟨rfl, n_, e5⟩
            clear cj fj
            replace K_ga := Lib.hid (Hb.of e5.symm (K_ga.out.drewN n_))
            replace K_gr := Lib.hid (Hb.of e5.symm (K_gr.out.drewN n_))
            replace HN := Lib.hid (HN.out.drewN e5)
            replace HB := Lib.hid (Below_of e5.symm (pw_below_drewN HB.out n_))
            clear e5
            have cj := K_ga.out.u j HJ.out; have fj := K_ga.out.fr j
            go_wp2
            go_roundw
            case rel => exact ⟨k + 1, HLT.out, by simp, by rw [HK.out, ← HS.out]; exact Hb.of2 (set_set fk j _ _) (Hb.put (hj := ⟨HJ.out⟩) j _ (Hb.put (hj := ⟨HJ.out⟩) j _ K_ga.out)), by repeat (with_reducible first | exact K_gr.out | apply Hb.far (Ne.symm N_ga_gr.out)), by repeat (with_reducible first | exact HN.out | apply Nos.far (Ne.symm N_ga_gs.out)), by repeat (first | (with_reducible first | exact HB.out | refine below_set ?_ G_ga.out) | exact HB.out)⟩
            case measure => have hlt := HLT.out; first | (simp [intOf]; done) | (simp [intOf]; omega)
          · rw [hmv] at hmo hs
            simp only [Bool.false_eq_true, if_false, if_true] at hs
            have HMO := Lib.hid hmo; have HS := Lib.hid hs
            clear hmo hs hmv
            go_wp2_with fail
            refine (HMO.out _).mono ?_
            rintro e5 w5 ⟨rfl, n_, e5⟩
            clear cj fj
            replace K_ga := Lib.hid (Hb.of e5.symm (K_ga.out.drewN n_))
            replace K_gr := Lib.hid (Hb.of e5.symm (K_gr.out.drewN n_))
            replace HN := Lib.hid (HN.out.drewN e5)
            replace HB := Lib.hid (Below_of e5.symm (pw_below_drewN HB.out n_))
            clear e5
            have cj := K_ga.out.u j HJ.out; have fj := K_ga.out.fr j
            go_wp2
            go_roundw
            case rel => exact ⟨k + 1, HLT.out, by simp, by rw [HK.out, ← HS.out]; exact Hb.put (hj := ⟨HJ.out⟩) j _ K_ga.out, by repeat (with_reducible first | exact K_gr.out | apply Hb.far (Ne.symm N_ga_gr.out)), by repeat (with_reducible first | exact HN.out | apply Nos.far (Ne.symm N_ga_gs.out)), by repeat (first | (with_reducible first | exact HB.out | refine below_set ?_ G_ga.out) | exact HB.out)⟩
            case measure => have hlt := HLT.out; first | (simp [intOf]; done) | (simp [intOf]; omega)
    · have hk56 : k = 56 := by omega
      subst hk56
      clear hlt hk
      have hz2 := HZ0.out
      clear HZ0
      generalize fixTo h 56 = k at K_ga hz2
      have HZ := Lib.hid hz2
      clear hz2
      cases d1 : (Go.bits .and .u64 (k.x 38) 6144 == 4096)
      · skip
        cases d2 : (k.x 33 != 1)
        · skip
          cases d3 : (k.x 33 != 3)
          · skip
            cases d4 : k.v
            · skip
              cases d5 : k.hl
              · skip
                have c_ga_0 := K_ga.out.u 0 rfl; have f_ga_0 := K_ga.out.fr 0
                have c_ga_1 := K_ga.out.u 1 rfl; have f_ga_1 := K_ga.out.fr 1
                have c_ga_33 := K_ga.out.p; have f_ga_33 := K_ga.out.fr 33
                have c_ga_34 := K_ga.out.cv; have f_ga_34 := K_ga.out.fr 34
                have c_ga_36 := K_ga.out.ch; have f_ga_36 := K_ga.out.fr 36
                have c_ga_37 := K_ga.out.u 37 rfl; have f_ga_37 := K_ga.out.fr 37
                have c_ga_38 := K_ga.out.u 38 rfl; have f_ga_38 := K_ga.out.fr 38
                have c_ga_42 := K_ga.out.u 42 rfl; have f_ga_42 := K_ga.out.fr 42
                go_upto_region 22 with (fail)
                refine wp_region_list ?_
                refine load_hart (h := _) rfl (.tmp 1) rfl ga rfl (by repeat (with_reducible first | exact K_ga.out | apply Hb.put | apply Hb.putP | apply Hb.putV | apply Hb.putW | apply Hb.putH | apply Hb.far N_ga_gr.out | apply Hb.drewN | apply Hb.drew)) ?_
                refine store_hart rfl (.tmp 2) (.tmp 87) rfl gr _ rfl rfl Ht.zero (by repeat (with_reducible first | exact K_gr.out | apply Hb.put | apply Hb.putP | apply Hb.putV | apply Hb.putW | apply Hb.putH | apply Hb.far (Ne.symm N_ga_gr.out) | apply Hb.drewN | apply Hb.drew)) ?_
                go_wp2
                refine bodyPost_ret (results_cell_row rfl _ _ gr 25 _ (0, 0) _ rfl (Hb.putAll _ (by repeat (with_reducible first | exact K_gr.out | apply Hb.put | apply Hb.putP | apply Hb.putV | apply Hb.putW | apply Hb.putH | apply Hb.far (Ne.symm N_ga_gr.out) | apply Hb.drewN | apply Hb.drew))) Tryd.underlying25 rfl (by rw [Ht.size]; exact hartSize)) rfl ?_
                exact ⟨by rw [← HZ.out]; unfold fixLast; first | (simp only [d1, d2, d3, d4, d5, if_true, if_false, Bool.false_eq_true, and_true, and_false, true_and, false_and, and_self]; done) | (simp only [d1, d2, d3, d4, d5, if_true, if_false, Bool.false_eq_true, and_true, and_false, true_and, false_and, and_self]; rfl), setCells_below G_gr.out _ _ _ (by repeat (first | (with_reducible first | exact HB.out | apply pw_below_drewN | apply below_drew1 | refine below_set ?_ G_ga.out | refine below_set ?_ G_gr.out) | exact HB.out))⟩
              · skip
                have c_ga_0 := K_ga.out.u 0 rfl; have f_ga_0 := K_ga.out.fr 0
                have c_ga_1 := K_ga.out.u 1 rfl; have f_ga_1 := K_ga.out.fr 1
                have c_ga_33 := K_ga.out.p; have f_ga_33 := K_ga.out.fr 33
                have c_ga_34 := K_ga.out.cv; have f_ga_34 := K_ga.out.fr 34
                have c_ga_36 := K_ga.out.ch; have f_ga_36 := K_ga.out.fr 36
                have c_ga_37 := K_ga.out.u 37 rfl; have f_ga_37 := K_ga.out.fr 37
                have c_ga_38 := K_ga.out.u 38 rfl; have f_ga_38 := K_ga.out.fr 38
                have c_ga_42 := K_ga.out.u 42 rfl; have f_ga_42 := K_ga.out.fr 42
                go_upto_region 22 with (fail)
                refine wp_region_list ?_
                refine load_hart (h := _) rfl (.tmp 1) rfl ga rfl (by repeat (with_reducible first | exact K_ga.out | apply Hb.put | apply Hb.putP | apply Hb.putV | apply Hb.putW | apply Hb.putH | apply Hb.far N_ga_gr.out | apply Hb.drewN | apply Hb.drew)) ?_
                refine store_hart rfl (.tmp 2) (.tmp 87) rfl gr _ rfl rfl Ht.zero (by repeat (with_reducible first | exact K_gr.out | apply Hb.put | apply Hb.putP | apply Hb.putV | apply Hb.putW | apply Hb.putH | apply Hb.far (Ne.symm N_ga_gr.out) | apply Hb.drewN | apply Hb.drew)) ?_
                go_wp2
                refine bodyPost_ret (results_cell_row rfl _ _ gr 25 _ (0, 0) _ rfl (Hb.putAll _ (by repeat (with_reducible first | exact K_gr.out | apply Hb.put | apply Hb.putP | apply Hb.putV | apply Hb.putW | apply Hb.putH | apply Hb.far (Ne.symm N_ga_gr.out) | apply Hb.drewN | apply Hb.drew))) Tryd.underlying25 rfl (by rw [Ht.size]; exact hartSize)) rfl ?_
                exact ⟨by rw [← HZ.out]; unfold fixLast; first | (simp only [d1, d2, d3, d4, d5, if_true, if_false, Bool.false_eq_true, and_true, and_false, true_and, false_and, and_self]; done) | (simp only [d1, d2, d3, d4, d5, if_true, if_false, Bool.false_eq_true, and_true, and_false, true_and, false_and, and_self]; rfl), setCells_below G_gr.out _ _ _ (by repeat (first | (with_reducible first | exact HB.out | apply pw_below_drewN | apply below_drew1 | refine below_set ?_ G_ga.out | refine below_set ?_ G_gr.out) | exact HB.out))⟩
            · skip
              cases d5 : k.hl
              · skip
                have c_ga_0 := K_ga.out.u 0 rfl; have f_ga_0 := K_ga.out.fr 0
                have c_ga_1 := K_ga.out.u 1 rfl; have f_ga_1 := K_ga.out.fr 1
                have c_ga_33 := K_ga.out.p; have f_ga_33 := K_ga.out.fr 33
                have c_ga_34 := K_ga.out.cv; have f_ga_34 := K_ga.out.fr 34
                have c_ga_36 := K_ga.out.ch; have f_ga_36 := K_ga.out.fr 36
                have c_ga_37 := K_ga.out.u 37 rfl; have f_ga_37 := K_ga.out.fr 37
                have c_ga_38 := K_ga.out.u 38 rfl; have f_ga_38 := K_ga.out.fr 38
                have c_ga_42 := K_ga.out.u 42 rfl; have f_ga_42 := K_ga.out.fr 42
                go_upto_region 22 with (fail)
                refine wp_region_list ?_
                refine load_hart (h := _) rfl (.tmp 1) rfl ga rfl (by repeat (with_reducible first | exact K_ga.out | apply Hb.put | apply Hb.putP | apply Hb.putV | apply Hb.putW | apply Hb.putH | apply Hb.far N_ga_gr.out | apply Hb.drewN | apply Hb.drew)) ?_
                refine store_hart rfl (.tmp 2) (.tmp 87) rfl gr _ rfl rfl Ht.zero (by repeat (with_reducible first | exact K_gr.out | apply Hb.put | apply Hb.putP | apply Hb.putV | apply Hb.putW | apply Hb.putH | apply Hb.far (Ne.symm N_ga_gr.out) | apply Hb.drewN | apply Hb.drew)) ?_
                go_wp2
                refine bodyPost_ret (results_cell_row rfl _ _ gr 25 _ (0, 0) _ rfl (Hb.putAll _ (by repeat (with_reducible first | exact K_gr.out | apply Hb.put | apply Hb.putP | apply Hb.putV | apply Hb.putW | apply Hb.putH | apply Hb.far (Ne.symm N_ga_gr.out) | apply Hb.drewN | apply Hb.drew))) Tryd.underlying25 rfl (by rw [Ht.size]; exact hartSize)) rfl ?_
                exact ⟨by rw [← HZ.out]; unfold fixLast; first | (simp only [d1, d2, d3, d4, d5, if_true, if_false, Bool.false_eq_true, and_true, and_false, true_and, false_and, and_self]; done) | (simp only [d1, d2, d3, d4, d5, if_true, if_false, Bool.false_eq_true, and_true, and_false, true_and, false_and, and_self]; rfl), setCells_below G_gr.out _ _ _ (by repeat (first | (with_reducible first | exact HB.out | apply pw_below_drewN | apply below_drew1 | refine below_set ?_ G_ga.out | refine below_set ?_ G_gr.out) | exact HB.out))⟩
              · skip
                have c_ga_0 := K_ga.out.u 0 rfl; have f_ga_0 := K_ga.out.fr 0
                have c_ga_1 := K_ga.out.u 1 rfl; have f_ga_1 := K_ga.out.fr 1
                have c_ga_33 := K_ga.out.p; have f_ga_33 := K_ga.out.fr 33
                have c_ga_34 := K_ga.out.cv; have f_ga_34 := K_ga.out.fr 34
                have c_ga_36 := K_ga.out.ch; have f_ga_36 := K_ga.out.fr 36
                have c_ga_37 := K_ga.out.u 37 rfl; have f_ga_37 := K_ga.out.fr 37
                have c_ga_38 := K_ga.out.u 38 rfl; have f_ga_38 := K_ga.out.fr 38
                have c_ga_42 := K_ga.out.u 42 rfl; have f_ga_42 := K_ga.out.fr 42
                go_upto_region 22 with (fail)
                refine wp_region_list ?_
                refine load_hart (h := _) rfl (.tmp 1) rfl ga rfl (by repeat (with_reducible first | exact K_ga.out | apply Hb.put | apply Hb.putP | apply Hb.putV | apply Hb.putW | apply Hb.putH | apply Hb.far N_ga_gr.out | apply Hb.drewN | apply Hb.drew)) ?_
                refine store_hart rfl (.tmp 2) (.tmp 87) rfl gr _ rfl rfl Ht.zero (by repeat (with_reducible first | exact K_gr.out | apply Hb.put | apply Hb.putP | apply Hb.putV | apply Hb.putW | apply Hb.putH | apply Hb.far (Ne.symm N_ga_gr.out) | apply Hb.drewN | apply Hb.drew)) ?_
                go_wp2
                refine bodyPost_ret (results_cell_row rfl _ _ gr 25 _ (0, 0) _ rfl (Hb.putAll _ (by repeat (with_reducible first | exact K_gr.out | apply Hb.put | apply Hb.putP | apply Hb.putV | apply Hb.putW | apply Hb.putH | apply Hb.far (Ne.symm N_ga_gr.out) | apply Hb.drewN | apply Hb.drew))) Tryd.underlying25 rfl (by rw [Ht.size]; exact hartSize)) rfl ?_
                exact ⟨by rw [← HZ.out]; unfold fixLast; first | (simp only [d1, d2, d3, d4, d5, if_true, if_false, Bool.false_eq_true, and_true, and_false, true_and, false_and, and_self]; done) | (simp only [d1, d2, d3, d4, d5, if_true, if_false, Bool.false_eq_true, and_true, and_false, true_and, false_and, and_self]; rfl), setCells_below G_gr.out _ _ _ (by repeat (first | (with_reducible first | exact HB.out | apply pw_below_drewN | apply below_drew1 | refine below_set ?_ G_ga.out | refine below_set ?_ G_gr.out) | exact HB.out))⟩
          · skip
            cases d4 : k.v
            · skip
              cases d5 : k.hl
              · skip
                have c_ga_0 := K_ga.out.u 0 rfl; have f_ga_0 := K_ga.out.fr 0
                have c_ga_1 := K_ga.out.u 1 rfl; have f_ga_1 := K_ga.out.fr 1
                have c_ga_33 := K_ga.out.p; have f_ga_33 := K_ga.out.fr 33
                have c_ga_34 := K_ga.out.cv; have f_ga_34 := K_ga.out.fr 34
                have c_ga_36 := K_ga.out.ch; have f_ga_36 := K_ga.out.fr 36
                have c_ga_37 := K_ga.out.u 37 rfl; have f_ga_37 := K_ga.out.fr 37
                have c_ga_38 := K_ga.out.u 38 rfl; have f_ga_38 := K_ga.out.fr 38
                have c_ga_42 := K_ga.out.u 42 rfl; have f_ga_42 := K_ga.out.fr 42
                go_upto_region 22 with (fail)
                refine wp_region_list ?_
                refine load_hart (h := _) rfl (.tmp 1) rfl ga rfl (by repeat (with_reducible first | exact K_ga.out | apply Hb.put | apply Hb.putP | apply Hb.putV | apply Hb.putW | apply Hb.putH | apply Hb.far N_ga_gr.out | apply Hb.drewN | apply Hb.drew)) ?_
                refine store_hart rfl (.tmp 2) (.tmp 87) rfl gr _ rfl rfl Ht.zero (by repeat (with_reducible first | exact K_gr.out | apply Hb.put | apply Hb.putP | apply Hb.putV | apply Hb.putW | apply Hb.putH | apply Hb.far (Ne.symm N_ga_gr.out) | apply Hb.drewN | apply Hb.drew)) ?_
                go_wp2
                refine bodyPost_ret (results_cell_row rfl _ _ gr 25 _ (0, 0) _ rfl (Hb.putAll _ (by repeat (with_reducible first | exact K_gr.out | apply Hb.put | apply Hb.putP | apply Hb.putV | apply Hb.putW | apply Hb.putH | apply Hb.far (Ne.symm N_ga_gr.out) | apply Hb.drewN | apply Hb.drew))) Tryd.underlying25 rfl (by rw [Ht.size]; exact hartSize)) rfl ?_
                exact ⟨by rw [← HZ.out]; unfold fixLast; first | (simp only [d1, d2, d3, d4, d5, if_true, if_false, Bool.false_eq_true, and_true, and_false, true_and, false_and, and_self]; done) | (simp only [d1, d2, d3, d4, d5, if_true, if_false, Bool.false_eq_true, and_true, and_false, true_and, false_and, and_self]; rfl), setCells_below G_gr.out _ _ _ (by repeat (first | (with_reducible first | exact HB.out | apply pw_below_drewN | apply below_drew1 | refine below_set ?_ G_ga.out | refine below_set ?_ G_gr.out) | exact HB.out))⟩
              · skip
                have c_ga_0 := K_ga.out.u 0 rfl; have f_ga_0 := K_ga.out.fr 0
                have c_ga_1 := K_ga.out.u 1 rfl; have f_ga_1 := K_ga.out.fr 1
                have c_ga_33 := K_ga.out.p; have f_ga_33 := K_ga.out.fr 33
                have c_ga_34 := K_ga.out.cv; have f_ga_34 := K_ga.out.fr 34
                have c_ga_36 := K_ga.out.ch; have f_ga_36 := K_ga.out.fr 36
                have c_ga_37 := K_ga.out.u 37 rfl; have f_ga_37 := K_ga.out.fr 37
                have c_ga_38 := K_ga.out.u 38 rfl; have f_ga_38 := K_ga.out.fr 38
                have c_ga_42 := K_ga.out.u 42 rfl; have f_ga_42 := K_ga.out.fr 42
                go_upto_region 22 with (fail)
                refine wp_region_list ?_
                refine load_hart (h := _) rfl (.tmp 1) rfl ga rfl (by repeat (with_reducible first | exact K_ga.out | apply Hb.put | apply Hb.putP | apply Hb.putV | apply Hb.putW | apply Hb.putH | apply Hb.far N_ga_gr.out | apply Hb.drewN | apply Hb.drew)) ?_
                refine store_hart rfl (.tmp 2) (.tmp 87) rfl gr _ rfl rfl Ht.zero (by repeat (with_reducible first | exact K_gr.out | apply Hb.put | apply Hb.putP | apply Hb.putV | apply Hb.putW | apply Hb.putH | apply Hb.far (Ne.symm N_ga_gr.out) | apply Hb.drewN | apply Hb.drew)) ?_
                go_wp2
                refine bodyPost_ret (results_cell_row rfl _ _ gr 25 _ (0, 0) _ rfl (Hb.putAll _ (by repeat (with_reducible first | exact K_gr.out | apply Hb.put | apply Hb.putP | apply Hb.putV | apply Hb.putW | apply Hb.putH | apply Hb.far (Ne.symm N_ga_gr.out) | apply Hb.drewN | apply Hb.drew))) Tryd.underlying25 rfl (by rw [Ht.size]; exact hartSize)) rfl ?_
                exact ⟨by rw [← HZ.out]; unfold fixLast; first | (simp only [d1, d2, d3, d4, d5, if_true, if_false, Bool.false_eq_true, and_true, and_false, true_and, false_and, and_self]; done) | (simp only [d1, d2, d3, d4, d5, if_true, if_false, Bool.false_eq_true, and_true, and_false, true_and, false_and, and_self]; rfl), setCells_below G_gr.out _ _ _ (by repeat (first | (with_reducible first | exact HB.out | apply pw_below_drewN | apply below_drew1 | refine below_set ?_ G_ga.out | refine below_set ?_ G_gr.out) | exact HB.out))⟩
            · skip
              cases d5 : k.hl
              · skip
                have c_ga_0 := K_ga.out.u 0 rfl; have f_ga_0 := K_ga.out.fr 0
                have c_ga_1 := K_ga.out.u 1 rfl; have f_ga_1 := K_ga.out.fr 1
                have c_ga_33 := K_ga.out.p; have f_ga_33 := K_ga.out.fr 33
                have c_ga_34 := K_ga.out.cv; have f_ga_34 := K_ga.out.fr 34
                have c_ga_36 := K_ga.out.ch; have f_ga_36 := K_ga.out.fr 36
                have c_ga_37 := K_ga.out.u 37 rfl; have f_ga_37 := K_ga.out.fr 37
                have c_ga_38 := K_ga.out.u 38 rfl; have f_ga_38 := K_ga.out.fr 38
                have c_ga_42 := K_ga.out.u 42 rfl; have f_ga_42 := K_ga.out.fr 42
                go_upto_region 22 with (fail)
                refine wp_region_list ?_
                refine load_hart (h := _) rfl (.tmp 1) rfl ga rfl (by repeat (with_reducible first | exact K_ga.out | apply Hb.put | apply Hb.putP | apply Hb.putV | apply Hb.putW | apply Hb.putH | apply Hb.far N_ga_gr.out | apply Hb.drewN | apply Hb.drew)) ?_
                refine store_hart rfl (.tmp 2) (.tmp 87) rfl gr _ rfl rfl Ht.zero (by repeat (with_reducible first | exact K_gr.out | apply Hb.put | apply Hb.putP | apply Hb.putV | apply Hb.putW | apply Hb.putH | apply Hb.far (Ne.symm N_ga_gr.out) | apply Hb.drewN | apply Hb.drew)) ?_
                go_wp2
                refine bodyPost_ret (results_cell_row rfl _ _ gr 25 _ (0, 0) _ rfl (Hb.putAll _ (by repeat (with_reducible first | exact K_gr.out | apply Hb.put | apply Hb.putP | apply Hb.putV | apply Hb.putW | apply Hb.putH | apply Hb.far (Ne.symm N_ga_gr.out) | apply Hb.drewN | apply Hb.drew))) Tryd.underlying25 rfl (by rw [Ht.size]; exact hartSize)) rfl ?_
                exact ⟨by rw [← HZ.out]; unfold fixLast; first | (simp only [d1, d2, d3, d4, d5, if_true, if_false, Bool.false_eq_true, and_true, and_false, true_and, false_and, and_self]; done) | (simp only [d1, d2, d3, d4, d5, if_true, if_false, Bool.false_eq_true, and_true, and_false, true_and, false_and, and_self]; rfl), setCells_below G_gr.out _ _ _ (by repeat (first | (with_reducible first | exact HB.out | apply pw_below_drewN | apply below_drew1 | refine below_set ?_ G_ga.out | refine below_set ?_ G_gr.out) | exact HB.out))⟩
              · skip
                have c_ga_0 := K_ga.out.u 0 rfl; have f_ga_0 := K_ga.out.fr 0
                have c_ga_1 := K_ga.out.u 1 rfl; have f_ga_1 := K_ga.out.fr 1
                have c_ga_33 := K_ga.out.p; have f_ga_33 := K_ga.out.fr 33
                have c_ga_34 := K_ga.out.cv; have f_ga_34 := K_ga.out.fr 34
                have c_ga_36 := K_ga.out.ch; have f_ga_36 := K_ga.out.fr 36
                have c_ga_37 := K_ga.out.u 37 rfl; have f_ga_37 := K_ga.out.fr 37
                have c_ga_38 := K_ga.out.u 38 rfl; have f_ga_38 := K_ga.out.fr 38
                have c_ga_42 := K_ga.out.u 42 rfl; have f_ga_42 := K_ga.out.fr 42
                go_upto_region 22 with (fail)
                refine wp_region_list ?_
                refine load_hart (h := _) rfl (.tmp 1) rfl ga rfl (by repeat (with_reducible first | exact K_ga.out | apply Hb.put | apply Hb.putP | apply Hb.putV | apply Hb.putW | apply Hb.putH | apply Hb.far N_ga_gr.out | apply Hb.drewN | apply Hb.drew)) ?_
                refine store_hart rfl (.tmp 2) (.tmp 87) rfl gr _ rfl rfl Ht.zero (by repeat (with_reducible first | exact K_gr.out | apply Hb.put | apply Hb.putP | apply Hb.putV | apply Hb.putW | apply Hb.putH | apply Hb.far (Ne.symm N_ga_gr.out) | apply Hb.drewN | apply Hb.drew)) ?_
                go_wp2
                refine bodyPost_ret (results_cell_row rfl _ _ gr 25 _ (0, 0) _ rfl (Hb.putAll _ (by repeat (with_reducible first | exact K_gr.out | apply Hb.put | apply Hb.putP | apply Hb.putV | apply Hb.putW | apply Hb.putH | apply Hb.far (Ne.symm N_ga_gr.out) | apply Hb.drewN | apply Hb.drew))) Tryd.underlying25 rfl (by rw [Ht.size]; exact hartSize)) rfl ?_
                exact ⟨by rw [← HZ.out]; unfold fixLast; first | (simp only [d1, d2, d3, d4, d5, if_true, if_false, Bool.false_eq_true, and_true, and_false, true_and, false_and, and_self]; done) | (simp only [d1, d2, d3, d4, d5, if_true, if_false, Bool.false_eq_true, and_true, and_false, true_and, false_and, and_self]; rfl), setCells_below G_gr.out _ _ _ (by repeat (first | (with_reducible first | exact HB.out | apply pw_below_drewN | apply below_drew1 | refine below_set ?_ G_ga.out | refine below_set ?_ G_gr.out) | exact HB.out))⟩
        · skip
          cases d3 : (k.x 33 != 3)
          · skip
            cases d4 : k.v
            · skip
              cases d5 : k.hl
              · skip
                have c_ga_0 := K_ga.out.u 0 rfl; have f_ga_0 := K_ga.out.fr 0
                have c_ga_1 := K_ga.out.u 1 rfl; have f_ga_1 := K_ga.out.fr 1
                have c_ga_33 := K_ga.out.p; have f_ga_33 := K_ga.out.fr 33
                have c_ga_34 := K_ga.out.cv; have f_ga_34 := K_ga.out.fr 34
                have c_ga_36 := K_ga.out.ch; have f_ga_36 := K_ga.out.fr 36
                have c_ga_37 := K_ga.out.u 37 rfl; have f_ga_37 := K_ga.out.fr 37
                have c_ga_38 := K_ga.out.u 38 rfl; have f_ga_38 := K_ga.out.fr 38
                have c_ga_42 := K_ga.out.u 42 rfl; have f_ga_42 := K_ga.out.fr 42
                go_upto_region 22 with (fail)
                refine wp_region_list ?_
                refine load_hart (h := _) rfl (.tmp 1) rfl ga rfl (by repeat (with_reducible first | exact K_ga.out | apply Hb.put | apply Hb.putP | apply Hb.putV | apply Hb.putW | apply Hb.putH | apply Hb.far N_ga_gr.out | apply Hb.drewN | apply Hb.drew)) ?_
                refine store_hart rfl (.tmp 2) (.tmp 87) rfl gr _ rfl rfl Ht.zero (by repeat (with_reducible first | exact K_gr.out | apply Hb.put | apply Hb.putP | apply Hb.putV | apply Hb.putW | apply Hb.putH | apply Hb.far (Ne.symm N_ga_gr.out) | apply Hb.drewN | apply Hb.drew)) ?_
                go_wp2
                refine bodyPost_ret (results_cell_row rfl _ _ gr 25 _ (0, 0) _ rfl (Hb.putAll _ (by repeat (with_reducible first | exact K_gr.out | apply Hb.put | apply Hb.putP | apply Hb.putV | apply Hb.putW | apply Hb.putH | apply Hb.far (Ne.symm N_ga_gr.out) | apply Hb.drewN | apply Hb.drew))) Tryd.underlying25 rfl (by rw [Ht.size]; exact hartSize)) rfl ?_
                exact ⟨by rw [← HZ.out]; unfold fixLast; first | (simp only [d1, d2, d3, d4, d5, if_true, if_false, Bool.false_eq_true, and_true, and_false, true_and, false_and, and_self]; done) | (simp only [d1, d2, d3, d4, d5, if_true, if_false, Bool.false_eq_true, and_true, and_false, true_and, false_and, and_self]; rfl), setCells_below G_gr.out _ _ _ (by repeat (first | (with_reducible first | exact HB.out | apply pw_below_drewN | apply below_drew1 | refine below_set ?_ G_ga.out | refine below_set ?_ G_gr.out) | exact HB.out))⟩
              · skip
                have c_ga_0 := K_ga.out.u 0 rfl; have f_ga_0 := K_ga.out.fr 0
                have c_ga_1 := K_ga.out.u 1 rfl; have f_ga_1 := K_ga.out.fr 1
                have c_ga_33 := K_ga.out.p; have f_ga_33 := K_ga.out.fr 33
                have c_ga_34 := K_ga.out.cv; have f_ga_34 := K_ga.out.fr 34
                have c_ga_36 := K_ga.out.ch; have f_ga_36 := K_ga.out.fr 36
                have c_ga_37 := K_ga.out.u 37 rfl; have f_ga_37 := K_ga.out.fr 37
                have c_ga_38 := K_ga.out.u 38 rfl; have f_ga_38 := K_ga.out.fr 38
                have c_ga_42 := K_ga.out.u 42 rfl; have f_ga_42 := K_ga.out.fr 42
                go_upto_region 22 with (fail)
                refine wp_region_list ?_
                refine load_hart (h := _) rfl (.tmp 1) rfl ga rfl (by repeat (with_reducible first | exact K_ga.out | apply Hb.put | apply Hb.putP | apply Hb.putV | apply Hb.putW | apply Hb.putH | apply Hb.far N_ga_gr.out | apply Hb.drewN | apply Hb.drew)) ?_
                refine store_hart rfl (.tmp 2) (.tmp 87) rfl gr _ rfl rfl Ht.zero (by repeat (with_reducible first | exact K_gr.out | apply Hb.put | apply Hb.putP | apply Hb.putV | apply Hb.putW | apply Hb.putH | apply Hb.far (Ne.symm N_ga_gr.out) | apply Hb.drewN | apply Hb.drew)) ?_
                go_wp2
                refine bodyPost_ret (results_cell_row rfl _ _ gr 25 _ (0, 0) _ rfl (Hb.putAll _ (by repeat (with_reducible first | exact K_gr.out | apply Hb.put | apply Hb.putP | apply Hb.putV | apply Hb.putW | apply Hb.putH | apply Hb.far (Ne.symm N_ga_gr.out) | apply Hb.drewN | apply Hb.drew))) Tryd.underlying25 rfl (by rw [Ht.size]; exact hartSize)) rfl ?_
                exact ⟨by rw [← HZ.out]; unfold fixLast; first | (simp only [d1, d2, d3, d4, d5, if_true, if_false, Bool.false_eq_true, and_true, and_false, true_and, false_and, and_self]; done) | (simp only [d1, d2, d3, d4, d5, if_true, if_false, Bool.false_eq_true, and_true, and_false, true_and, false_and, and_self]; rfl), setCells_below G_gr.out _ _ _ (by repeat (first | (with_reducible first | exact HB.out | apply pw_below_drewN | apply below_drew1 | refine below_set ?_ G_ga.out | refine below_set ?_ G_gr.out) | exact HB.out))⟩
            · skip
              cases d5 : k.hl
              · skip
                have c_ga_0 := K_ga.out.u 0 rfl; have f_ga_0 := K_ga.out.fr 0
                have c_ga_1 := K_ga.out.u 1 rfl; have f_ga_1 := K_ga.out.fr 1
                have c_ga_33 := K_ga.out.p; have f_ga_33 := K_ga.out.fr 33
                have c_ga_34 := K_ga.out.cv; have f_ga_34 := K_ga.out.fr 34
                have c_ga_36 := K_ga.out.ch; have f_ga_36 := K_ga.out.fr 36
                have c_ga_37 := K_ga.out.u 37 rfl; have f_ga_37 := K_ga.out.fr 37
                have c_ga_38 := K_ga.out.u 38 rfl; have f_ga_38 := K_ga.out.fr 38
                have c_ga_42 := K_ga.out.u 42 rfl; have f_ga_42 := K_ga.out.fr 42
                go_upto_region 22 with (fail)
                refine wp_region_list ?_
                refine load_hart (h := _) rfl (.tmp 1) rfl ga rfl (by repeat (with_reducible first | exact K_ga.out | apply Hb.put | apply Hb.putP | apply Hb.putV | apply Hb.putW | apply Hb.putH | apply Hb.far N_ga_gr.out | apply Hb.drewN | apply Hb.drew)) ?_
                refine store_hart rfl (.tmp 2) (.tmp 87) rfl gr _ rfl rfl Ht.zero (by repeat (with_reducible first | exact K_gr.out | apply Hb.put | apply Hb.putP | apply Hb.putV | apply Hb.putW | apply Hb.putH | apply Hb.far (Ne.symm N_ga_gr.out) | apply Hb.drewN | apply Hb.drew)) ?_
                go_wp2
                refine bodyPost_ret (results_cell_row rfl _ _ gr 25 _ (0, 0) _ rfl (Hb.putAll _ (by repeat (with_reducible first | exact K_gr.out | apply Hb.put | apply Hb.putP | apply Hb.putV | apply Hb.putW | apply Hb.putH | apply Hb.far (Ne.symm N_ga_gr.out) | apply Hb.drewN | apply Hb.drew))) Tryd.underlying25 rfl (by rw [Ht.size]; exact hartSize)) rfl ?_
                exact ⟨by rw [← HZ.out]; unfold fixLast; first | (simp only [d1, d2, d3, d4, d5, if_true, if_false, Bool.false_eq_true, and_true, and_false, true_and, false_and, and_self]; done) | (simp only [d1, d2, d3, d4, d5, if_true, if_false, Bool.false_eq_true, and_true, and_false, true_and, false_and, and_self]; rfl), setCells_below G_gr.out _ _ _ (by repeat (first | (with_reducible first | exact HB.out | apply pw_below_drewN | apply below_drew1 | refine below_set ?_ G_ga.out | refine below_set ?_ G_gr.out) | exact HB.out))⟩
              · skip
                have c_ga_0 := K_ga.out.u 0 rfl; have f_ga_0 := K_ga.out.fr 0
                have c_ga_1 := K_ga.out.u 1 rfl; have f_ga_1 := K_ga.out.fr 1
                have c_ga_33 := K_ga.out.p; have f_ga_33 := K_ga.out.fr 33
                have c_ga_34 := K_ga.out.cv; have f_ga_34 := K_ga.out.fr 34
                have c_ga_36 := K_ga.out.ch; have f_ga_36 := K_ga.out.fr 36
                have c_ga_37 := K_ga.out.u 37 rfl; have f_ga_37 := K_ga.out.fr 37
                have c_ga_38 := K_ga.out.u 38 rfl; have f_ga_38 := K_ga.out.fr 38
                have c_ga_42 := K_ga.out.u 42 rfl; have f_ga_42 := K_ga.out.fr 42
                go_upto_region 22 with (fail)
                refine wp_region_list ?_
                refine load_hart (h := _) rfl (.tmp 1) rfl ga rfl (by repeat (with_reducible first | exact K_ga.out | apply Hb.put | apply Hb.putP | apply Hb.putV | apply Hb.putW | apply Hb.putH | apply Hb.far N_ga_gr.out | apply Hb.drewN | apply Hb.drew)) ?_
                refine store_hart rfl (.tmp 2) (.tmp 87) rfl gr _ rfl rfl Ht.zero (by repeat (with_reducible first | exact K_gr.out | apply Hb.put | apply Hb.putP | apply Hb.putV | apply Hb.putW | apply Hb.putH | apply Hb.far (Ne.symm N_ga_gr.out) | apply Hb.drewN | apply Hb.drew)) ?_
                go_wp2
                refine bodyPost_ret (results_cell_row rfl _ _ gr 25 _ (0, 0) _ rfl (Hb.putAll _ (by repeat (with_reducible first | exact K_gr.out | apply Hb.put | apply Hb.putP | apply Hb.putV | apply Hb.putW | apply Hb.putH | apply Hb.far (Ne.symm N_ga_gr.out) | apply Hb.drewN | apply Hb.drew))) Tryd.underlying25 rfl (by rw [Ht.size]; exact hartSize)) rfl ?_
                exact ⟨by rw [← HZ.out]; unfold fixLast; first | (simp only [d1, d2, d3, d4, d5, if_true, if_false, Bool.false_eq_true, and_true, and_false, true_and, false_and, and_self]; done) | (simp only [d1, d2, d3, d4, d5, if_true, if_false, Bool.false_eq_true, and_true, and_false, true_and, false_and, and_self]; rfl), setCells_below G_gr.out _ _ _ (by repeat (first | (with_reducible first | exact HB.out | apply pw_below_drewN | apply below_drew1 | refine below_set ?_ G_ga.out | refine below_set ?_ G_gr.out) | exact HB.out))⟩
          · skip
            cases d4 : k.v
            · skip
              cases d5 : k.hl
              · skip
                have c_ga_0 := K_ga.out.u 0 rfl; have f_ga_0 := K_ga.out.fr 0
                have c_ga_1 := K_ga.out.u 1 rfl; have f_ga_1 := K_ga.out.fr 1
                have c_ga_33 := K_ga.out.p; have f_ga_33 := K_ga.out.fr 33
                have c_ga_34 := K_ga.out.cv; have f_ga_34 := K_ga.out.fr 34
                have c_ga_36 := K_ga.out.ch; have f_ga_36 := K_ga.out.fr 36
                have c_ga_37 := K_ga.out.u 37 rfl; have f_ga_37 := K_ga.out.fr 37
                have c_ga_38 := K_ga.out.u 38 rfl; have f_ga_38 := K_ga.out.fr 38
                have c_ga_42 := K_ga.out.u 42 rfl; have f_ga_42 := K_ga.out.fr 42
                go_upto_region 22 with (fail)
                refine wp_region_list ?_
                refine load_hart (h := _) rfl (.tmp 1) rfl ga rfl (by repeat (with_reducible first | exact K_ga.out | apply Hb.put | apply Hb.putP | apply Hb.putV | apply Hb.putW | apply Hb.putH | apply Hb.far N_ga_gr.out | apply Hb.drewN | apply Hb.drew)) ?_
                refine store_hart rfl (.tmp 2) (.tmp 87) rfl gr _ rfl rfl Ht.zero (by repeat (with_reducible first | exact K_gr.out | apply Hb.put | apply Hb.putP | apply Hb.putV | apply Hb.putW | apply Hb.putH | apply Hb.far (Ne.symm N_ga_gr.out) | apply Hb.drewN | apply Hb.drew)) ?_
                go_wp2
                refine bodyPost_ret (results_cell_row rfl _ _ gr 25 _ (0, 0) _ rfl (Hb.putAll _ (by repeat (with_reducible first | exact K_gr.out | apply Hb.put | apply Hb.putP | apply Hb.putV | apply Hb.putW | apply Hb.putH | apply Hb.far (Ne.symm N_ga_gr.out) | apply Hb.drewN | apply Hb.drew))) Tryd.underlying25 rfl (by rw [Ht.size]; exact hartSize)) rfl ?_
                exact ⟨by rw [← HZ.out]; unfold fixLast; first | (simp only [d1, d2, d3, d4, d5, if_true, if_false, Bool.false_eq_true, and_true, and_false, true_and, false_and, and_self]; done) | (simp only [d1, d2, d3, d4, d5, if_true, if_false, Bool.false_eq_true, and_true, and_false, true_and, false_and, and_self]; rfl), setCells_below G_gr.out _ _ _ (by repeat (first | (with_reducible first | exact HB.out | apply pw_below_drewN | apply below_drew1 | refine below_set ?_ G_ga.out | refine below_set ?_ G_gr.out) | exact HB.out))⟩
              · skip
                have c_ga_0 := K_ga.out.u 0 rfl; have f_ga_0 := K_ga.out.fr 0
                have c_ga_1 := K_ga.out.u 1 rfl; have f_ga_1 := K_ga.out.fr 1
                have c_ga_33 := K_ga.out.p; have f_ga_33 := K_ga.out.fr 33
                have c_ga_34 := K_ga.out.cv; have f_ga_34 := K_ga.out.fr 34
                have c_ga_36 := K_ga.out.ch; have f_ga_36 := K_ga.out.fr 36
                have c_ga_37 := K_ga.out.u 37 rfl; have f_ga_37 := K_ga.out.fr 37
                have c_ga_38 := K_ga.out.u 38 rfl; have f_ga_38 := K_ga.out.fr 38
                have c_ga_42 := K_ga.out.u 42 rfl; have f_ga_42 := K_ga.out.fr 42
                go_upto_region 22 with (fail)
                refine wp_region_list ?_
                refine load_hart (h := _) rfl (.tmp 1) rfl ga rfl (by repeat (with_reducible first | exact K_ga.out | apply Hb.put | apply Hb.putP | apply Hb.putV | apply Hb.putW | apply Hb.putH | apply Hb.far N_ga_gr.out | apply Hb.drewN | apply Hb.drew)) ?_
                refine store_hart rfl (.tmp 2) (.tmp 87) rfl gr _ rfl rfl Ht.zero (by repeat (with_reducible first | exact K_gr.out | apply Hb.put | apply Hb.putP | apply Hb.putV | apply Hb.putW | apply Hb.putH | apply Hb.far (Ne.symm N_ga_gr.out) | apply Hb.drewN | apply Hb.drew)) ?_
                go_wp2
                refine bodyPost_ret (results_cell_row rfl _ _ gr 25 _ (0, 0) _ rfl (Hb.putAll _ (by repeat (with_reducible first | exact K_gr.out | apply Hb.put | apply Hb.putP | apply Hb.putV | apply Hb.putW | apply Hb.putH | apply Hb.far (Ne.symm N_ga_gr.out) | apply Hb.drewN | apply Hb.drew))) Tryd.underlying25 rfl (by rw [Ht.size]; exact hartSize)) rfl ?_
                exact ⟨by rw [← HZ.out]; unfold fixLast; first | (simp only [d1, d2, d3, d4, d5, if_true, if_false, Bool.false_eq_true, and_true, and_false, true_and, false_and, and_self]; done) | (simp only [d1, d2, d3, d4, d5, if_true, if_false, Bool.false_eq_true, and_true, and_false, true_and, false_and, and_self]; rfl), setCells_below G_gr.out _ _ _ (by repeat (first | (with_reducible first | exact HB.out | apply pw_below_drewN | apply below_drew1 | refine below_set ?_ G_ga.out | refine below_set ?_ G_gr.out) | exact HB.out))⟩
            · skip
              cases d5 : k.hl
              · skip
                have c_ga_0 := K_ga.out.u 0 rfl; have f_ga_0 := K_ga.out.fr 0
                have c_ga_1 := K_ga.out.u 1 rfl; have f_ga_1 := K_ga.out.fr 1
                have c_ga_33 := K_ga.out.p; have f_ga_33 := K_ga.out.fr 33
                have c_ga_34 := K_ga.out.cv; have f_ga_34 := K_ga.out.fr 34
                have c_ga_36 := K_ga.out.ch; have f_ga_36 := K_ga.out.fr 36
                have c_ga_37 := K_ga.out.u 37 rfl; have f_ga_37 := K_ga.out.fr 37
                have c_ga_38 := K_ga.out.u 38 rfl; have f_ga_38 := K_ga.out.fr 38
                have c_ga_42 := K_ga.out.u 42 rfl; have f_ga_42 := K_ga.out.fr 42
                go_upto_region 22 with (fail)
                refine wp_region_list ?_
                refine load_hart (h := _) rfl (.tmp 1) rfl ga rfl (by repeat (with_reducible first | exact K_ga.out | apply Hb.put | apply Hb.putP | apply Hb.putV | apply Hb.putW | apply Hb.putH | apply Hb.far N_ga_gr.out | apply Hb.drewN | apply Hb.drew)) ?_
                refine store_hart rfl (.tmp 2) (.tmp 87) rfl gr _ rfl rfl Ht.zero (by repeat (with_reducible first | exact K_gr.out | apply Hb.put | apply Hb.putP | apply Hb.putV | apply Hb.putW | apply Hb.putH | apply Hb.far (Ne.symm N_ga_gr.out) | apply Hb.drewN | apply Hb.drew)) ?_
                go_wp2
                refine bodyPost_ret (results_cell_row rfl _ _ gr 25 _ (0, 0) _ rfl (Hb.putAll _ (by repeat (with_reducible first | exact K_gr.out | apply Hb.put | apply Hb.putP | apply Hb.putV | apply Hb.putW | apply Hb.putH | apply Hb.far (Ne.symm N_ga_gr.out) | apply Hb.drewN | apply Hb.drew))) Tryd.underlying25 rfl (by rw [Ht.size]; exact hartSize)) rfl ?_
                exact ⟨by rw [← HZ.out]; unfold fixLast; first | (simp only [d1, d2, d3, d4, d5, if_true, if_false, Bool.false_eq_true, and_true, and_false, true_and, false_and, and_self]; done) | (simp only [d1, d2, d3, d4, d5, if_true, if_false, Bool.false_eq_true, and_true, and_false, true_and, false_and, and_self]; rfl), setCells_below G_gr.out _ _ _ (by repeat (first | (with_reducible first | exact HB.out | apply pw_below_drewN | apply below_drew1 | refine below_set ?_ G_ga.out | refine below_set ?_ G_gr.out) | exact HB.out))⟩
              · skip
                have c_ga_0 := K_ga.out.u 0 rfl; have f_ga_0 := K_ga.out.fr 0
                have c_ga_1 := K_ga.out.u 1 rfl; have f_ga_1 := K_ga.out.fr 1
                have c_ga_33 := K_ga.out.p; have f_ga_33 := K_ga.out.fr 33
                have c_ga_34 := K_ga.out.cv; have f_ga_34 := K_ga.out.fr 34
                have c_ga_36 := K_ga.out.ch; have f_ga_36 := K_ga.out.fr 36
                have c_ga_37 := K_ga.out.u 37 rfl; have f_ga_37 := K_ga.out.fr 37
                have c_ga_38 := K_ga.out.u 38 rfl; have f_ga_38 := K_ga.out.fr 38
                have c_ga_42 := K_ga.out.u 42 rfl; have f_ga_42 := K_ga.out.fr 42
                go_upto_region 22 with (fail)
                refine wp_region_list ?_
                refine load_hart (h := _) rfl (.tmp 1) rfl ga rfl (by repeat (with_reducible first | exact K_ga.out | apply Hb.put | apply Hb.putP | apply Hb.putV | apply Hb.putW | apply Hb.putH | apply Hb.far N_ga_gr.out | apply Hb.drewN | apply Hb.drew)) ?_
                refine store_hart rfl (.tmp 2) (.tmp 87) rfl gr _ rfl rfl Ht.zero (by repeat (with_reducible first | exact K_gr.out | apply Hb.put | apply Hb.putP | apply Hb.putV | apply Hb.putW | apply Hb.putH | apply Hb.far (Ne.symm N_ga_gr.out) | apply Hb.drewN | apply Hb.drew)) ?_
                go_wp2
                refine bodyPost_ret (results_cell_row rfl _ _ gr 25 _ (0, 0) _ rfl (Hb.putAll _ (by repeat (with_reducible first | exact K_gr.out | apply Hb.put | apply Hb.putP | apply Hb.putV | apply Hb.putW | apply Hb.putH | apply Hb.far (Ne.symm N_ga_gr.out) | apply Hb.drewN | apply Hb.drew))) Tryd.underlying25 rfl (by rw [Ht.size]; exact hartSize)) rfl ?_
                exact ⟨by rw [← HZ.out]; unfold fixLast; first | (simp only [d1, d2, d3, d4, d5, if_true, if_false, Bool.false_eq_true, and_true, and_false, true_and, false_and, and_self]; done) | (simp only [d1, d2, d3, d4, d5, if_true, if_false, Bool.false_eq_true, and_true, and_false, true_and, false_and, and_self]; rfl), setCells_below G_gr.out _ _ _ (by repeat (first | (with_reducible first | exact HB.out | apply pw_below_drewN | apply below_drew1 | refine below_set ?_ G_ga.out | refine below_set ?_ G_gr.out) | exact HB.out))⟩
      · skip
        cases d2 : (k.x 33 != 1)
        · skip
          cases d3 : (k.x 33 != 3)
          · skip
            cases d4 : k.v
            · skip
              cases d5 : k.hl
              · skip
                have c_ga_0 := K_ga.out.u 0 rfl; have f_ga_0 := K_ga.out.fr 0
                have c_ga_1 := K_ga.out.u 1 rfl; have f_ga_1 := K_ga.out.fr 1
                have c_ga_33 := K_ga.out.p; have f_ga_33 := K_ga.out.fr 33
                have c_ga_34 := K_ga.out.cv; have f_ga_34 := K_ga.out.fr 34
                have c_ga_36 := K_ga.out.ch; have f_ga_36 := K_ga.out.fr 36
                have c_ga_37 := K_ga.out.u 37 rfl; have f_ga_37 := K_ga.out.fr 37
                have c_ga_38 := K_ga.out.u 38 rfl; have f_ga_38 := K_ga.out.fr 38
                have c_ga_42 := K_ga.out.u 42 rfl; have f_ga_42 := K_ga.out.fr 42
                go_upto_region 22 with (fail)
                refine wp_region_list ?_
                refine load_hart (h := _) rfl (.tmp 1) rfl ga rfl (by repeat (with_reducible first | exact K_ga.out | apply Hb.put | apply Hb.putP | apply Hb.putV | apply Hb.putW | apply Hb.putH | apply Hb.far N_ga_gr.out | apply Hb.drewN | apply Hb.drew)) ?_
                refine store_hart rfl (.tmp 2) (.tmp 87) rfl gr _ rfl rfl Ht.zero (by repeat (with_reducible first | exact K_gr.out | apply Hb.put | apply Hb.putP | apply Hb.putV | apply Hb.putW | apply Hb.putH | apply Hb.far (Ne.symm N_ga_gr.out) | apply Hb.drewN | apply Hb.drew)) ?_
                go_wp2
                refine bodyPost_ret (results_cell_row rfl _ _ gr 25 _ (0, 0) _ rfl (Hb.putAll _ (by repeat (with_reducible first | exact K_gr.out | apply Hb.put | apply Hb.putP | apply Hb.putV | apply Hb.putW | apply Hb.putH | apply Hb.far (Ne.symm N_ga_gr.out) | apply Hb.drewN | apply Hb.drew))) Tryd.underlying25 rfl (by rw [Ht.size]; exact hartSize)) rfl ?_
                exact ⟨by rw [← HZ.out]; unfold fixLast; first | (simp only [d1, d2, d3, d4, d5, if_true, if_false, Bool.false_eq_true, and_true, and_false, true_and, false_and, and_self]; done) | (simp only [d1, d2, d3, d4, d5, if_true, if_false, Bool.false_eq_true, and_true, and_false, true_and, false_and, and_self]; rfl), setCells_below G_gr.out _ _ _ (by repeat (first | (with_reducible first | exact HB.out | apply pw_below_drewN | apply below_drew1 | refine below_set ?_ G_ga.out | refine below_set ?_ G_gr.out) | exact HB.out))⟩
              · skip
                have c_ga_0 := K_ga.out.u 0 rfl; have f_ga_0 := K_ga.out.fr 0
                have c_ga_1 := K_ga.out.u 1 rfl; have f_ga_1 := K_ga.out.fr 1
                have c_ga_33 := K_ga.out.p; have f_ga_33 := K_ga.out.fr 33
                have c_ga_34 := K_ga.out.cv; have f_ga_34 := K_ga.out.fr 34
                have c_ga_36 := K_ga.out.ch; have f_ga_36 := K_ga.out.fr 36
                have c_ga_37 := K_ga.out.u 37 rfl; have f_ga_37 := K_ga.out.fr 37
                have c_ga_38 := K_ga.out.u 38 rfl; have f_ga_38 := K_ga.out.fr 38
                have c_ga_42 := K_ga.out.u 42 rfl; have f_ga_42 := K_ga.out.fr 42
                go_upto_region 22 with (fail)
                refine wp_region_list ?_
                refine load_hart (h := _) rfl (.tmp 1) rfl ga rfl (by repeat (with_reducible first | exact K_ga.out | apply Hb.put | apply Hb.putP | apply Hb.putV | apply Hb.putW | apply Hb.putH | apply Hb.far N_ga_gr.out | apply Hb.drewN | apply Hb.drew)) ?_
                refine store_hart rfl (.tmp 2) (.tmp 87) rfl gr _ rfl rfl Ht.zero (by repeat (with_reducible first | exact K_gr.out | apply Hb.put | apply Hb.putP | apply Hb.putV | apply Hb.putW | apply Hb.putH | apply Hb.far (Ne.symm N_ga_gr.out) | apply Hb.drewN | apply Hb.drew)) ?_
                go_wp2
                refine bodyPost_ret (results_cell_row rfl _ _ gr 25 _ (0, 0) _ rfl (Hb.putAll _ (by repeat (with_reducible first | exact K_gr.out | apply Hb.put | apply Hb.putP | apply Hb.putV | apply Hb.putW | apply Hb.putH | apply Hb.far (Ne.symm N_ga_gr.out) | apply Hb.drewN | apply Hb.drew))) Tryd.underlying25 rfl (by rw [Ht.size]; exact hartSize)) rfl ?_
                exact ⟨by rw [← HZ.out]; unfold fixLast; first | (simp only [d1, d2, d3, d4, d5, if_true, if_false, Bool.false_eq_true, and_true, and_false, true_and, false_and, and_self]; done) | (simp only [d1, d2, d3, d4, d5, if_true, if_false, Bool.false_eq_true, and_true, and_false, true_and, false_and, and_self]; rfl), setCells_below G_gr.out _ _ _ (by repeat (first | (with_reducible first | exact HB.out | apply pw_below_drewN | apply below_drew1 | refine below_set ?_ G_ga.out | refine below_set ?_ G_gr.out) | exact HB.out))⟩
            · skip
              cases d5 : k.hl
              · skip
                have c_ga_0 := K_ga.out.u 0 rfl; have f_ga_0 := K_ga.out.fr 0
                have c_ga_1 := K_ga.out.u 1 rfl; have f_ga_1 := K_ga.out.fr 1
                have c_ga_33 := K_ga.out.p; have f_ga_33 := K_ga.out.fr 33
                have c_ga_34 := K_ga.out.cv; have f_ga_34 := K_ga.out.fr 34
                have c_ga_36 := K_ga.out.ch; have f_ga_36 := K_ga.out.fr 36
                have c_ga_37 := K_ga.out.u 37 rfl; have f_ga_37 := K_ga.out.fr 37
                have c_ga_38 := K_ga.out.u 38 rfl; have f_ga_38 := K_ga.out.fr 38
                have c_ga_42 := K_ga.out.u 42 rfl; have f_ga_42 := K_ga.out.fr 42
                go_upto_region 22 with (fail)
                refine wp_region_list ?_
                refine load_hart (h := _) rfl (.tmp 1) rfl ga rfl (by repeat (with_reducible first | exact K_ga.out | apply Hb.put | apply Hb.putP | apply Hb.putV | apply Hb.putW | apply Hb.putH | apply Hb.far N_ga_gr.out | apply Hb.drewN | apply Hb.drew)) ?_
                refine store_hart rfl (.tmp 2) (.tmp 87) rfl gr _ rfl rfl Ht.zero (by repeat (with_reducible first | exact K_gr.out | apply Hb.put | apply Hb.putP | apply Hb.putV | apply Hb.putW | apply Hb.putH | apply Hb.far (Ne.symm N_ga_gr.out) | apply Hb.drewN | apply Hb.drew)) ?_
                go_wp2
                refine bodyPost_ret (results_cell_row rfl _ _ gr 25 _ (0, 0) _ rfl (Hb.putAll _ (by repeat (with_reducible first | exact K_gr.out | apply Hb.put | apply Hb.putP | apply Hb.putV | apply Hb.putW | apply Hb.putH | apply Hb.far (Ne.symm N_ga_gr.out) | apply Hb.drewN | apply Hb.drew))) Tryd.underlying25 rfl (by rw [Ht.size]; exact hartSize)) rfl ?_
                exact ⟨by rw [← HZ.out]; unfold fixLast; first | (simp only [d1, d2, d3, d4, d5, if_true, if_false, Bool.false_eq_true, and_true, and_false, true_and, false_and, and_self]; done) | (simp only [d1, d2, d3, d4, d5, if_true, if_false, Bool.false_eq_true, and_true, and_false, true_and, false_and, and_self]; rfl), setCells_below G_gr.out _ _ _ (by repeat (first | (with_reducible first | exact HB.out | apply pw_below_drewN | apply below_drew1 | refine below_set ?_ G_ga.out | refine below_set ?_ G_gr.out) | exact HB.out))⟩
              · skip
                have c_ga_0 := K_ga.out.u 0 rfl; have f_ga_0 := K_ga.out.fr 0
                have c_ga_1 := K_ga.out.u 1 rfl; have f_ga_1 := K_ga.out.fr 1
                have c_ga_33 := K_ga.out.p; have f_ga_33 := K_ga.out.fr 33
                have c_ga_34 := K_ga.out.cv; have f_ga_34 := K_ga.out.fr 34
                have c_ga_36 := K_ga.out.ch; have f_ga_36 := K_ga.out.fr 36
                have c_ga_37 := K_ga.out.u 37 rfl; have f_ga_37 := K_ga.out.fr 37
                have c_ga_38 := K_ga.out.u 38 rfl; have f_ga_38 := K_ga.out.fr 38
                have c_ga_42 := K_ga.out.u 42 rfl; have f_ga_42 := K_ga.out.fr 42
                go_upto_region 22 with (fail)
                refine wp_region_list ?_
                refine load_hart (h := _) rfl (.tmp 1) rfl ga rfl (by repeat (with_reducible first | exact K_ga.out | apply Hb.put | apply Hb.putP | apply Hb.putV | apply Hb.putW | apply Hb.putH | apply Hb.far N_ga_gr.out | apply Hb.drewN | apply Hb.drew)) ?_
                refine store_hart rfl (.tmp 2) (.tmp 87) rfl gr _ rfl rfl Ht.zero (by repeat (with_reducible first | exact K_gr.out | apply Hb.put | apply Hb.putP | apply Hb.putV | apply Hb.putW | apply Hb.putH | apply Hb.far (Ne.symm N_ga_gr.out) | apply Hb.drewN | apply Hb.drew)) ?_
                go_wp2
                refine bodyPost_ret (results_cell_row rfl _ _ gr 25 _ (0, 0) _ rfl (Hb.putAll _ (by repeat (with_reducible first | exact K_gr.out | apply Hb.put | apply Hb.putP | apply Hb.putV | apply Hb.putW | apply Hb.putH | apply Hb.far (Ne.symm N_ga_gr.out) | apply Hb.drewN | apply Hb.drew))) Tryd.underlying25 rfl (by rw [Ht.size]; exact hartSize)) rfl ?_
                exact ⟨by rw [← HZ.out]; unfold fixLast; first | (simp only [d1, d2, d3, d4, d5, if_true, if_false, Bool.false_eq_true, and_true, and_false, true_and, false_and, and_self]; done) | (simp only [d1, d2, d3, d4, d5, if_true, if_false, Bool.false_eq_true, and_true, and_false, true_and, false_and, and_self]; rfl), setCells_below G_gr.out _ _ _ (by repeat (first | (with_reducible first | exact HB.out | apply pw_below_drewN | apply below_drew1 | refine below_set ?_ G_ga.out | refine below_set ?_ G_gr.out) | exact HB.out))⟩
          · skip
            cases d4 : k.v
            · skip
              cases d5 : k.hl
              · skip
                have c_ga_0 := K_ga.out.u 0 rfl; have f_ga_0 := K_ga.out.fr 0
                have c_ga_1 := K_ga.out.u 1 rfl; have f_ga_1 := K_ga.out.fr 1
                have c_ga_33 := K_ga.out.p; have f_ga_33 := K_ga.out.fr 33
                have c_ga_34 := K_ga.out.cv; have f_ga_34 := K_ga.out.fr 34
                have c_ga_36 := K_ga.out.ch; have f_ga_36 := K_ga.out.fr 36
                have c_ga_37 := K_ga.out.u 37 rfl; have f_ga_37 := K_ga.out.fr 37
                have c_ga_38 := K_ga.out.u 38 rfl; have f_ga_38 := K_ga.out.fr 38
                have c_ga_42 := K_ga.out.u 42 rfl; have f_ga_42 := K_ga.out.fr 42
                go_upto_region 22 with (fail)
                refine wp_region_list ?_
                refine load_hart (h := _) rfl (.tmp 1) rfl ga rfl (by repeat (with_reducible first | exact K_ga.out | apply Hb.put | apply Hb.putP | apply Hb.putV | apply Hb.putW | apply Hb.putH | apply Hb.far N_ga_gr.out | apply Hb.drewN | apply Hb.drew)) ?_
                refine store_hart rfl (.tmp 2) (.tmp 87) rfl gr _ rfl rfl Ht.zero (by repeat (with_reducible first | exact K_gr.out | apply Hb.put | apply Hb.putP | apply Hb.putV | apply Hb.putW | apply Hb.putH | apply Hb.far (Ne.symm N_ga_gr.out) | apply Hb.drewN | apply Hb.drew)) ?_
                go_wp2
                refine bodyPost_ret (results_cell_row rfl _ _ gr 25 _ (0, 0) _ rfl (Hb.putAll _ (by repeat (with_reducible first | exact K_gr.out | apply Hb.put | apply Hb.putP | apply Hb.putV | apply Hb.putW | apply Hb.putH | apply Hb.far (Ne.symm N_ga_gr.out) | apply Hb.drewN | apply Hb.drew))) Tryd.underlying25 rfl (by rw [Ht.size]; exact hartSize)) rfl ?_
                exact ⟨by rw [← HZ.out]; unfold fixLast; first | (simp only [d1, d2, d3, d4, d5, if_true, if_false, Bool.false_eq_true, and_true, and_false, true_and, false_and, and_self]; done) | (simp only [d1, d2, d3, d4, d5, if_true, if_false, Bool.false_eq_true, and_true, and_false, true_and, false_and, and_self]; rfl), setCells_below G_gr.out _ _ _ (by repeat (first | (with_reducible first | exact HB.out | apply pw_below_drewN | apply below_drew1 | refine below_set ?_ G_ga.out | refine below_set ?_ G_gr.out) | exact HB.out))⟩
              · skip
                have c_ga_0 := K_ga.out.u 0 rfl; have f_ga_0 := K_ga.out.fr 0
                have c_ga_1 := K_ga.out.u 1 rfl; have f_ga_1 := K_ga.out.fr 1
                have c_ga_33 := K_ga.out.p; have f_ga_33 := K_ga.out.fr 33
                have c_ga_34 := K_ga.out.cv; have f_ga_34 := K_ga.out.fr 34
                have c_ga_36 := K_ga.out.ch; have f_ga_36 := K_ga.out.fr 36
                have c_ga_37 := K_ga.out.u 37 rfl; have f_ga_37 := K_ga.out.fr 37
                have c_ga_38 := K_ga.out.u 38 rfl; have f_ga_38 := K_ga.out.fr 38
                have c_ga_42 := K_ga.out.u 42 rfl; have f_ga_42 := K_ga.out.fr 42
                go_upto_region 22 with (fail)
                refine wp_region_list ?_
                refine load_hart (h := _) rfl (.tmp 1) rfl ga rfl (by repeat (with_reducible first | exact K_ga.out | apply Hb.put | apply Hb.putP | apply Hb.putV | apply Hb.putW | apply Hb.putH | apply Hb.far N_ga_gr.out | apply Hb.drewN | apply Hb.drew)) ?_
                refine store_hart rfl (.tmp 2) (.tmp 87) rfl gr _ rfl rfl Ht.zero (by repeat (with_reducible first | exact K_gr.out | apply Hb.put | apply Hb.putP | apply Hb.putV | apply Hb.putW | apply Hb.putH | apply Hb.far (Ne.symm N_ga_gr.out) | apply Hb.drewN | apply Hb.drew)) ?_
                go_wp2
                refine bodyPost_ret (results_cell_row rfl _ _ gr 25 _ (0, 0) _ rfl (Hb.putAll _ (by repeat (with_reducible first | exact K_gr.out | apply Hb.put | apply Hb.putP | apply Hb.putV | apply Hb.putW | apply Hb.putH | apply Hb.far (Ne.symm N_ga_gr.out) | apply Hb.drewN | apply Hb.drew))) Tryd.underlying25 rfl (by rw [Ht.size]; exact hartSize)) rfl ?_
                exact ⟨by rw [← HZ.out]; unfold fixLast; first | (simp only [d1, d2, d3, d4, d5, if_true, if_false, Bool.false_eq_true, and_true, and_false, true_and, false_and, and_self]; done) | (simp only [d1, d2, d3, d4, d5, if_true, if_false, Bool.false_eq_true, and_true, and_false, true_and, false_and, and_self]; rfl), setCells_below G_gr.out _ _ _ (by repeat (first | (with_reducible first | exact HB.out | apply pw_below_drewN | apply below_drew1 | refine below_set ?_ G_ga.out | refine below_set ?_ G_gr.out) | exact HB.out))⟩
            · skip
              cases d5 : k.hl
              · skip
                have c_ga_0 := K_ga.out.u 0 rfl; have f_ga_0 := K_ga.out.fr 0
                have c_ga_1 := K_ga.out.u 1 rfl; have f_ga_1 := K_ga.out.fr 1
                have c_ga_33 := K_ga.out.p; have f_ga_33 := K_ga.out.fr 33
                have c_ga_34 := K_ga.out.cv; have f_ga_34 := K_ga.out.fr 34
                have c_ga_36 := K_ga.out.ch; have f_ga_36 := K_ga.out.fr 36
                have c_ga_37 := K_ga.out.u 37 rfl; have f_ga_37 := K_ga.out.fr 37
                have c_ga_38 := K_ga.out.u 38 rfl; have f_ga_38 := K_ga.out.fr 38
                have c_ga_42 := K_ga.out.u 42 rfl; have f_ga_42 := K_ga.out.fr 42
                go_upto_region 22 with (fail)
                refine wp_region_list ?_
                refine load_hart (h := _) rfl (.tmp 1) rfl ga rfl (by repeat (with_reducible first | exact K_ga.out | apply Hb.put | apply Hb.putP | apply Hb.putV | apply Hb.putW | apply Hb.putH | apply Hb.far N_ga_gr.out | apply Hb.drewN | apply Hb.drew)) ?_
                refine store_hart rfl (.tmp 2) (.tmp 87) rfl gr _ rfl rfl Ht.zero (by repeat (with_reducible first | exact K_gr.out | apply Hb.put | apply Hb.putP | apply Hb.putV | apply Hb.putW | apply Hb.putH | apply Hb.far (Ne.symm N_ga_gr.out) | apply Hb.drewN | apply Hb.drew)) ?_
                go_wp2
                refine bodyPost_ret (results_cell_row rfl _ _ gr 25 _ (0, 0) _ rfl (Hb.putAll _ (by repeat (with_reducible first | exact K_gr.out | apply Hb.put | apply Hb.putP | apply Hb.putV | apply Hb.putW | apply Hb.putH | apply Hb.far (Ne.symm N_ga_gr.out) | apply Hb.drewN | apply Hb.drew))) Tryd.underlying25 rfl (by rw [Ht.size]; exact hartSize)) rfl ?_
                exact ⟨by rw [← HZ.out]; unfold fixLast; first | (simp only [d1, d2, d3, d4, d5, if_true, if_false, Bool.false_eq_true, and_true, and_false, true_and, false_and, and_self]; done) | (simp only [d1, d2, d3, d4, d5, if_true, if_false, Bool.false_eq_true, and_true, and_false, true_and, false_and, and_self]; rfl), setCells_below G_gr.out _ _ _ (by repeat (first | (with_reducible first | exact HB.out | apply pw_below_drewN | apply below_drew1 | refine below_set ?_ G_ga.out | refine below_set ?_ G_gr.out) | exact HB.out))⟩
              · skip
                have c_ga_0 := K_ga.out.u 0 rfl; have f_ga_0 := K_ga.out.fr 0
                have c_ga_1 := K_ga.out.u 1 rfl; have f_ga_1 := K_ga.out.fr 1
                have c_ga_33 := K_ga.out.p; have f_ga_33 := K_ga.out.fr 33
                have c_ga_34 := K_ga.out.cv; have f_ga_34 := K_ga.out.fr 34
                have c_ga_36 := K_ga.out.ch; have f_ga_36 := K_ga.out.fr 36
                have c_ga_37 := K_ga.out.u 37 rfl; have f_ga_37 := K_ga.out.fr 37
                have c_ga_38 := K_ga.out.u 38 rfl; have f_ga_38 := K_ga.out.fr 38
                have c_ga_42 := K_ga.out.u 42 rfl; have f_ga_42 := K_ga.out.fr 42
                go_upto_region 22 with (fail)
                refine wp_region_list ?_
                refine load_hart (h := _) rfl (.tmp 1) rfl ga rfl (by repeat (with_reducible first | exact K_ga.out | apply Hb.put | apply Hb.putP | apply Hb.putV | apply Hb.putW | apply Hb.putH | apply Hb.far N_ga_gr.out | apply Hb.drewN | apply Hb.drew)) ?_
                refine store_hart rfl (.tmp 2) (.tmp 87) rfl gr _ rfl rfl Ht.zero (by repeat (with_reducible first | exact K_gr.out | apply Hb.put | apply Hb.putP | apply Hb.putV | apply Hb.putW | apply Hb.putH | apply Hb.far (Ne.symm N_ga_gr.out) | apply Hb.drewN | apply Hb.drew)) ?_
                go_wp2
                refine bodyPost_ret (results_cell_row rfl _ _ gr 25 _ (0, 0) _ rfl (Hb.putAll _ (by repeat (with_reducible first | exact K_gr.out | apply Hb.put | apply Hb.putP | apply Hb.putV | apply Hb.putW | apply Hb.putH | apply Hb.far (Ne.symm N_ga_gr.out) | apply Hb.drewN | apply Hb.drew))) Tryd.underlying25 rfl (by rw [Ht.size]; exact hartSize)) rfl ?_
                exact ⟨by rw [← HZ.out]; unfold fixLast; first | (simp only [d1, d2, d3, d4, d5, if_true, if_false, Bool.false_eq_true, and_true, and_false, true_and, false_and, and_self]; done) | (simp only [d1, d2, d3, d4, d5, if_true, if_false, Bool.false_eq_true, and_true, and_false, true_and, false_and, and_self]; rfl), setCells_below G_gr.out _ _ _ (by repeat (first | (with_reducible first | exact HB.out | apply pw_below_drewN | apply below_drew1 | refine below_set ?_ G_ga.out | refine below_set ?_ G_gr.out) | exact HB.out))⟩
        · skip
          cases d3 : (k.x 33 != 3)
          · skip
            cases d4 : k.v
            · skip
              cases d5 : k.hl
              · skip
                have c_ga_0 := K_ga.out.u 0 rfl; have f_ga_0 := K_ga.out.fr 0
                have c_ga_1 := K_ga.out.u 1 rfl; have f_ga_1 := K_ga.out.fr 1
                have c_ga_33 := K_ga.out.p; have f_ga_33 := K_ga.out.fr 33
                have c_ga_34 := K_ga.out.cv; have f_ga_34 := K_ga.out.fr 34
                have c_ga_36 := K_ga.out.ch; have f_ga_36 := K_ga.out.fr 36
                have c_ga_37 := K_ga.out.u 37 rfl; have f_ga_37 := K_ga.out.fr 37
                have c_ga_38 := K_ga.out.u 38 rfl; have f_ga_38 := K_ga.out.fr 38
                have c_ga_42 := K_ga.out.u 42 rfl; have f_ga_42 := K_ga.out.fr 42
                go_upto_region 22 with (fail)
                refine wp_region_list ?_
                refine load_hart (h := _) rfl (.tmp 1) rfl ga rfl (by repeat (with_reducible first | exact K_ga.out | apply Hb.put | apply Hb.putP | apply Hb.putV | apply Hb.putW | apply Hb.putH | apply Hb.far N_ga_gr.out | apply Hb.drewN | apply Hb.drew)) ?_
                refine store_hart rfl (.tmp 2) (.tmp 87) rfl gr _ rfl rfl Ht.zero (by repeat (with_reducible first | exact K_gr.out | apply Hb.put | apply Hb.putP | apply Hb.putV | apply Hb.putW | apply Hb.putH | apply Hb.far (Ne.symm N_ga_gr.out) | apply Hb.drewN | apply Hb.drew)) ?_
                go_wp2
                refine bodyPost_ret (results_cell_row rfl _ _ gr 25 _ (0, 0) _ rfl (Hb.putAll _ (by repeat (with_reducible first | exact K_gr.out | apply Hb.put | apply Hb.putP | apply Hb.putV | apply Hb.putW | apply Hb.putH | apply Hb.far (Ne.symm N_ga_gr.out) | apply Hb.drewN | apply Hb.drew))) Tryd.underlying25 rfl (by rw [Ht.size]; exact hartSize)) rfl ?_
                exact ⟨by rw [← HZ.out]; unfold fixLast; first | (simp only [d1, d2, d3, d4, d5, if_true, if_false, Bool.false_eq_true, and_true, and_false, true_and, false_and, and_self]; done) | (simp only [d1, d2, d3, d4, d5, if_true, if_false, Bool.false_eq_true, and_true, and_false, true_and, false_and, and_self]; rfl), setCells_below G_gr.out _ _ _ (by repeat (first | (with_reducible first | exact HB.out | apply pw_below_drewN | apply below_drew1 | refine below_set ?_ G_ga.out | refine below_set ?_ G_gr.out) | exact HB.out))⟩
              · skip
                have c_ga_0 := K_ga.out.u 0 rfl; have f_ga_0 := K_ga.out.fr 0
                have c_ga_1 := K_ga.out.u 1 rfl; have f_ga_1 := K_ga.out.fr 1
                have c_ga_33 := K_ga.out.p; have f_ga_33 := K_ga.out.fr 33
                have c_ga_34 := K_ga.out.cv; have f_ga_34 := K_ga.out.fr 34
                have c_ga_36 := K_ga.out.ch; have f_ga_36 := K_ga.out.fr 36
                have c_ga_37 := K_ga.out.u 37 rfl; have f_ga_37 := K_ga.out.fr 37
                have c_ga_38 := K_ga.out.u 38 rfl; have f_ga_38 := K_ga.out.fr 38
                have c_ga_42 := K_ga.out.u 42 rfl; have f_ga_42 := K_ga.out.fr 42
                go_upto_region 22 with (fail)
                refine wp_region_list ?_
                refine load_hart (h := _) rfl (.tmp 1) rfl ga rfl (by repeat (with_reducible first | exact K_ga.out | apply Hb.put | apply Hb.putP | apply Hb.putV | apply Hb.putW | apply Hb.putH | apply Hb.far N_ga_gr.out | apply Hb.drewN | apply Hb.drew)) ?_
                refine store_hart rfl (.tmp 2) (.tmp 87) rfl gr _ rfl rfl Ht.zero (by repeat (with_reducible first | exact K_gr.out | apply Hb.put | apply Hb.putP | apply Hb.putV | apply Hb.putW | apply Hb.putH | apply Hb.far (Ne.symm N_ga_gr.out) | apply Hb.drewN | apply Hb.drew)) ?_
                go_wp2
                refine bodyPost_ret (results_cell_row rfl _ _ gr 25 _ (0, 0) _ rfl (Hb.putAll _ (by repeat (with_reducible first | exact K_gr.out | apply Hb.put | apply Hb.putP | apply Hb.putV | apply Hb.putW | apply Hb.putH | apply Hb.far (Ne.symm N_ga_gr.out) | apply Hb.drewN | apply Hb.drew))) Tryd.underlying25 rfl (by rw [Ht.size]; exact hartSize)) rfl ?_
                exact ⟨by rw [← HZ.out]; unfold fixLast; first | (simp only [d1, d2, d3, d4, d5, if_true, if_false, Bool.false_eq_true, and_true, and_false, true_and, false_and, and_self]; done) | (simp only [d1, d2, d3, d4, d5, if_true, if_false, Bool.false_eq_true, and_true, and_false, true_and, false_and, and_self]; rfl), setCells_below G_gr.out _ _ _ (by repeat (first | (with_reducible first | exact HB.out | apply pw_below_drewN | apply below_drew1 | refine below_set ?_ G_ga.out | refine below_set ?_ G_gr.out) | exact HB.out))⟩
            · skip
              cases d5 : k.hl
              · skip
                have c_ga_0 := K_ga.out.u 0 rfl; have f_ga_0 := K_ga.out.fr 0
                have c_ga_1 := K_ga.out.u 1 rfl; have f_ga_1 := K_ga.out.fr 1
                have c_ga_33 := K_ga.out.p; have f_ga_33 := K_ga.out.fr 33
                have c_ga_34 := K_ga.out.cv; have f_ga_34 := K_ga.out.fr 34
                have c_ga_36 := K_ga.out.ch; have f_ga_36 := K_ga.out.fr 36
                have c_ga_37 := K_ga.out.u 37 rfl; have f_ga_37 := K_ga.out.fr 37
                have c_ga_38 := K_ga.out.u 38 rfl; have f_ga_38 := K_ga.out.fr 38
                have c_ga_42 := K_ga.out.u 42 rfl; have f_ga_42 := K_ga.out.fr 42
                go_upto_region 22 with (fail)
                refine wp_region_list ?_
                refine load_hart (h := _) rfl (.tmp 1) rfl ga rfl (by repeat (with_reducible first | exact K_ga.out | apply Hb.put | apply Hb.putP | apply Hb.putV | apply Hb.putW | apply Hb.putH | apply Hb.far N_ga_gr.out | apply Hb.drewN | apply Hb.drew)) ?_
                refine store_hart rfl (.tmp 2) (.tmp 87) rfl gr _ rfl rfl Ht.zero (by repeat (with_reducible first | exact K_gr.out | apply Hb.put | apply Hb.putP | apply Hb.putV | apply Hb.putW | apply Hb.putH | apply Hb.far (Ne.symm N_ga_gr.out) | apply Hb.drewN | apply Hb.drew)) ?_
                go_wp2
                refine bodyPost_ret (results_cell_row rfl _ _ gr 25 _ (0, 0) _ rfl (Hb.putAll _ (by repeat (with_reducible first | exact K_gr.out | apply Hb.put | apply Hb.putP | apply Hb.putV | apply Hb.putW | apply Hb.putH | apply Hb.far (Ne.symm N_ga_gr.out) | apply Hb.drewN | apply Hb.drew))) Tryd.underlying25 rfl (by rw [Ht.size]; exact hartSize)) rfl ?_
                exact ⟨by rw [← HZ.out]; unfold fixLast; first | (simp only [d1, d2, d3, d4, d5, if_true, if_false, Bool.false_eq_true, and_true, and_false, true_and, false_and, and_self]; done) | (simp only [d1, d2, d3, d4, d5, if_true, if_false, Bool.false_eq_true, and_true, and_false, true_and, false_and, and_self]; rfl), setCells_below G_gr.out _ _ _ (by repeat (first | (with_reducible first | exact HB.out | apply pw_below_drewN | apply below_drew1 | refine below_set ?_ G_ga.out | refine below_set ?_ G_gr.out) | exact HB.out))⟩
              · skip
                have c_ga_0 := K_ga.out.u 0 rfl; have f_ga_0 := K_ga.out.fr 0
                have c_ga_1 := K_ga.out.u 1 rfl; have f_ga_1 := K_ga.out.fr 1
                have c_ga_33 := K_ga.out.p; have f_ga_33 := K_ga.out.fr 33
                have c_ga_34 := K_ga.out.cv; have f_ga_34 := K_ga.out.fr 34
                have c_ga_36 := K_ga.out.ch; have f_ga_36 := K_ga.out.fr 36
                have c_ga_37 := K_ga.out.u 37 rfl; have f_ga_37 := K_ga.out.fr 37
                have c_ga_38 := K_ga.out.u 38 rfl; have f_ga_38 := K_ga.out.fr 38
                have c_ga_42 := K_ga.out.u 42 rfl; have f_ga_42 := K_ga.out.fr 42
                go_upto_region 22 with (fail)
                refine wp_region_list ?_
                refine load_hart (h := _) rfl (.tmp 1) rfl ga rfl (by repeat (with_reducible first | exact K_ga.out | apply Hb.put | apply Hb.putP | apply Hb.putV | apply Hb.putW | apply Hb.putH | apply Hb.far N_ga_gr.out | apply Hb.drewN | apply Hb.drew)) ?_
                refine store_hart rfl (.tmp 2) (.tmp 87) rfl gr _ rfl rfl Ht.zero (by repeat (with_reducible first | exact K_gr.out | apply Hb.put | apply Hb.putP | apply Hb.putV | apply Hb.putW | apply Hb.putH | apply Hb.far (Ne.symm N_ga_gr.out) | apply Hb.drewN | apply Hb.drew)) ?_
                go_wp2
                refine bodyPost_ret (results_cell_row rfl _ _ gr 25 _ (0, 0) _ rfl (Hb.putAll _ (by repeat (with_reducible first | exact K_gr.out | apply Hb.put | apply Hb.putP | apply Hb.putV | apply Hb.putW | apply Hb.putH | apply Hb.far (Ne.symm N_ga_gr.out) | apply Hb.drewN | apply Hb.drew))) Tryd.underlying25 rfl (by rw [Ht.size]; exact hartSize)) rfl ?_
                exact ⟨by rw [← HZ.out]; unfold fixLast; first | (simp only [d1, d2, d3, d4, d5, if_true, if_false, Bool.false_eq_true, and_true, and_false, true_and, false_and, and_self]; done) | (simp only [d1, d2, d3, d4, d5, if_true, if_false, Bool.false_eq_true, and_true, and_false, true_and, false_and, and_self]; rfl), setCells_below G_gr.out _ _ _ (by repeat (first | (with_reducible first | exact HB.out | apply pw_below_drewN | apply below_drew1 | refine below_set ?_ G_ga.out | refine below_set ?_ G_gr.out) | exact HB.out))⟩
          · skip
            cases d4 : k.v
            · skip
              cases d5 : k.hl
              · skip
                have c_ga_0 := K_ga.out.u 0 rfl; have f_ga_0 := K_ga.out.fr 0
                have c_ga_1 := K_ga.out.u 1 rfl; have f_ga_1 := K_ga.out.fr 1
                have c_ga_33 := K_ga.out.p; have f_ga_33 := K_ga.out.fr 33
                have c_ga_34 := K_ga.out.cv; have f_ga_34 := K_ga.out.fr 34
                have c_ga_36 := K_ga.out.ch; have f_ga_36 := K_ga.out.fr 36
                have c_ga_37 := K_ga.out.u 37 rfl; have f_ga_37 := K_ga.out.fr 37
                have c_ga_38 := K_ga.out.u 38 rfl; have f_ga_38 := K_ga.out.fr 38
                have c_ga_42 := K_ga.out.u 42 rfl; have f_ga_42 := K_ga.out.fr 42
                go_upto_region 22 with (fail)
                refine wp_region_list ?_
                refine load_hart (h := _) rfl (.tmp 1) rfl ga rfl (by repeat (with_reducible first | exact K_ga.out | apply Hb.put | apply Hb.putP | apply Hb.putV | apply Hb.putW | apply Hb.putH | apply Hb.far N_ga_gr.out | apply Hb.drewN | apply Hb.drew)) ?_
                refine store_hart rfl (.tmp 2) (.tmp 87) rfl gr _ rfl rfl Ht.zero (by repeat (with_reducible first | exact K_gr.out | apply Hb.put | apply Hb.putP | apply Hb.putV | apply Hb.putW | apply Hb.putH | apply Hb.far (Ne.symm N_ga_gr.out) | apply Hb.drewN | apply Hb.drew)) ?_
                go_wp2
                refine bodyPost_ret (results_cell_row rfl _ _ gr 25 _ (0, 0) _ rfl (Hb.putAll _ (by repeat (with_reducible first | exact K_gr.out | apply Hb.put | apply Hb.putP | apply Hb.putV | apply Hb.putW | apply Hb.putH | apply Hb.far (Ne.symm N_ga_gr.out) | apply Hb.drewN | apply Hb.drew))) Tryd.underlying25 rfl (by rw [Ht.size]; exact hartSize)) rfl ?_
                exact ⟨by rw [← HZ.out]; unfold fixLast; first | (simp only [d1, d2, d3, d4, d5, if_true, if_false, Bool.false_eq_true, and_true, and_false, true_and, false_and, and_self]; done) | (simp only [d1, d2, d3, d4, d5, if_true, if_false, Bool.false_eq_true, and_true, and_false, true_and, false_and, and_self]; rfl), setCells_below G_gr.out _ _ _ (by repeat (first | (with_reducible first | exact HB.out | apply pw_below_drewN | apply below_drew1 | refine below_set ?_ G_ga.out | refine below_set ?_ G_gr.out) | exact HB.out))⟩
              · skip
                have c_ga_0 := K_ga.out.u 0 rfl; have f_ga_0 := K_ga.out.fr 0
                have c_ga_1 := K_ga.out.u 1 rfl; have f_ga_1 := K_ga.out.fr 1
                have c_ga_33 := K_ga.out.p; have f_ga_33 := K_ga.out.fr 33
                have c_ga_34 := K_ga.out.cv; have f_ga_34 := K_ga.out.fr 34
                have c_ga_36 := K_ga.out.ch; have f_ga_36 := K_ga.out.fr 36
                have c_ga_37 := K_ga.out.u 37 rfl; have f_ga_37 := K_ga.out.fr 37
                have c_ga_38 := K_ga.out.u 38 rfl; have f_ga_38 := K_ga.out.fr 38
                have c_ga_42 := K_ga.out.u 42 rfl; have f_ga_42 := K_ga.out.fr 42
                go_upto_region 22 with (fail)
                refine wp_region_list ?_
                refine load_hart (h := _) rfl (.tmp 1) rfl ga rfl (by repeat (with_reducible first | exact K_ga.out | apply Hb.put | apply Hb.putP | apply Hb.putV | apply Hb.putW | apply Hb.putH | apply Hb.far N_ga_gr.out | apply Hb.drewN | apply Hb.drew)) ?_
                refine store_hart rfl (.tmp 2) (.tmp 87) rfl gr _ rfl rfl Ht.zero (by repeat (with_reducible first | exact K_gr.out | apply Hb.put | apply Hb.putP | apply Hb.putV | apply Hb.putW | apply Hb.putH | apply Hb.far (Ne.symm N_ga_gr.out) | apply Hb.drewN | apply Hb.drew)) ?_
                go_wp2
                refine bodyPost_ret (results_cell_row rfl _ _ gr 25 _ (0, 0) _ rfl (Hb.putAll _ (by repeat (with_reducible first | exact K_gr.out | apply Hb.put | apply Hb.putP | apply Hb.putV | apply Hb.putW | apply Hb.putH | apply Hb.far (Ne.symm N_ga_gr.out) | apply Hb.drewN | apply Hb.drew))) Tryd.underlying25 rfl (by rw [Ht.size]; exact hartSize)) rfl ?_
                exact ⟨by rw [← HZ.out]; unfold fixLast; first | (simp only [d1, d2, d3, d4, d5, if_true, if_false, Bool.false_eq_true, and_true, and_false, true_and, false_and, and_self]; done) | (simp only [d1, d2, d3, d4, d5, if_true, if_false, Bool.false_eq_true, and_true, and_false, true_and, false_and, and_self]; rfl), setCells_below G_gr.out _ _ _ (by repeat (first | (with_reducible first | exact HB.out | apply pw_below_drewN | apply below_drew1 | refine below_set ?_ G_ga.out | refine below_set ?_ G_gr.out) | exact HB.out))⟩
            · skip
              cases d5 : k.hl
              · skip
                have c_ga_0 := K_ga.out.u 0 rfl; have f_ga_0 := K_ga.out.fr 0
                have c_ga_1 := K_ga.out.u 1 rfl; have f_ga_1 := K_ga.out.fr 1
                have c_ga_33 := K_ga.out.p; have f_ga_33 := K_ga.out.fr 33
                have c_ga_34 := K_ga.out.cv; have f_ga_34 := K_ga.out.fr 34
                have c_ga_36 := K_ga.out.ch; have f_ga_36 := K_ga.out.fr 36
                have c_ga_37 := K_ga.out.u 37 rfl; have f_ga_37 := K_ga.out.fr 37
                have c_ga_38 := K_ga.out.u 38 rfl; have f_ga_38 := K_ga.out.fr 38
                have c_ga_42 := K_ga.out.u 42 rfl; have f_ga_42 := K_ga.out.fr 42
                go_upto_region 22 with (fail)
                refine wp_region_list ?_
                refine load_hart (h := _) rfl (.tmp 1) rfl ga rfl (by repeat (with_reducible first | exact K_ga.out | apply Hb.put | apply Hb.putP | apply Hb.putV | apply Hb.putW | apply Hb.putH | apply Hb.far N_ga_gr.out | apply Hb.drewN | apply Hb.drew)) ?_
                refine store_hart rfl (.tmp 2) (.tmp 87) rfl gr _ rfl rfl Ht.zero (by repeat (with_reducible first | exact K_gr.out | apply Hb.put | apply Hb.putP | apply Hb.putV | apply Hb.putW | apply Hb.putH | apply Hb.far (Ne.symm N_ga_gr.out) | apply Hb.drewN | apply Hb.drew)) ?_
                go_wp2
                refine bodyPost_ret (results_cell_row rfl _ _ gr 25 _ (0, 0) _ rfl (Hb.putAll _ (by repeat (with_reducible first | exact K_gr.out | apply Hb.put | apply Hb.putP | apply Hb.putV | apply Hb.putW | apply Hb.putH | apply Hb.far (Ne.symm N_ga_gr.out) | apply Hb.drewN | apply Hb.drew))) Tryd.underlying25 rfl (by rw [Ht.size]; exact hartSize)) rfl ?_
                exact ⟨by rw [← HZ.out]; unfold fixLast; first | (simp only [d1, d2, d3, d4, d5, if_true, if_false, Bool.false_eq_true, and_true, and_false, true_and, false_and, and_self]; done) | (simp only [d1, d2, d3, d4, d5, if_true, if_false, Bool.false_eq_true, and_true, and_false, true_and, false_and, and_self]; rfl), setCells_below G_gr.out _ _ _ (by repeat (first | (with_reducible first | exact HB.out | apply pw_below_drewN | apply below_drew1 | refine below_set ?_ G_ga.out | refine below_set ?_ G_gr.out) | exact HB.out))⟩
              · skip
                have c_ga_0 := K_ga.out.u 0 rfl; have f_ga_0 := K_ga.out.fr 0
                have c_ga_1 := K_ga.out.u 1 rfl; have f_ga_1 := K_ga.out.fr 1
                have c_ga_33 := K_ga.out.p; have f_ga_33 := K_ga.out.fr 33
                have c_ga_34 := K_ga.out.cv; have f_ga_34 := K_ga.out.fr 34
                have c_ga_36 := K_ga.out.ch; have f_ga_36 := K_ga.out.fr 36
                have c_ga_37 := K_ga.out.u 37 rfl; have f_ga_37 := K_ga.out.fr 37
                have c_ga_38 := K_ga.out.u 38 rfl; have f_ga_38 := K_ga.out.fr 38
                have c_ga_42 := K_ga.out.u 42 rfl; have f_ga_42 := K_ga.out.fr 42
                go_upto_region 22 with (fail)
                refine wp_region_list ?_
                refine load_hart (h := _) rfl (.tmp 1) rfl ga rfl (by repeat (with_reducible first | exact K_ga.out | apply Hb.put | apply Hb.putP | apply Hb.putV | apply Hb.putW | apply Hb.putH | apply Hb.far N_ga_gr.out | apply Hb.drewN | apply Hb.drew)) ?_
                refine store_hart rfl (.tmp 2) (.tmp 87) rfl gr _ rfl rfl Ht.zero (by repeat (with_reducible first | exact K_gr.out | apply Hb.put | apply Hb.putP | apply Hb.putV | apply Hb.putW | apply Hb.putH | apply Hb.far (Ne.symm N_ga_gr.out) | apply Hb.drewN | apply Hb.drew)) ?_
                go_wp2
                refine bodyPost_ret (results_cell_row rfl _ _ gr 25 _ (0, 0) _ rfl (Hb.putAll _ (by repeat (with_reducible first | exact K_gr.out | apply Hb.put | apply Hb.putP | apply Hb.putV | apply Hb.putW | apply Hb.putH | apply Hb.far (Ne.symm N_ga_gr.out) | apply Hb.drewN | apply Hb.drew))) Tryd.underlying25 rfl (by rw [Ht.size]; exact hartSize)) rfl ?_
                exact ⟨by rw [← HZ.out]; unfold fixLast; first | (simp only [d1, d2, d3, d4, d5, if_true, if_false, Bool.false_eq_true, and_true, and_false, true_and, false_and, and_self]; done) | (simp only [d1, d2, d3, d4, d5, if_true, if_false, Bool.false_eq_true, and_true, and_false, true_and, false_and, and_self]; rfl), setCells_below G_gr.out _ _ _ (by repeat (first | (with_reducible first | exact HB.out | apply pw_below_drewN | apply below_drew1 | refine below_set ?_ G_ga.out | refine below_set ?_ G_gr.out) | exact HB.out))⟩
end Go.Proofs.YtpbodidpcbodaaaDoor.Hx
