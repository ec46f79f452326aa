/- A guest's interrupt is taken only while a guest runs, one of the machine ahead of all others. (By a program of this session.) -/
import Derived.Test.YtpbodidpcbodaaaDoorIWakes
import Derived.Test.YtpbodidpcbodaaaDoorIPlain
import Derived.Test.YtpbodidpcbodaaaDoorHrow
set_option linter.unusedSimpArgs false
set_option linter.unusedVariables false
namespace Go.Proofs.YtpbodidpcbodaaaDoor.Hx
open Go.Proofs.YtpbodidpcbodaaaDoor.Bv Go.RowKit Go.Proofs.YtpbodidpcbodaaaDoor.Q Go.Proofs.YtpbodidpcbodaaaDoorW.PrintWords Go.Proofs.YtpbodidpcbodaaaDoorW.PrintLast Go.Proofs.YtpbodidpcbodaaaDoorW.PrintMore Go.Proofs.YtpbodidpcbodaaaDoor.Rg

theorem asksV_range (h : Ht) (la lb lc ld : Bool) (lg lt : Int) : 0 ≤ asksV h la lb lc ld lg lt ∧ asksV h la lb lc ld lg lt < 18446744073709551616 := by unfold asksV; rw [and_u64]; exact U_range _
theorem trapS (m : Nat) (hm : m < 64) : trapV (some (m : Int)) = #[.bool true, .int .u64 (9223372036854775808 + (m : Int)), .int .u64 0, .int .u64 0, .int .u64 0, .bool false] := by
  show #[_, Value.int .u64 (Go.bits .or .u64 9223372036854775808 (IntKind.u64.wrap (m : Int))), _, _, _, _] = _
  rw [(cause_word m hm).1]
theorem bit_eq1 (a : Int) (ha : 0 ≤ a ∧ a < 18446744073709551616) (m : Nat) (hm : m < 64) : (Go.bits .and .u64 (a / 2 ^ m) 1 == 1) = g a m ∧ (Go.bits .and .u64 (a / 2 ^ m) 1 == 0) = !g a m := by
  have e : a / 2 ^ m = shr .u64 a (m : Int) := by
    unfold shr; rw [Int.toNat_natCast, show IntKind.u64.bits = 64 from rfl, Nat.min_eq_left (by omega)]
  rw [e, shr_bit a ha m hm]; cases g a m <;> exact ⟨rfl, rfl⟩
theorem level_of {h : Ht} {av z : Int} (hn : nextO h av = some z) : ∃ m : Nat, z = m ∧ m < 64 ∧ ((openV h 0 = true ∧ g (levelV h av 0) m = true) ∨ (candV h av 0 = none ∧ openV h 1 = true ∧ g (levelV h av 1) m = true) ∨ (candV h av 0 = none ∧ openV h 2 = true ∧ g (levelV h av 2) m = true)) := by
  rcases nextO_some hn with h0 | ⟨h0, h1⟩ | ⟨h0, h1, h2⟩
  · obtain ⟨ho, m, e, hm, hg, _⟩ := candV_some h0; exact ⟨m, e, hm, .inl ⟨ho, hg⟩⟩
  · obtain ⟨ho, m, e, hm, hg, _⟩ := candV_some h1; exact ⟨m, e, hm, .inr (.inl ⟨h0, ho, hg⟩)⟩
  · obtain ⟨ho, m, e, hm, hg, _⟩ := candV_some h2; exact ⟨m, e, hm, .inr (.inr ⟨h0, ho, hg⟩)⟩
theorem guests_law (h : Ht) (hw : h.wf) (av : Int) (z : Int) (hn : nextO h av = some z) : ∃ m : Nat, z = m ∧ m < 64 ∧
    ((Go.bits .andNot .u64 av (h.x 40) != 0) = false ∨ ((Go.bits .andNot .u64 av (h.x 40) != 0) = true ∧ (h.x 33 != 3) = false) ∨ ((Go.bits .andNot .u64 av (h.x 40) != 0) = true ∧ (h.x 33 != 3) = true ∧ (Go.bits .and .u64 (Go.bits .andNot .u64 av (h.x 40) / 2 ^ m) 1 == 0) = false)) ∧
    ((Go.bits .and .u64 (h.x 40 / 2 ^ m) 1 == 1) = false ∨ ((Go.bits .and .u64 (h.x 40 / 2 ^ m) 1 == 1) = true ∧ (Go.bits .and .u64 (h.x 60 / 2 ^ m) 1 == 1) = false) ∨ ((Go.bits .and .u64 (h.x 40 / 2 ^ m) 1 == 1) = true ∧ (Go.bits .and .u64 (h.x 60 / 2 ^ m) 1 == 1) = true ∧ h.v = true ∧ (h.x 33 != 3) = true)) := by
  obtain ⟨m, rfl, hm, hk⟩ := level_of hn
  obtain ⟨l0, l1, l2⟩ := g_level h av m hm
  have eM : Go.bits .andNot .u64 av (h.x 40) = levelV h av 0 := rfl
  refine ⟨m, rfl, hm, ?_⟩
  rw [eM, (bit_eq1 (h.x 40) (hw.1 40) m hm).1, (bit_eq1 (h.x 60) (hw.1 60) m hm).1, (bit_eq1 _ (levelV_range h av 0) m hm).2]
  have ho0 : h.x 33 ≠ 3 → openV h 0 = true := fun e => by unfold openV; exact if_neg e
  refine ⟨?_, ?_⟩
  · by_cases hM : levelV h av 0 = 0
    · exact .inl (by rw [hM]; rfl)
    · by_cases hp : h.x 33 = 3
      · exact .inr (.inl ⟨bne_iff_ne.2 hM, by rw [hp]; rfl⟩)
      · refine .inr (.inr ⟨bne_iff_ne.2 hM, bne_iff_ne.2 hp, ?_⟩)
        rcases hk with ⟨_, hg⟩ | ⟨h0, _⟩ | ⟨h0, _⟩
        · rw [hg]; rfl
        · exact absurd (candV_none (ho0 hp) h0) hM
        · exact absurd (candV_none (ho0 hp) h0) hM
  · cases h4 : g (h.x 40) m with
    | false => exact .inl rfl
    | true =>
      cases h6 : g (h.x 60) m with
      | false => exact .inr (.inl ⟨rfl, rfl⟩)
      | true =>
        refine .inr (.inr ⟨rfl, rfl, ?_⟩)
        rcases hk with ⟨_, hg⟩ | ⟨_, _, hg⟩ | ⟨_, ho, _⟩
        · rw [l0, h4] at hg; simp at hg
        · rw [l1, h6] at hg; simp at hg
        · unfold openV at ho
          by_cases hp : h.x 33 = 3
          · simp [hp] at ho
          · cases hv : h.v with
            | false => simp [hp, hv] at ho
            | true => exact ⟨rfl, by simpa using hp⟩

set_option maxHeartbeats 16000000 in
set_option maxRecDepth 100000 in
theorem guests_c (h : Ht) (hw : h.wf) (la lb lc ld : Bool) (lg lt : Int) (w : World) (hT : Tab w) (hZ : TabZ w) : Calls Tryd.prog 3 #[.agg h.cs, .agg #[.bool la, .bool lb, .bool lc, .bool ld, .int .u64 lg, .int .u64 lt]] w fun e w' => e = .returned (.bool true) ∧ Below w.heap.size w w' := by
  have HN := next_c h la lb lc ld lg lt
  have HA := Lib.hid (asks_c h la lb lc ld lg lt)
  have HT := Lib.hid hT; have HZ := Lib.hid hZ; clear hT hZ
  generalize asksV h la lb lc ld lg lt = av at *
  cases hx : nextO h av with
  | none =>
    rw [hx, trap0] at HN
    replace HN := Lib.hid HN
    clear hx hw
    have hu25 := Tryd.underlying25; have hu27 := Tryd.underlying27
    go_enter Tryd.func3, Tryd.ntmps3
    go_upto_region 1 with (first | ((with_reducible refine gate_dst (N := 2) rfl ?_); refine box_event ?hg (N := 2) ?hd (cs := h.cs) (t := 25) ?hr ?_; (case hd => rfl); (case hg => rfl); (case hr => first | (go_simp; done) | (go_simp; rfl)); intro ga hg w_1 H1 hb; have hB_2 := Lib.hid (below_step (Below.refl w.heap.size w) hb); have G_ga := Lib.hid (show w.heap.size ≤ ga by rw [hg]; exact ((Below.refl w.heap.size w)).size); have K_ga := Lib.hid (show Hb w_1 ga h from H1); clear hg hb H1) | ((with_reducible refine gate_dst (N := 3) rfl ?_); refine box_event ?hg (N := 3) ?hd (cs := #[.bool la, .bool lb, .bool lc, .bool ld, .int .u64 lg, .int .u64 lt]) (t := 27) ?hr ?_; (case hd => rfl); (case hg => rfl); (case hr => first | (go_simp; done) | (go_simp; rfl)); intro gt hg w_3 H1 hb; have hB_4 := Lib.hid (below_step hB_2.out hb); have G_gt := Lib.hid (show w.heap.size ≤ gt by rw [hg]; exact (hB_2.out).size); have N_ga_gt := Lib.hid (show ga ≠ gt by rw [hg]; exact Nat.ne_of_lt (K_ga.out.lt)); replace K_ga := Lib.hid (K_ga.out.below hb); have K_gt := Lib.hid (show w_3.heap[gt]? = some (.cells #[.bool la, .bool lb, .bool lc, .bool ld, .int .u64 lg, .int .u64 lt] 27 (0, 0)) from H1); clear hg hb H1 hB_2; clear hu25 hu27))
    go_wp2_with (first | ((with_reducible refine gate_dst (N := 8) rfl ?_); (first | (refine gate_guard (by kernel_rfl) ?_) | skip); refine Kd.event_run rfl (v := .agg (h).cs) (w1 := w_3) ?hb ?_; (case hb => exact exec_load_hart rfl rfl K_ga.out)) | ((with_reducible refine gate_dst (N := 9) rfl ?_); (first | (refine gate_guard (by kernel_rfl) ?_) | skip); refine Kd.event_run rfl (v := .agg #[.bool la, .bool lb, .bool lc, .bool ld, .int .u64 lg, .int .u64 lt]) (w1 := w_3) ?hb ?_; (case hb => exact exec_load_blk rfl rfl K_gt.out Tryd.underlying27 rfl (by kernel_rfl))))
    refine (HN.out _ (TabZ.from HZ.out hB_4.out)).mono ?_
    rintro e_5 w_6 ⟨rfl, hb⟩
    have hB_7 := Lib.hid (below_step hB_4.out hb)
    replace K_ga := Lib.hid (K_ga.out.below hb)
    replace K_gt := Lib.hid (blk_below K_gt.out hb)
    clear hb hB_4
    go_upto_region 2 with (first | ((with_reducible refine gate_dst (N := 5) rfl ?_); refine box_event ?hg (N := 5) ?hd (cs := #[.bool false, .int .u64 0, .int .u64 0, .int .u64 0, .int .u64 0, .bool false]) (t := 29) ?hr ?_; (case hd => rfl); (case hg => rfl); (case hr => first | (go_simp; done) | (go_simp; rfl)); intro gn hg w_8 H1 hb; have hB_9 := Lib.hid (below_step hB_7.out hb); have G_gn := Lib.hid (show w.heap.size ≤ gn by rw [hg]; exact (hB_7.out).size); have N_ga_gn := Lib.hid (show ga ≠ gn by rw [hg]; exact Nat.ne_of_lt (K_ga.out.lt)); have N_gt_gn := Lib.hid (show gt ≠ gn by rw [hg]; exact Nat.ne_of_lt (blk_lt K_gt.out)); replace K_ga := Lib.hid (K_ga.out.below hb); replace K_gt := Lib.hid (blk_below K_gt.out hb); have K_gn := Lib.hid (show w_8.heap[gn]? = some (.cells #[.bool false, .int .u64 0, .int .u64 0, .int .u64 0, .int .u64 0, .bool false] 29 (0, 0)) from H1); clear hg hb H1 hB_7) | (refine wpList_store_mid rfl 29 (.tmp 5) (.tmp 10) rfl gn 0 #[.bool false, .int .u64 0, .int .u64 0, .int .u64 0, .int .u64 0, .bool false] rfl rfl (blk_there K_gn.out rfl) (by kernel_rfl) (by simp [Value.oneCell']) ?_; have hB_11 := Lib.hid (setCells_below G_gn.out (Array.toList #[.bool false, .int .u64 0, .int .u64 0, .int .u64 0, .int .u64 0, .bool false]) 0 _ hB_9.out); replace K_ga := Lib.hid (Hb.farAll (vs := Array.toList #[.bool false, .int .u64 0, .int .u64 0, .int .u64 0, .int .u64 0, .bool false]) (o := 0) N_ga_gn.out K_ga.out); replace K_gt := Lib.hid (setCells_far' (vs := Array.toList #[.bool false, .int .u64 0, .int .u64 0, .int .u64 0, .int .u64 0, .bool false]) (o := 0) N_gt_gn.out K_gt.out); replace K_gn := Lib.hid (blk_putAll #[.bool false, .int .u64 0, .int .u64 0, .int .u64 0, .int .u64 0, .bool false] K_gn.out rfl); clear hB_9; generalize World.setCells w_8 gn 0 (Array.toList #[.bool false, .int .u64 0, .int .u64 0, .int .u64 0, .int .u64 0, .bool false]) = w_10 at K_ga K_gt K_gn hB_11 ⊢))
    have c_gn_0 := (show World.cell? _ ⟨gn, 0, none⟩ = some (.bool false) from (blk_cell K_gn.out 0).trans rfl); have f_gn_0 := blk_frozen K_gn.out 0
    have c_gn_1 := (show World.cell? _ ⟨gn, 1, none⟩ = some (.int .u64 0) from (blk_cell K_gn.out 1).trans rfl); have f_gn_1 := blk_frozen K_gn.out 1
    go_wp2_with fail
    refine (wakes_c _ (Tab.from HT.out hB_11.out) (TabZ.from HZ.out hB_11.out)).mono ?_
    rintro e_12 w_13 ⟨rfl, hb⟩
    clear c_gn_0 f_gn_0 c_gn_1 f_gn_1
    have hB_14 := Lib.hid (below_step hB_11.out hb)
    replace K_ga := Lib.hid (K_ga.out.below hb)
    replace K_gt := Lib.hid (blk_below K_gt.out hb)
    replace K_gn := Lib.hid (blk_below K_gn.out hb)
    clear hb hB_11
    go_wp2
    go_ret
    exact ⟨rfl, hB_14.out⟩
  | some z =>
    obtain ⟨m, rfl, hm, L1, L2⟩ := guests_law h hw av z hx
    rw [hx, trapS m hm] at HN
    have hc := (cause_word m hm).2.1
    have hm63 : ((63 : Int) < (m : Int)) = False := by simp; omega
    replace HN := Lib.hid HN
    clear hx hw
    have hu25 := Tryd.underlying25; have hu27 := Tryd.underlying27
    go_enter Tryd.func3, Tryd.ntmps3
    go_upto_region 1 with (first | ((with_reducible refine gate_dst (N := 2) rfl ?_); refine box_event ?hg (N := 2) ?hd (cs := h.cs) (t := 25) ?hr ?_; (case hd => rfl); (case hg => rfl); (case hr => first | (go_simp; done) | (go_simp; rfl)); intro ga hg w_1 H1 hb; have hB_2 := Lib.hid (below_step (Below.refl w.heap.size w) hb); have G_ga := Lib.hid (show w.heap.size ≤ ga by rw [hg]; exact ((Below.refl w.heap.size w)).size); have K_ga := Lib.hid (show Hb w_1 ga h from H1); clear hg hb H1) | ((with_reducible refine gate_dst (N := 3) rfl ?_); refine box_event ?hg (N := 3) ?hd (cs := #[.bool la, .bool lb, .bool lc, .bool ld, .int .u64 lg, .int .u64 lt]) (t := 27) ?hr ?_; (case hd => rfl); (case hg => rfl); (case hr => first | (go_simp; done) | (go_simp; rfl)); intro gt hg w_3 H1 hb; have hB_4 := Lib.hid (below_step hB_2.out hb); have G_gt := Lib.hid (show w.heap.size ≤ gt by rw [hg]; exact (hB_2.out).size); have N_ga_gt := Lib.hid (show ga ≠ gt by rw [hg]; exact Nat.ne_of_lt (K_ga.out.lt)); replace K_ga := Lib.hid (K_ga.out.below hb); have K_gt := Lib.hid (show w_3.heap[gt]? = some (.cells #[.bool la, .bool lb, .bool lc, .bool ld, .int .u64 lg, .int .u64 lt] 27 (0, 0)) from H1); clear hg hb H1 hB_2; clear hu25 hu27))
    go_wp2_with (first | ((with_reducible refine gate_dst (N := 8) rfl ?_); (first | (refine gate_guard (by kernel_rfl) ?_) | skip); refine Kd.event_run rfl (v := .agg (h).cs) (w1 := w_3) ?hb ?_; (case hb => exact exec_load_hart rfl rfl K_ga.out)) | ((with_reducible refine gate_dst (N := 9) rfl ?_); (first | (refine gate_guard (by kernel_rfl) ?_) | skip); refine Kd.event_run rfl (v := .agg #[.bool la, .bool lb, .bool lc, .bool ld, .int .u64 lg, .int .u64 lt]) (w1 := w_3) ?hb ?_; (case hb => exact exec_load_blk rfl rfl K_gt.out Tryd.underlying27 rfl (by kernel_rfl))))
    refine (HN.out _ (TabZ.from HZ.out hB_4.out)).mono ?_
    rintro e_5 w_6 ⟨rfl, hb⟩
    have hB_7 := Lib.hid (below_step hB_4.out hb)
    replace K_ga := Lib.hid (K_ga.out.below hb)
    replace K_gt := Lib.hid (blk_below K_gt.out hb)
    clear hb hB_4
    go_upto_region 2 with (first | ((with_reducible refine gate_dst (N := 5) rfl ?_); refine box_event ?hg (N := 5) ?hd (cs := #[.bool false, .int .u64 0, .int .u64 0, .int .u64 0, .int .u64 0, .bool false]) (t := 29) ?hr ?_; (case hd => rfl); (case hg => rfl); (case hr => first | (go_simp; done) | (go_simp; rfl)); intro gn hg w_8 H1 hb; have hB_9 := Lib.hid (below_step hB_7.out hb); have G_gn := Lib.hid (show w.heap.size ≤ gn by rw [hg]; exact (hB_7.out).size); have N_ga_gn := Lib.hid (show ga ≠ gn by rw [hg]; exact Nat.ne_of_lt (K_ga.out.lt)); have N_gt_gn := Lib.hid (show gt ≠ gn by rw [hg]; exact Nat.ne_of_lt (blk_lt K_gt.out)); replace K_ga := Lib.hid (K_ga.out.below hb); replace K_gt := Lib.hid (blk_below K_gt.out hb); have K_gn := Lib.hid (show w_8.heap[gn]? = some (.cells #[.bool false, .int .u64 0, .int .u64 0, .int .u64 0, .int .u64 0, .bool false] 29 (0, 0)) from H1); clear hg hb H1 hB_7) | (refine wpList_store_mid rfl 29 (.tmp 5) (.tmp 10) rfl gn 0 #[.bool true, .int .u64 (9223372036854775808 + (m : Int)), .int .u64 0, .int .u64 0, .int .u64 0, .bool false] rfl rfl (blk_there K_gn.out rfl) (by kernel_rfl) (by simp [Value.oneCell']) ?_; have hB_11 := Lib.hid (setCells_below G_gn.out (Array.toList #[.bool true, .int .u64 (9223372036854775808 + (m : Int)), .int .u64 0, .int .u64 0, .int .u64 0, .bool false]) 0 _ hB_9.out); replace K_ga := Lib.hid (Hb.farAll (vs := Array.toList #[.bool true, .int .u64 (9223372036854775808 + (m : Int)), .int .u64 0, .int .u64 0, .int .u64 0, .bool false]) (o := 0) N_ga_gn.out K_ga.out); replace K_gt := Lib.hid (setCells_far' (vs := Array.toList #[.bool true, .int .u64 (9223372036854775808 + (m : Int)), .int .u64 0, .int .u64 0, .int .u64 0, .bool false]) (o := 0) N_gt_gn.out K_gt.out); replace K_gn := Lib.hid (blk_putAll #[.bool true, .int .u64 (9223372036854775808 + (m : Int)), .int .u64 0, .int .u64 0, .int .u64 0, .bool false] K_gn.out rfl); clear hB_9; generalize World.setCells w_8 gn 0 (Array.toList #[.bool true, .int .u64 (9223372036854775808 + (m : Int)), .int .u64 0, .int .u64 0, .int .u64 0, .bool false]) = w_10 at K_ga K_gt K_gn hB_11 ⊢))
    have c_gn_0 := (show World.cell? _ ⟨gn, 0, none⟩ = some (.bool true) from (blk_cell K_gn.out 0).trans rfl); have f_gn_0 := blk_frozen K_gn.out 0
    have c_gn_1 := (show World.cell? _ ⟨gn, 1, none⟩ = some (.int .u64 (9223372036854775808 + (m : Int))) from (blk_cell K_gn.out 1).trans rfl); have f_gn_1 := blk_frozen K_gn.out 1
    go_upto_region 7 with fail
    skip
    refine start_ (n := 7) (S := fun w' => Hb w' ga h ∧ w'.heap[gt]? = some (.cells #[.bool la, .bool lb, .bool lc, .bool ld, .int .u64 lg, .int .u64 lt] 27 (0, 0)) ∧ w'.cell? ⟨ga, 40, none⟩ = some (.int .u64 (h.x 40))) (ds := []) #[false, false, false, false, false, false, false] (by kernel_rfl) rfl rfl ⟨K_ga.out.drew, blk_drew K_gt.out, (K_ga.out.drew.u 40 rfl)⟩ (fun hHeld => ?_)
    replace K_ga := Lib.hid (K_ga.out.drew)
    replace K_gt := Lib.hid (blk_drew K_gt.out)
    replace K_gn := Lib.hid (blk_drew K_gn.out)
    have hB_13 := Lib.hid (below_drew1 hB_11.out)
    clear hB_11
    clear c_gn_0 f_gn_0 c_gn_1 f_gn_1
    generalize World.drew w_10 = w_12 at K_ga K_gt K_gn hB_13 hHeld ⊢
    refine pure_ (i := 3) (N := some 23) (v := ?_) (a' := ?_) #[false, false, false, true, false, false, false] rfl rfl (by kernel_rfl) (fun _ _ _ h => h) (Or.inl ⟨by rfl, ?_⟩) ?_ ?_
    rotate_left
    · intro w'
      go_simp
      with_reducible rfl
    rotate_left
    · simp only [Act.put, List.setIfInBounds_toArray, List.set_cons_zero, List.set_cons_succ, i64_w, i32_w]
      rfl
    refine take_ (i := 0) (N := some 20) (v := .agg h.cs) (a' := ?_) #[true, false, false, true, false, false, false] rfl rfl (by kernel_rfl) (fun _ _ _ h => h) (Or.inl ⟨by rfl, ?_⟩) hHeld ?_ ?_
    · rintro w' ⟨s0, s1, s2⟩; exact exec_load_hart rfl rfl s0
    rotate_left
    · simp only [Act.put, List.setIfInBounds_toArray, List.set_cons_zero, List.set_cons_succ, i64_w, i32_w]
      rfl
    refine take_ (i := 1) (N := some 21) (v := .agg #[.bool la, .bool lb, .bool lc, .bool ld, .int .u64 lg, .int .u64 lt]) (a' := ?_) #[true, true, false, true, false, false, false] rfl rfl (by kernel_rfl) (fun _ _ _ h => h) (Or.inl ⟨by rfl, ?_⟩) hHeld ?_ ?_
    · rintro w' ⟨s0, s1, s2⟩; exact exec_load_blk rfl rfl s1 Tryd.underlying27 rfl (by kernel_rfl)
    rotate_left
    · simp only [Act.put, List.setIfInBounds_toArray, List.set_cons_zero, List.set_cons_succ, i64_w, i32_w]
      rfl
    refine take_ (i := 4) (N := some 24) (v := ?_) (a' := ?_) #[true, true, false, true, true, false, false] rfl rfl (by kernel_rfl) (fun _ _ _ h => h) (Or.inl ⟨by rfl, ?_⟩) hHeld ?_ ?_
    rotate_left
    · rintro w' ⟨s0, s1, s2⟩
      go_simp
      with_reducible rfl
    rotate_left
    · simp only [Act.put, List.setIfInBounds_toArray, List.set_cons_zero, List.set_cons_succ, i64_w, i32_w]
      rfl
    have HH := Lib.hid hHeld
    clear hHeld
    refine one_ (i := 2) (N := some 22) #[true, true, true, true, true, false, false] rfl rfl (by kernel_rfl) (by decide) (fun K hK => ?_)
    refine goes_ Tryd.func9 (by kernel_rfl) rfl #[.agg h.cs, .agg #[.bool la, .bool lb, .bool lc, .bool ld, .int .u64 lg, .int .u64 lt]] (by rfl) rfl rfl (by simp only [List.map_toArray, List.map_cons, List.map_nil]; rfl) ?_
    with_reducible refine (HA.out _).mono ?_
    rintro e_ w_14 ⟨rfl, hb⟩
    refine ⟨_, rfl, ?_⟩
    have s_0 := Hb.below (HH.out.1) hb
    have s_1 := blk_below (HH.out.2.1) hb
    have s_2 := (Hb.u s_0 40 rfl)
    replace K_ga := Lib.hid (K_ga.out.below hb)
    replace K_gt := Lib.hid (blk_below K_gt.out hb)
    replace K_gn := Lib.hid (blk_below K_gn.out hb)
    have hB_15 := Lib.hid (below_step hB_13.out hb)
    clear HH hb hB_13
    refine hK.out _ _ ⟨s_0, s_1, s_2⟩ (fun hHeld => ?_)
    have HH := Lib.hid hHeld
    clear hHeld s_0 s_1 s_2
    clear hK K
    refine norm_ (a' := ?_) ?_ ?_
    rotate_left
    · show Act.put _ (some 22) _ = _
      simp only [Act.put, List.setIfInBounds_toArray, List.set_cons_zero, List.set_cons_succ, i64_w, i32_w]
      rfl
    refine pure_ (i := 5) (N := some 25) (v := ?_) (a' := ?_) #[true, true, true, true, true, true, false] rfl rfl (by kernel_rfl) (fun _ _ _ h => h) (Or.inl ⟨by rfl, ?_⟩) ?_ ?_
    rotate_left
    · intro w'
      go_simp
      with_reducible rfl
    rotate_left
    · simp only [Act.put, List.setIfInBounds_toArray, List.set_cons_zero, List.set_cons_succ, i64_w, i32_w]
      rfl
    refine pure_ (i := 6) (N := some 7) (v := ?_) (a' := ?_) #[true, true, true, true, true, true, true] rfl rfl (by kernel_rfl) (fun _ _ _ h => h) (Or.inl ⟨by rfl, ?_⟩) ?_ ?_
    rotate_left
    · intro w'
      go_simp
      with_reducible rfl
    rotate_left
    · simp only [Act.put, List.setIfInBounds_toArray, List.set_cons_zero, List.set_cons_succ, i64_w, i32_w]
      rfl
    refine done_ (by kernel_rfl) ?_
    try clear HH
    have c_ga_33 := K_ga.out.p; have f_ga_33 := K_ga.out.fr 33
    have c_ga_34 := K_ga.out.cv; have f_ga_34 := K_ga.out.fr 34
    have c_ga_40 := K_ga.out.u 40 rfl; have f_ga_40 := K_ga.out.fr 40
    have c_ga_60 := K_ga.out.u 60 rfl; have f_ga_60 := K_ga.out.fr 60
    rcases L1 with a1 | ⟨a1, a2⟩ | ⟨a1, a2, a3⟩
    · rcases L2 with b1 | ⟨b1, b2⟩ | ⟨b1, b2, b3, b4⟩
      · skip
        go_wp2_with fail
        refine (wakes_c _ (Tab.from HT.out hB_15.out) (TabZ.from HZ.out hB_15.out)).mono ?_
        rintro e_16 w_17 ⟨rfl, hb⟩
        clear c_ga_33 f_ga_33 c_ga_34 f_ga_34 c_ga_40 f_ga_40 c_ga_60 f_ga_60
        have hB_18 := Lib.hid (below_step hB_15.out hb)
        replace K_ga := Lib.hid (K_ga.out.below hb)
        replace K_gt := Lib.hid (blk_below K_gt.out hb)
        replace K_gn := Lib.hid (blk_below K_gn.out hb)
        clear hb hB_15
        go_wp2
        go_ret
        exact ⟨rfl, hB_18.out⟩
      · skip
        go_wp2_with fail
        refine (wakes_c _ (Tab.from HT.out hB_15.out) (TabZ.from HZ.out hB_15.out)).mono ?_
        rintro e_16 w_17 ⟨rfl, hb⟩
        clear c_ga_33 f_ga_33 c_ga_34 f_ga_34 c_ga_40 f_ga_40 c_ga_60 f_ga_60
        have hB_18 := Lib.hid (below_step hB_15.out hb)
        replace K_ga := Lib.hid (K_ga.out.below hb)
        replace K_gt := Lib.hid (blk_below K_gt.out hb)
        replace K_gn := Lib.hid (blk_below K_gn.out hb)
        clear hb hB_15
        go_wp2
        go_ret
        exact ⟨rfl, hB_18.out⟩
      · skip
        rw [b3] at c_ga_34
        go_wp2_with fail
        refine (wakes_c _ (Tab.from HT.out hB_15.out) (TabZ.from HZ.out hB_15.out)).mono ?_
        rintro e_16 w_17 ⟨rfl, hb⟩
        clear c_ga_33 f_ga_33 c_ga_34 f_ga_34 c_ga_40 f_ga_40 c_ga_60 f_ga_60
        have hB_18 := Lib.hid (below_step hB_15.out hb)
        replace K_ga := Lib.hid (K_ga.out.below hb)
        replace K_gt := Lib.hid (blk_below K_gt.out hb)
        replace K_gn := Lib.hid (blk_below K_gn.out hb)
        clear hb hB_15
        go_wp2
        go_ret
        exact ⟨rfl, hB_18.out⟩
    · rcases L2 with b1 | ⟨b1, b2⟩ | ⟨b1, b2, b3, b4⟩
      · skip
        go_wp2_with fail
        refine (wakes_c _ (Tab.from HT.out hB_15.out) (TabZ.from HZ.out hB_15.out)).mono ?_
        rintro e_16 w_17 ⟨rfl, hb⟩
        clear c_ga_33 f_ga_33 c_ga_34 f_ga_34 c_ga_40 f_ga_40 c_ga_60 f_ga_60
        have hB_18 := Lib.hid (below_step hB_15.out hb)
        replace K_ga := Lib.hid (K_ga.out.below hb)
        replace K_gt := Lib.hid (blk_below K_gt.out hb)
        replace K_gn := Lib.hid (blk_below K_gn.out hb)
        clear hb hB_15
        go_wp2
        go_ret
        exact ⟨rfl, hB_18.out⟩
      · skip
        go_wp2_with fail
        refine (wakes_c _ (Tab.from HT.out hB_15.out) (TabZ.from HZ.out hB_15.out)).mono ?_
        rintro e_16 w_17 ⟨rfl, hb⟩
        clear c_ga_33 f_ga_33 c_ga_34 f_ga_34 c_ga_40 f_ga_40 c_ga_60 f_ga_60
        have hB_18 := Lib.hid (below_step hB_15.out hb)
        replace K_ga := Lib.hid (K_ga.out.below hb)
        replace K_gt := Lib.hid (blk_below K_gt.out hb)
        replace K_gn := Lib.hid (blk_below K_gn.out hb)
        clear hb hB_15
        go_wp2
        go_ret
        exact ⟨rfl, hB_18.out⟩
      · rw [a2] at b4; cases b4
    · rcases L2 with b1 | ⟨b1, b2⟩ | ⟨b1, b2, b3, b4⟩
      · skip
        go_wp2_with fail
        refine (wakes_c _ (Tab.from HT.out hB_15.out) (TabZ.from HZ.out hB_15.out)).mono ?_
        rintro e_16 w_17 ⟨rfl, hb⟩
        clear c_ga_33 f_ga_33 c_ga_34 f_ga_34 c_ga_40 f_ga_40 c_ga_60 f_ga_60
        have hB_18 := Lib.hid (below_step hB_15.out hb)
        replace K_ga := Lib.hid (K_ga.out.below hb)
        replace K_gt := Lib.hid (blk_below K_gt.out hb)
        replace K_gn := Lib.hid (blk_below K_gn.out hb)
        clear hb hB_15
        go_wp2
        go_ret
        exact ⟨rfl, hB_18.out⟩
      · skip
        go_wp2_with fail
        refine (wakes_c _ (Tab.from HT.out hB_15.out) (TabZ.from HZ.out hB_15.out)).mono ?_
        rintro e_16 w_17 ⟨rfl, hb⟩
        clear c_ga_33 f_ga_33 c_ga_34 f_ga_34 c_ga_40 f_ga_40 c_ga_60 f_ga_60
        have hB_18 := Lib.hid (below_step hB_15.out hb)
        replace K_ga := Lib.hid (K_ga.out.below hb)
        replace K_gt := Lib.hid (blk_below K_gt.out hb)
        replace K_gn := Lib.hid (blk_below K_gn.out hb)
        clear hb hB_15
        go_wp2
        go_ret
        exact ⟨rfl, hB_18.out⟩
      · skip
        rw [b3] at c_ga_34
        go_wp2_with fail
        refine (wakes_c _ (Tab.from HT.out hB_15.out) (TabZ.from HZ.out hB_15.out)).mono ?_
        rintro e_16 w_17 ⟨rfl, hb⟩
        clear c_ga_33 f_ga_33 c_ga_34 f_ga_34 c_ga_40 f_ga_40 c_ga_60 f_ga_60
        have hB_18 := Lib.hid (below_step hB_15.out hb)
        replace K_ga := Lib.hid (K_ga.out.below hb)
        replace K_gt := Lib.hid (blk_below K_gt.out hb)
        replace K_gn := Lib.hid (blk_below K_gn.out hb)
        clear hb hB_15
        go_wp2
        go_ret
        exact ⟨rfl, hB_18.out⟩
end Go.Proofs.YtpbodidpcbodaaaDoor.Hx
namespace Go.Proofs.YtpbodidpcbodaaaDoor.Pure
open Go.RowKit Go.Proofs.YtpbodidpcbodaaaDoor.Hx Go.Proofs.YtpbodidpcbodaaaDoor.Bv Go.Proofs.YtpbodidpcbodaaaDoor.Q
theorem IrqGuests (h : Ht) (la lb lc ld : Bool) (lg lt : Int) (w : World) (hw : h.wf) (wg : (Lit.int .u64 lg).wf = true) (wt : (Lit.int .u64 lt).wf = true) (hT : Tab w ∧ TabZ w) :
    Calls Tryd.prog 3 #[.agg h.cs, .agg #[.bool la, .bool lb, .bool lc, .bool ld, .int .u64 lg, .int .u64 lt]] w fun e w' => e = .returned (.bool true) ∧ Below w.heap.size w w' :=
  guests_c h hw la lb lc ld lg lt w hT.1 hT.2
end Go.Proofs.YtpbodidpcbodaaaDoor.Pure
