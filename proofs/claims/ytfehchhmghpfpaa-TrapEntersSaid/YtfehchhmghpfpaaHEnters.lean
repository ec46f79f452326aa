/- Where a trap goes, and the hart that took it, are the document's: of any hart, any trap. (Walked; by a program of this session.) -/
import Derived.Test.YtfehchhmghpfpaaHBase
import Derived.Test.YtfehchhmghpfpaaHWakes
import Derived.Test.YtfehchhmghpfpaaHeq
import Derived.Test.YtfehchhmghpfpaaHEntEq
set_option linter.unusedSimpArgs false
set_option linter.unusedVariables false
namespace Go.Proofs.Ytfehchhmghpfpaa.Hx
open Go.RowKit Go.Proofs.Ytfehchhmghpfpaa.Q Go.Proofs.YtfehchhmghpfpaaW.PrintWords Go.Proofs.YtfehchhmghpfpaaW.PrintLast Go.Proofs.YtfehchhmghpfpaaW.PrintMore Go.Proofs.Ytfehchhmghpfpaa.Rg

set_option maxHeartbeats 16000000 in
set_option maxRecDepth 100000 in
theorem enters_c (h : Ht) (ti : Bool) (tc tv tv2 tn : Int) (tg : Bool) (hw : h.wf) (c0 : 0 ≤ tc) (c1 : tc < 18446744073709551616) (w : World) : Calls Try.prog 3 #[.agg h.cs, .agg #[.bool ti, .int .u64 tc, .int .u64 tv, .int .u64 tv2, .int .u64 tn, .bool tg]] w fun e w' => e = .returned (.bool true) ∧ Below w.heap.size w w' := by
  have hrt : ∀ w : World, Calls Try.prog 7 #[.agg h.cs, .int .u64 tc] w fun e w' => e = .returned (.int .i64 (toV h tc)) ∧ Below w.heap.size w w' := fun w => by rw [toV_eq h c0 c1]; exact rto_c h tc w c0
  have hre : ∀ w : World, Calls Try.prog 9 #[.agg h.cs, .agg #[.bool ti, .int .u64 tc, .int .u64 tv, .int .u64 tv2, .int .u64 tn, .bool tg]] w fun e w' => e = .returned (.agg (enter h ti tc tv tv2 tn tg).cs) ∧ Below w.heap.size w w' := fun w => by rw [enter_eq h hw ti tc tv tv2 tn tg c0 c1]; exact renter_c h ti tc tv tv2 tn tg c0 c1 w
  have HRT := Lib.hid hrt; have HRE := Lib.hid hre; have C0 := Lib.hid c0; have C1 := Lib.hid c1
  clear hrt hre c0 c1 hw
  have hu25 := Try.underlying25
  go_enter Try.func3, Try.ntmps3
  have hu27 := Try.underlying27
  go_upto_region 1 with (first | ((with_reducible refine gate_dst (N := 2) rfl ?_); refine box_event ?hg (N := 2) ?hd (cs := h.cs) (t := 25) ?hr ?_; (case hd => rfl); (case hg => rfl); (case hr => first | (go_simp; done) | (go_simp; rfl)); intro ga hg w_1 H1 hb; have hB_2 := Lib.hid (below_step (Below.refl w.heap.size w) hb); have G_ga := Lib.hid (show w.heap.size ≤ ga by rw [hg]; exact ((Below.refl w.heap.size w)).size); have K_ga := Lib.hid (show Hb w_1 ga h from H1); clear hg hb H1) | ((with_reducible refine gate_dst (N := 3) rfl ?_); refine box_event ?hg (N := 3) ?hd (cs := #[.bool ti, .int .u64 tc, .int .u64 tv, .int .u64 tv2, .int .u64 tn, .bool tg]) (t := 27) ?hr ?_; (case hd => rfl); (case hg => rfl); (case hr => first | (go_simp; done) | (go_simp; rfl)); intro gt hg w_3 H1 hb; have hB_4 := Lib.hid (below_step hB_2.out hb); have G_gt := Lib.hid (show w.heap.size ≤ gt by rw [hg]; exact (hB_2.out).size); have N_ga_gt := Lib.hid (show ga ≠ gt by rw [hg]; exact Nat.ne_of_lt (K_ga.out.lt)); replace K_ga := Lib.hid (K_ga.out.below hb); have K_gt := Lib.hid (show w_3.heap[gt]? = some (.cells #[.bool ti, .int .u64 tc, .int .u64 tv, .int .u64 tv2, .int .u64 tn, .bool tg] 27 (0, 0)) from H1); clear hg hb H1 hB_2; clear hu25 hu27))
  refine start_ (n := 22) (S := fun w' => Hb w' ga h ∧ w'.heap[gt]? = some (.cells #[.bool ti, .int .u64 tc, .int .u64 tv, .int .u64 tv2, .int .u64 tn, .bool tg] 27 (0, 0)) ∧ w'.cell? ⟨gt, 1, none⟩ = some (.int .u64 tc)) (ds := []) #[false, false, false, false, false, false, false, false, false, false, false, false, false, false, false, false, false, false, false, false, false, false] (by kernel_rfl) rfl rfl ⟨K_ga.out.drew, blk_drew K_gt.out, (blk_cell (blk_drew K_gt.out) 1).trans rfl⟩ (fun hHeld => ?_)
  replace K_ga := Lib.hid (K_ga.out.drew)
  replace K_gt := Lib.hid (blk_drew K_gt.out)
  have hB_6 := Lib.hid (below_drew1 hB_4.out)
  clear hB_4
  generalize World.drew w_3 = w_5 at K_ga K_gt hB_6 hHeld ⊢
  refine pure_ (i := 1) (N := some 6) (v := ?_) (a' := ?_) #[false, true, false, false, false, false, false, false, false, false, false, false, false, false, false, false, false, false, false, false, false, false] rfl rfl (by kernel_rfl) (fun _ _ _ h => h) (Or.inl ⟨by rfl, ?_⟩) ?_ ?_
  rotate_left
  · intro w'
    go_simp
    with_reducible rfl
  rotate_left
  · simp only [Act.put, List.setIfInBounds_toArray, List.set_cons_zero, List.set_cons_succ, i64_w, i32_w]
    rfl
  refine pure_ (i := 5) (N := some 10) (v := ?_) (a' := ?_) #[false, true, false, false, false, true, false, false, false, false, false, false, false, false, false, false, false, false, false, false, false, false] rfl rfl (by kernel_rfl) (fun _ _ _ h => h) (Or.inl ⟨by rfl, ?_⟩) ?_ ?_
  rotate_left
  · intro w'
    go_simp
    with_reducible rfl
  rotate_left
  · simp only [Act.put, List.setIfInBounds_toArray, List.set_cons_zero, List.set_cons_succ, i64_w, i32_w]
    rfl
  refine take_ (i := 0) (N := some 5) (v := .agg h.cs) (a' := ?_) #[true, true, false, false, false, true, false, false, false, false, false, false, false, false, false, false, false, false, false, false, false, false] rfl rfl (by kernel_rfl) (fun _ _ _ h => h) (Or.inl ⟨by rfl, ?_⟩) hHeld ?_ ?_
  · rintro w' ⟨s0, s1, s2⟩; exact exec_load_hart rfl rfl s0
  rotate_left
  · simp only [Act.put, List.setIfInBounds_toArray, List.set_cons_zero, List.set_cons_succ, i64_w, i32_w]
    rfl
  refine take_ (i := 2) (N := some 7) (v := ?_) (a' := ?_) #[true, true, true, false, false, true, false, false, false, false, false, false, false, false, false, false, false, false, false, false, false, false] rfl rfl (by kernel_rfl) (fun _ _ _ h => h) (Or.inl ⟨by rfl, ?_⟩) hHeld ?_ ?_
  rotate_left
  · rintro w' ⟨s0, s1, s2⟩
    go_simp
    with_reducible rfl
  rotate_left
  · simp only [Act.put, List.setIfInBounds_toArray, List.set_cons_zero, List.set_cons_succ, i64_w, i32_w]
    rfl
  refine take_ (i := 4) (N := some 9) (v := .agg h.cs) (a' := ?_) #[true, true, true, false, true, true, false, false, false, false, false, false, false, false, false, false, false, false, false, false, false, false] rfl rfl (by kernel_rfl) (fun _ _ _ h => h) (Or.inl ⟨by rfl, ?_⟩) hHeld ?_ ?_
  · rintro w' ⟨s0, s1, s2⟩; exact exec_load_hart rfl rfl s0
  rotate_left
  · simp only [Act.put, List.setIfInBounds_toArray, List.set_cons_zero, List.set_cons_succ, i64_w, i32_w]
    rfl
  refine take_ (i := 6) (N := some 11) (v := ?_) (a' := ?_) #[true, true, true, false, true, true, true, false, false, false, false, false, false, false, false, false, false, false, false, false, false, false] rfl rfl (by kernel_rfl) (fun _ _ _ h => h) (Or.inl ⟨by rfl, ?_⟩) hHeld ?_ ?_
  rotate_left
  · rintro w' ⟨s0, s1, s2⟩
    go_simp
    with_reducible rfl
  rotate_left
  · simp only [Act.put, List.setIfInBounds_toArray, List.set_cons_zero, List.set_cons_succ, i64_w, i32_w]
    rfl
  have HH := Lib.hid hHeld
  clear hHeld
  refine one_ (i := 3) (N := some 8) #[true, true, true, true, true, true, true, false, false, false, false, false, false, false, false, false, false, false, false, false, false, false] rfl rfl (by kernel_rfl) (by decide) (fun K hK => ?_)
  refine goes_ Try.func6 (by kernel_rfl) rfl #[.agg h.cs, .int .u64 tc] (by rfl) rfl rfl (by simp only [List.map_toArray, List.map_cons, List.map_nil]; rfl) ?_
  with_reducible refine (to_c h tc _ C0.out C1.out).mono ?_
  rintro e_ w_7 ⟨rfl, hb⟩
  refine ⟨_, rfl, ?_⟩
  have s_0 := Hb.below (HH.out.1) hb
  have s_1 := blk_below (HH.out.2.1) hb
  have s_2 := (blk_cell s_1 1).trans rfl
  replace K_ga := Lib.hid (K_ga.out.below hb)
  replace K_gt := Lib.hid (blk_below K_gt.out hb)
  have hB_8 := Lib.hid (below_step hB_6.out hb)
  clear HH hb hB_6
  refine hK.out _ _ ⟨s_0, s_1, s_2⟩ (fun hHeld => ?_)
  have HH := Lib.hid hHeld
  clear hHeld s_0 s_1 s_2
  clear hK K
  refine norm_ (a' := ?_) ?_ ?_
  rotate_left
  · show Act.put _ (some 8) _ = _
    simp only [Act.put, List.setIfInBounds_toArray, List.set_cons_zero, List.set_cons_succ, i64_w, i32_w]
    rfl
  refine one_ (i := 7) (N := some 12) #[true, true, true, true, true, true, true, true, false, false, false, false, false, false, false, false, false, false, false, false, false, false] rfl rfl (by kernel_rfl) (by decide) (fun K hK => ?_)
  refine goes_ Try.func7 (by kernel_rfl) rfl #[.agg h.cs, .int .u64 tc] (by rfl) rfl rfl (by simp only [List.map_toArray, List.map_cons, List.map_nil]; rfl) ?_
  with_reducible refine (HRT.out _).mono ?_
  rintro e_ w_9 ⟨rfl, hb⟩
  refine ⟨_, rfl, ?_⟩
  have s_0 := Hb.below (HH.out.1) hb
  have s_1 := blk_below (HH.out.2.1) hb
  have s_2 := (blk_cell s_1 1).trans rfl
  replace K_ga := Lib.hid (K_ga.out.below hb)
  replace K_gt := Lib.hid (blk_below K_gt.out hb)
  have hB_10 := Lib.hid (below_step hB_8.out hb)
  clear HH hb hB_8
  refine hK.out _ _ ⟨s_0, s_1, s_2⟩ (fun hHeld => ?_)
  have HH := Lib.hid hHeld
  clear hHeld s_0 s_1 s_2
  clear hK K
  refine norm_ (a' := ?_) ?_ ?_
  rotate_left
  · show Act.put _ (some 12) _ = _
    simp only [Act.put, List.setIfInBounds_toArray, List.set_cons_zero, List.set_cons_succ, i64_w, i32_w]
    rfl
  refine pure_ (i := 8) (N := some 13) (v := ?_) (a' := ?_) #[true, true, true, true, true, true, true, true, true, false, false, false, false, false, false, false, false, false, false, false, false, false] rfl rfl (by kernel_rfl) (fun _ _ _ h => h) (Or.inl ⟨by rfl, ?_⟩) ?_ ?_
  rotate_left
  · intro w'
    go_simp
    with_reducible rfl
  rotate_left
  · simp only [Act.put, List.setIfInBounds_toArray, List.set_cons_zero, List.set_cons_succ, i64_w, i32_w]
    rfl
  refine pure_ (i := 9) (N := some 14) (v := ?_) (a' := ?_) #[true, true, true, true, true, true, true, true, true, true, false, false, false, false, false, false, false, false, false, false, false, false] rfl rfl (by kernel_rfl) (fun _ _ _ h => h) (Or.inl ⟨by rfl, ?_⟩) ?_ ?_
  rotate_left
  · intro w'
    go_simp
    with_reducible rfl
  rotate_left
  · simp only [Act.put, List.setIfInBounds_toArray, List.set_cons_zero, List.set_cons_succ, i64_w, i32_w]
    rfl
  refine take_ (i := 10) (N := some 15) (v := .agg h.cs) (a' := ?_) #[true, true, true, true, true, true, true, true, true, true, true, false, false, false, false, false, false, false, false, false, false, false] rfl rfl (by kernel_rfl) (fun _ _ _ h => h) (Or.inl ⟨by rfl, ?_⟩) HH.out ?_ ?_
  · rintro w' ⟨s0, s1, s2⟩; exact exec_load_hart rfl rfl s0
  rotate_left
  · simp only [Act.put, List.setIfInBounds_toArray, List.set_cons_zero, List.set_cons_succ, i64_w, i32_w]
    rfl
  refine take_ (i := 11) (N := some 16) (v := .agg #[.bool ti, .int .u64 tc, .int .u64 tv, .int .u64 tv2, .int .u64 tn, .bool tg]) (a' := ?_) #[true, true, true, true, true, true, true, true, true, true, true, true, false, false, false, false, false, false, false, false, false, false] rfl rfl (by kernel_rfl) (fun _ _ _ h => h) (Or.inl ⟨by rfl, ?_⟩) HH.out ?_ ?_
  · rintro w' ⟨s0, s1, s2⟩; exact exec_load_blk rfl rfl s1 Try.underlying27 rfl (by kernel_rfl)
  rotate_left
  · simp only [Act.put, List.setIfInBounds_toArray, List.set_cons_zero, List.set_cons_succ, i64_w, i32_w]
    rfl
  refine take_ (i := 13) (N := some 18) (v := .agg h.cs) (a' := ?_) #[true, true, true, true, true, true, true, true, true, true, true, true, false, true, false, false, false, false, false, false, false, false] rfl rfl (by kernel_rfl) (fun _ _ _ h => h) (Or.inl ⟨by rfl, ?_⟩) HH.out ?_ ?_
  · rintro w' ⟨s0, s1, s2⟩; exact exec_load_hart rfl rfl s0
  rotate_left
  · simp only [Act.put, List.setIfInBounds_toArray, List.set_cons_zero, List.set_cons_succ, i64_w, i32_w]
    rfl
  refine take_ (i := 14) (N := some 19) (v := .agg #[.bool ti, .int .u64 tc, .int .u64 tv, .int .u64 tv2, .int .u64 tn, .bool tg]) (a' := ?_) #[true, true, true, true, true, true, true, true, true, true, true, true, false, true, true, false, false, false, false, false, false, false] rfl rfl (by kernel_rfl) (fun _ _ _ h => h) (Or.inl ⟨by rfl, ?_⟩) HH.out ?_ ?_
  · rintro w' ⟨s0, s1, s2⟩; exact exec_load_blk rfl rfl s1 Try.underlying27 rfl (by kernel_rfl)
  rotate_left
  · simp only [Act.put, List.setIfInBounds_toArray, List.set_cons_zero, List.set_cons_succ, i64_w, i32_w]
    rfl
  refine one_ (i := 12) (N := some 17) #[true, true, true, true, true, true, true, true, true, true, true, true, true, true, true, false, false, false, false, false, false, false] rfl rfl (by kernel_rfl) (by decide) (fun K hK => ?_)
  refine goes_ Try.func8 (by kernel_rfl) rfl #[.agg h.cs, .agg #[.bool ti, .int .u64 tc, .int .u64 tv, .int .u64 tv2, .int .u64 tn, .bool tg]] (by rfl) rfl rfl (by simp only [List.map_toArray, List.map_cons, List.map_nil]; rfl) ?_
  with_reducible refine (enter_c h ti tc tv tv2 tn tg C0.out C1.out _).mono ?_
  rintro e_ w_11 ⟨rfl, hb⟩
  refine ⟨_, rfl, ?_⟩
  have s_0 := Hb.below (HH.out.1) hb
  have s_1 := blk_below (HH.out.2.1) hb
  have s_2 := (blk_cell s_1 1).trans rfl
  replace K_ga := Lib.hid (K_ga.out.below hb)
  replace K_gt := Lib.hid (blk_below K_gt.out hb)
  have hB_12 := Lib.hid (below_step hB_10.out hb)
  clear HH hb hB_10
  refine hK.out _ _ ⟨s_0, s_1, s_2⟩ (fun hHeld => ?_)
  have HH := Lib.hid hHeld
  clear hHeld s_0 s_1 s_2
  clear hK K
  refine norm_ (a' := ?_) ?_ ?_
  rotate_left
  · show Act.put _ (some 17) _ = _
    simp only [Act.put, List.setIfInBounds_toArray, List.set_cons_zero, List.set_cons_succ, i64_w, i32_w]
    rfl
  refine one_ (i := 15) (N := some 20) #[true, true, true, true, true, true, true, true, true, true, true, true, true, true, true, true, false, false, false, false, false, false] rfl rfl (by kernel_rfl) (by decide) (fun K hK => ?_)
  refine goes_ Try.func9 (by kernel_rfl) rfl #[.agg h.cs, .agg #[.bool ti, .int .u64 tc, .int .u64 tv, .int .u64 tv2, .int .u64 tn, .bool tg]] (by rfl) rfl rfl (by simp only [List.map_toArray, List.map_cons, List.map_nil]; rfl) ?_
  with_reducible refine (HRE.out _).mono ?_
  rintro e_ w_13 ⟨rfl, hb⟩
  refine ⟨_, rfl, ?_⟩
  have s_0 := Hb.below (HH.out.1) hb
  have s_1 := blk_below (HH.out.2.1) hb
  have s_2 := (blk_cell s_1 1).trans rfl
  replace K_ga := Lib.hid (K_ga.out.below hb)
  replace K_gt := Lib.hid (blk_below K_gt.out hb)
  have hB_14 := Lib.hid (below_step hB_12.out hb)
  clear HH hb hB_12
  refine hK.out _ _ ⟨s_0, s_1, s_2⟩ (fun hHeld => ?_)
  have HH := Lib.hid hHeld
  clear hHeld s_0 s_1 s_2
  clear hK K
  refine norm_ (a' := ?_) ?_ ?_
  rotate_left
  · show Act.put _ (some 20) _ = _
    simp only [Act.put, List.setIfInBounds_toArray, List.set_cons_zero, List.set_cons_succ, i64_w, i32_w]
    rfl
  refine pure_ (i := 16) (N := some 21) (v := .bool true) (a' := ?_) #[true, true, true, true, true, true, true, true, true, true, true, true, true, true, true, true, true, false, false, false, false, false] rfl rfl (by kernel_rfl) (fun _ _ _ h => h) (Or.inl ⟨by rfl, ?_⟩) ?_ ?_
  · intro w'; exact exec_eqT (h := enter h ti tc tv tv2 tn tg) rfl rfl rfl
  rotate_left
  · simp only [Act.put, List.setIfInBounds_toArray, List.set_cons_zero, List.set_cons_succ, i64_w, i32_w]
    rfl
  refine pure_ (i := 17) (N := some 22) (v := ?_) (a' := ?_) #[true, true, true, true, true, true, true, true, true, true, true, true, true, true, true, true, true, true, false, false, false, false] rfl rfl (by kernel_rfl) (fun _ _ _ h => h) (Or.inl ⟨by rfl, ?_⟩) ?_ ?_
  rotate_left
  · intro w'
    go_simp
    with_reducible rfl
  rotate_left
  · simp only [Act.put, List.setIfInBounds_toArray, List.set_cons_zero, List.set_cons_succ, i64_w, i32_w]
    rfl
  refine pure_ (i := 18) (N := some 23) (v := ?_) (a' := ?_) #[true, true, true, true, true, true, true, true, true, true, true, true, true, true, true, true, true, true, true, false, false, false] rfl rfl (by kernel_rfl) (fun _ _ _ h => h) (Or.inl ⟨by rfl, ?_⟩) ?_ ?_
  rotate_left
  · intro w'
    go_simp
    with_reducible rfl
  rotate_left
  · simp only [Act.put, List.setIfInBounds_toArray, List.set_cons_zero, List.set_cons_succ, i64_w, i32_w]
    rfl
  refine one_ (i := 19) (N := some 24) #[true, true, true, true, true, true, true, true, true, true, true, true, true, true, true, true, true, true, true, true, false, false] rfl rfl (by kernel_rfl) (by decide) (fun K hK => ?_)
  refine goes_ Try.func10 (by kernel_rfl) rfl #[] (by rfl) rfl rfl (by simp) ?_
  with_reducible refine (wakes_c _).mono ?_
  rintro e_ w_15 ⟨rfl, hb⟩
  refine ⟨_, rfl, ?_⟩
  have s_0 := Hb.below (HH.out.1) hb
  have s_1 := blk_below (HH.out.2.1) hb
  have s_2 := (blk_cell s_1 1).trans rfl
  replace K_ga := Lib.hid (K_ga.out.below hb)
  replace K_gt := Lib.hid (blk_below K_gt.out hb)
  have hB_16 := Lib.hid (below_step hB_14.out hb)
  clear HH hb hB_14
  refine hK.out _ _ ⟨s_0, s_1, s_2⟩ (fun hHeld => ?_)
  have HH := Lib.hid hHeld
  clear hHeld s_0 s_1 s_2
  clear hK K
  refine norm_ (a' := ?_) ?_ ?_
  rotate_left
  · show Act.put _ (some 24) _ = _
    simp only [Act.put, List.setIfInBounds_toArray, List.set_cons_zero, List.set_cons_succ, i64_w, i32_w]
    rfl
  refine pure_ (i := 20) (N := some 25) (v := ?_) (a' := ?_) #[true, true, true, true, true, true, true, true, true, true, true, true, true, true, true, true, true, true, true, true, true, false] rfl rfl (by kernel_rfl) (fun _ _ _ h => h) (Or.inl ⟨by rfl, ?_⟩) ?_ ?_
  rotate_left
  · intro w'
    go_simp
    with_reducible rfl
  rotate_left
  · simp only [Act.put, List.setIfInBounds_toArray, List.set_cons_zero, List.set_cons_succ, i64_w, i32_w]
    rfl
  refine pure_ (i := 21) (N := some 4) (v := ?_) (a' := ?_) #[true, true, true, true, true, true, true, true, true, true, true, true, true, true, true, true, true, true, true, true, true, true] rfl rfl (by kernel_rfl) (fun _ _ _ h => h) (Or.inl ⟨by rfl, ?_⟩) ?_ ?_
  rotate_left
  · intro w'
    go_simp
    with_reducible rfl
  rotate_left
  · simp only [Act.put, List.setIfInBounds_toArray, List.set_cons_zero, List.set_cons_succ, i64_w, i32_w]
    rfl
  refine done_ (by kernel_rfl) ?_
  try clear HH
  go_wp2
  go_ret
  exact ⟨rfl, hB_16.out⟩
end Go.Proofs.Ytfehchhmghpfpaa.Hx
