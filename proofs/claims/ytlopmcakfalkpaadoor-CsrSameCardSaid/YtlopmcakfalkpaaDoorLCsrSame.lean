/- Writing what set and clear begin with changes nothing of a legal hart. (By a program of this session.) -/
import Derived.Test.YtlopmcakfalkpaaDoorCSame
import Derived.Test.YtlopmcakfalkpaaDoorCWakes
set_option linter.unusedSimpArgs false
set_option linter.unusedVariables false
namespace Go.Proofs.YtlopmcakfalkpaaDoor.Hx
open Go.RowKit Go.Proofs.YtlopmcakfalkpaaDoor.Q Go.Proofs.YtlopmcakfalkpaaDoorW.PrintWords Go.Proofs.YtlopmcakfalkpaaDoorW.PrintLast Go.Proofs.YtlopmcakfalkpaaDoorW.PrintMore Go.Proofs.YtlopmcakfalkpaaDoor.Rg


set_option maxHeartbeats 16000000 in
set_option maxRecDepth 100000 in
theorem same_c (h : Ht) (hw : h.wf) (la lb lc ld : Bool) (lg lt : Int) (no : Int) (w : World) (hT : Tab w) : Calls Tryd.prog 4 #[.agg h.cs, .agg #[.bool la, .bool lb, .bool lc, .bool ld, .int .u64 lg, .int .u64 lt], .int .i64 no] w fun e w' => e = .returned (.bool true) ∧ Below w.heap.size w w' := by
  have HT := Lib.hid hT
  have hs := fix_same h hw la lb lc ld lg lt no
  have hf := fix_c h
  generalize fix h = f at *
  have hb := base_c f la lb lc ld lg lt no
  have hwr := write_c f la lb lc ld lg lt no (baseV f la lb lc ld lg lt no)
  rw [hs] at hwr
  generalize baseV f la lb lc ld lg lt no = bv at *
  have HF := Lib.hid hf; have HB := Lib.hid hb; have HW := Lib.hid hwr
  clear hf hb hwr hT hs hw
  have hu25 := Tryd.underlying25; have hu27 := Tryd.underlying27
  go_enter Tryd.func4, Tryd.ntmps4
  go_upto_region 1 with (first | ((with_reducible refine gate_dst (N := 3) rfl ?_); refine box_event ?hg (N := 3) ?hd (cs := h.cs) (t := 25) ?hr ?_; (case hd => rfl); (case hg => rfl); (case hr => first | (go_simp; done) | (go_simp; rfl)); intro ga hg w_1 H1 hb; have hB_2 := Lib.hid (below_step (Below.refl w.heap.size w) hb); have G_ga := Lib.hid (show w.heap.size ≤ ga by rw [hg]; exact ((Below.refl w.heap.size w)).size); have K_ga := Lib.hid (show Hb w_1 ga h from H1); clear hg hb H1) | ((with_reducible refine gate_dst (N := 4) rfl ?_); refine box_event ?hg (N := 4) ?hd (cs := #[.bool la, .bool lb, .bool lc, .bool ld, .int .u64 lg, .int .u64 lt]) (t := 27) ?hr ?_; (case hd => rfl); (case hg => rfl); (case hr => first | (go_simp; done) | (go_simp; rfl)); intro gt hg w_3 H1 hb; have hB_4 := Lib.hid (below_step hB_2.out hb); have G_gt := Lib.hid (show w.heap.size ≤ gt by rw [hg]; exact (hB_2.out).size); have N_ga_gt := Lib.hid (show ga ≠ gt by rw [hg]; exact Nat.ne_of_lt (K_ga.out.lt)); replace K_ga := Lib.hid (K_ga.out.below hb); have K_gt := Lib.hid (show w_3.heap[gt]? = some (.cells #[.bool la, .bool lb, .bool lc, .bool ld, .int .u64 lg, .int .u64 lt] 27 (0, 0)) from H1); clear hg hb H1 hB_2; clear hu25 hu27))
  go_wp2_with (first | ((with_reducible refine gate_dst (N := 7) rfl ?_); (first | (refine gate_guard (by rfl) ?_) | skip); refine Kd.event_run rfl (v := .agg (h).cs) (w1 := w_3) ?hb ?_; (case hb => exact exec_load_hart rfl rfl K_ga.out)))
  refine (HF.out _ (Tab.from HT.out hB_4.out)).mono ?_
  rintro e_5 w_6 ⟨rfl, hb⟩
  have hB_7 := Lib.hid (below_step hB_4.out hb)
  replace K_ga := Lib.hid (K_ga.out.below hb)
  replace K_gt := Lib.hid (blk_below K_gt.out hb)
  clear hb hB_4
  go_upto_region 2 with (first | (refine store_hart rfl (.tmp 3) (.tmp 8) rfl ga (f) rfl rfl (h) K_ga.out ?_; have hB_9 := Lib.hid (setCells_below G_ga.out (Ht.cs (f)).toList 0 _ hB_7.out); replace K_gt := Lib.hid (setCells_far' (vs := (Ht.cs (f)).toList) (o := 0) (Ne.symm N_ga_gt.out) K_gt.out); replace K_ga := Lib.hid (Hb.putAll (f) K_ga.out); clear hB_7; generalize World.setCells w_6 ga 0 (Ht.cs (f)).toList = w_8 at K_ga K_gt hB_9 ⊢))
  refine start_ (n := 14) (S := fun w' => Hb w' ga f ∧ w'.heap[gt]? = some (.cells #[.bool la, .bool lb, .bool lc, .bool ld, .int .u64 lg, .int .u64 lt] 27 (0, 0)) ∧ Tab w') (ds := []) #[false, false, false, false, false, false, false, false, false, false, false, false, false, false] (by kernel_rfl) rfl rfl ⟨K_ga.out.drew, blk_drew K_gt.out, (Tab.from HT.out (below_drew1 hB_9.out))⟩ (fun hHeld => ?_)
  replace K_ga := Lib.hid (K_ga.out.drew)
  replace K_gt := Lib.hid (blk_drew K_gt.out)
  have hB_11 := Lib.hid (below_drew1 hB_9.out)
  clear hB_9
  generalize World.drew w_8 = w_10 at K_ga K_gt hB_11 hHeld ⊢
  refine pure_ (i := 2) (N := some 11) (v := ?_) (a' := ?_) #[false, false, true, false, false, false, false, false, false, false, false, false, false, false] rfl rfl (by kernel_rfl) (fun _ _ _ h => h) (Or.inl ⟨by rfl, ?_⟩) ?_ ?_
  rotate_left
  · intro w'
    go_simp
    with_reducible rfl
  rotate_left
  · simp only [Act.put, List.setIfInBounds_toArray, List.set_cons_zero, List.set_cons_succ, i64_w, i32_w]
    rfl
  refine pure_ (i := 5) (N := some 14) (v := ?_) (a' := ?_) #[false, false, true, false, false, true, false, false, false, false, false, false, false, false] rfl rfl (by kernel_rfl) (fun _ _ _ h => h) (Or.inl ⟨by rfl, ?_⟩) ?_ ?_
  rotate_left
  · intro w'
    go_simp
    with_reducible rfl
  rotate_left
  · simp only [Act.put, List.setIfInBounds_toArray, List.set_cons_zero, List.set_cons_succ, i64_w, i32_w]
    rfl
  refine take_ (i := 0) (N := some 9) (v := .agg f.cs) (a' := ?_) #[true, false, true, false, false, true, false, false, false, false, false, false, false, false] rfl rfl (by kernel_rfl) (fun _ _ _ h => h) (Or.inl ⟨by rfl, ?_⟩) hHeld ?_ ?_
  · rintro w' ⟨s0, s1, s2⟩; exact exec_load_hart rfl rfl s0
  rotate_left
  · simp only [Act.put, List.setIfInBounds_toArray, List.set_cons_zero, List.set_cons_succ, i64_w, i32_w]
    rfl
  refine take_ (i := 1) (N := some 10) (v := .agg #[.bool la, .bool lb, .bool lc, .bool ld, .int .u64 lg, .int .u64 lt]) (a' := ?_) #[true, true, true, false, false, true, false, false, false, false, false, false, false, false] rfl rfl (by kernel_rfl) (fun _ _ _ h => h) (Or.inl ⟨by rfl, ?_⟩) hHeld ?_ ?_
  · rintro w' ⟨s0, s1, s2⟩; exact exec_load_blk rfl rfl s1 Tryd.underlying27 rfl (by kernel_rfl)
  rotate_left
  · simp only [Act.put, List.setIfInBounds_toArray, List.set_cons_zero, List.set_cons_succ, i64_w, i32_w]
    rfl
  refine take_ (i := 3) (N := some 12) (v := .agg f.cs) (a' := ?_) #[true, true, true, true, false, true, false, false, false, false, false, false, false, false] rfl rfl (by kernel_rfl) (fun _ _ _ h => h) (Or.inl ⟨by rfl, ?_⟩) hHeld ?_ ?_
  · rintro w' ⟨s0, s1, s2⟩; exact exec_load_hart rfl rfl s0
  rotate_left
  · simp only [Act.put, List.setIfInBounds_toArray, List.set_cons_zero, List.set_cons_succ, i64_w, i32_w]
    rfl
  refine take_ (i := 4) (N := some 13) (v := .agg #[.bool la, .bool lb, .bool lc, .bool ld, .int .u64 lg, .int .u64 lt]) (a' := ?_) #[true, true, true, true, true, true, false, false, false, false, false, false, false, false] rfl rfl (by kernel_rfl) (fun _ _ _ h => h) (Or.inl ⟨by rfl, ?_⟩) hHeld ?_ ?_
  · rintro w' ⟨s0, s1, s2⟩; exact exec_load_blk rfl rfl s1 Tryd.underlying27 rfl (by kernel_rfl)
  rotate_left
  · simp only [Act.put, List.setIfInBounds_toArray, List.set_cons_zero, List.set_cons_succ, i64_w, i32_w]
    rfl
  refine take_ (i := 8) (N := some 17) (v := .agg f.cs) (a' := ?_) #[true, true, true, true, true, true, false, false, true, false, false, false, false, false] rfl rfl (by kernel_rfl) (fun _ _ _ h => h) (Or.inl ⟨by rfl, ?_⟩) hHeld ?_ ?_
  · rintro w' ⟨s0, s1, s2⟩; exact exec_load_hart rfl rfl s0
  rotate_left
  · simp only [Act.put, List.setIfInBounds_toArray, List.set_cons_zero, List.set_cons_succ, i64_w, i32_w]
    rfl
  have HH := Lib.hid hHeld
  clear hHeld
  refine one_ (i := 6) (N := some 15) #[true, true, true, true, true, true, true, false, true, false, false, false, false, false] rfl rfl (by kernel_rfl) (by decide) (fun K hK => ?_)
  refine goes_ Tryd.func15 (by kernel_rfl) rfl #[.agg f.cs, .agg #[.bool la, .bool lb, .bool lc, .bool ld, .int .u64 lg, .int .u64 lt], .int .i64 no] (by rfl) rfl rfl (by simp only [List.map_toArray, List.map_cons, List.map_nil]; rfl) ?_
  with_reducible refine (HB.out _).mono ?_
  rintro e_ w_12 ⟨rfl, hb⟩
  refine ⟨_, rfl, ?_⟩
  have s_0 := Hb.below (HH.out.1) hb
  have s_1 := blk_below (HH.out.2.1) hb
  have s_2 := Tab.from (HH.out.2.2) hb
  replace K_ga := Lib.hid (K_ga.out.below hb)
  replace K_gt := Lib.hid (blk_below K_gt.out hb)
  have hB_13 := Lib.hid (below_step hB_11.out hb)
  clear HH hb hB_11
  refine hK.out _ _ ⟨s_0, s_1, s_2⟩ (fun hHeld => ?_)
  have HH := Lib.hid hHeld
  clear hHeld s_0 s_1 s_2
  clear hK K
  refine norm_ (a' := ?_) ?_ ?_
  rotate_left
  · show Act.put _ (some 15) _ = _
    simp only [Act.put, List.setIfInBounds_toArray, List.set_cons_zero, List.set_cons_succ, i64_w, i32_w]
    rfl
  refine one_ (i := 7) (N := some 16) #[true, true, true, true, true, true, true, true, true, false, false, false, false, false] rfl rfl (by kernel_rfl) (by decide) (fun K hK => ?_)
  refine goes_ Tryd.func19 (by kernel_rfl) rfl #[.agg f.cs, .agg #[.bool la, .bool lb, .bool lc, .bool ld, .int .u64 lg, .int .u64 lt], .int .i64 no, .int .u64 bv] (by rfl) rfl rfl (by simp only [List.map_toArray, List.map_cons, List.map_nil]; rfl) ?_
  with_reducible refine (HW.out _ HH.out.2.2).mono ?_
  rintro e_ w_14 ⟨rfl, hb⟩
  refine ⟨_, rfl, ?_⟩
  have s_0 := Hb.below (HH.out.1) hb
  have s_1 := blk_below (HH.out.2.1) hb
  have s_2 := Tab.from (HH.out.2.2) hb
  replace K_ga := Lib.hid (K_ga.out.below hb)
  replace K_gt := Lib.hid (blk_below K_gt.out hb)
  have hB_15 := Lib.hid (below_step hB_13.out hb)
  clear HH hb hB_13
  refine hK.out _ _ ⟨s_0, s_1, s_2⟩ (fun hHeld => ?_)
  have HH := Lib.hid hHeld
  clear hHeld s_0 s_1 s_2
  clear hK K
  refine norm_ (a' := ?_) ?_ ?_
  rotate_left
  · show Act.put _ (some 16) _ = _
    simp only [Act.put, List.setIfInBounds_toArray, List.set_cons_zero, List.set_cons_succ, i64_w, i32_w]
    rfl
  refine pure_ (i := 9) (N := some 18) (v := .bool true) (a' := ?_) #[true, true, true, true, true, true, true, true, true, true, false, false, false, false] rfl rfl (by kernel_rfl) (fun _ _ _ h => h) (Or.inl ⟨by rfl, ?_⟩) ?_ ?_
  · intro w'; exact exec_eqT (h := f) rfl rfl rfl
  rotate_left
  · simp only [Act.put, List.setIfInBounds_toArray, List.set_cons_zero, List.set_cons_succ, i64_w, i32_w]
    rfl
  refine pure_ (i := 10) (N := some 19) (v := ?_) (a' := ?_) #[true, true, true, true, true, true, true, true, true, true, true, false, false, false] rfl rfl (by kernel_rfl) (fun _ _ _ h => h) (Or.inl ⟨by rfl, ?_⟩) ?_ ?_
  rotate_left
  · intro w'
    go_simp
    with_reducible rfl
  rotate_left
  · simp only [Act.put, List.setIfInBounds_toArray, List.set_cons_zero, List.set_cons_succ, i64_w, i32_w]
    rfl
  refine one_ (i := 11) (N := some 20) #[true, true, true, true, true, true, true, true, true, true, true, true, false, false] rfl rfl (by kernel_rfl) (by decide) (fun K hK => ?_)
  refine goes_ Tryd.func17 (by kernel_rfl) rfl #[] (by rfl) rfl rfl (by simp) ?_
  with_reducible refine (wakes_c _ HH.out.2.2).mono ?_
  rintro e_ w_16 ⟨rfl, hb⟩
  refine ⟨_, rfl, ?_⟩
  have s_0 := Hb.below (HH.out.1) hb
  have s_1 := blk_below (HH.out.2.1) hb
  have s_2 := Tab.from (HH.out.2.2) hb
  replace K_ga := Lib.hid (K_ga.out.below hb)
  replace K_gt := Lib.hid (blk_below K_gt.out hb)
  have hB_17 := Lib.hid (below_step hB_15.out hb)
  clear HH hb hB_15
  refine hK.out _ _ ⟨s_0, s_1, s_2⟩ (fun hHeld => ?_)
  have HH := Lib.hid hHeld
  clear hHeld s_0 s_1 s_2
  clear hK K
  refine norm_ (a' := ?_) ?_ ?_
  rotate_left
  · show Act.put _ (some 20) _ = _
    simp only [Act.put, List.setIfInBounds_toArray, List.set_cons_zero, List.set_cons_succ, i64_w, i32_w]
    rfl
  refine pure_ (i := 12) (N := some 21) (v := ?_) (a' := ?_) #[true, true, true, true, true, true, true, true, true, true, true, true, true, false] rfl rfl (by kernel_rfl) (fun _ _ _ h => h) (Or.inl ⟨by rfl, ?_⟩) ?_ ?_
  rotate_left
  · intro w'
    go_simp
    with_reducible rfl
  rotate_left
  · simp only [Act.put, List.setIfInBounds_toArray, List.set_cons_zero, List.set_cons_succ, i64_w, i32_w]
    rfl
  refine pure_ (i := 13) (N := some 6) (v := ?_) (a' := ?_) #[true, true, true, true, true, true, true, true, true, true, true, true, true, true] rfl rfl (by kernel_rfl) (fun _ _ _ h => h) (Or.inl ⟨by rfl, ?_⟩) ?_ ?_
  rotate_left
  · intro w'
    go_simp
    with_reducible rfl
  rotate_left
  · simp only [Act.put, List.setIfInBounds_toArray, List.set_cons_zero, List.set_cons_succ, i64_w, i32_w]
    rfl
  refine done_ (by kernel_rfl) ?_
  try clear HH
  go_wp2
  go_ret
  exact ⟨rfl, hB_17.out⟩
end Go.Proofs.YtlopmcakfalkpaaDoor.Hx
