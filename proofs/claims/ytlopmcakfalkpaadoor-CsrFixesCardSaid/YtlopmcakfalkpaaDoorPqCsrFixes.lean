/- The legal hart that is made of one, and whether one is legal, is the document's. (By a program of this session.) -/
import Derived.Test.YtlopmcakfalkpaaDoorCRFix
import Derived.Test.YtlopmcakfalkpaaDoorHrow
import Derived.Test.YtlopmcakfalkpaaDoorCWakes
set_option linter.unusedSimpArgs false
set_option linter.unusedVariables false
namespace Go.Proofs.YtlopmcakfalkpaaDoor.Hx
open Go.RowKit Go.Proofs.YtlopmcakfalkpaaDoor.Q Go.Proofs.YtlopmcakfalkpaaDoorW.PrintWords Go.Proofs.YtlopmcakfalkpaaDoorW.PrintLast Go.Proofs.YtlopmcakfalkpaaDoorW.PrintMore Go.Proofs.YtlopmcakfalkpaaDoor.Rg

set_option maxHeartbeats 16000000 in
set_option maxRecDepth 100000 in
theorem rlegal_c (h : Ht) (hw : h.wf) (w : World) : Calls Tryd.prog 23 #[.agg h.cs] w fun e w' => e = .returned (.bool (legalV h)) ∧ Below w.heap.size w w' := by
  have HF := Lib.hid (rfix_c h hw)
  clear hw
  have hl : legalV h = heq (fix h) h := rfl
  generalize legalV h = l at hl ⊢
  generalize fix h = f at *
  have HL := Lib.hid hl.symm; clear hl
  have hu25 := Tryd.underlying25
  go_enter Tryd.func23, Tryd.ntmps23
  go_upto_region 1 with (first | ((with_reducible refine gate_dst (N := 1) rfl ?_); refine box_event ?hg (N := 1) ?hd (cs := h.cs) (t := 25) ?hr ?_; (case hd => rfl); (case hg => rfl); (case hr => first | (go_simp; done) | (go_simp; rfl)); intro ga hg w_1 H1 hb; have hB_2 := Lib.hid (below_step (Below.refl w.heap.size w) hb); have G_ga := Lib.hid (show w.heap.size ≤ ga by rw [hg]; exact ((Below.refl w.heap.size w)).size); have K_ga := Lib.hid (show Hb w_1 ga h from H1); clear hg hb H1))
  go_wp2_with (first | ((with_reducible refine gate_dst (N := 4) rfl ?_); (first | (refine gate_guard (by kernel_rfl) ?_) | skip); refine Kd.event_run rfl (v := .agg (h).cs) (w1 := w_1) ?hb ?_; (case hb => exact exec_load_hart rfl rfl K_ga.out)))
  refine (HF.out _).mono ?_
  rintro e_3 w_4 ⟨rfl, hb⟩
  have hB_5 := Lib.hid (below_step hB_2.out hb)
  replace K_ga := Lib.hid (K_ga.out.below hb)
  clear hb hB_2
  go_upto_region 2 with (first | ((with_reducible refine gate_dst (N := 3) rfl ?_); refine box_event ?hg (N := 3) ?hd (cs := Ht.zero.cs) (t := 25) ?hr ?_; (case hd => rfl); (case hg => rfl); (case hr => first | (go_simp; done) | (go_simp; rfl)); intro gf hg w_6 H1 hb; have hB_8 := Lib.hid (below_step hB_5.out hb); have G_gf := Lib.hid (show w.heap.size ≤ gf by rw [hg]; exact (hB_5.out).size); have N_ga_gf := Lib.hid (show ga ≠ gf by rw [hg]; exact Nat.ne_of_lt (K_ga.out.lt)); replace K_ga := Lib.hid (K_ga.out.below hb); have K_gf := Lib.hid (show Hb w_6 gf Ht.zero from H1); clear hg hb H1 hB_5) | (refine store_hart rfl (.tmp 3) (.tmp 5) rfl gf f rfl rfl Ht.zero K_gf.out ?_; have hB_9 := Lib.hid (setCells_below G_gf.out (Ht.cs f).toList 0 _ hB_8.out); replace K_ga := Lib.hid (Hb.farAll (vs := (Ht.cs f).toList) (o := 0) N_ga_gf.out K_ga.out); replace K_gf := Lib.hid (Hb.putAll f K_gf.out); clear hB_8; generalize World.setCells w_6 gf 0 (Ht.cs f).toList = w_7 at K_ga K_gf hB_9 ⊢))
  clear hu25
  go_wp2_with (first | ((with_reducible refine gate_dst (N := 6) rfl ?_); (first | (refine gate_guard (by kernel_rfl) ?_) | skip); refine Kd.event_run rfl (v := .agg (f).cs) (w1 := w_7) ?hb ?_; (case hb => exact exec_load_hart rfl rfl K_gf.out)) | ((with_reducible refine gate_dst (N := 7) rfl ?_); (first | (refine gate_guard (by kernel_rfl) ?_) | skip); refine Kd.event_run rfl (v := .agg (h).cs) (w1 := w_7) ?hb ?_; (case hb => exact exec_load_hart rfl rfl K_ga.out)) | ((with_reducible refine gate_dst (N := 8) rfl ?_); (first | (refine gate_guard (by kernel_rfl) ?_) | skip); refine Kd.event_run rfl (v := .bool l) (w1 := w_7) ?hb ?_; (case hb => exact exec_eqB (h := f) (k := h) rfl rfl rfl (HL.out))))
  go_ret
  exact ⟨rfl, hB_9.out⟩
set_option maxHeartbeats 16000000 in
set_option maxRecDepth 100000 in
theorem fixes_c (h : Ht) (hw : h.wf)  (w : World) (hT : Tab w) : Calls Tryd.prog 6 #[.agg h.cs] w fun e w' => e = .returned (.bool true) ∧ Below w.heap.size w w' := by
  have hf := fix_c h; have hf2 := rfix_c h hw
  have hl := legal_c h; have hl2 := rlegal_c h hw
  generalize legalV h = l at *
  generalize fix h = f at *
  have d1 : (l == l) = true := beq_self_eq_true _
  have HT := Lib.hid hT; have HF := Lib.hid hf; have HF2 := Lib.hid hf2; have HL := Lib.hid hl; have HL2 := Lib.hid hl2
  clear hf hf2 hl hl2 hT hw
  have hu25 := Tryd.underlying25
  go_enter Tryd.func6, Tryd.ntmps6
  go_upto_region 1 with (first | ((with_reducible refine gate_dst (N := 1) rfl ?_); refine box_event ?hg (N := 1) ?hd (cs := h.cs) (t := 25) ?hr ?_; (case hd => rfl); (case hg => rfl); (case hr => first | (go_simp; done) | (go_simp; rfl)); intro ga hg w_1 H1 hb; have hB_2 := Lib.hid (below_step (Below.refl w.heap.size w) hb); have G_ga := Lib.hid (show w.heap.size ≤ ga by rw [hg]; exact ((Below.refl w.heap.size w)).size); have K_ga := Lib.hid (show Hb w_1 ga h from H1); clear hg hb H1; clear hu25))
  refine start_ (n := 16) (S := fun w' => Hb w' ga h ∧ Tab w') (ds := []) #[false, false, false, false, false, false, false, false, false, false, false, false, false, false, false, false] (by kernel_rfl) rfl rfl ⟨K_ga.out.drew, (Tab.from HT.out (below_drew1 hB_2.out))⟩ (fun hHeld => ?_)
  replace K_ga := Lib.hid (K_ga.out.drew)
  have hB_4 := Lib.hid (below_drew1 hB_2.out)
  clear hB_2
  generalize World.drew w_1 = w_3 at K_ga hB_4 hHeld ⊢
  refine take_ (i := 0) (N := some 3) (v := .agg h.cs) (a' := ?_) #[true, false, false, false, false, false, false, false, false, false, false, false, false, false, false, false] rfl rfl (by kernel_rfl) (fun _ _ _ h => h) (Or.inl ⟨by rfl, ?_⟩) hHeld ?_ ?_
  · rintro w' ⟨s0, s1⟩; exact exec_load_hart rfl rfl s0
  rotate_left
  · simp only [Act.put, List.setIfInBounds_toArray, List.set_cons_zero, List.set_cons_succ, i64_w, i32_w]
    rfl
  refine take_ (i := 2) (N := some 5) (v := .agg h.cs) (a' := ?_) #[true, false, true, false, false, false, false, false, false, false, false, false, false, false, false, false] rfl rfl (by kernel_rfl) (fun _ _ _ h => h) (Or.inl ⟨by rfl, ?_⟩) hHeld ?_ ?_
  · rintro w' ⟨s0, s1⟩; exact exec_load_hart rfl rfl s0
  rotate_left
  · simp only [Act.put, List.setIfInBounds_toArray, List.set_cons_zero, List.set_cons_succ, i64_w, i32_w]
    rfl
  have HH := Lib.hid hHeld
  clear hHeld
  refine one_ (i := 1) (N := some 4) #[true, true, true, false, false, false, false, false, false, false, false, false, false, false, false, false] rfl rfl (by kernel_rfl) (by decide) (fun K hK => ?_)
  refine goes_ Tryd.func18 (by kernel_rfl) rfl #[.agg h.cs] (by rfl) rfl rfl (by simp only [List.map_toArray, List.map_cons, List.map_nil]; rfl) ?_
  with_reducible refine (HF.out _ HH.out.2).mono ?_
  rintro e_ w_5 ⟨rfl, hb⟩
  refine ⟨_, rfl, ?_⟩
  have s_0 := Hb.below (HH.out.1) hb
  have s_1 := Tab.from (HH.out.2) hb
  replace K_ga := Lib.hid (K_ga.out.below hb)
  have hB_6 := Lib.hid (below_step hB_4.out hb)
  clear HH hb hB_4
  refine hK.out _ _ ⟨s_0, s_1⟩ (fun hHeld => ?_)
  have HH := Lib.hid hHeld
  clear hHeld s_0 s_1
  clear hK K
  refine norm_ (a' := ?_) ?_ ?_
  rotate_left
  · show Act.put _ (some 4) _ = _
    simp only [Act.put, List.setIfInBounds_toArray, List.set_cons_zero, List.set_cons_succ, i64_w, i32_w]
    rfl
  refine one_ (i := 3) (N := some 6) #[true, true, true, true, false, false, false, false, false, false, false, false, false, false, false, false] rfl rfl (by kernel_rfl) (by decide) (fun K hK => ?_)
  refine goes_ Tryd.func21 (by kernel_rfl) rfl #[.agg h.cs] (by rfl) rfl rfl (by simp only [List.map_toArray, List.map_cons, List.map_nil]; rfl) ?_
  with_reducible refine (HF2.out _).mono ?_
  rintro e_ w_7 ⟨rfl, hb⟩
  refine ⟨_, rfl, ?_⟩
  have s_0 := Hb.below (HH.out.1) hb
  have s_1 := Tab.from (HH.out.2) hb
  replace K_ga := Lib.hid (K_ga.out.below hb)
  have hB_8 := Lib.hid (below_step hB_6.out hb)
  clear HH hb hB_6
  refine hK.out _ _ ⟨s_0, s_1⟩ (fun hHeld => ?_)
  have HH := Lib.hid hHeld
  clear hHeld s_0 s_1
  clear hK K
  refine norm_ (a' := ?_) ?_ ?_
  rotate_left
  · show Act.put _ (some 6) _ = _
    simp only [Act.put, List.setIfInBounds_toArray, List.set_cons_zero, List.set_cons_succ, i64_w, i32_w]
    rfl
  refine pure_ (i := 4) (N := some 7) (v := .bool true) (a' := ?_) #[true, true, true, true, true, false, false, false, false, false, false, false, false, false, false, false] rfl rfl (by kernel_rfl) (fun _ _ _ h => h) (Or.inl ⟨by rfl, ?_⟩) ?_ ?_
  · intro w'; exact exec_eqT (h := f) rfl rfl rfl
  rotate_left
  · simp only [Act.put, List.setIfInBounds_toArray, List.set_cons_zero, List.set_cons_succ, i64_w, i32_w]
    rfl
  refine pure_ (i := 5) (N := some 8) (v := ?_) (a' := ?_) #[true, true, true, true, true, true, false, false, false, false, false, false, false, false, false, false] rfl rfl (by kernel_rfl) (fun _ _ _ h => h) (Or.inl ⟨by rfl, ?_⟩) ?_ ?_
  rotate_left
  · intro w'
    go_simp
    with_reducible rfl
  rotate_left
  · simp only [Act.put, List.setIfInBounds_toArray, List.set_cons_zero, List.set_cons_succ, i64_w, i32_w]
    rfl
  refine take_ (i := 6) (N := some 9) (v := .agg h.cs) (a' := ?_) #[true, true, true, true, true, true, true, false, false, false, false, false, false, false, false, false] rfl rfl (by kernel_rfl) (fun _ _ _ h => h) (Or.inl ⟨by rfl, ?_⟩) HH.out ?_ ?_
  · rintro w' ⟨s0, s1⟩; exact exec_load_hart rfl rfl s0
  rotate_left
  · simp only [Act.put, List.setIfInBounds_toArray, List.set_cons_zero, List.set_cons_succ, i64_w, i32_w]
    rfl
  refine take_ (i := 8) (N := some 11) (v := .agg h.cs) (a' := ?_) #[true, true, true, true, true, true, true, false, true, false, false, false, false, false, false, false] rfl rfl (by kernel_rfl) (fun _ _ _ h => h) (Or.inl ⟨by rfl, ?_⟩) HH.out ?_ ?_
  · rintro w' ⟨s0, s1⟩; exact exec_load_hart rfl rfl s0
  rotate_left
  · simp only [Act.put, List.setIfInBounds_toArray, List.set_cons_zero, List.set_cons_succ, i64_w, i32_w]
    rfl
  refine one_ (i := 7) (N := some 10) #[true, true, true, true, true, true, true, true, true, false, false, false, false, false, false, false] rfl rfl (by kernel_rfl) (by decide) (fun K hK => ?_)
  refine goes_ Tryd.func22 (by kernel_rfl) rfl #[.agg h.cs] (by rfl) rfl rfl (by simp only [List.map_toArray, List.map_cons, List.map_nil]; rfl) ?_
  with_reducible refine (HL.out _ HH.out.2).mono ?_
  rintro e_ w_9 ⟨rfl, hb⟩
  refine ⟨_, rfl, ?_⟩
  have s_0 := Hb.below (HH.out.1) hb
  have s_1 := Tab.from (HH.out.2) hb
  replace K_ga := Lib.hid (K_ga.out.below hb)
  have hB_10 := Lib.hid (below_step hB_8.out hb)
  clear HH hb hB_8
  refine hK.out _ _ ⟨s_0, s_1⟩ (fun hHeld => ?_)
  have HH := Lib.hid hHeld
  clear hHeld s_0 s_1
  clear hK K
  refine norm_ (a' := ?_) ?_ ?_
  rotate_left
  · show Act.put _ (some 10) _ = _
    simp only [Act.put, List.setIfInBounds_toArray, List.set_cons_zero, List.set_cons_succ, i64_w, i32_w]
    rfl
  refine one_ (i := 9) (N := some 12) #[true, true, true, true, true, true, true, true, true, true, false, false, false, false, false, false] rfl rfl (by kernel_rfl) (by decide) (fun K hK => ?_)
  refine goes_ Tryd.func23 (by kernel_rfl) rfl #[.agg h.cs] (by rfl) rfl rfl (by simp only [List.map_toArray, List.map_cons, List.map_nil]; rfl) ?_
  with_reducible refine (HL2.out _).mono ?_
  rintro e_ w_11 ⟨rfl, hb⟩
  refine ⟨_, rfl, ?_⟩
  have s_0 := Hb.below (HH.out.1) hb
  have s_1 := Tab.from (HH.out.2) hb
  replace K_ga := Lib.hid (K_ga.out.below hb)
  have hB_12 := Lib.hid (below_step hB_10.out hb)
  clear HH hb hB_10
  refine hK.out _ _ ⟨s_0, s_1⟩ (fun hHeld => ?_)
  have HH := Lib.hid hHeld
  clear hHeld s_0 s_1
  clear hK K
  refine norm_ (a' := ?_) ?_ ?_
  rotate_left
  · show Act.put _ (some 12) _ = _
    simp only [Act.put, List.setIfInBounds_toArray, List.set_cons_zero, List.set_cons_succ, i64_w, i32_w]
    rfl
  refine pure_ (i := 10) (N := some 13) (v := ?_) (a' := ?_) #[true, true, true, true, true, true, true, true, true, true, true, false, false, false, false, false] rfl rfl (by kernel_rfl) (fun _ _ _ h => h) (Or.inl ⟨by rfl, ?_⟩) ?_ ?_
  rotate_left
  · intro w'
    go_simp
    with_reducible rfl
  rotate_left
  · simp only [Act.put, List.setIfInBounds_toArray, List.set_cons_zero, List.set_cons_succ, i64_w, i32_w]
    rfl
  refine pure_ (i := 11) (N := some 14) (v := ?_) (a' := ?_) #[true, true, true, true, true, true, true, true, true, true, true, true, false, false, false, false] rfl rfl (by kernel_rfl) (fun _ _ _ h => h) (Or.inl ⟨by rfl, ?_⟩) ?_ ?_
  rotate_left
  · intro w'
    go_simp
    with_reducible rfl
  rotate_left
  · simp only [Act.put, List.setIfInBounds_toArray, List.set_cons_zero, List.set_cons_succ, i64_w, i32_w]
    rfl
  refine pure_ (i := 12) (N := some 15) (v := ?_) (a' := ?_) #[true, true, true, true, true, true, true, true, true, true, true, true, true, false, false, false] rfl rfl (by kernel_rfl) (fun _ _ _ h => h) (Or.inl ⟨by rfl, ?_⟩) ?_ ?_
  rotate_left
  · intro w'
    go_simp
    with_reducible rfl
  rotate_left
  · simp only [Act.put, List.setIfInBounds_toArray, List.set_cons_zero, List.set_cons_succ, i64_w, i32_w]
    rfl
  refine one_ (i := 13) (N := some 16) #[true, true, true, true, true, true, true, true, true, true, true, true, true, true, false, false] rfl rfl (by kernel_rfl) (by decide) (fun K hK => ?_)
  refine goes_ Tryd.func17 (by kernel_rfl) rfl #[] (by rfl) rfl rfl (by simp) ?_
  with_reducible refine (wakes_c _ HH.out.2).mono ?_
  rintro e_ w_13 ⟨rfl, hb⟩
  refine ⟨_, rfl, ?_⟩
  have s_0 := Hb.below (HH.out.1) hb
  have s_1 := Tab.from (HH.out.2) hb
  replace K_ga := Lib.hid (K_ga.out.below hb)
  have hB_14 := Lib.hid (below_step hB_12.out hb)
  clear HH hb hB_12
  refine hK.out _ _ ⟨s_0, s_1⟩ (fun hHeld => ?_)
  have HH := Lib.hid hHeld
  clear hHeld s_0 s_1
  clear hK K
  refine norm_ (a' := ?_) ?_ ?_
  rotate_left
  · show Act.put _ (some 16) _ = _
    simp only [Act.put, List.setIfInBounds_toArray, List.set_cons_zero, List.set_cons_succ, i64_w, i32_w]
    rfl
  refine pure_ (i := 14) (N := some 17) (v := ?_) (a' := ?_) #[true, true, true, true, true, true, true, true, true, true, true, true, true, true, true, false] rfl rfl (by kernel_rfl) (fun _ _ _ h => h) (Or.inl ⟨by rfl, ?_⟩) ?_ ?_
  rotate_left
  · intro w'
    go_simp
    with_reducible rfl
  rotate_left
  · simp only [Act.put, List.setIfInBounds_toArray, List.set_cons_zero, List.set_cons_succ, i64_w, i32_w]
    rfl
  refine pure_ (i := 15) (N := some 2) (v := ?_) (a' := ?_) #[true, true, true, true, true, true, true, true, true, true, true, true, true, true, true, true] rfl rfl (by kernel_rfl) (fun _ _ _ h => h) (Or.inl ⟨by rfl, ?_⟩) ?_ ?_
  rotate_left
  · intro w'
    go_simp
    with_reducible rfl
  rotate_left
  · simp only [Act.put, List.setIfInBounds_toArray, List.set_cons_zero, List.set_cons_succ, i64_w, i32_w]
    rfl
  refine done_ (by kernel_rfl) ?_
  try clear HH
  go_wp2
  go_ret
  exact ⟨rfl, hB_14.out⟩
end Go.Proofs.YtlopmcakfalkpaaDoor.Hx
namespace Go.Proofs.YtlopmcakfalkpaaDoor.Pure
open Go.RowKit Go.Proofs.YtlopmcakfalkpaaDoor.Hx Go.Proofs.YtlopmcakfalkpaaDoor.Bv Go.Proofs.YtlopmcakfalkpaaDoor.Q
theorem CsrFixes (h : Ht) (w : World) (hw : h.wf) (hT : Tab w) :
    Calls Tryd.prog 6 #[.agg h.cs] w fun e w' => e = .returned (.bool true) ∧ Below w.heap.size w w' :=
  fixes_c h hw  w hT
end Go.Proofs.YtlopmcakfalkpaaDoor.Pure
