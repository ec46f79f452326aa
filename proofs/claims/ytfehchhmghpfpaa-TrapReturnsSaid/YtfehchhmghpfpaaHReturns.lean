/- The hart that comes back is the document's: of any hart. (Walked; by a program of this session.) -/
import Derived.Test.YtfehchhmghpfpaaHBase
import Derived.Test.YtfehchhmghpfpaaHWakes
import Derived.Test.YtfehchhmghpfpaaHeq
set_option linter.unusedSimpArgs false
set_option linter.unusedVariables false
namespace Go.Proofs.Ytfehchhmghpfpaa.Hx
open Go.RowKit Go.Proofs.Ytfehchhmghpfpaa.Q Go.Proofs.YtfehchhmghpfpaaW.PrintWords Go.Proofs.YtfehchhmghpfpaaW.PrintLast Go.Proofs.YtfehchhmghpfpaaW.PrintMore Go.Proofs.Ytfehchhmghpfpaa.Rg

set_option maxHeartbeats 16000000 in
set_option maxRecDepth 100000 in
theorem returns_c (h : Ht) (hw : h.wf) (w : World) : Calls Try.prog 5 #[.agg h.cs] w fun e w' => e = .returned (.bool true) ∧ Below w.heap.size w w' := by
  have hrm := rmret_c h; have hrs := rsret_c h
  rw [← mret_eq h hw] at hrm; rw [← sret_eq h hw] at hrs
  have hu25 := Try.underlying25
  go_enter Try.func5, Try.ntmps5
  go_upto_region 1 with (first | ((with_reducible refine gate_dst (N := 1) rfl ?_); refine box_event ?hg (N := 1) ?hd (cs := h.cs) (t := 25) ?hr ?_; (case hd => rfl); (case hg => rfl); (case hr => first | (go_simp; done) | (go_simp; rfl)); intro ga hg w_1 H1 hb; have hB_2 := Lib.hid (below_step (Below.refl w.heap.size w) hb); have G_ga := Lib.hid (show w.heap.size ≤ ga by rw [hg]; exact ((Below.refl w.heap.size w)).size); have K_ga := Lib.hid (show Hb w_1 ga h from H1); clear hg hb H1; clear hu25))
  refine start_ (n := 16) (S := fun w' => Hb w' ga h) (ds := []) #[false, false, false, false, false, false, false, false, false, false, false, false, false, false, false, false] (by kernel_rfl) rfl rfl (K_ga.out.drew) (fun hHeld => ?_)
  replace K_ga := Lib.hid (K_ga.out.drew)
  have hB_4 := Lib.hid (below_drew1 hB_2.out)
  clear hB_2
  generalize World.drew w_1 = w_3 at K_ga hB_4 hHeld ⊢
  refine take_ (i := 0) (N := some 3) (v := .agg h.cs) (a' := ?_) #[true, false, false, false, false, false, false, false, false, false, false, false, false, false, false, false] rfl rfl (by kernel_rfl) (fun _ _ _ h => h) (Or.inl ⟨by rfl, ?_⟩) hHeld ?_ ?_
  · intro w' s0; exact exec_load_hart rfl rfl s0
  rotate_left
  · simp only [Act.put, List.setIfInBounds_toArray, List.set_cons_zero, List.set_cons_succ, i64_w, i32_w]
    rfl
  refine take_ (i := 2) (N := some 5) (v := .agg h.cs) (a' := ?_) #[true, false, true, false, false, false, false, false, false, false, false, false, false, false, false, false] rfl rfl (by kernel_rfl) (fun _ _ _ h => h) (Or.inl ⟨by rfl, ?_⟩) hHeld ?_ ?_
  · intro w' s0; exact exec_load_hart rfl rfl s0
  rotate_left
  · simp only [Act.put, List.setIfInBounds_toArray, List.set_cons_zero, List.set_cons_succ, i64_w, i32_w]
    rfl
  have HH := Lib.hid hHeld
  clear hHeld
  refine one_ (i := 1) (N := some 4) #[true, true, true, false, false, false, false, false, false, false, false, false, false, false, false, false] rfl rfl (by kernel_rfl) (by decide) (fun K hK => ?_)
  refine goes_ Try.func11 (by kernel_rfl) rfl #[.agg h.cs] (by rfl) rfl rfl (by simp only [List.map_toArray, List.map_cons, List.map_nil]; rfl) ?_
  with_reducible refine (mret_c h _).mono ?_
  rintro e_ w_5 ⟨rfl, hb⟩
  refine ⟨_, rfl, ?_⟩
  have s_0 := Hb.below (HH.out) hb
  replace K_ga := Lib.hid (K_ga.out.below hb)
  have hB_6 := Lib.hid (below_step hB_4.out hb)
  clear HH hb hB_4
  refine hK.out _ _ (s_0) (fun hHeld => ?_)
  have HH := Lib.hid hHeld
  clear hHeld s_0
  clear hK K
  refine norm_ (a' := ?_) ?_ ?_
  rotate_left
  · show Act.put _ (some 4) _ = _
    simp only [Act.put, List.setIfInBounds_toArray, List.set_cons_zero, List.set_cons_succ, i64_w, i32_w]
    rfl
  refine one_ (i := 3) (N := some 6) #[true, true, true, true, false, false, false, false, false, false, false, false, false, false, false, false] rfl rfl (by kernel_rfl) (by decide) (fun K hK => ?_)
  refine goes_ Try.func12 (by kernel_rfl) rfl #[.agg h.cs] (by rfl) rfl rfl (by simp only [List.map_toArray, List.map_cons, List.map_nil]; rfl) ?_
  with_reducible refine (hrm _).mono ?_
  rintro e_ w_7 ⟨rfl, hb⟩
  refine ⟨_, rfl, ?_⟩
  have s_0 := Hb.below (HH.out) hb
  replace K_ga := Lib.hid (K_ga.out.below hb)
  have hB_8 := Lib.hid (below_step hB_6.out hb)
  clear HH hb hB_6
  refine hK.out _ _ (s_0) (fun hHeld => ?_)
  have HH := Lib.hid hHeld
  clear hHeld s_0
  clear hK K
  refine norm_ (a' := ?_) ?_ ?_
  rotate_left
  · show Act.put _ (some 6) _ = _
    simp only [Act.put, List.setIfInBounds_toArray, List.set_cons_zero, List.set_cons_succ, i64_w, i32_w]
    rfl
  refine pure_ (i := 4) (N := some 7) (v := .bool true) (a' := ?_) #[true, true, true, true, true, false, false, false, false, false, false, false, false, false, false, false] rfl rfl (by kernel_rfl) (fun _ _ _ h => h) (Or.inl ⟨by rfl, ?_⟩) ?_ ?_
  · intro w'; exact exec_eqT (h := mret h) rfl rfl rfl
  rotate_left
  · simp only [Act.put, List.setIfInBounds_toArray, List.set_cons_zero, List.set_cons_succ, i64_w, i32_w]
    rfl
  refine pure_ (i := 5) (N := some 8) (v := ?_) (a' := ?_) #[true, true, true, true, true, true, false, false, false, false, false, false, false, false, false, false] rfl rfl (by kernel_rfl) (fun _ _ _ h => h) (Or.inl ⟨by rfl, ?_⟩) ?_ ?_
  rotate_left
  · intro w'
    go_simp
    with_reducible rfl
  rotate_left
  · simp only [Act.put, List.setIfInBounds_toArray, List.set_cons_zero, List.set_cons_succ, i64_w, i32_w]
    rfl
  refine take_ (i := 6) (N := some 9) (v := .agg h.cs) (a' := ?_) #[true, true, true, true, true, true, true, false, false, false, false, false, false, false, false, false] rfl rfl (by kernel_rfl) (fun _ _ _ h => h) (Or.inl ⟨by rfl, ?_⟩) HH.out ?_ ?_
  · intro w' s0; exact exec_load_hart rfl rfl s0
  rotate_left
  · simp only [Act.put, List.setIfInBounds_toArray, List.set_cons_zero, List.set_cons_succ, i64_w, i32_w]
    rfl
  refine take_ (i := 8) (N := some 11) (v := .agg h.cs) (a' := ?_) #[true, true, true, true, true, true, true, false, true, false, false, false, false, false, false, false] rfl rfl (by kernel_rfl) (fun _ _ _ h => h) (Or.inl ⟨by rfl, ?_⟩) HH.out ?_ ?_
  · intro w' s0; exact exec_load_hart rfl rfl s0
  rotate_left
  · simp only [Act.put, List.setIfInBounds_toArray, List.set_cons_zero, List.set_cons_succ, i64_w, i32_w]
    rfl
  refine one_ (i := 7) (N := some 10) #[true, true, true, true, true, true, true, true, true, false, false, false, false, false, false, false] rfl rfl (by kernel_rfl) (by decide) (fun K hK => ?_)
  refine goes_ Try.func13 (by kernel_rfl) rfl #[.agg h.cs] (by rfl) rfl rfl (by simp only [List.map_toArray, List.map_cons, List.map_nil]; rfl) ?_
  with_reducible refine (sret_c h _).mono ?_
  rintro e_ w_9 ⟨rfl, hb⟩
  refine ⟨_, rfl, ?_⟩
  have s_0 := Hb.below (HH.out) hb
  replace K_ga := Lib.hid (K_ga.out.below hb)
  have hB_10 := Lib.hid (below_step hB_8.out hb)
  clear HH hb hB_8
  refine hK.out _ _ (s_0) (fun hHeld => ?_)
  have HH := Lib.hid hHeld
  clear hHeld s_0
  clear hK K
  refine norm_ (a' := ?_) ?_ ?_
  rotate_left
  · show Act.put _ (some 10) _ = _
    simp only [Act.put, List.setIfInBounds_toArray, List.set_cons_zero, List.set_cons_succ, i64_w, i32_w]
    rfl
  refine one_ (i := 9) (N := some 12) #[true, true, true, true, true, true, true, true, true, true, false, false, false, false, false, false] rfl rfl (by kernel_rfl) (by decide) (fun K hK => ?_)
  refine goes_ Try.func14 (by kernel_rfl) rfl #[.agg h.cs] (by rfl) rfl rfl (by simp only [List.map_toArray, List.map_cons, List.map_nil]; rfl) ?_
  with_reducible refine (hrs _).mono ?_
  rintro e_ w_11 ⟨rfl, hb⟩
  refine ⟨_, rfl, ?_⟩
  have s_0 := Hb.below (HH.out) hb
  replace K_ga := Lib.hid (K_ga.out.below hb)
  have hB_12 := Lib.hid (below_step hB_10.out hb)
  clear HH hb hB_10
  refine hK.out _ _ (s_0) (fun hHeld => ?_)
  have HH := Lib.hid hHeld
  clear hHeld s_0
  clear hK K
  refine norm_ (a' := ?_) ?_ ?_
  rotate_left
  · show Act.put _ (some 12) _ = _
    simp only [Act.put, List.setIfInBounds_toArray, List.set_cons_zero, List.set_cons_succ, i64_w, i32_w]
    rfl
  refine pure_ (i := 10) (N := some 13) (v := .bool true) (a' := ?_) #[true, true, true, true, true, true, true, true, true, true, true, false, false, false, false, false] rfl rfl (by kernel_rfl) (fun _ _ _ h => h) (Or.inl ⟨by rfl, ?_⟩) ?_ ?_
  · intro w'; exact exec_eqT (h := sret h) rfl rfl rfl
  rotate_left
  · simp only [Act.put, List.setIfInBounds_toArray, List.set_cons_zero, List.set_cons_succ, i64_w, i32_w]
    rfl
  refine pure_ (i := 11) (N := some 14) (v := ?_) (a' := ?_) #[true, true, true, true, true, true, true, true, true, true, true, true, false, false, false, false] rfl rfl (by kernel_rfl) (fun _ _ _ h => h) (Or.inl ⟨by rfl, ?_⟩) ?_ ?_
  rotate_left
  · intro w'
    go_simp
    with_reducible rfl
  rotate_left
  · simp only [Act.put, List.setIfInBounds_toArray, List.set_cons_zero, List.set_cons_succ, i64_w, i32_w]
    rfl
  refine pure_ (i := 12) (N := some 15) (v := ?_) (a' := ?_) #[true, true, true, true, true, true, true, true, true, true, true, true, true, false, false, false] rfl rfl (by kernel_rfl) (fun _ _ _ h => h) (Or.inl ⟨by rfl, ?_⟩) ?_ ?_
  rotate_left
  · intro w'
    go_simp
    with_reducible rfl
  rotate_left
  · simp only [Act.put, List.setIfInBounds_toArray, List.set_cons_zero, List.set_cons_succ, i64_w, i32_w]
    rfl
  refine one_ (i := 13) (N := some 16) #[true, true, true, true, true, true, true, true, true, true, true, true, true, true, false, false] rfl rfl (by kernel_rfl) (by decide) (fun K hK => ?_)
  refine goes_ Try.func10 (by kernel_rfl) rfl #[] (by rfl) rfl rfl (by simp) ?_
  with_reducible refine (wakes_c _).mono ?_
  rintro e_ w_13 ⟨rfl, hb⟩
  refine ⟨_, rfl, ?_⟩
  have s_0 := Hb.below (HH.out) hb
  replace K_ga := Lib.hid (K_ga.out.below hb)
  have hB_14 := Lib.hid (below_step hB_12.out hb)
  clear HH hb hB_12
  refine hK.out _ _ (s_0) (fun hHeld => ?_)
  have HH := Lib.hid hHeld
  clear hHeld s_0
  clear hK K
  refine norm_ (a' := ?_) ?_ ?_
  rotate_left
  · show Act.put _ (some 16) _ = _
    simp only [Act.put, List.setIfInBounds_toArray, List.set_cons_zero, List.set_cons_succ, i64_w, i32_w]
    rfl
  refine pure_ (i := 14) (N := some 17) (v := ?_) (a' := ?_) #[true, true, true, true, true, true, true, true, true, true, true, true, true, true, true, false] rfl rfl (by kernel_rfl) (fun _ _ _ h => h) (Or.inl ⟨by rfl, ?_⟩) ?_ ?_
  rotate_left
  · intro w'
    go_simp
    with_reducible rfl
  rotate_left
  · simp only [Act.put, List.setIfInBounds_toArray, List.set_cons_zero, List.set_cons_succ, i64_w, i32_w]
    rfl
  refine pure_ (i := 15) (N := some 2) (v := ?_) (a' := ?_) #[true, true, true, true, true, true, true, true, true, true, true, true, true, true, true, true] rfl rfl (by kernel_rfl) (fun _ _ _ h => h) (Or.inl ⟨by rfl, ?_⟩) ?_ ?_
  rotate_left
  · intro w'
    go_simp
    with_reducible rfl
  rotate_left
  · simp only [Act.put, List.setIfInBounds_toArray, List.set_cons_zero, List.set_cons_succ, i64_w, i32_w]
    rfl
  refine done_ (by kernel_rfl) ?_
  try clear HH
  go_wp2
  go_ret
  exact ⟨rfl, hB_14.out⟩
end Go.Proofs.Ytfehchhmghpfpaa.Hx
