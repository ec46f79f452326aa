/- Is a hart legal; what set and clear begin with; the wakes. (By a program of this session.) -/
import Derived.Test.YtlopmcakfalkpaaDoorCFix
import Derived.Test.YtlopmcakfalkpaaDoorCWrite
import Derived.Test.YtlopmcakfalkpaaDoorHeq
set_option linter.unusedSimpArgs false
set_option linter.unusedVariables false
namespace Go.Proofs.YtlopmcakfalkpaaDoor.Hx
open Go.RowKit Go.Proofs.YtlopmcakfalkpaaDoor.Q Go.Proofs.YtlopmcakfalkpaaDoorW.PrintWords Go.Proofs.YtlopmcakfalkpaaDoorW.PrintLast Go.Proofs.YtlopmcakfalkpaaDoorW.PrintMore Go.Proofs.YtlopmcakfalkpaaDoor.Rg

theorem exec_eqB {o : Oper} {ρ : Operand → Value} {w : World} {x y : Operand} {ty : TypeId} {h k : Ht} {b : Bool} (ho : o.op = .binOp .eql 25 x y ty) (hx : ρ x = .agg h.cs) (hy : ρ y = .agg k.cs) (hb : heq h k = b) : (execOp ρ o).run Tryd.prog w = .ok (.value (.bool b)) w := by
  rw [← hb]; exact exec_eqH ho hx hy
theorem exec_neB {o : Oper} {ρ : Operand → Value} {w : World} {x y : Operand} {ty : TypeId} {h k : Ht} {b : Bool} (ho : o.op = .binOp .neq 25 x y ty) (hx : ρ x = .agg h.cs) (hy : ρ y = .agg k.cs) (hb : (!heq h k) = b) : (execOp ρ o).run Tryd.prog w = .ok (.value (.bool b)) w := by
  rw [← hb]
  unfold execOp
  simp only [ho, hx, hy, Sem.run_bind, guardH, Result.andThen_ok, run_neH]
  rfl
def legalV (h : Ht) : Bool := heq (fix h) h
def baseV (h : Ht) (la lb lc ld : Bool) (lg lt : Int) (no : Int) : Int := if no = 836 then readV h la lb lc false lg lt no else readV h la lb lc ld lg lt no
set_option maxHeartbeats 16000000 in
set_option maxRecDepth 100000 in
theorem legal_c (h : Ht) (w : World) (hT : Tab w) : Calls Tryd.prog 22 #[.agg h.cs] w fun e w' => e = .returned (.bool (legalV h)) ∧ Below w.heap.size w w' := by
  have HT := Lib.hid hT
  clear hT
  have hu25 := Tryd.underlying25
  go_enter Tryd.func22, Tryd.ntmps22
  go_upto_region 1 with (first | ((with_reducible refine gate_dst (N := 1) rfl ?_); refine box_event ?hg (N := 1) ?hd (cs := h.cs) (t := 25) ?hr ?_; (case hd => rfl); (case hg => rfl); (case hr => first | (go_simp; done) | (go_simp; rfl)); intro ga hg w_1 H1 hb; have hB_2 := Lib.hid (below_step (Below.refl w.heap.size w) hb); have G_ga := Lib.hid (show w.heap.size ≤ ga by rw [hg]; exact ((Below.refl w.heap.size w)).size); have K_ga := Lib.hid (show Hb w_1 ga h from H1); clear hg hb H1; clear hu25))
  refine start_ (n := 5) (S := fun w' => Hb w' ga h ∧ Tab w') (ds := []) #[false, false, false, false, false] (by kernel_rfl) rfl rfl ⟨K_ga.out.drew, (Tab.from HT.out (below_drew1 hB_2.out))⟩ (fun hHeld => ?_)
  replace K_ga := Lib.hid (K_ga.out.drew)
  have hB_4 := Lib.hid (below_drew1 hB_2.out)
  clear hB_2
  generalize World.drew w_1 = w_3 at K_ga hB_4 hHeld ⊢
  refine take_ (i := 0) (N := some 3) (v := .agg h.cs) (a' := ?_) #[true, false, false, false, false] rfl rfl (by kernel_rfl) (fun _ _ _ h => h) (Or.inl ⟨by rfl, ?_⟩) hHeld ?_ ?_
  · rintro w' ⟨s0, s1⟩; exact exec_load_hart rfl rfl s0
  rotate_left
  · simp only [Act.put, List.setIfInBounds_toArray, List.set_cons_zero, List.set_cons_succ, i64_w, i32_w]
    rfl
  refine take_ (i := 2) (N := some 5) (v := .agg h.cs) (a' := ?_) #[true, false, true, false, false] rfl rfl (by kernel_rfl) (fun _ _ _ h => h) (Or.inl ⟨by rfl, ?_⟩) hHeld ?_ ?_
  · rintro w' ⟨s0, s1⟩; exact exec_load_hart rfl rfl s0
  rotate_left
  · simp only [Act.put, List.setIfInBounds_toArray, List.set_cons_zero, List.set_cons_succ, i64_w, i32_w]
    rfl
  have HH := Lib.hid hHeld
  clear hHeld
  refine one_ (i := 1) (N := some 4) #[true, true, true, false, false] rfl rfl (by kernel_rfl) (by decide) (fun K hK => ?_)
  refine goes_ Tryd.func18 (by kernel_rfl) rfl #[.agg h.cs] (by rfl) rfl rfl (by simp only [List.map_toArray, List.map_cons, List.map_nil]; rfl) ?_
  with_reducible refine (fix_c h _ HH.out.2).mono ?_
  rintro e_ w_5 ⟨rfl, hb⟩
  refine ⟨_, rfl, ?_⟩
  have s_0 := Hb.below (HH.out.1) hb
  have s_1 := Tab.from (HH.out.2) hb
  replace K_ga := Lib.hid (K_ga.out.below hb)
  have hB_6 := Lib.hid (below_step hB_4.out hb)
  clear HH hb hB_4
  refine hK.out _ _ ⟨s_0, s_1⟩ (fun hHeld => ?_)
  have HH := Lib.hid hHeld
  clear hHeld s_0 s_1
  clear hK K
  refine norm_ (a' := ?_) ?_ ?_
  rotate_left
  · show Act.put _ (some 4) _ = _
    simp only [Act.put, List.setIfInBounds_toArray, List.set_cons_zero, List.set_cons_succ, i64_w, i32_w]
    rfl
  refine pure_ (i := 3) (N := some 6) (v := .bool (legalV h)) (a' := ?_) #[true, true, true, true, false] rfl rfl (by kernel_rfl) (fun _ _ _ h => h) (Or.inl ⟨by rfl, ?_⟩) ?_ ?_
  · intro w'; exact exec_eqH (h := fix h) (k := h) rfl rfl rfl
  rotate_left
  · simp only [Act.put, List.setIfInBounds_toArray, List.set_cons_zero, List.set_cons_succ, i64_w, i32_w]
    rfl
  refine pure_ (i := 4) (N := some 2) (v := ?_) (a' := ?_) #[true, true, true, true, true] rfl rfl (by kernel_rfl) (fun _ _ _ h => h) (Or.inl ⟨by rfl, ?_⟩) ?_ ?_
  rotate_left
  · intro w'
    go_simp
    with_reducible rfl
  rotate_left
  · simp only [Act.put, List.setIfInBounds_toArray, List.set_cons_zero, List.set_cons_succ, i64_w, i32_w]
    rfl
  refine done_ (by kernel_rfl) ?_
  try clear HH
  go_wp2
  go_ret
  exact ⟨rfl, hB_6.out⟩
set_option maxHeartbeats 16000000 in
set_option maxRecDepth 100000 in
theorem base_c (h : Ht) (la lb lc ld : Bool) (lg lt : Int) (no : Int) (w : World) : Calls Tryd.prog 15 #[.agg h.cs, .agg #[.bool la, .bool lb, .bool lc, .bool ld, .int .u64 lg, .int .u64 lt], .int .i64 no] w fun e w' => e = .returned (.int .u64 (baseV h la lb lc ld lg lt no)) ∧ Below w.heap.size w w' := by
  have HR := Lib.hid (fun d => read_c h la lb lc d lg lt no)
  unfold baseV
  by_cases h_836 : no = 836
  · subst h_836
    rw [if_pos rfl]
    have hu25 := Tryd.underlying25; have hu27 := Tryd.underlying27
    go_enter Tryd.func15, Tryd.ntmps15
    go_upto_region 3 with (first | ((with_reducible refine gate_dst (N := 3) rfl ?_); refine box_event ?hg (N := 3) ?hd (cs := h.cs) (t := 25) ?hr ?_; (case hd => rfl); (case hg => rfl); (case hr => first | (go_simp; done) | (go_simp; rfl)); intro ga hg w_1 H1 hb; have hB_2 := Lib.hid (below_step (Below.refl w.heap.size w) hb); have G_ga := Lib.hid (show w.heap.size ≤ ga by rw [hg]; exact ((Below.refl w.heap.size w)).size); have K_ga := Lib.hid (show Hb w_1 ga h from H1); clear hg hb H1) | ((with_reducible refine gate_dst (N := 4) rfl ?_); refine box_event ?hg (N := 4) ?hd (cs := #[.bool la, .bool lb, .bool lc, .bool ld, .int .u64 lg, .int .u64 lt]) (t := 27) ?hr ?_; (case hd => rfl); (case hg => rfl); (case hr => first | (go_simp; done) | (go_simp; rfl)); intro gt hg w_3 H1 hb; have hB_4 := Lib.hid (below_step hB_2.out hb); have G_gt := Lib.hid (show w.heap.size ≤ gt by rw [hg]; exact (hB_2.out).size); have N_ga_gt := Lib.hid (show ga ≠ gt by rw [hg]; exact Nat.ne_of_lt (K_ga.out.lt)); replace K_ga := Lib.hid (K_ga.out.below hb); have K_gt := Lib.hid (show w_3.heap[gt]? = some (.cells #[.bool la, .bool lb, .bool lc, .bool ld, .int .u64 lg, .int .u64 lt] 27 (0, 0)) from H1); clear hg hb H1 hB_2; have c_gt_3 := (show World.cell? _ ⟨gt, 3, none⟩ = some (.bool ld) from (blk_cell K_gt.out 3).trans rfl); have f_gt_3 := blk_frozen K_gt.out 3; clear hu25 hu27))
    refine wp_region_list ?_
    refine load_hart (h := h) rfl (.tmp 3) rfl ga rfl (by repeat (with_reducible first | exact K_ga.out | apply Hb.put | apply Hb.putP | apply Hb.putV | apply Hb.putW | apply Hb.putH | apply Hb.far N_ga_gt.out | apply Hb.drewN | apply Hb.drew)) ?_
    refine wpList_load_row rfl 27 (.tmp 4) rfl gt rfl 27 #[.bool la, .bool lb, .bool lc, .bool false, .int .u64 lg, .int .u64 lt] (0, 0) _ (blk_put K_gt.out 3 _ rfl) Tryd.underlying27 rfl (by kernel_rfl) ?_
    go_wp2_with fail
    refine (HR.out false _).mono ?_
    rintro e1 w1 ⟨rfl, hb⟩
    have hB9 := below_step (by repeat (first | (with_reducible first | exact hB_4.out | apply pw_below_drewN | apply below_drew1 | refine below_set ?_ G_ga.out | refine below_set ?_ G_gt.out) | exact hB_4.out)) hb
    go_wp2
    go_ret
    exact ⟨rfl, hB9⟩
  · rw [if_neg h_836]
    have e_836 : (no == 836) = false := beq_eq_false_iff_ne.2 h_836
    clear h_836
    have hu25 := Tryd.underlying25; have hu27 := Tryd.underlying27
    go_enter Tryd.func15, Tryd.ntmps15
    go_upto_region 3 with (first | ((with_reducible refine gate_dst (N := 3) rfl ?_); refine box_event ?hg (N := 3) ?hd (cs := h.cs) (t := 25) ?hr ?_; (case hd => rfl); (case hg => rfl); (case hr => first | (go_simp; done) | (go_simp; rfl)); intro ga hg w_1 H1 hb; have hB_2 := Lib.hid (below_step (Below.refl w.heap.size w) hb); have G_ga := Lib.hid (show w.heap.size ≤ ga by rw [hg]; exact ((Below.refl w.heap.size w)).size); have K_ga := Lib.hid (show Hb w_1 ga h from H1); clear hg hb H1) | ((with_reducible refine gate_dst (N := 4) rfl ?_); refine box_event ?hg (N := 4) ?hd (cs := #[.bool la, .bool lb, .bool lc, .bool ld, .int .u64 lg, .int .u64 lt]) (t := 27) ?hr ?_; (case hd => rfl); (case hg => rfl); (case hr => first | (go_simp; done) | (go_simp; rfl)); intro gt hg w_3 H1 hb; have hB_4 := Lib.hid (below_step hB_2.out hb); have G_gt := Lib.hid (show w.heap.size ≤ gt by rw [hg]; exact (hB_2.out).size); have N_ga_gt := Lib.hid (show ga ≠ gt by rw [hg]; exact Nat.ne_of_lt (K_ga.out.lt)); replace K_ga := Lib.hid (K_ga.out.below hb); have K_gt := Lib.hid (show w_3.heap[gt]? = some (.cells #[.bool la, .bool lb, .bool lc, .bool ld, .int .u64 lg, .int .u64 lt] 27 (0, 0)) from H1); clear hg hb H1 hB_2; have c_gt_3 := (show World.cell? _ ⟨gt, 3, none⟩ = some (.bool ld) from (blk_cell K_gt.out 3).trans rfl); have f_gt_3 := blk_frozen K_gt.out 3; clear hu25 hu27))
    refine wp_region_list ?_
    refine load_hart (h := h) rfl (.tmp 3) rfl ga rfl (by repeat (with_reducible first | exact K_ga.out | apply Hb.put | apply Hb.putP | apply Hb.putV | apply Hb.putW | apply Hb.putH | apply Hb.far N_ga_gt.out | apply Hb.drewN | apply Hb.drew)) ?_
    refine wpList_load_row rfl 27 (.tmp 4) rfl gt rfl 27 #[.bool la, .bool lb, .bool lc, .bool ld, .int .u64 lg, .int .u64 lt] (0, 0) _ K_gt.out Tryd.underlying27 rfl (by kernel_rfl) ?_
    go_wp2_with fail
    refine (HR.out ld _).mono ?_
    rintro e1 w1 ⟨rfl, hb⟩
    have hB9 := below_step (by repeat (first | (with_reducible first | exact hB_4.out | apply pw_below_drewN | apply below_drew1 | refine below_set ?_ G_ga.out | refine below_set ?_ G_gt.out) | exact hB_4.out)) hb
    go_wp2
    go_ret
    exact ⟨rfl, hB9⟩
end Go.Proofs.YtlopmcakfalkpaaDoor.Hx
