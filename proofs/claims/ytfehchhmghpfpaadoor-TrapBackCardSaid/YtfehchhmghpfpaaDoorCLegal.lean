/- Is a hart legal; what set and clear begin with; the wakes. (By a program of this session.) -/
import Derived.Test.YtfehchhmghpfpaaDoorCFix
import Derived.Test.YtfehchhmghpfpaaDoorHeq
set_option linter.unusedSimpArgs false
set_option linter.unusedVariables false
namespace Go.Proofs.YtfehchhmghpfpaaDoor.Hx
open Go.RowKit Go.Proofs.YtfehchhmghpfpaaDoor.Q Go.Proofs.YtfehchhmghpfpaaDoorW.PrintWords Go.Proofs.YtfehchhmghpfpaaDoorW.PrintLast Go.Proofs.YtfehchhmghpfpaaDoorW.PrintMore Go.Proofs.YtfehchhmghpfpaaDoor.Rg

theorem exec_eqB {o : Oper} {ρ : Operand → Value} {w : World} {x y : Operand} {ty : TypeId} {h k : Ht} {b : Bool} (ho : o.op = .binOp .eql 25 x y ty) (hx : ρ x = .agg h.cs) (hy : ρ y = .agg k.cs) (hb : heq h k = b) : (execOp ρ o).run Tryd.prog w = .ok (.value (.bool b)) w := by
  rw [← hb]; exact exec_eqH ho hx hy
theorem exec_neB {o : Oper} {ρ : Operand → Value} {w : World} {x y : Operand} {ty : TypeId} {h k : Ht} {b : Bool} (ho : o.op = .binOp .neq 25 x y ty) (hx : ρ x = .agg h.cs) (hy : ρ y = .agg k.cs) (hb : (!heq h k) = b) : (execOp ρ o).run Tryd.prog w = .ok (.value (.bool b)) w := by
  rw [← hb]
  unfold execOp
  simp only [ho, hx, hy, Sem.run_bind, guardH, Result.andThen_ok, run_neH]
  rfl
def legalV (h : Ht) : Bool := heq (fix h) h
set_option maxHeartbeats 16000000 in
set_option maxRecDepth 100000 in
theorem legal_c (h : Ht) (w : World) (hT : Tab w) : Calls Tryd.prog 11 #[.agg h.cs] w fun e w' => e = .returned (.bool (legalV h)) ∧ Below w.heap.size w w' := by
  have HT := Lib.hid hT
  clear hT
  have hu25 := Tryd.underlying25
  go_enter Tryd.func11, Tryd.ntmps11
  go_upto_region 1 with (first | ((with_reducible refine gate_dst (N := 1) rfl ?_); refine box_event ?hg (N := 1) ?hd (cs := h.cs) (t := 25) ?hr ?_; (case hd => rfl); (case hg => rfl); (case hr => first | (go_simp; done) | (go_simp; rfl)); intro ga hg w_1 H1 hb; have hB_2 := Lib.hid (below_step (Below.refl w.heap.size w) hb); have G_ga := Lib.hid (show w.heap.size ≤ ga by rw [hg]; exact ((Below.refl w.heap.size w)).size); have K_ga := Lib.hid (show Hb w_1 ga h from H1); clear hg hb H1; clear hu25))
  refine start_ (n := 5) (S := fun w' => Hb w' ga h ∧ Tab w') (ds := []) #[false, false, false, false, false] (by kernel_rfl) rfl rfl ⟨K_ga.out.drew, (Tab.from HT.out (below_drew1 hB_2.out))⟩ (fun hHeld => ?_)
  replace K_ga := Lib.hid (K_ga.out.drew)
  have hB_4 := Lib.hid (below_drew1 hB_2.out)
  clear hB_2
  generalize World.drew w_1 = w_3 at K_ga hB_4 hHeld ⊢
  refine take_ (i := 0) (N := some 3) (v := .agg h.cs) (a' := ?_) #[true, false, false, false, false] rfl rfl (by kernel_rfl) (fun _ _ _ h => h) (Or.inl ⟨by rfl, ?_⟩) hHeld ?_ ?_
  · rintro w' ⟨s0, s1⟩; exact exec_load_hart rfl rfl s0
  rotate_left
  · simp only [Act.put, List.setIfInBounds_toArray, List.set_cons_zero, List.set_cons_succ, i64_w, i32_w]
    rfl
  refine take_ (i := 2) (N := some 5) (v := .agg h.cs) (a' := ?_) #[true, false, true, false, false] rfl rfl (by kernel_rfl) (fun _ _ _ h => h) (Or.inl ⟨by rfl, ?_⟩) hHeld ?_ ?_
  · rintro w' ⟨s0, s1⟩; exact exec_load_hart rfl rfl s0
  rotate_left
  · simp only [Act.put, List.setIfInBounds_toArray, List.set_cons_zero, List.set_cons_succ, i64_w, i32_w]
    rfl
  have HH := Lib.hid hHeld
  clear hHeld
  refine one_ (i := 1) (N := some 4) #[true, true, true, false, false] rfl rfl (by kernel_rfl) (by decide) (fun K hK => ?_)
  refine goes_ Tryd.func5 (by kernel_rfl) rfl #[.agg h.cs] (by rfl) rfl rfl (by simp only [List.map_toArray, List.map_cons, List.map_nil]; rfl) ?_
  with_reducible refine (fix_c h _ HH.out.2).mono ?_
  rintro e_ w_5 ⟨rfl, hb⟩
  refine ⟨_, rfl, ?_⟩
  have s_0 := Hb.below (HH.out.1) hb
  have s_1 := Tab.from (HH.out.2) hb
  replace K_ga := Lib.hid (K_ga.out.below hb)
  have hB_6 := Lib.hid (below_step hB_4.out hb)
  clear HH hb hB_4
  refine hK.out _ _ ⟨s_0, s_1⟩ (fun hHeld => ?_)
  have HH := Lib.hid hHeld
  clear hHeld s_0 s_1
  clear hK K
  refine norm_ (a' := ?_) ?_ ?_
  rotate_left
  · show Act.put _ (some 4) _ = _
    simp only [Act.put, List.setIfInBounds_toArray, List.set_cons_zero, List.set_cons_succ, i64_w, i32_w]
    rfl
  refine pure_ (i := 3) (N := some 6) (v := .bool (legalV h)) (a' := ?_) #[true, true, true, true, false] rfl rfl (by kernel_rfl) (fun _ _ _ h => h) (Or.inl ⟨by rfl, ?_⟩) ?_ ?_
  · intro w'; exact exec_eqH (h := fix h) (k := h) rfl rfl rfl
  rotate_left
  · simp only [Act.put, List.setIfInBounds_toArray, List.set_cons_zero, List.set_cons_succ, i64_w, i32_w]
    rfl
  refine pure_ (i := 4) (N := some 2) (v := ?_) (a' := ?_) #[true, true, true, true, true] rfl rfl (by kernel_rfl) (fun _ _ _ h => h) (Or.inl ⟨by rfl, ?_⟩) ?_ ?_
  rotate_left
  · intro w'
    go_simp
    with_reducible rfl
  rotate_left
  · simp only [Act.put, List.setIfInBounds_toArray, List.set_cons_zero, List.set_cons_succ, i64_w, i32_w]
    rfl
  refine done_ (by kernel_rfl) ?_
  try clear HH
  go_wp2
  go_ret
  exact ⟨rfl, hB_6.out⟩
end Go.Proofs.YtfehchhmghpfpaaDoor.Hx
