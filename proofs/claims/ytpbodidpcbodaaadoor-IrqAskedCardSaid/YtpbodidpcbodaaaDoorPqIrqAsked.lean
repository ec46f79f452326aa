/- What is taken is pending, and asked for; where nothing asks nothing is taken. (By a program of this session.) -/
import Derived.Test.YtpbodidpcbodaaaDoorIWakes
import Derived.Test.YtpbodidpcbodaaaDoorIPlain
import Derived.Test.YtpbodidpcbodaaaDoorHrow
set_option linter.unusedSimpArgs false
set_option linter.unusedVariables false
namespace Go.Proofs.YtpbodidpcbodaaaDoor.Hx
open Go.Proofs.YtpbodidpcbodaaaDoor.Bv Go.RowKit Go.Proofs.YtpbodidpcbodaaaDoor.Q Go.Proofs.YtpbodidpcbodaaaDoorW.PrintWords Go.Proofs.YtpbodidpcbodaaaDoorW.PrintLast Go.Proofs.YtpbodidpcbodaaaDoorW.PrintMore Go.Proofs.YtpbodidpcbodaaaDoor.Rg

/-- Are two traps the same? -/
def teq (ai : Bool) (ac av av2 an : Int) (ag : Bool) (bi : Bool) (bc bv bv2 bn : Int) (bg : Bool) : Bool := (ai == bi) && ((ac == bc) && ((av == bv) && ((av2 == bv2) && ((an == bn) && (ag == bg)))))
theorem teq_self (ai : Bool) (ac av av2 an : Int) (ag : Bool) : teq ai ac av av2 an ag ai ac av av2 an ag = true := by simp [teq]
set_option maxHeartbeats 4000000 in
set_option maxRecDepth 100000 in
theorem eqTr (d : Nat) (w : World) (ai : Bool) (ac av av2 an : Int) (ag : Bool) (bi : Bool) (bc bv bv2 bn : Int) (bg : Bool) :
    (Op.equalIn (d + 4) 29 (.agg #[.bool ai, .int .u64 ac, .int .u64 av, .int .u64 av2, .int .u64 an, .bool ag]) (.agg #[.bool bi, .int .u64 bc, .int .u64 bv, .int .u64 bv2, .int .u64 bn, .bool bg])).run Tryd.prog w = .ok (teq ai ac av av2 an ag bi bc bv bv2 bn bg) w := by
  refine eqA_of Tryd.underlying29 (by kernel_rfl) ?_
  refine eqf_cons (by rfl) (a := .bool ai) (b := .bool bi) (partB (by rfl)) (partB (by rfl)) (run_equalIn_bool w (d + 2) _ _ _ Tryd.underlying4) ?_
  refine eqf_cons (by rfl) (a := .int .u64 ac) (b := .int .u64 bc) (partU (by rfl)) (partU (by rfl)) (run_equalIn_int w (d + 2) _ .u64 .u64 _ _ Tryd.underlying22) ?_
  refine eqf_cons (by rfl) (a := .int .u64 av) (b := .int .u64 bv) (partU (by rfl)) (partU (by rfl)) (run_equalIn_int w (d + 2) _ .u64 .u64 _ _ Tryd.underlying22) ?_
  refine eqf_cons (by rfl) (a := .int .u64 av2) (b := .int .u64 bv2) (partU (by rfl)) (partU (by rfl)) (run_equalIn_int w (d + 2) _ .u64 .u64 _ _ Tryd.underlying22) ?_
  refine eqf_cons (by rfl) (a := .int .u64 an) (b := .int .u64 bn) (partU (by rfl)) (partU (by rfl)) (run_equalIn_int w (d + 2) _ .u64 .u64 _ _ Tryd.underlying22) ?_
  exact eqf_last (by rfl) (a := .bool ag) (b := .bool bg) (partB (by rfl)) (partB (by rfl)) (run_equalIn_bool w (d + 2) _ _ _ Tryd.underlying4)
theorem guardT (op : BinOp) (x y : Operand) (a b : Array Value) (W : World) : (eqGuard op 29 x y (.agg a) (.agg b)).run Tryd.prog W = .ok () W :=
  run_eqGuard_agg W op _ x y _ _ (by kernel_rfl)
theorem exec_teq {o : Oper} {ρ : Operand → Value} {w : World} {x y : Operand} {ty : TypeId} {ai : Bool} {ac av av2 an : Int} {ag : Bool} {bi : Bool} {bc bv bv2 bn : Int} {bg : Bool} {r : Bool} (ho : o.op = .binOp .eql 29 x y ty)
    (hx : ρ x = .agg #[.bool ai, .int .u64 ac, .int .u64 av, .int .u64 av2, .int .u64 an, .bool ag]) (hy : ρ y = .agg #[.bool bi, .int .u64 bc, .int .u64 bv, .int .u64 bv2, .int .u64 bn, .bool bg])
    (hr : teq ai ac av av2 an ag bi bc bv bv2 bn bg = r) : (execOp ρ o).run Tryd.prog w = .ok (.value (.bool r)) w := by
  subst hr
  unfold execOp
  simp only [ho, hx, hy, Sem.run_bind, guardT, Sem.run_pure, Result.andThen_ok, binOp]
  simp [show (Op.equal 29 (.agg #[.bool ai, .int .u64 ac, .int .u64 av, .int .u64 av2, .int .u64 an, .bool ag]) (.agg #[.bool bi, .int .u64 bc, .int .u64 bv, .int .u64 bv2, .int .u64 bn, .bool bg])).run Tryd.prog w = .ok (teq ai ac av av2 an ag bi bc bv bv2 bn bg) w from eqTr 9996 w ai ac av av2 an ag bi bc bv bv2 bn bg]
theorem exec_tne {o : Oper} {ρ : Operand → Value} {w : World} {x y : Operand} {ty : TypeId} {ai : Bool} {ac av av2 an : Int} {ag : Bool} {bi : Bool} {bc bv bv2 bn : Int} {bg : Bool} {r : Bool} (ho : o.op = .binOp .neq 29 x y ty)
    (hx : ρ x = .agg #[.bool ai, .int .u64 ac, .int .u64 av, .int .u64 av2, .int .u64 an, .bool ag]) (hy : ρ y = .agg #[.bool bi, .int .u64 bc, .int .u64 bv, .int .u64 bv2, .int .u64 bn, .bool bg])
    (hr : (!teq ai ac av av2 an ag bi bc bv bv2 bn bg) = r) : (execOp ρ o).run Tryd.prog w = .ok (.value (.bool r)) w := by
  subst hr
  unfold execOp
  simp only [ho, hx, hy, Sem.run_bind, guardT, Sem.run_pure, Result.andThen_ok, binOp]
  simp [show (Op.equal 29 (.agg #[.bool ai, .int .u64 ac, .int .u64 av, .int .u64 av2, .int .u64 an, .bool ag]) (.agg #[.bool bi, .int .u64 bc, .int .u64 bv, .int .u64 bv2, .int .u64 bn, .bool bg])).run Tryd.prog w = .ok (teq ai ac av av2 an ag bi bc bv bv2 bn bg) w from eqTr 9996 w ai ac av av2 an ag bi bc bv bv2 bn bg]
theorem asksV_range (h : Ht) (la lb lc ld : Bool) (lg lt : Int) : 0 ≤ asksV h la lb lc ld lg lt ∧ asksV h la lb lc ld lg lt < 18446744073709551616 := by unfold asksV; rw [and_u64]; exact U_range _
theorem trapS (m : Nat) (hm : m < 64) : trapV (some (m : Int)) = #[.bool true, .int .u64 (9223372036854775808 + (m : Int)), .int .u64 0, .int .u64 0, .int .u64 0, .bool false] := by
  show #[_, Value.int .u64 (Go.bits .or .u64 9223372036854775808 (IntKind.u64.wrap (m : Int))), _, _, _, _] = _
  rw [(cause_word m hm).1]
theorem bit_eq1 (a : Int) (ha : 0 ≤ a ∧ a < 18446744073709551616) (m : Nat) (hm : m < 64) : (Go.bits .and .u64 (a / 2 ^ m) 1 == 1) = g a m ∧ (Go.bits .and .u64 (a / 2 ^ m) 1 == 0) = !g a m := by
  have e : a / 2 ^ m = shr .u64 a (m : Int) := by
    unfold shr; rw [Int.toNat_natCast, show IntKind.u64.bits = 64 from rfl, Nat.min_eq_left (by omega)]
  rw [e, shr_bit a ha m hm]; cases g a m <;> exact ⟨rfl, rfl⟩
theorem level_of {h : Ht} {av z : Int} (hn : nextO h av = some z) : ∃ m : Nat, z = m ∧ m < 64 ∧ ((openV h 0 = true ∧ g (levelV h av 0) m = true) ∨ (candV h av 0 = none ∧ openV h 1 = true ∧ g (levelV h av 1) m = true) ∨ (candV h av 0 = none ∧ openV h 2 = true ∧ g (levelV h av 2) m = true)) := by
  rcases nextO_some hn with h0 | ⟨h0, h1⟩ | ⟨h0, h1, h2⟩
  · obtain ⟨ho, m, e, hm, hg, _⟩ := candV_some h0; exact ⟨m, e, hm, .inl ⟨ho, hg⟩⟩
  · obtain ⟨ho, m, e, hm, hg, _⟩ := candV_some h1; exact ⟨m, e, hm, .inr (.inl ⟨h0, ho, hg⟩)⟩
  · obtain ⟨ho, m, e, hm, hg, _⟩ := candV_some h2; exact ⟨m, e, hm, .inr (.inr ⟨h0, ho, hg⟩)⟩
theorem asked_law (h : Ht) (hw : h.wf) (av : Int) (hav : 0 ≤ av ∧ av < 18446744073709551616) (z : Int) (hn : nextO h av = some z) : ∃ m : Nat, z = m ∧ m < 64 ∧ (Go.bits .and .u64 (av / 2 ^ m) 1 == 0) = false ∧
    ((h.x 33 == 3) = false ∨ ((h.x 33 == 3) = true ∧ (Go.bits .and .u64 (h.x 38 / 8) 1 == 0) = false ∧ (Go.bits .and .u64 (h.x 40 / 2 ^ m) 1 == 1) = false)) := by
  obtain ⟨m, rfl, hm, hk⟩ := level_of hn
  obtain ⟨l0, l1, l2⟩ := g_level h av m hm
  refine ⟨m, rfl, hm, ?_, ?_⟩
  · rw [(bit_eq1 av hav m hm).2]
    have : g av m = true := by
      rcases hk with ⟨_, hg⟩ | ⟨_, _, hg⟩ | ⟨_, _, hg⟩
      · rw [l0] at hg; exact ((Bool.and_eq_true _ _).mp hg).1
      · rw [l1] at hg; exact ((Bool.and_eq_true _ _).mp ((Bool.and_eq_true _ _).mp hg).1).1
      · rw [l2] at hg; exact ((Bool.and_eq_true _ _).mp ((Bool.and_eq_true _ _).mp hg).1).1
    rw [this]; rfl
  · by_cases hp : h.x 33 = 3
    · refine .inr ⟨by simpa using hp, ?_⟩
      rcases hk with ⟨ho, hg⟩ | ⟨_, ho, _⟩ | ⟨_, ho, _⟩
      · refine ⟨?_, ?_⟩
        · have h3 : onI (h.x 38) 3 = true := by unfold openV at ho; simpa [hp] using ho
          rw [show (8 : Int) = 2 ^ 3 from rfl, (bit_eq1 (h.x 38) (hw.1 38) 3 (by decide)).2, ← onI_bit (h.x 38) (hw.1 38) 3 (by decide)]
          rw [show ((3 : Nat) : Int) = 3 from rfl, h3]; rfl
        · rw [(bit_eq1 (h.x 40) (hw.1 40) m hm).1]
          rw [l0] at hg; simpa using ((Bool.and_eq_true _ _).mp hg).2
      · unfold openV at ho; simp [hp] at ho
      · unfold openV at ho; simp [hp] at ho
    · exact .inl (by simpa using hp)

set_option maxHeartbeats 16000000 in
set_option maxRecDepth 100000 in
theorem asked_c (h : Ht) (hw : h.wf) (la lb lc ld : Bool) (lg lt : Int) (w : World) (hT : Tab w) (hZ : TabZ w) : Calls Tryd.prog 6 #[.agg h.cs, .agg #[.bool la, .bool lb, .bool lc, .bool ld, .int .u64 lg, .int .u64 lt]] w fun e w' => e = .returned (.bool true) ∧ Below w.heap.size w w' := by
  have HN := next_c h la lb lc ld lg lt
  have hA := asks_c h la lb lc ld lg lt
  have hV := wakesV_c h la lb lc ld lg lt
  have HP := Lib.hid (pending_c h la lb lc ld lg lt)
  have hav := asksV_range h la lb lc ld lg lt
  have HT := Lib.hid hT; have HZ := Lib.hid hZ; clear hT hZ
  have easks : asksV h la lb lc ld lg lt = Go.bits .and .u64 (pendV h la lb lc ld lg lt) (h.x 41) := rfl
  generalize asksV h la lb lc ld lg lt = av at *
  generalize pendV h la lb lc ld lg lt = pv at *
  have HA := Lib.hid hA; have HV := Lib.hid hV; clear hA hV
  have hne1 : (av != Go.bits .and .u64 pv (h.x 41)) = false := by rw [easks]; simp
  have hne2 : ((av != 0) != (av != 0)) = false := by simp
  clear easks
  cases hx : nextO h av with
  | none =>
    rw [hx, trap0] at HN
    replace HN := Lib.hid HN
    clear hx hw hav
    have hu25 := Tryd.underlying25; have hu27 := Tryd.underlying27
    go_enter Tryd.func6, Tryd.ntmps6
    go_upto_region 1 with (first | ((with_reducible refine gate_dst (N := 2) rfl ?_); refine box_event ?hg (N := 2) ?hd (cs := h.cs) (t := 25) ?hr ?_; (case hd => rfl); (case hg => rfl); (case hr => first | (go_simp; done) | (go_simp; rfl)); intro ga hg w_1 H1 hb; have hB_2 := Lib.hid (below_step (Below.refl w.heap.size w) hb); have G_ga := Lib.hid (show w.heap.size ≤ ga by rw [hg]; exact ((Below.refl w.heap.size w)).size); have K_ga := Lib.hid (show Hb w_1 ga h from H1); clear hg hb H1) | ((with_reducible refine gate_dst (N := 3) rfl ?_); refine box_event ?hg (N := 3) ?hd (cs := #[.bool la, .bool lb, .bool lc, .bool ld, .int .u64 lg, .int .u64 lt]) (t := 27) ?hr ?_; (case hd => rfl); (case hg => rfl); (case hr => first | (go_simp; done) | (go_simp; rfl)); intro gt hg w_3 H1 hb; have hB_4 := Lib.hid (below_step hB_2.out hb); have G_gt := Lib.hid (show w.heap.size ≤ gt by rw [hg]; exact (hB_2.out).size); have N_ga_gt := Lib.hid (show ga ≠ gt by rw [hg]; exact Nat.ne_of_lt (K_ga.out.lt)); replace K_ga := Lib.hid (K_ga.out.below hb); have K_gt := Lib.hid (show w_3.heap[gt]? = some (.cells #[.bool la, .bool lb, .bool lc, .bool ld, .int .u64 lg, .int .u64 lt] 27 (0, 0)) from H1); clear hg hb H1 hB_2; clear hu25 hu27))
    go_wp2_with (first | ((with_reducible refine gate_dst (N := 8) rfl ?_); (first | (refine gate_guard (by kernel_rfl) ?_) | skip); refine Kd.event_run rfl (v := .agg (h).cs) (w1 := w_3) ?hb ?_; (case hb => exact exec_load_hart rfl rfl K_ga.out)) | ((with_reducible refine gate_dst (N := 9) rfl ?_); (first | (refine gate_guard (by kernel_rfl) ?_) | skip); refine Kd.event_run rfl (v := .agg #[.bool la, .bool lb, .bool lc, .bool ld, .int .u64 lg, .int .u64 lt]) (w1 := w_3) ?hb ?_; (case hb => exact exec_load_blk rfl rfl K_gt.out Tryd.underlying27 rfl (by kernel_rfl))))
    refine (HN.out _ (TabZ.from HZ.out hB_4.out)).mono ?_
    rintro e_5 w_6 ⟨rfl, hb⟩
    have hB_7 := Lib.hid (below_step hB_4.out hb)
    replace K_ga := Lib.hid (K_ga.out.below hb)
    replace K_gt := Lib.hid (blk_below K_gt.out hb)
    clear hb hB_4
    go_upto_region 2 with (first | ((with_reducible refine gate_dst (N := 5) rfl ?_); refine box_event ?hg (N := 5) ?hd (cs := #[.bool false, .int .u64 0, .int .u64 0, .int .u64 0, .int .u64 0, .bool false]) (t := 29) ?hr ?_; (case hd => rfl); (case hg => rfl); (case hr => first | (go_simp; done) | (go_simp; rfl)); intro gn hg w_8 H1 hb; have hB_9 := Lib.hid (below_step hB_7.out hb); have G_gn := Lib.hid (show w.heap.size ≤ gn by rw [hg]; exact (hB_7.out).size); have N_ga_gn := Lib.hid (show ga ≠ gn by rw [hg]; exact Nat.ne_of_lt (K_ga.out.lt)); have N_gt_gn := Lib.hid (show gt ≠ gn by rw [hg]; exact Nat.ne_of_lt (blk_lt K_gt.out)); replace K_ga := Lib.hid (K_ga.out.below hb); replace K_gt := Lib.hid (blk_below K_gt.out hb); have K_gn := Lib.hid (show w_8.heap[gn]? = some (.cells #[.bool false, .int .u64 0, .int .u64 0, .int .u64 0, .int .u64 0, .bool false] 29 (0, 0)) from H1); clear hg hb H1 hB_7) | (refine wpList_store_mid rfl 29 (.tmp 5) (.tmp 10) rfl gn 0 #[.bool false, .int .u64 0, .int .u64 0, .int .u64 0, .int .u64 0, .bool false] rfl rfl (blk_there K_gn.out rfl) (by kernel_rfl) (by simp [Value.oneCell']) ?_; have hB_11 := Lib.hid (setCells_below G_gn.out (Array.toList #[.bool false, .int .u64 0, .int .u64 0, .int .u64 0, .int .u64 0, .bool false]) 0 _ hB_9.out); replace K_ga := Lib.hid (Hb.farAll (vs := Array.toList #[.bool false, .int .u64 0, .int .u64 0, .int .u64 0, .int .u64 0, .bool false]) (o := 0) N_ga_gn.out K_ga.out); replace K_gt := Lib.hid (setCells_far' (vs := Array.toList #[.bool false, .int .u64 0, .int .u64 0, .int .u64 0, .int .u64 0, .bool false]) (o := 0) N_gt_gn.out K_gt.out); replace K_gn := Lib.hid (blk_putAll #[.bool false, .int .u64 0, .int .u64 0, .int .u64 0, .int .u64 0, .bool false] K_gn.out rfl); clear hB_9; generalize World.setCells w_8 gn 0 (Array.toList #[.bool false, .int .u64 0, .int .u64 0, .int .u64 0, .int .u64 0, .bool false]) = w_10 at K_ga K_gt K_gn hB_11 ⊢))
    go_wp2_with (first | ((with_reducible refine gate_dst (N := 11) rfl ?_); (first | (refine gate_guard (by kernel_rfl) ?_) | skip); refine Kd.event_run rfl (v := .agg (h).cs) (w1 := w_10) ?hb ?_; (case hb => exact exec_load_hart rfl rfl K_ga.out)) | ((with_reducible refine gate_dst (N := 12) rfl ?_); (first | (refine gate_guard (by kernel_rfl) ?_) | skip); refine Kd.event_run rfl (v := .agg #[.bool la, .bool lb, .bool lc, .bool ld, .int .u64 lg, .int .u64 lt]) (w1 := w_10) ?hb ?_; (case hb => exact exec_load_blk rfl rfl K_gt.out Tryd.underlying27 rfl (by kernel_rfl))))
    refine (HA.out _).mono ?_
    rintro e_12 w_13 ⟨rfl, hb⟩
    have hB_14 := Lib.hid (below_step hB_11.out hb)
    replace K_ga := Lib.hid (K_ga.out.below hb)
    replace K_gt := Lib.hid (blk_below K_gt.out hb)
    replace K_gn := Lib.hid (blk_below K_gn.out hb)
    clear hb hB_11
    go_upto_region 3 with fail
    refine start_ (n := 16) (S := fun w' => Hb w' ga h ∧ w'.heap[gt]? = some (.cells #[.bool la, .bool lb, .bool lc, .bool ld, .int .u64 lg, .int .u64 lt] 27 (0, 0)) ∧ w'.cell? ⟨ga, 41, none⟩ = some (.int .u64 (h.x 41))) (ds := []) #[false, false, false, false, false, false, false, false, false, false, false, false, false, false, false, false] (by kernel_rfl) rfl rfl ⟨K_ga.out.drew, blk_drew K_gt.out, (K_ga.out.drew.u 41 rfl)⟩ (fun hHeld => ?_)
    replace K_ga := Lib.hid (K_ga.out.drew)
    replace K_gt := Lib.hid (blk_drew K_gt.out)
    replace K_gn := Lib.hid (blk_drew K_gn.out)
    have hB_16 := Lib.hid (below_drew1 hB_14.out)
    clear hB_14
    generalize World.drew w_13 = w_15 at K_ga K_gt K_gn hB_16 hHeld ⊢
    refine pure_ (i := 0) (N := some 14) (v := ?_) (a' := ?_) #[true, false, false, false, false, false, false, false, false, false, false, false, false, false, false, false] rfl rfl (by kernel_rfl) (fun _ _ _ h => h) (Or.inl ⟨by rfl, ?_⟩) ?_ ?_
    rotate_left
    · intro w'
      go_simp
      with_reducible rfl
    rotate_left
    · simp only [Act.put, List.setIfInBounds_toArray, List.set_cons_zero, List.set_cons_succ, i64_w, i32_w]
      rfl
    refine pure_ (i := 4) (N := some 18) (v := ?_) (a' := ?_) #[true, false, false, false, true, false, false, false, false, false, false, false, false, false, false, false] rfl rfl (by kernel_rfl) (fun _ _ _ h => h) (Or.inl ⟨by rfl, ?_⟩) ?_ ?_
    rotate_left
    · intro w'
      go_simp
      with_reducible rfl
    rotate_left
    · simp only [Act.put, List.setIfInBounds_toArray, List.set_cons_zero, List.set_cons_succ, i64_w, i32_w]
      rfl
    refine take_ (i := 1) (N := some 15) (v := .agg h.cs) (a' := ?_) #[true, true, false, false, true, false, false, false, false, false, false, false, false, false, false, false] rfl rfl (by kernel_rfl) (fun _ _ _ h => h) (Or.inl ⟨by rfl, ?_⟩) hHeld ?_ ?_
    · rintro w' ⟨s0, s1, s2⟩; exact exec_load_hart rfl rfl s0
    rotate_left
    · simp only [Act.put, List.setIfInBounds_toArray, List.set_cons_zero, List.set_cons_succ, i64_w, i32_w]
      rfl
    refine take_ (i := 2) (N := some 16) (v := .agg #[.bool la, .bool lb, .bool lc, .bool ld, .int .u64 lg, .int .u64 lt]) (a' := ?_) #[true, true, true, false, true, false, false, false, false, false, false, false, false, false, false, false] rfl rfl (by kernel_rfl) (fun _ _ _ h => h) (Or.inl ⟨by rfl, ?_⟩) hHeld ?_ ?_
    · rintro w' ⟨s0, s1, s2⟩; exact exec_load_blk rfl rfl s1 Tryd.underlying27 rfl (by kernel_rfl)
    rotate_left
    · simp only [Act.put, List.setIfInBounds_toArray, List.set_cons_zero, List.set_cons_succ, i64_w, i32_w]
      rfl
    refine take_ (i := 5) (N := some 19) (v := ?_) (a' := ?_) #[true, true, true, false, true, true, false, false, false, false, false, false, false, false, false, false] rfl rfl (by kernel_rfl) (fun _ _ _ h => h) (Or.inl ⟨by rfl, ?_⟩) hHeld ?_ ?_
    rotate_left
    · rintro w' ⟨s0, s1, s2⟩
      go_simp
      with_reducible rfl
    rotate_left
    · simp only [Act.put, List.setIfInBounds_toArray, List.set_cons_zero, List.set_cons_succ, i64_w, i32_w]
      rfl
    have HH := Lib.hid hHeld
    clear hHeld
    refine one_ (i := 3) (N := some 17) #[true, true, true, true, true, true, false, false, false, false, false, false, false, false, false, false] rfl rfl (by kernel_rfl) (by decide) (fun K hK => ?_)
    refine goes_ Tryd.func14 (by kernel_rfl) rfl #[.agg h.cs, .agg #[.bool la, .bool lb, .bool lc, .bool ld, .int .u64 lg, .int .u64 lt]] (by rfl) rfl rfl (by simp only [List.map_toArray, List.map_cons, List.map_nil]; rfl) ?_
    with_reducible refine (HP.out _).mono ?_
    rintro e_ w_17 ⟨rfl, hb⟩
    refine ⟨_, rfl, ?_⟩
    have s_0 := Hb.below (HH.out.1) hb
    have s_1 := blk_below (HH.out.2.1) hb
    have s_2 := (Hb.u s_0 41 rfl)
    replace K_ga := Lib.hid (K_ga.out.below hb)
    replace K_gt := Lib.hid (blk_below K_gt.out hb)
    replace K_gn := Lib.hid (blk_below K_gn.out hb)
    have hB_18 := Lib.hid (below_step hB_16.out hb)
    clear HH hb hB_16
    refine hK.out _ _ ⟨s_0, s_1, s_2⟩ (fun hHeld => ?_)
    have HH := Lib.hid hHeld
    clear hHeld s_0 s_1 s_2
    clear hK K
    refine norm_ (a' := ?_) ?_ ?_
    rotate_left
    · show Act.put _ (some 17) _ = _
      simp only [Act.put, List.setIfInBounds_toArray, List.set_cons_zero, List.set_cons_succ, i64_w, i32_w]
      rfl
    refine pure_ (i := 6) (N := some 20) (v := ?_) (a' := ?_) #[true, true, true, true, true, true, true, false, false, false, false, false, false, false, false, false] rfl rfl (by kernel_rfl) (fun _ _ _ h => h) (Or.inl ⟨by rfl, ?_⟩) ?_ ?_
    rotate_left
    · intro w'
      go_simp
      with_reducible rfl
    rotate_left
    · simp only [Act.put, List.setIfInBounds_toArray, List.set_cons_zero, List.set_cons_succ, i64_w, i32_w]
      rfl
    refine pure_ (i := 7) (N := some 21) (v := ?_) (a' := ?_) #[true, true, true, true, true, true, true, true, false, false, false, false, false, false, false, false] rfl rfl (by kernel_rfl) (fun _ _ _ h => h) (Or.inl ⟨by rfl, ?_⟩) ?_ ?_
    rotate_left
    · intro w'
      go_simp
      with_reducible rfl
    rotate_left
    · simp only [Act.put, List.setIfInBounds_toArray, List.set_cons_zero, List.set_cons_succ, i64_w, i32_w]
      rfl
    refine pure_ (i := 8) (N := some 22) (v := ?_) (a' := ?_) #[true, true, true, true, true, true, true, true, true, false, false, false, false, false, false, false] rfl rfl (by kernel_rfl) (fun _ _ _ h => h) (Or.inl ⟨by rfl, ?_⟩) ?_ ?_
    rotate_left
    · intro w'
      go_simp
      with_reducible rfl
    rotate_left
    · simp only [Act.put, List.setIfInBounds_toArray, List.set_cons_zero, List.set_cons_succ, i64_w, i32_w]
      rfl
    refine pure_ (i := 12) (N := some 26) (v := ?_) (a' := ?_) #[true, true, true, true, true, true, true, true, true, false, false, false, true, false, false, false] rfl rfl (by kernel_rfl) (fun _ _ _ h => h) (Or.inl ⟨by rfl, ?_⟩) ?_ ?_
    rotate_left
    · intro w'
      go_simp
      with_reducible rfl
    rotate_left
    · simp only [Act.put, List.setIfInBounds_toArray, List.set_cons_zero, List.set_cons_succ, i64_w, i32_w]
      rfl
    refine pure_ (i := 13) (N := some 27) (v := ?_) (a' := ?_) #[true, true, true, true, true, true, true, true, true, false, false, false, true, true, false, false] rfl rfl (by kernel_rfl) (fun _ _ _ h => h) (Or.inl ⟨by rfl, ?_⟩) ?_ ?_
    rotate_left
    · intro w'
      go_simp
      with_reducible rfl
    rotate_left
    · simp only [Act.put, List.setIfInBounds_toArray, List.set_cons_zero, List.set_cons_succ, i64_w, i32_w]
      rfl
    refine take_ (i := 9) (N := some 23) (v := .agg h.cs) (a' := ?_) #[true, true, true, true, true, true, true, true, true, true, false, false, true, true, false, false] rfl rfl (by kernel_rfl) (fun _ _ _ h => h) (Or.inl ⟨by rfl, ?_⟩) HH.out ?_ ?_
    · rintro w' ⟨s0, s1, s2⟩; exact exec_load_hart rfl rfl s0
    rotate_left
    · simp only [Act.put, List.setIfInBounds_toArray, List.set_cons_zero, List.set_cons_succ, i64_w, i32_w]
      rfl
    refine take_ (i := 10) (N := some 24) (v := .agg #[.bool la, .bool lb, .bool lc, .bool ld, .int .u64 lg, .int .u64 lt]) (a' := ?_) #[true, true, true, true, true, true, true, true, true, true, true, false, true, true, false, false] rfl rfl (by kernel_rfl) (fun _ _ _ h => h) (Or.inl ⟨by rfl, ?_⟩) HH.out ?_ ?_
    · rintro w' ⟨s0, s1, s2⟩; exact exec_load_blk rfl rfl s1 Tryd.underlying27 rfl (by kernel_rfl)
    rotate_left
    · simp only [Act.put, List.setIfInBounds_toArray, List.set_cons_zero, List.set_cons_succ, i64_w, i32_w]
      rfl
    refine one_ (i := 11) (N := some 25) #[true, true, true, true, true, true, true, true, true, true, true, true, true, true, false, false] rfl rfl (by kernel_rfl) (by decide) (fun K hK => ?_)
    refine goes_ Tryd.func12 (by kernel_rfl) rfl #[.agg h.cs, .agg #[.bool la, .bool lb, .bool lc, .bool ld, .int .u64 lg, .int .u64 lt]] (by rfl) rfl rfl (by simp only [List.map_toArray, List.map_cons, List.map_nil]; rfl) ?_
    with_reducible refine (HV.out _).mono ?_
    rintro e_ w_19 ⟨rfl, hb⟩
    refine ⟨_, rfl, ?_⟩
    have s_0 := Hb.below (HH.out.1) hb
    have s_1 := blk_below (HH.out.2.1) hb
    have s_2 := (Hb.u s_0 41 rfl)
    replace K_ga := Lib.hid (K_ga.out.below hb)
    replace K_gt := Lib.hid (blk_below K_gt.out hb)
    replace K_gn := Lib.hid (blk_below K_gn.out hb)
    have hB_20 := Lib.hid (below_step hB_18.out hb)
    clear HH hb hB_18
    refine hK.out _ _ ⟨s_0, s_1, s_2⟩ (fun hHeld => ?_)
    have HH := Lib.hid hHeld
    clear hHeld s_0 s_1 s_2
    clear hK K
    refine norm_ (a' := ?_) ?_ ?_
    rotate_left
    · show Act.put _ (some 25) _ = _
      simp only [Act.put, List.setIfInBounds_toArray, List.set_cons_zero, List.set_cons_succ, i64_w, i32_w]
      rfl
    refine pure_ (i := 14) (N := some 28) (v := ?_) (a' := ?_) #[true, true, true, true, true, true, true, true, true, true, true, true, true, true, true, false] rfl rfl (by kernel_rfl) (fun _ _ _ h => h) (Or.inl ⟨by rfl, ?_⟩) ?_ ?_
    rotate_left
    · intro w'
      go_simp
      with_reducible rfl
    rotate_left
    · simp only [Act.put, List.setIfInBounds_toArray, List.set_cons_zero, List.set_cons_succ, i64_w, i32_w]
      rfl
    refine pure_ (i := 15) (N := some 29) (v := ?_) (a' := ?_) #[true, true, true, true, true, true, true, true, true, true, true, true, true, true, true, true] rfl rfl (by kernel_rfl) (fun _ _ _ h => h) (Or.inl ⟨by rfl, ?_⟩) ?_ ?_
    rotate_left
    · intro w'
      go_simp
      with_reducible rfl
    rotate_left
    · simp only [Act.put, List.setIfInBounds_toArray, List.set_cons_zero, List.set_cons_succ, i64_w, i32_w]
      rfl
    refine done_ (by kernel_rfl) ?_
    try clear HH
    have c_gn_0 := (show World.cell? _ ⟨gn, 0, none⟩ = some (.bool false) from (blk_cell K_gn.out 0).trans rfl); have f_gn_0 := blk_frozen K_gn.out 0
    go_wp2_with (first | ((with_reducible refine gate_dst (N := 33) rfl ?_); (first | (refine gate_guard (by kernel_rfl) ?_) | skip); refine Kd.event_run rfl (v := .agg #[.bool false, .int .u64 0, .int .u64 0, .int .u64 0, .int .u64 0, .bool false]) (w1 := w_19) ?hb ?_; (case hb => exact exec_load_blk rfl rfl K_gn.out Tryd.underlying29 rfl (by kernel_rfl))) | ((with_reducible refine gate_dst (N := 34) rfl ?_); (first | (refine gate_guard (by kernel_rfl) ?_) | skip); refine Kd.event_run rfl (v := .agg #[.bool false, .int .u64 0, .int .u64 0, .int .u64 0, .int .u64 0, .bool false]) (w1 := w_19) ?hb ?_; (case hb => kernel_rfl)) | ((with_reducible refine gate_dst (N := 35) rfl ?_); (first | (refine gate_guard (by kernel_rfl) ?_) | skip); refine Kd.event_run rfl (v := .bool true) (w1 := w_19) ?hb ?_; (case hb => exact exec_teq rfl rfl rfl (teq_self _ _ _ _ _ _))))
    refine (wakes_c _ (Tab.from HT.out hB_20.out) (TabZ.from HZ.out hB_20.out)).mono ?_
    rintro e_21 w_22 ⟨rfl, hb⟩
    clear c_gn_0 f_gn_0
    have hB_23 := Lib.hid (below_step hB_20.out hb)
    replace K_ga := Lib.hid (K_ga.out.below hb)
    replace K_gt := Lib.hid (blk_below K_gt.out hb)
    replace K_gn := Lib.hid (blk_below K_gn.out hb)
    clear hb hB_20
    go_wp2
    go_ret
    exact ⟨rfl, hB_23.out⟩
  | some z =>
    obtain ⟨m, rfl, hm, hbit, L1⟩ := asked_law h hw av hav z hx
    rw [hx, trapS m hm] at HN
    have hc := (cause_word m hm).2.1
    have hor := (cause_word m hm).2.2
    have hm63 : ((63 : Int) < (m : Int)) = False := by simp; omega
    replace HN := Lib.hid HN
    clear hx hw hav
    have hu25 := Tryd.underlying25; have hu27 := Tryd.underlying27
    go_enter Tryd.func6, Tryd.ntmps6
    go_upto_region 1 with (first | ((with_reducible refine gate_dst (N := 2) rfl ?_); refine box_event ?hg (N := 2) ?hd (cs := h.cs) (t := 25) ?hr ?_; (case hd => rfl); (case hg => rfl); (case hr => first | (go_simp; done) | (go_simp; rfl)); intro ga hg w_1 H1 hb; have hB_2 := Lib.hid (below_step (Below.refl w.heap.size w) hb); have G_ga := Lib.hid (show w.heap.size ≤ ga by rw [hg]; exact ((Below.refl w.heap.size w)).size); have K_ga := Lib.hid (show Hb w_1 ga h from H1); clear hg hb H1) | ((with_reducible refine gate_dst (N := 3) rfl ?_); refine box_event ?hg (N := 3) ?hd (cs := #[.bool la, .bool lb, .bool lc, .bool ld, .int .u64 lg, .int .u64 lt]) (t := 27) ?hr ?_; (case hd => rfl); (case hg => rfl); (case hr => first | (go_simp; done) | (go_simp; rfl)); intro gt hg w_3 H1 hb; have hB_4 := Lib.hid (below_step hB_2.out hb); have G_gt := Lib.hid (show w.heap.size ≤ gt by rw [hg]; exact (hB_2.out).size); have N_ga_gt := Lib.hid (show ga ≠ gt by rw [hg]; exact Nat.ne_of_lt (K_ga.out.lt)); replace K_ga := Lib.hid (K_ga.out.below hb); have K_gt := Lib.hid (show w_3.heap[gt]? = some (.cells #[.bool la, .bool lb, .bool lc, .bool ld, .int .u64 lg, .int .u64 lt] 27 (0, 0)) from H1); clear hg hb H1 hB_2; clear hu25 hu27))
    go_wp2_with (first | ((with_reducible refine gate_dst (N := 8) rfl ?_); (first | (refine gate_guard (by kernel_rfl) ?_) | skip); refine Kd.event_run rfl (v := .agg (h).cs) (w1 := w_3) ?hb ?_; (case hb => exact exec_load_hart rfl rfl K_ga.out)) | ((with_reducible refine gate_dst (N := 9) rfl ?_); (first | (refine gate_guard (by kernel_rfl) ?_) | skip); refine Kd.event_run rfl (v := .agg #[.bool la, .bool lb, .bool lc, .bool ld, .int .u64 lg, .int .u64 lt]) (w1 := w_3) ?hb ?_; (case hb => exact exec_load_blk rfl rfl K_gt.out Tryd.underlying27 rfl (by kernel_rfl))))
    refine (HN.out _ (TabZ.from HZ.out hB_4.out)).mono ?_
    rintro e_5 w_6 ⟨rfl, hb⟩
    have hB_7 := Lib.hid (below_step hB_4.out hb)
    replace K_ga := Lib.hid (K_ga.out.below hb)
    replace K_gt := Lib.hid (blk_below K_gt.out hb)
    clear hb hB_4
    go_upto_region 2 with (first | ((with_reducible refine gate_dst (N := 5) rfl ?_); refine box_event ?hg (N := 5) ?hd (cs := #[.bool false, .int .u64 0, .int .u64 0, .int .u64 0, .int .u64 0, .bool false]) (t := 29) ?hr ?_; (case hd => rfl); (case hg => rfl); (case hr => first | (go_simp; done) | (go_simp; rfl)); intro gn hg w_8 H1 hb; have hB_9 := Lib.hid (below_step hB_7.out hb); have G_gn := Lib.hid (show w.heap.size ≤ gn by rw [hg]; exact (hB_7.out).size); have N_ga_gn := Lib.hid (show ga ≠ gn by rw [hg]; exact Nat.ne_of_lt (K_ga.out.lt)); have N_gt_gn := Lib.hid (show gt ≠ gn by rw [hg]; exact Nat.ne_of_lt (blk_lt K_gt.out)); replace K_ga := Lib.hid (K_ga.out.below hb); replace K_gt := Lib.hid (blk_below K_gt.out hb); have K_gn := Lib.hid (show w_8.heap[gn]? = some (.cells #[.bool false, .int .u64 0, .int .u64 0, .int .u64 0, .int .u64 0, .bool false] 29 (0, 0)) from H1); clear hg hb H1 hB_7) | (refine wpList_store_mid rfl 29 (.tmp 5) (.tmp 10) rfl gn 0 #[.bool true, .int .u64 (9223372036854775808 + (m : Int)), .int .u64 0, .int .u64 0, .int .u64 0, .bool false] rfl rfl (blk_there K_gn.out rfl) (by kernel_rfl) (by simp [Value.oneCell']) ?_; have hB_11 := Lib.hid (setCells_below G_gn.out (Array.toList #[.bool true, .int .u64 (9223372036854775808 + (m : Int)), .int .u64 0, .int .u64 0, .int .u64 0, .bool false]) 0 _ hB_9.out); replace K_ga := Lib.hid (Hb.farAll (vs := Array.toList #[.bool true, .int .u64 (9223372036854775808 + (m : Int)), .int .u64 0, .int .u64 0, .int .u64 0, .bool false]) (o := 0) N_ga_gn.out K_ga.out); replace K_gt := Lib.hid (setCells_far' (vs := Array.toList #[.bool true, .int .u64 (9223372036854775808 + (m : Int)), .int .u64 0, .int .u64 0, .int .u64 0, .bool false]) (o := 0) N_gt_gn.out K_gt.out); replace K_gn := Lib.hid (blk_putAll #[.bool true, .int .u64 (9223372036854775808 + (m : Int)), .int .u64 0, .int .u64 0, .int .u64 0, .bool false] K_gn.out rfl); clear hB_9; generalize World.setCells w_8 gn 0 (Array.toList #[.bool true, .int .u64 (9223372036854775808 + (m : Int)), .int .u64 0, .int .u64 0, .int .u64 0, .bool false]) = w_10 at K_ga K_gt K_gn hB_11 ⊢))
    go_wp2_with (first | ((with_reducible refine gate_dst (N := 11) rfl ?_); (first | (refine gate_guard (by kernel_rfl) ?_) | skip); refine Kd.event_run rfl (v := .agg (h).cs) (w1 := w_10) ?hb ?_; (case hb => exact exec_load_hart rfl rfl K_ga.out)) | ((with_reducible refine gate_dst (N := 12) rfl ?_); (first | (refine gate_guard (by kernel_rfl) ?_) | skip); refine Kd.event_run rfl (v := .agg #[.bool la, .bool lb, .bool lc, .bool ld, .int .u64 lg, .int .u64 lt]) (w1 := w_10) ?hb ?_; (case hb => exact exec_load_blk rfl rfl K_gt.out Tryd.underlying27 rfl (by kernel_rfl))))
    refine (HA.out _).mono ?_
    rintro e_12 w_13 ⟨rfl, hb⟩
    have hB_14 := Lib.hid (below_step hB_11.out hb)
    replace K_ga := Lib.hid (K_ga.out.below hb)
    replace K_gt := Lib.hid (blk_below K_gt.out hb)
    replace K_gn := Lib.hid (blk_below K_gn.out hb)
    clear hb hB_11
    go_upto_region 3 with fail
    refine start_ (n := 16) (S := fun w' => Hb w' ga h ∧ w'.heap[gt]? = some (.cells #[.bool la, .bool lb, .bool lc, .bool ld, .int .u64 lg, .int .u64 lt] 27 (0, 0)) ∧ w'.cell? ⟨ga, 41, none⟩ = some (.int .u64 (h.x 41))) (ds := []) #[false, false, false, false, false, false, false, false, false, false, false, false, false, false, false, false] (by kernel_rfl) rfl rfl ⟨K_ga.out.drew, blk_drew K_gt.out, (K_ga.out.drew.u 41 rfl)⟩ (fun hHeld => ?_)
    replace K_ga := Lib.hid (K_ga.out.drew)
    replace K_gt := Lib.hid (blk_drew K_gt.out)
    replace K_gn := Lib.hid (blk_drew K_gn.out)
    have hB_16 := Lib.hid (below_drew1 hB_14.out)
    clear hB_14
    generalize World.drew w_13 = w_15 at K_ga K_gt K_gn hB_16 hHeld ⊢
    refine pure_ (i := 0) (N := some 14) (v := ?_) (a' := ?_) #[true, false, false, false, false, false, false, false, false, false, false, false, false, false, false, false] rfl rfl (by kernel_rfl) (fun _ _ _ h => h) (Or.inl ⟨by rfl, ?_⟩) ?_ ?_
    rotate_left
    · intro w'
      go_simp
      with_reducible rfl
    rotate_left
    · simp only [Act.put, List.setIfInBounds_toArray, List.set_cons_zero, List.set_cons_succ, i64_w, i32_w]
      rfl
    refine pure_ (i := 4) (N := some 18) (v := ?_) (a' := ?_) #[true, false, false, false, true, false, false, false, false, false, false, false, false, false, false, false] rfl rfl (by kernel_rfl) (fun _ _ _ h => h) (Or.inl ⟨by rfl, ?_⟩) ?_ ?_
    rotate_left
    · intro w'
      go_simp
      with_reducible rfl
    rotate_left
    · simp only [Act.put, List.setIfInBounds_toArray, List.set_cons_zero, List.set_cons_succ, i64_w, i32_w]
      rfl
    refine take_ (i := 1) (N := some 15) (v := .agg h.cs) (a' := ?_) #[true, true, false, false, true, false, false, false, false, false, false, false, false, false, false, false] rfl rfl (by kernel_rfl) (fun _ _ _ h => h) (Or.inl ⟨by rfl, ?_⟩) hHeld ?_ ?_
    · rintro w' ⟨s0, s1, s2⟩; exact exec_load_hart rfl rfl s0
    rotate_left
    · simp only [Act.put, List.setIfInBounds_toArray, List.set_cons_zero, List.set_cons_succ, i64_w, i32_w]
      rfl
    refine take_ (i := 2) (N := some 16) (v := .agg #[.bool la, .bool lb, .bool lc, .bool ld, .int .u64 lg, .int .u64 lt]) (a' := ?_) #[true, true, true, false, true, false, false, false, false, false, false, false, false, false, false, false] rfl rfl (by kernel_rfl) (fun _ _ _ h => h) (Or.inl ⟨by rfl, ?_⟩) hHeld ?_ ?_
    · rintro w' ⟨s0, s1, s2⟩; exact exec_load_blk rfl rfl s1 Tryd.underlying27 rfl (by kernel_rfl)
    rotate_left
    · simp only [Act.put, List.setIfInBounds_toArray, List.set_cons_zero, List.set_cons_succ, i64_w, i32_w]
      rfl
    refine take_ (i := 5) (N := some 19) (v := ?_) (a' := ?_) #[true, true, true, false, true, true, false, false, false, false, false, false, false, false, false, false] rfl rfl (by kernel_rfl) (fun _ _ _ h => h) (Or.inl ⟨by rfl, ?_⟩) hHeld ?_ ?_
    rotate_left
    · rintro w' ⟨s0, s1, s2⟩
      go_simp
      with_reducible rfl
    rotate_left
    · simp only [Act.put, List.setIfInBounds_toArray, List.set_cons_zero, List.set_cons_succ, i64_w, i32_w]
      rfl
    have HH := Lib.hid hHeld
    clear hHeld
    refine one_ (i := 3) (N := some 17) #[true, true, true, true, true, true, false, false, false, false, false, false, false, false, false, false] rfl rfl (by kernel_rfl) (by decide) (fun K hK => ?_)
    refine goes_ Tryd.func14 (by kernel_rfl) rfl #[.agg h.cs, .agg #[.bool la, .bool lb, .bool lc, .bool ld, .int .u64 lg, .int .u64 lt]] (by rfl) rfl rfl (by simp only [List.map_toArray, List.map_cons, List.map_nil]; rfl) ?_
    with_reducible refine (HP.out _).mono ?_
    rintro e_ w_17 ⟨rfl, hb⟩
    refine ⟨_, rfl, ?_⟩
    have s_0 := Hb.below (HH.out.1) hb
    have s_1 := blk_below (HH.out.2.1) hb
    have s_2 := (Hb.u s_0 41 rfl)
    replace K_ga := Lib.hid (K_ga.out.below hb)
    replace K_gt := Lib.hid (blk_below K_gt.out hb)
    replace K_gn := Lib.hid (blk_below K_gn.out hb)
    have hB_18 := Lib.hid (below_step hB_16.out hb)
    clear HH hb hB_16
    refine hK.out _ _ ⟨s_0, s_1, s_2⟩ (fun hHeld => ?_)
    have HH := Lib.hid hHeld
    clear hHeld s_0 s_1 s_2
    clear hK K
    refine norm_ (a' := ?_) ?_ ?_
    rotate_left
    · show Act.put _ (some 17) _ = _
      simp only [Act.put, List.setIfInBounds_toArray, List.set_cons_zero, List.set_cons_succ, i64_w, i32_w]
      rfl
    refine pure_ (i := 6) (N := some 20) (v := ?_) (a' := ?_) #[true, true, true, true, true, true, true, false, false, false, false, false, false, false, false, false] rfl rfl (by kernel_rfl) (fun _ _ _ h => h) (Or.inl ⟨by rfl, ?_⟩) ?_ ?_
    rotate_left
    · intro w'
      go_simp
      with_reducible rfl
    rotate_left
    · simp only [Act.put, List.setIfInBounds_toArray, List.set_cons_zero, List.set_cons_succ, i64_w, i32_w]
      rfl
    refine pure_ (i := 7) (N := some 21) (v := ?_) (a' := ?_) #[true, true, true, true, true, true, true, true, false, false, false, false, false, false, false, false] rfl rfl (by kernel_rfl) (fun _ _ _ h => h) (Or.inl ⟨by rfl, ?_⟩) ?_ ?_
    rotate_left
    · intro w'
      go_simp
      with_reducible rfl
    rotate_left
    · simp only [Act.put, List.setIfInBounds_toArray, List.set_cons_zero, List.set_cons_succ, i64_w, i32_w]
      rfl
    refine pure_ (i := 8) (N := some 22) (v := ?_) (a' := ?_) #[true, true, true, true, true, true, true, true, true, false, false, false, false, false, false, false] rfl rfl (by kernel_rfl) (fun _ _ _ h => h) (Or.inl ⟨by rfl, ?_⟩) ?_ ?_
    rotate_left
    · intro w'
      go_simp
      with_reducible rfl
    rotate_left
    · simp only [Act.put, List.setIfInBounds_toArray, List.set_cons_zero, List.set_cons_succ, i64_w, i32_w]
      rfl
    refine pure_ (i := 12) (N := some 26) (v := ?_) (a' := ?_) #[true, true, true, true, true, true, true, true, true, false, false, false, true, false, false, false] rfl rfl (by kernel_rfl) (fun _ _ _ h => h) (Or.inl ⟨by rfl, ?_⟩) ?_ ?_
    rotate_left
    · intro w'
      go_simp
      with_reducible rfl
    rotate_left
    · simp only [Act.put, List.setIfInBounds_toArray, List.set_cons_zero, List.set_cons_succ, i64_w, i32_w]
      rfl
    refine pure_ (i := 13) (N := some 27) (v := ?_) (a' := ?_) #[true, true, true, true, true, true, true, true, true, false, false, false, true, true, false, false] rfl rfl (by kernel_rfl) (fun _ _ _ h => h) (Or.inl ⟨by rfl, ?_⟩) ?_ ?_
    rotate_left
    · intro w'
      go_simp
      with_reducible rfl
    rotate_left
    · simp only [Act.put, List.setIfInBounds_toArray, List.set_cons_zero, List.set_cons_succ, i64_w, i32_w]
      rfl
    refine take_ (i := 9) (N := some 23) (v := .agg h.cs) (a' := ?_) #[true, true, true, true, true, true, true, true, true, true, false, false, true, true, false, false] rfl rfl (by kernel_rfl) (fun _ _ _ h => h) (Or.inl ⟨by rfl, ?_⟩) HH.out ?_ ?_
    · rintro w' ⟨s0, s1, s2⟩; exact exec_load_hart rfl rfl s0
    rotate_left
    · simp only [Act.put, List.setIfInBounds_toArray, List.set_cons_zero, List.set_cons_succ, i64_w, i32_w]
      rfl
    refine take_ (i := 10) (N := some 24) (v := .agg #[.bool la, .bool lb, .bool lc, .bool ld, .int .u64 lg, .int .u64 lt]) (a' := ?_) #[true, true, true, true, true, true, true, true, true, true, true, false, true, true, false, false] rfl rfl (by kernel_rfl) (fun _ _ _ h => h) (Or.inl ⟨by rfl, ?_⟩) HH.out ?_ ?_
    · rintro w' ⟨s0, s1, s2⟩; exact exec_load_blk rfl rfl s1 Tryd.underlying27 rfl (by kernel_rfl)
    rotate_left
    · simp only [Act.put, List.setIfInBounds_toArray, List.set_cons_zero, List.set_cons_succ, i64_w, i32_w]
      rfl
    refine one_ (i := 11) (N := some 25) #[true, true, true, true, true, true, true, true, true, true, true, true, true, true, false, false] rfl rfl (by kernel_rfl) (by decide) (fun K hK => ?_)
    refine goes_ Tryd.func12 (by kernel_rfl) rfl #[.agg h.cs, .agg #[.bool la, .bool lb, .bool lc, .bool ld, .int .u64 lg, .int .u64 lt]] (by rfl) rfl rfl (by simp only [List.map_toArray, List.map_cons, List.map_nil]; rfl) ?_
    with_reducible refine (HV.out _).mono ?_
    rintro e_ w_19 ⟨rfl, hb⟩
    refine ⟨_, rfl, ?_⟩
    have s_0 := Hb.below (HH.out.1) hb
    have s_1 := blk_below (HH.out.2.1) hb
    have s_2 := (Hb.u s_0 41 rfl)
    replace K_ga := Lib.hid (K_ga.out.below hb)
    replace K_gt := Lib.hid (blk_below K_gt.out hb)
    replace K_gn := Lib.hid (blk_below K_gn.out hb)
    have hB_20 := Lib.hid (below_step hB_18.out hb)
    clear HH hb hB_18
    refine hK.out _ _ ⟨s_0, s_1, s_2⟩ (fun hHeld => ?_)
    have HH := Lib.hid hHeld
    clear hHeld s_0 s_1 s_2
    clear hK K
    refine norm_ (a' := ?_) ?_ ?_
    rotate_left
    · show Act.put _ (some 25) _ = _
      simp only [Act.put, List.setIfInBounds_toArray, List.set_cons_zero, List.set_cons_succ, i64_w, i32_w]
      rfl
    refine pure_ (i := 14) (N := some 28) (v := ?_) (a' := ?_) #[true, true, true, true, true, true, true, true, true, true, true, true, true, true, true, false] rfl rfl (by kernel_rfl) (fun _ _ _ h => h) (Or.inl ⟨by rfl, ?_⟩) ?_ ?_
    rotate_left
    · intro w'
      go_simp
      with_reducible rfl
    rotate_left
    · simp only [Act.put, List.setIfInBounds_toArray, List.set_cons_zero, List.set_cons_succ, i64_w, i32_w]
      rfl
    refine pure_ (i := 15) (N := some 29) (v := ?_) (a' := ?_) #[true, true, true, true, true, true, true, true, true, true, true, true, true, true, true, true] rfl rfl (by kernel_rfl) (fun _ _ _ h => h) (Or.inl ⟨by rfl, ?_⟩) ?_ ?_
    rotate_left
    · intro w'
      go_simp
      with_reducible rfl
    rotate_left
    · simp only [Act.put, List.setIfInBounds_toArray, List.set_cons_zero, List.set_cons_succ, i64_w, i32_w]
      rfl
    refine done_ (by kernel_rfl) ?_
    try clear HH
    have c_gn_0 := (show World.cell? _ ⟨gn, 0, none⟩ = some (.bool true) from (blk_cell K_gn.out 0).trans rfl); have f_gn_0 := blk_frozen K_gn.out 0
    have c_gn_1 := (show World.cell? _ ⟨gn, 1, none⟩ = some (.int .u64 (9223372036854775808 + (m : Int))) from (blk_cell K_gn.out 1).trans rfl); have f_gn_1 := blk_frozen K_gn.out 1
    have c_ga_33 := K_ga.out.p; have f_ga_33 := K_ga.out.fr 33
    have c_ga_38 := K_ga.out.u 38 rfl; have f_ga_38 := K_ga.out.fr 38
    have c_ga_40 := K_ga.out.u 40 rfl; have f_ga_40 := K_ga.out.fr 40
    go_upto_region 10 with (first | ((with_reducible refine gate_dst (N := 42) rfl ?_); (first | (refine gate_guard (by kernel_rfl) ?_) | skip); refine Kd.event_run rfl (v := .agg #[.bool true, .int .u64 (9223372036854775808 + (m : Int)), .int .u64 0, .int .u64 0, .int .u64 0, .bool false]) (w1 := w_19) ?hb ?_; (case hb => exact exec_load_blk rfl rfl K_gn.out Tryd.underlying29 rfl (by kernel_rfl))) | ((with_reducible refine gate_dst (N := 45) rfl ?_); (first | (refine gate_guard (by kernel_rfl) ?_) | skip); refine Kd.event_run rfl (v := .agg #[.bool true, .int .u64 (9223372036854775808 + (m : Int)), .int .u64 0, .int .u64 0, .int .u64 0, .bool false]) (w1 := w_19) ?hb ?_; (case hb => kernel_rfl)) | ((with_reducible refine gate_dst (N := 46) rfl ?_); (first | (refine gate_guard (by kernel_rfl) ?_) | skip); refine Kd.event_run rfl (v := .bool false) (w1 := w_19) ?hb ?_; (case hb => exact exec_tne rfl rfl rfl (by rw [teq_self]; rfl))))
    rcases L1 with a1 | ⟨a1, a2, a3⟩
    · skip
      go_wp2_with fail
      refine (wakes_c _ (Tab.from HT.out hB_20.out) (TabZ.from HZ.out hB_20.out)).mono ?_
      rintro e_21 w_22 ⟨rfl, hb⟩
      clear c_gn_0 f_gn_0 c_gn_1 f_gn_1 c_ga_33 f_ga_33 c_ga_38 f_ga_38 c_ga_40 f_ga_40
      have hB_23 := Lib.hid (below_step hB_20.out hb)
      replace K_ga := Lib.hid (K_ga.out.below hb)
      replace K_gt := Lib.hid (blk_below K_gt.out hb)
      replace K_gn := Lib.hid (blk_below K_gn.out hb)
      clear hb hB_20
      go_wp2
      go_ret
      exact ⟨rfl, hB_23.out⟩
    · skip
      go_wp2_with fail
      refine (wakes_c _ (Tab.from HT.out hB_20.out) (TabZ.from HZ.out hB_20.out)).mono ?_
      rintro e_21 w_22 ⟨rfl, hb⟩
      clear c_gn_0 f_gn_0 c_gn_1 f_gn_1 c_ga_33 f_ga_33 c_ga_38 f_ga_38 c_ga_40 f_ga_40
      have hB_23 := Lib.hid (below_step hB_20.out hb)
      replace K_ga := Lib.hid (K_ga.out.below hb)
      replace K_gt := Lib.hid (blk_below K_gt.out hb)
      replace K_gn := Lib.hid (blk_below K_gn.out hb)
      clear hb hB_20
      go_wp2
      go_ret
      exact ⟨rfl, hB_23.out⟩
end Go.Proofs.YtpbodidpcbodaaaDoor.Hx
namespace Go.Proofs.YtpbodidpcbodaaaDoor.Pure
open Go.RowKit Go.Proofs.YtpbodidpcbodaaaDoor.Hx Go.Proofs.YtpbodidpcbodaaaDoor.Bv Go.Proofs.YtpbodidpcbodaaaDoor.Q
theorem IrqAsked (h : Ht) (la lb lc ld : Bool) (lg lt : Int) (w : World) (hw : h.wf) (wg : (Lit.int .u64 lg).wf = true) (wt : (Lit.int .u64 lt).wf = true) (hT : Tab w ∧ TabZ w) :
    Calls Tryd.prog 6 #[.agg h.cs, .agg #[.bool la, .bool lb, .bool lc, .bool ld, .int .u64 lg, .int .u64 lt]] w fun e w' => e = .returned (.bool true) ∧ Below w.heap.size w w' :=
  asked_c h hw la lb lc ld lg lt w hT.1 hT.2
end Go.Proofs.YtpbodidpcbodaaaDoor.Pure
