/- When another interrupt is no longer pending, the one that is taken is still. (By a program of this session.) -/
import Derived.Test.YtpbodidpcbodaaaDoorIWakes
import Derived.Test.YtpbodidpcbodaaaDoorIPlain
import Derived.Test.YtpbodidpcbodaaaDoorHrow
set_option linter.unusedSimpArgs false
set_option linter.unusedVariables false
namespace Go.Proofs.YtpbodidpcbodaaaDoor.Hx
open Go.Proofs.YtpbodidpcbodaaaDoor.Bv Go.RowKit Go.Proofs.YtpbodidpcbodaaaDoor.Q Go.Proofs.YtpbodidpcbodaaaDoorW.PrintWords Go.Proofs.YtpbodidpcbodaaaDoorW.PrintLast Go.Proofs.YtpbodidpcbodaaaDoorW.PrintMore Go.Proofs.YtpbodidpcbodaaaDoor.Rg

/-- Are two traps the same? -/
def teq (ai : Bool) (ac av av2 an : Int) (ag : Bool) (bi : Bool) (bc bv bv2 bn : Int) (bg : Bool) : Bool := (ai == bi) && ((ac == bc) && ((av == bv) && ((av2 == bv2) && ((an == bn) && (ag == bg)))))
theorem teq_self (ai : Bool) (ac av av2 an : Int) (ag : Bool) : teq ai ac av av2 an ag ai ac av av2 an ag = true := by simp [teq]
set_option maxHeartbeats 4000000 in
set_option maxRecDepth 100000 in
theorem eqTr (d : Nat) (w : World) (ai : Bool) (ac av av2 an : Int) (ag : Bool) (bi : Bool) (bc bv bv2 bn : Int) (bg : Bool) :
    (Op.equalIn (d + 4) 29 (.agg #[.bool ai, .int .u64 ac, .int .u64 av, .int .u64 av2, .int .u64 an, .bool ag]) (.agg #[.bool bi, .int .u64 bc, .int .u64 bv, .int .u64 bv2, .int .u64 bn, .bool bg])).run Tryd.prog w = .ok (teq ai ac av av2 an ag bi bc bv bv2 bn bg) w := by
  refine eqA_of Tryd.underlying29 (by kernel_rfl) ?_
  refine eqf_cons (by rfl) (a := .bool ai) (b := .bool bi) (partB (by rfl)) (partB (by rfl)) (run_equalIn_bool w (d + 2) _ _ _ Tryd.underlying4) ?_
  refine eqf_cons (by rfl) (a := .int .u64 ac) (b := .int .u64 bc) (partU (by rfl)) (partU (by rfl)) (run_equalIn_int w (d + 2) _ .u64 .u64 _ _ Tryd.underlying22) ?_
  refine eqf_cons (by rfl) (a := .int .u64 av) (b := .int .u64 bv) (partU (by rfl)) (partU (by rfl)) (run_equalIn_int w (d + 2) _ .u64 .u64 _ _ Tryd.underlying22) ?_
  refine eqf_cons (by rfl) (a := .int .u64 av2) (b := .int .u64 bv2) (partU (by rfl)) (partU (by rfl)) (run_equalIn_int w (d + 2) _ .u64 .u64 _ _ Tryd.underlying22) ?_
  refine eqf_cons (by rfl) (a := .int .u64 an) (b := .int .u64 bn) (partU (by rfl)) (partU (by rfl)) (run_equalIn_int w (d + 2) _ .u64 .u64 _ _ Tryd.underlying22) ?_
  exact eqf_last (by rfl) (a := .bool ag) (b := .bool bg) (partB (by rfl)) (partB (by rfl)) (run_equalIn_bool w (d + 2) _ _ _ Tryd.underlying4)
theorem guardT (op : BinOp) (x y : Operand) (a b : Array Value) (W : World) : (eqGuard op 29 x y (.agg a) (.agg b)).run Tryd.prog W = .ok () W :=
  run_eqGuard_agg W op _ x y _ _ (by kernel_rfl)
theorem exec_teq {o : Oper} {ρ : Operand → Value} {w : World} {x y : Operand} {ty : TypeId} {ai : Bool} {ac av av2 an : Int} {ag : Bool} {bi : Bool} {bc bv bv2 bn : Int} {bg : Bool} {r : Bool} (ho : o.op = .binOp .eql 29 x y ty)
    (hx : ρ x = .agg #[.bool ai, .int .u64 ac, .int .u64 av, .int .u64 av2, .int .u64 an, .bool ag]) (hy : ρ y = .agg #[.bool bi, .int .u64 bc, .int .u64 bv, .int .u64 bv2, .int .u64 bn, .bool bg])
    (hr : teq ai ac av av2 an ag bi bc bv bv2 bn bg = r) : (execOp ρ o).run Tryd.prog w = .ok (.value (.bool r)) w := by
  subst hr
  unfold execOp
  simp only [ho, hx, hy, Sem.run_bind, guardT, Sem.run_pure, Result.andThen_ok, binOp]
  simp [show (Op.equal 29 (.agg #[.bool ai, .int .u64 ac, .int .u64 av, .int .u64 av2, .int .u64 an, .bool ag]) (.agg #[.bool bi, .int .u64 bc, .int .u64 bv, .int .u64 bv2, .int .u64 bn, .bool bg])).run Tryd.prog w = .ok (teq ai ac av av2 an ag bi bc bv bv2 bn bg) w from eqTr 9996 w ai ac av av2 an ag bi bc bv bv2 bn bg]
theorem exec_tne {o : Oper} {ρ : Operand → Value} {w : World} {x y : Operand} {ty : TypeId} {ai : Bool} {ac av av2 an : Int} {ag : Bool} {bi : Bool} {bc bv bv2 bn : Int} {bg : Bool} {r : Bool} (ho : o.op = .binOp .neq 29 x y ty)
    (hx : ρ x = .agg #[.bool ai, .int .u64 ac, .int .u64 av, .int .u64 av2, .int .u64 an, .bool ag]) (hy : ρ y = .agg #[.bool bi, .int .u64 bc, .int .u64 bv, .int .u64 bv2, .int .u64 bn, .bool bg])
    (hr : (!teq ai ac av av2 an ag bi bc bv bv2 bn bg) = r) : (execOp ρ o).run Tryd.prog w = .ok (.value (.bool r)) w := by
  subst hr
  unfold execOp
  simp only [ho, hx, hy, Sem.run_bind, guardT, Sem.run_pure, Result.andThen_ok, binOp]
  simp [show (Op.equal 29 (.agg #[.bool ai, .int .u64 ac, .int .u64 av, .int .u64 av2, .int .u64 an, .bool ag]) (.agg #[.bool bi, .int .u64 bc, .int .u64 bv, .int .u64 bv2, .int .u64 bn, .bool bg])).run Tryd.prog w = .ok (teq ai ac av av2 an ag bi bc bv bv2 bn bg) w from eqTr 9996 w ai ac av av2 an ag bi bc bv bv2 bn bg]
theorem asksV_range (h : Ht) (la lb lc ld : Bool) (lg lt : Int) : 0 ≤ asksV h la lb lc ld lg lt ∧ asksV h la lb lc ld lg lt < 18446744073709551616 := by unfold asksV; rw [and_u64]; exact U_range _
theorem trapS (m : Nat) (hm : m < 64) : trapV (some (m : Int)) = #[.bool true, .int .u64 (9223372036854775808 + (m : Int)), .int .u64 0, .int .u64 0, .int .u64 0, .bool false] := by
  show #[_, Value.int .u64 (Go.bits .or .u64 9223372036854775808 (IntKind.u64.wrap (m : Int))), _, _, _, _] = _
  rw [(cause_word m hm).1]
theorem bit_eq1 (a : Int) (ha : 0 ≤ a ∧ a < 18446744073709551616) (m : Nat) (hm : m < 64) : (Go.bits .and .u64 (a / 2 ^ m) 1 == 1) = g a m ∧ (Go.bits .and .u64 (a / 2 ^ m) 1 == 0) = !g a m := by
  have e : a / 2 ^ m = shr .u64 a (m : Int) := by
    unfold shr; rw [Int.toNat_natCast, show IntKind.u64.bits = 64 from rfl, Nat.min_eq_left (by omega)]
  rw [e, shr_bit a ha m hm]; cases g a m <;> exact ⟨rfl, rfl⟩
theorem level_of {h : Ht} {av z : Int} (hn : nextO h av = some z) : ∃ m : Nat, z = m ∧ m < 64 ∧ ((openV h 0 = true ∧ g (levelV h av 0) m = true) ∨ (candV h av 0 = none ∧ openV h 1 = true ∧ g (levelV h av 1) m = true) ∨ (candV h av 0 = none ∧ openV h 2 = true ∧ g (levelV h av 2) m = true)) := by
  rcases nextO_some hn with h0 | ⟨h0, h1⟩ | ⟨h0, h1, h2⟩
  · obtain ⟨ho, m, e, hm, hg, _⟩ := candV_some h0; exact ⟨m, e, hm, .inl ⟨ho, hg⟩⟩
  · obtain ⟨ho, m, e, hm, hg, _⟩ := candV_some h1; exact ⟨m, e, hm, .inr (.inl ⟨h0, ho, hg⟩)⟩
  · obtain ⟨ho, m, e, hm, hg, _⟩ := candV_some h2; exact ⟨m, e, hm, .inr (.inr ⟨h0, ho, hg⟩)⟩
theorem pend_set (h : Ht) (v : Int) (la lb lc ld : Bool) (lg lt : Int) : pendV (h.set 41 v) la lb lc ld lg lt = pendV h la lb lc ld lg lt := rfl
theorem open_set (h : Ht) (v : Int) (j : Nat) : openV (h.set 41 v) j = openV h j := by unfold openV; rfl
theorem g_lev (h : Ht) (av : Int) (j i : Nat) (hi : i < 64) : g (levelV h av j) i = (g av i && (match j with | 0 => !g (h.x 40) i | 1 => g (h.x 40) i && !g (h.x 60) i | _ => g (h.x 40) i && g (h.x 60) i)) := by
  obtain ⟨l0, l1, _⟩ := g_level h av i hi
  match j with
  | 0 => exact l0
  | 1 => rw [l1, Bool.and_assoc]; rfl
  | j + 2 =>
    show g (Go.bits .and .u64 (Go.bits .and .u64 av (h.x 40)) (h.x 60)) i = _
    rw [g_and, g_and, Bool.and_assoc]; rfl
theorem fewer_law (h : Ht) (la lb lc ld : Bool) (lg lt : Int) (m k : Nat) (hm : m < 64) (hk : k < 64) (hx : nextO h (asksV h la lb lc ld lg lt) = some (m : Int)) (hne : ¬ k = m) :
    nextO (h.set 41 (Go.bits .andNot .u64 (h.x 41) (IntKind.u64.wrap (2 ^ k)))) (asksV (h.set 41 (Go.bits .andNot .u64 (h.x 41) (IntKind.u64.wrap (2 ^ k)))) la lb lc ld lg lt) = some (m : Int) := by
  have ea : ∀ i, i < 64 → g (asksV (h.set 41 (Go.bits .andNot .u64 (h.x 41) (IntKind.u64.wrap (2 ^ k)))) la lb lc ld lg lt) i = (g (asksV h la lb lc ld lg lt) i && !decide (k = i)) := fun i hi => by
    unfold asksV
    rw [pend_set, g_and, g_and, show (h.set 41 (Go.bits .andNot .u64 (h.x 41) (IntKind.u64.wrap (2 ^ k)))).x 41 = (Go.bits .andNot .u64 (h.x 41) (IntKind.u64.wrap (2 ^ k))) from rfl, g_andNot _ _ _ hi]
    have e2 : IntKind.u64.wrap ((2 : Int) ^ k) = ((2 ^ k : Nat) : Int) := by
      have h2 : ((2 : Int) ^ k) = ((2 ^ k : Nat) : Int) := by simp
      have h3 : 2 ^ k < 18446744073709551616 := (Nat.pow_lt_pow_right (a := 2) (by decide) hk : 2 ^ k < 2 ^ 64)
      rw [h2, IntKind.wrap_u64]
      generalize 2 ^ k = q at h3 ⊢
      omega
    rw [e2, g_pow k i hk hi, Bool.and_assoc]
  generalize asksV (h.set 41 (Go.bits .andNot .u64 (h.x 41) (IntKind.u64.wrap (2 ^ k)))) la lb lc ld lg lt = av2 at *
  generalize asksV h la lb lc ld lg lt = av at *
  have hl : ∀ j i, i < 64 → g (levelV (h.set 41 (Go.bits .andNot .u64 (h.x 41) (IntKind.u64.wrap (2 ^ k)))) av2 j) i = (g (levelV h av j) i && !decide (k = i)) := fun j i hi => by
    rw [g_lev _ _ _ _ hi, g_lev _ _ _ _ hi, ea i hi]
    rw [show (h.set 41 (Go.bits .andNot .u64 (h.x 41) (IntKind.u64.wrap (2 ^ k)))).x 40 = h.x 40 from rfl, show (h.set 41 (Go.bits .andNot .u64 (h.x 41) (IntKind.u64.wrap (2 ^ k)))).x 60 = h.x 60 from rfl]
    cases g av i <;> cases decide (k = i) <;> simp
  have hc0 : ∀ j, candV h av j = none → candV (h.set 41 (Go.bits .andNot .u64 (h.x 41) (IntKind.u64.wrap (2 ^ k)))) av2 j = none := fun j hc => by
    unfold candV
    rw [open_set]
    by_cases ho : openV h j = true
    · rw [if_pos ho, pick_find _ (levelV_range _ _ _)]
      have h0 := candV_none ho hc
      have : pickN (levelV (h.set 41 (Go.bits .andNot .u64 (h.x 41) (IntKind.u64.wrap (2 ^ k)))) av2 j) = none := List.find?_eq_none.2 (fun i hi => by
        rw [hl j i (allN_lt i hi), h0]; simp [g])
      rw [this]; rfl
    · rw [if_neg ho]
  have hc1 : ∀ j, candV h av j = some (m : Int) → candV (h.set 41 (Go.bits .andNot .u64 (h.x 41) (IntKind.u64.wrap (2 ^ k)))) av2 j = some (m : Int) := fun j hc => by
    obtain ⟨ho, m', e, hm', hg, hp⟩ := candV_some hc
    obtain rfl : m = m' := Int.ofNat.inj e
    unfold candV
    rw [open_set, if_pos ho, pick_find _ (levelV_range _ _ _)]
    have hp2 : pickN (levelV (h.set 41 (Go.bits .andNot .u64 (h.x 41) (IntKind.u64.wrap (2 ^ k)))) av2 j) = some m := by
      have hcong : ∀ l : List Nat, (∀ i ∈ l, i < 64) → l.find? (g (levelV (h.set 41 (Go.bits .andNot .u64 (h.x 41) (IntKind.u64.wrap (2 ^ k)))) av2 j)) = l.find? (fun i => g (levelV h av j) i && !decide (k = i)) := by
        intro l
        induction l with
        | nil => intro _; rfl
        | cons a l ih => intro hl2; rw [List.find?_cons, List.find?_cons, hl j a (hl2 a (by simp)), ih (fun i hi => hl2 i (by simp [hi]))]
      unfold pickN
      rw [hcong allN allN_lt]
      exact find_fewer m (by rw [hg]; simp [hne]) (fun i hi => ((Bool.and_eq_true _ _).mp hi).1) allN hp
    rw [hp2]; rfl
  rw [nextO_eq]
  rcases nextO_some hx with h0 | ⟨h0, h1⟩ | ⟨h0, h1, h2⟩
  · rw [hc1 0 h0]; rfl
  · rw [hc0 0 h0, hc1 1 h1]; rfl
  · rw [hc0 0 h0, hc0 1 h1, hc1 2 h2]; rfl

set_option maxHeartbeats 16000000 in
set_option maxRecDepth 100000 in
theorem fewer_c (h : Ht) (hw : h.wf) (la lb lc ld : Bool) (lg lt : Int) (b : Int) (hb0 : 0 ≤ b ∧ b < 256) (w : World) (hT : Tab w) (hZ : TabZ w) : Calls Tryd.prog 4 #[.agg h.cs, .agg #[.bool la, .bool lb, .bool lc, .bool ld, .int .u64 lg, .int .u64 lt], .int .u8 b] w fun e w' => e = .returned (.bool true) ∧ Below w.heap.size w w' := by
  have HN := next_c h la lb lc ld lg lt
  have HT := Lib.hid hT; have HZ := Lib.hid hZ; clear hT hZ
  generalize hav : asksV h la lb lc ld lg lt = av at *
  cases hx : nextO h av with
  | none =>
    rw [hx, trap0] at HN
    replace HN := Lib.hid HN
    have HX := Lib.hid hx
    clear hx hw
    have hu25 := Tryd.underlying25; have hu27 := Tryd.underlying27
    go_enter Tryd.func4, Tryd.ntmps4
    go_upto_region 1 with (first | ((with_reducible refine gate_dst (N := 3) rfl ?_); refine box_event ?hg (N := 3) ?hd (cs := h.cs) (t := 25) ?hr ?_; (case hd => rfl); (case hg => rfl); (case hr => first | (go_simp; done) | (go_simp; rfl)); intro ga hg w_1 H1 hb; have hB_2 := Lib.hid (below_step (Below.refl w.heap.size w) hb); have G_ga := Lib.hid (show w.heap.size ≤ ga by rw [hg]; exact ((Below.refl w.heap.size w)).size); have K_ga := Lib.hid (show Hb w_1 ga h from H1); clear hg hb H1) | ((with_reducible refine gate_dst (N := 4) rfl ?_); refine box_event ?hg (N := 4) ?hd (cs := #[.bool la, .bool lb, .bool lc, .bool ld, .int .u64 lg, .int .u64 lt]) (t := 27) ?hr ?_; (case hd => rfl); (case hg => rfl); (case hr => first | (go_simp; done) | (go_simp; rfl)); intro gt hg w_3 H1 hb; have hB_4 := Lib.hid (below_step hB_2.out hb); have G_gt := Lib.hid (show w.heap.size ≤ gt by rw [hg]; exact (hB_2.out).size); have N_ga_gt := Lib.hid (show ga ≠ gt by rw [hg]; exact Nat.ne_of_lt (K_ga.out.lt)); replace K_ga := Lib.hid (K_ga.out.below hb); have K_gt := Lib.hid (show w_3.heap[gt]? = some (.cells #[.bool la, .bool lb, .bool lc, .bool ld, .int .u64 lg, .int .u64 lt] 27 (0, 0)) from H1); clear hg hb H1 hB_2; clear hu25 hu27))
    go_wp2_with (first | ((with_reducible refine gate_dst (N := 10) rfl ?_); (first | (refine gate_guard (by kernel_rfl) ?_) | skip); refine Kd.event_run rfl (v := .agg (h).cs) (w1 := w_3) ?hb ?_; (case hb => exact exec_load_hart rfl rfl K_ga.out)) | ((with_reducible refine gate_dst (N := 11) rfl ?_); (first | (refine gate_guard (by kernel_rfl) ?_) | skip); refine Kd.event_run rfl (v := .agg #[.bool la, .bool lb, .bool lc, .bool ld, .int .u64 lg, .int .u64 lt]) (w1 := w_3) ?hb ?_; (case hb => exact exec_load_blk rfl rfl K_gt.out Tryd.underlying27 rfl (by kernel_rfl))))
    refine (HN.out _ (TabZ.from HZ.out hB_4.out)).mono ?_
    rintro e_5 w_6 ⟨rfl, hb⟩
    have hB_7 := Lib.hid (below_step hB_4.out hb)
    replace K_ga := Lib.hid (K_ga.out.below hb)
    replace K_gt := Lib.hid (blk_below K_gt.out hb)
    clear hb hB_4
    go_upto_region 2 with (first | ((with_reducible refine gate_dst (N := 7) rfl ?_); refine box_event ?hg (N := 7) ?hd (cs := #[.bool false, .int .u64 0, .int .u64 0, .int .u64 0, .int .u64 0, .bool false]) (t := 29) ?hr ?_; (case hd => rfl); (case hg => rfl); (case hr => first | (go_simp; done) | (go_simp; rfl)); intro gn hg w_8 H1 hb; have hB_9 := Lib.hid (below_step hB_7.out hb); have G_gn := Lib.hid (show w.heap.size ≤ gn by rw [hg]; exact (hB_7.out).size); have N_ga_gn := Lib.hid (show ga ≠ gn by rw [hg]; exact Nat.ne_of_lt (K_ga.out.lt)); have N_gt_gn := Lib.hid (show gt ≠ gn by rw [hg]; exact Nat.ne_of_lt (blk_lt K_gt.out)); replace K_ga := Lib.hid (K_ga.out.below hb); replace K_gt := Lib.hid (blk_below K_gt.out hb); have K_gn := Lib.hid (show w_8.heap[gn]? = some (.cells #[.bool false, .int .u64 0, .int .u64 0, .int .u64 0, .int .u64 0, .bool false] 29 (0, 0)) from H1); clear hg hb H1 hB_7) | (refine wpList_store_mid rfl 29 (.tmp 7) (.tmp 12) rfl gn 0 #[.bool false, .int .u64 0, .int .u64 0, .int .u64 0, .int .u64 0, .bool false] rfl rfl (blk_there K_gn.out rfl) (by kernel_rfl) (by simp [Value.oneCell']) ?_; have hB_11 := Lib.hid (setCells_below G_gn.out (Array.toList #[.bool false, .int .u64 0, .int .u64 0, .int .u64 0, .int .u64 0, .bool false]) 0 _ hB_9.out); replace K_ga := Lib.hid (Hb.farAll (vs := Array.toList #[.bool false, .int .u64 0, .int .u64 0, .int .u64 0, .int .u64 0, .bool false]) (o := 0) N_ga_gn.out K_ga.out); replace K_gt := Lib.hid (setCells_far' (vs := Array.toList #[.bool false, .int .u64 0, .int .u64 0, .int .u64 0, .int .u64 0, .bool false]) (o := 0) N_gt_gn.out K_gt.out); replace K_gn := Lib.hid (blk_putAll #[.bool false, .int .u64 0, .int .u64 0, .int .u64 0, .int .u64 0, .bool false] K_gn.out rfl); clear hB_9; generalize World.setCells w_8 gn 0 (Array.toList #[.bool false, .int .u64 0, .int .u64 0, .int .u64 0, .int .u64 0, .bool false]) = w_10 at K_ga K_gt K_gn hB_11 ⊢))
    have c_gn_0 := (show World.cell? _ ⟨gn, 0, none⟩ = some (.bool false) from (blk_cell K_gn.out 0).trans rfl); have f_gn_0 := blk_frozen K_gn.out 0
    have c_gn_1 := (show World.cell? _ ⟨gn, 1, none⟩ = some (.int .u64 0) from (blk_cell K_gn.out 1).trans rfl); have f_gn_1 := blk_frozen K_gn.out 1
    have c_ga_41 := K_ga.out.u 41 rfl; have f_ga_41 := K_ga.out.fr 41
    go_wp2_with fail
    refine (wakes_c _ (Tab.from HT.out hB_11.out) (TabZ.from HZ.out hB_11.out)).mono ?_
    rintro e_12 w_13 ⟨rfl, hb⟩
    clear c_gn_0 f_gn_0 c_gn_1 f_gn_1 c_ga_41 f_ga_41
    have hB_14 := Lib.hid (below_step hB_11.out hb)
    replace K_ga := Lib.hid (K_ga.out.below hb)
    replace K_gt := Lib.hid (blk_below K_gt.out hb)
    replace K_gn := Lib.hid (blk_below K_gn.out hb)
    clear hb hB_11
    go_wp2
    go_ret
    exact ⟨rfl, hB_14.out⟩
  | some z =>
    obtain ⟨m, rfl, hm, _⟩ := level_of hx
    rw [hx, trapS m hm] at HN
    have hc := (cause_word m hm).2.1
    obtain ⟨k, hk, hk64⟩ : ∃ k : Nat, b % 64 = (k : Int) ∧ k < 64 := ⟨(b % 64).toNat, by omega, by omega⟩
    replace HN := Lib.hid HN
    have HX := Lib.hid hx
    clear hx hw
    have hu25 := Tryd.underlying25; have hu27 := Tryd.underlying27
    go_enter Tryd.func4, Tryd.ntmps4
    go_upto_region 1 with (first | ((with_reducible refine gate_dst (N := 3) rfl ?_); refine box_event ?hg (N := 3) ?hd (cs := h.cs) (t := 25) ?hr ?_; (case hd => rfl); (case hg => rfl); (case hr => first | (go_simp; done) | (go_simp; rfl)); intro ga hg w_1 H1 hb; have hB_2 := Lib.hid (below_step (Below.refl w.heap.size w) hb); have G_ga := Lib.hid (show w.heap.size ≤ ga by rw [hg]; exact ((Below.refl w.heap.size w)).size); have K_ga := Lib.hid (show Hb w_1 ga h from H1); clear hg hb H1) | ((with_reducible refine gate_dst (N := 4) rfl ?_); refine box_event ?hg (N := 4) ?hd (cs := #[.bool la, .bool lb, .bool lc, .bool ld, .int .u64 lg, .int .u64 lt]) (t := 27) ?hr ?_; (case hd => rfl); (case hg => rfl); (case hr => first | (go_simp; done) | (go_simp; rfl)); intro gt hg w_3 H1 hb; have hB_4 := Lib.hid (below_step hB_2.out hb); have G_gt := Lib.hid (show w.heap.size ≤ gt by rw [hg]; exact (hB_2.out).size); have N_ga_gt := Lib.hid (show ga ≠ gt by rw [hg]; exact Nat.ne_of_lt (K_ga.out.lt)); replace K_ga := Lib.hid (K_ga.out.below hb); have K_gt := Lib.hid (show w_3.heap[gt]? = some (.cells #[.bool la, .bool lb, .bool lc, .bool ld, .int .u64 lg, .int .u64 lt] 27 (0, 0)) from H1); clear hg hb H1 hB_2; clear hu25 hu27))
    go_wp2_with (first | ((with_reducible refine gate_dst (N := 10) rfl ?_); (first | (refine gate_guard (by kernel_rfl) ?_) | skip); refine Kd.event_run rfl (v := .agg (h).cs) (w1 := w_3) ?hb ?_; (case hb => exact exec_load_hart rfl rfl K_ga.out)) | ((with_reducible refine gate_dst (N := 11) rfl ?_); (first | (refine gate_guard (by kernel_rfl) ?_) | skip); refine Kd.event_run rfl (v := .agg #[.bool la, .bool lb, .bool lc, .bool ld, .int .u64 lg, .int .u64 lt]) (w1 := w_3) ?hb ?_; (case hb => exact exec_load_blk rfl rfl K_gt.out Tryd.underlying27 rfl (by kernel_rfl))))
    refine (HN.out _ (TabZ.from HZ.out hB_4.out)).mono ?_
    rintro e_5 w_6 ⟨rfl, hb⟩
    have hB_7 := Lib.hid (below_step hB_4.out hb)
    replace K_ga := Lib.hid (K_ga.out.below hb)
    replace K_gt := Lib.hid (blk_below K_gt.out hb)
    clear hb hB_4
    go_upto_region 2 with (first | ((with_reducible refine gate_dst (N := 7) rfl ?_); refine box_event ?hg (N := 7) ?hd (cs := #[.bool false, .int .u64 0, .int .u64 0, .int .u64 0, .int .u64 0, .bool false]) (t := 29) ?hr ?_; (case hd => rfl); (case hg => rfl); (case hr => first | (go_simp; done) | (go_simp; rfl)); intro gn hg w_8 H1 hb; have hB_9 := Lib.hid (below_step hB_7.out hb); have G_gn := Lib.hid (show w.heap.size ≤ gn by rw [hg]; exact (hB_7.out).size); have N_ga_gn := Lib.hid (show ga ≠ gn by rw [hg]; exact Nat.ne_of_lt (K_ga.out.lt)); have N_gt_gn := Lib.hid (show gt ≠ gn by rw [hg]; exact Nat.ne_of_lt (blk_lt K_gt.out)); replace K_ga := Lib.hid (K_ga.out.below hb); replace K_gt := Lib.hid (blk_below K_gt.out hb); have K_gn := Lib.hid (show w_8.heap[gn]? = some (.cells #[.bool false, .int .u64 0, .int .u64 0, .int .u64 0, .int .u64 0, .bool false] 29 (0, 0)) from H1); clear hg hb H1 hB_7) | (refine wpList_store_mid rfl 29 (.tmp 7) (.tmp 12) rfl gn 0 #[.bool true, .int .u64 (9223372036854775808 + (m : Int)), .int .u64 0, .int .u64 0, .int .u64 0, .bool false] rfl rfl (blk_there K_gn.out rfl) (by kernel_rfl) (by simp [Value.oneCell']) ?_; have hB_11 := Lib.hid (setCells_below G_gn.out (Array.toList #[.bool true, .int .u64 (9223372036854775808 + (m : Int)), .int .u64 0, .int .u64 0, .int .u64 0, .bool false]) 0 _ hB_9.out); replace K_ga := Lib.hid (Hb.farAll (vs := Array.toList #[.bool true, .int .u64 (9223372036854775808 + (m : Int)), .int .u64 0, .int .u64 0, .int .u64 0, .bool false]) (o := 0) N_ga_gn.out K_ga.out); replace K_gt := Lib.hid (setCells_far' (vs := Array.toList #[.bool true, .int .u64 (9223372036854775808 + (m : Int)), .int .u64 0, .int .u64 0, .int .u64 0, .bool false]) (o := 0) N_gt_gn.out K_gt.out); replace K_gn := Lib.hid (blk_putAll #[.bool true, .int .u64 (9223372036854775808 + (m : Int)), .int .u64 0, .int .u64 0, .int .u64 0, .bool false] K_gn.out rfl); clear hB_9; generalize World.setCells w_8 gn 0 (Array.toList #[.bool true, .int .u64 (9223372036854775808 + (m : Int)), .int .u64 0, .int .u64 0, .int .u64 0, .bool false]) = w_10 at K_ga K_gt K_gn hB_11 ⊢))
    have c_gn_0 := (show World.cell? _ ⟨gn, 0, none⟩ = some (.bool true) from (blk_cell K_gn.out 0).trans rfl); have f_gn_0 := blk_frozen K_gn.out 0
    have c_gn_1 := (show World.cell? _ ⟨gn, 1, none⟩ = some (.int .u64 (9223372036854775808 + (m : Int))) from (blk_cell K_gn.out 1).trans rfl); have f_gn_1 := blk_frozen K_gn.out 1
    have c_ga_41 := K_ga.out.u 41 rfl; have f_ga_41 := K_ga.out.fr 41
    rcases Nat.decEq k m with hne | heq
    rotate_left
    · have hkm : ((k : Int) == (m : Int)) = true := by rw [heq]; simp
      go_wp2_with fail
      refine (wakes_c _ (Tab.from HT.out hB_11.out) (TabZ.from HZ.out hB_11.out)).mono ?_
      rintro e_12 w_13 ⟨rfl, hb⟩
      clear c_gn_0 f_gn_0 c_gn_1 f_gn_1 c_ga_41 f_ga_41
      have hB_14 := Lib.hid (below_step hB_11.out hb)
      replace K_ga := Lib.hid (K_ga.out.below hb)
      replace K_gt := Lib.hid (blk_below K_gt.out hb)
      replace K_gn := Lib.hid (blk_below K_gn.out hb)
      clear hb hB_11
      go_wp2
      go_ret
      exact ⟨rfl, hB_14.out⟩
    · have hkm : ((k : Int) == (m : Int)) = false := by exact beq_eq_false_iff_ne.2 (fun e => hne (Int.ofNat.inj e))
      have HN2 := next_c (h.set 41 (Go.bits .andNot .u64 (h.x 41) (IntKind.u64.wrap (2 ^ k)))) la lb lc ld lg lt
      have hx2 := fewer_law h la lb lc ld lg lt m k hm hk64 (by rw [hav]; exact HX.out) hne
      rw [hx2, trapS m hm] at HN2
      replace HN2 := Lib.hid HN2
      clear hx2 hav
      go_upto_region 7 with fail
      refine world_code ga (by repeat (with_reducible first | exact K_ga.out | apply Hb.put | apply Hb.putP | apply Hb.putV | apply Hb.putW | apply Hb.putH | apply Hb.far N_ga_gt.out | apply Hb.far N_ga_gn.out | apply Hb.drewN | apply Hb.drew)) (fun w' => Below w.heap.size w w' ∧ w'.heap[gt]? = some (.cells #[.bool la, .bool lb, .bool lc, .bool ld, .int .u64 lg, .int .u64 lt] 27 (0, 0)) ∧ w'.heap[gn]? = some (.cells #[.bool true, .int .u64 (9223372036854775808 + (m : Int)), .int .u64 0, .int .u64 0, .int .u64 0, .bool false] 29 (0, 0))) ⟨(by repeat (first | (with_reducible first | exact hB_11.out | apply pw_below_drewN | apply below_drew1 | refine below_set ?_ G_ga.out | refine below_set ?_ G_gt.out | refine below_set ?_ G_gn.out) | exact hB_11.out)), (by repeat (with_reducible first | exact K_gt.out | apply blk_drewN | apply blk_drew | refine blk_far ?_ (show gt ≠ _ from (Ne.symm N_ga_gt.out)) _ | refine blk_far ?_ (show gt ≠ _ from N_gt_gn.out) _)), (by repeat (with_reducible first | exact K_gn.out | apply blk_drewN | apply blk_drew | refine blk_far ?_ (show gn ≠ _ from (Ne.symm N_ga_gn.out)) _ | refine blk_far ?_ (show gn ≠ _ from (Ne.symm N_gt_gn.out)) _))⟩ ?_
      clear c_gn_0 f_gn_0 c_gn_1 f_gn_1 c_ga_41 f_ga_41
      clear K_ga K_gt K_gn hB_11
      rintro w_12 q_ ⟨b_, q_gt, q_gn⟩
      have K_ga := Lib.hid q_; have hB_13 := Lib.hid b_; have K_gt := Lib.hid q_gt; have K_gn := Lib.hid q_gn
      clear q_ b_ q_gt q_gn
      generalize (h.set 41 (Go.bits .andNot .u64 (h.x 41) (IntKind.u64.wrap (2 ^ k)))) = h2 at *
      refine start_ (n := 9) (S := fun w' => Hb w' ga h2 ∧ w'.heap[gt]? = some (.cells #[.bool la, .bool lb, .bool lc, .bool ld, .int .u64 lg, .int .u64 lt] 27 (0, 0)) ∧ w'.heap[gn]? = some (.cells #[.bool true, .int .u64 (9223372036854775808 + (m : Int)), .int .u64 0, .int .u64 0, .int .u64 0, .bool false] 29 (0, 0)) ∧ Tab w' ∧ TabZ w') (ds := []) #[false, false, false, false, false, false, false, false, false] (by kernel_rfl) rfl rfl ⟨K_ga.out.drew, blk_drew K_gt.out, blk_drew K_gn.out, (Tab.from HT.out (below_drew1 hB_13.out)), (TabZ.from HZ.out (below_drew1 hB_13.out))⟩ (fun hHeld => ?_)
      replace K_ga := Lib.hid (K_ga.out.drew)
      replace K_gt := Lib.hid (blk_drew K_gt.out)
      replace K_gn := Lib.hid (blk_drew K_gn.out)
      have hB_15 := Lib.hid (below_drew1 hB_13.out)
      clear hB_13
      generalize World.drew w_12 = w_14 at K_ga K_gt K_gn hB_15 hHeld ⊢
      refine take_ (i := 0) (N := some 34) (v := .agg h2.cs) (a' := ?_) #[true, false, false, false, false, false, false, false, false] rfl rfl (by kernel_rfl) (fun _ _ _ h => h) (Or.inl ⟨by rfl, ?_⟩) hHeld ?_ ?_
      · rintro w' ⟨s0, s1, s2, s3, s4⟩; exact exec_load_hart rfl rfl s0
      rotate_left
      · simp only [Act.put, List.setIfInBounds_toArray, List.set_cons_zero, List.set_cons_succ, i64_w, i32_w]
        rfl
      refine take_ (i := 1) (N := some 35) (v := .agg #[.bool la, .bool lb, .bool lc, .bool ld, .int .u64 lg, .int .u64 lt]) (a' := ?_) #[true, true, false, false, false, false, false, false, false] rfl rfl (by kernel_rfl) (fun _ _ _ h => h) (Or.inl ⟨by rfl, ?_⟩) hHeld ?_ ?_
      · rintro w' ⟨s0, s1, s2, s3, s4⟩; exact exec_load_blk rfl rfl s1 Tryd.underlying27 rfl (by kernel_rfl)
      rotate_left
      · simp only [Act.put, List.setIfInBounds_toArray, List.set_cons_zero, List.set_cons_succ, i64_w, i32_w]
        rfl
      refine take_ (i := 3) (N := some 37) (v := .agg #[.bool true, .int .u64 (9223372036854775808 + (m : Int)), .int .u64 0, .int .u64 0, .int .u64 0, .bool false]) (a' := ?_) #[true, true, false, true, false, false, false, false, false] rfl rfl (by kernel_rfl) (fun _ _ _ h => h) (Or.inl ⟨by rfl, ?_⟩) hHeld ?_ ?_
      · rintro w' ⟨s0, s1, s2, s3, s4⟩; exact exec_load_blk rfl rfl s2 Tryd.underlying29 rfl (by kernel_rfl)
      rotate_left
      · simp only [Act.put, List.setIfInBounds_toArray, List.set_cons_zero, List.set_cons_succ, i64_w, i32_w]
        rfl
      have HH := Lib.hid hHeld
      clear hHeld
      refine one_ (i := 2) (N := some 36) #[true, true, true, true, false, false, false, false, false] rfl rfl (by kernel_rfl) (by decide) (fun K hK => ?_)
      refine goes_ Tryd.func7 (by kernel_rfl) rfl #[.agg h2.cs, .agg #[.bool la, .bool lb, .bool lc, .bool ld, .int .u64 lg, .int .u64 lt]] (by rfl) rfl rfl (by simp only [List.map_toArray, List.map_cons, List.map_nil]; rfl) ?_
      with_reducible refine (HN2.out _ HH.out.2.2.2.2).mono ?_
      rintro e_ w_16 ⟨rfl, hb⟩
      refine ⟨_, rfl, ?_⟩
      have s_0 := Hb.below (HH.out.1) hb
      have s_1 := blk_below (HH.out.2.1) hb
      have s_2 := blk_below (HH.out.2.2.1) hb
      have s_3 := Tab.from (HH.out.2.2.2.1) hb
      have s_4 := TabZ.from (HH.out.2.2.2.2) hb
      replace K_ga := Lib.hid (K_ga.out.below hb)
      replace K_gt := Lib.hid (blk_below K_gt.out hb)
      replace K_gn := Lib.hid (blk_below K_gn.out hb)
      have hB_17 := Lib.hid (below_step hB_15.out hb)
      clear HH hb hB_15
      refine hK.out _ _ ⟨s_0, s_1, s_2, s_3, s_4⟩ (fun hHeld => ?_)
      have HH := Lib.hid hHeld
      clear hHeld s_0 s_1 s_2 s_3 s_4
      clear hK K
      refine norm_ (a' := ?_) ?_ ?_
      rotate_left
      · show Act.put _ (some 36) _ = _
        simp only [Act.put, List.setIfInBounds_toArray, List.set_cons_zero, List.set_cons_succ, i64_w, i32_w]
        rfl
      refine pure_ (i := 4) (N := some 38) (v := .bool true) (a' := ?_) #[true, true, true, true, true, false, false, false, false] rfl rfl (by kernel_rfl) (fun _ _ _ h => h) (Or.inl ⟨by rfl, ?_⟩) ?_ ?_
      · intro w'; exact exec_teq rfl rfl rfl (teq_self _ _ _ _ _ _)
      rotate_left
      · simp only [Act.put, List.setIfInBounds_toArray, List.set_cons_zero, List.set_cons_succ, i64_w, i32_w]
        rfl
      refine pure_ (i := 5) (N := some 39) (v := ?_) (a' := ?_) #[true, true, true, true, true, true, false, false, false] rfl rfl (by kernel_rfl) (fun _ _ _ h => h) (Or.inl ⟨by rfl, ?_⟩) ?_ ?_
      rotate_left
      · intro w'
        go_simp
        with_reducible rfl
      rotate_left
      · simp only [Act.put, List.setIfInBounds_toArray, List.set_cons_zero, List.set_cons_succ, i64_w, i32_w]
        rfl
      refine one_ (i := 6) (N := some 40) #[true, true, true, true, true, true, true, false, false] rfl rfl (by kernel_rfl) (by decide) (fun K hK => ?_)
      refine goes_ Tryd.func8 (by kernel_rfl) rfl #[] (by rfl) rfl rfl (by simp) ?_
      with_reducible refine (wakes_c _ HH.out.2.2.2.1 HH.out.2.2.2.2).mono ?_
      rintro e_ w_18 ⟨rfl, hb⟩
      refine ⟨_, rfl, ?_⟩
      have s_0 := Hb.below (HH.out.1) hb
      have s_1 := blk_below (HH.out.2.1) hb
      have s_2 := blk_below (HH.out.2.2.1) hb
      have s_3 := Tab.from (HH.out.2.2.2.1) hb
      have s_4 := TabZ.from (HH.out.2.2.2.2) hb
      replace K_ga := Lib.hid (K_ga.out.below hb)
      replace K_gt := Lib.hid (blk_below K_gt.out hb)
      replace K_gn := Lib.hid (blk_below K_gn.out hb)
      have hB_19 := Lib.hid (below_step hB_17.out hb)
      clear HH hb hB_17
      refine hK.out _ _ ⟨s_0, s_1, s_2, s_3, s_4⟩ (fun hHeld => ?_)
      have HH := Lib.hid hHeld
      clear hHeld s_0 s_1 s_2 s_3 s_4
      clear hK K
      refine norm_ (a' := ?_) ?_ ?_
      rotate_left
      · show Act.put _ (some 40) _ = _
        simp only [Act.put, List.setIfInBounds_toArray, List.set_cons_zero, List.set_cons_succ, i64_w, i32_w]
        rfl
      refine pure_ (i := 7) (N := some 41) (v := ?_) (a' := ?_) #[true, true, true, true, true, true, true, true, false] rfl rfl (by kernel_rfl) (fun _ _ _ h => h) (Or.inl ⟨by rfl, ?_⟩) ?_ ?_
      rotate_left
      · intro w'
        go_simp
        with_reducible rfl
      rotate_left
      · simp only [Act.put, List.setIfInBounds_toArray, List.set_cons_zero, List.set_cons_succ, i64_w, i32_w]
        rfl
      refine pure_ (i := 8) (N := some 6) (v := ?_) (a' := ?_) #[true, true, true, true, true, true, true, true, true] rfl rfl (by kernel_rfl) (fun _ _ _ h => h) (Or.inl ⟨by rfl, ?_⟩) ?_ ?_
      rotate_left
      · intro w'
        go_simp
        with_reducible rfl
      rotate_left
      · simp only [Act.put, List.setIfInBounds_toArray, List.set_cons_zero, List.set_cons_succ, i64_w, i32_w]
        rfl
      refine done_ (by kernel_rfl) ?_
      try clear HH
      go_wp2
      go_ret
      exact ⟨rfl, hB_19.out⟩
end Go.Proofs.YtpbodidpcbodaaaDoor.Hx
namespace Go.Proofs.YtpbodidpcbodaaaDoor.Pure
open Go.RowKit Go.Proofs.YtpbodidpcbodaaaDoor.Hx Go.Proofs.YtpbodidpcbodaaaDoor.Bv Go.Proofs.YtpbodidpcbodaaaDoor.Q
theorem IrqFewer (h : Ht) (la lb lc ld : Bool) (lg lt : Int) (b : Int) (w : World) (hw : h.wf) (wg : (Lit.int .u64 lg).wf = true) (wt : (Lit.int .u64 lt).wf = true) (wb : (Lit.int .u8 b).wf = true) (hT : Tab w ∧ TabZ w) :
    Calls Tryd.prog 4 #[.agg h.cs, .agg #[.bool la, .bool lb, .bool lc, .bool ld, .int .u64 lg, .int .u64 lt], .int .u8 b] w fun e w' => e = .returned (.bool true) ∧ Below w.heap.size w w' :=
  fewer_c h hw la lb lc ld lg lt b (u8_in wb) w hT.1 hT.2
end Go.Proofs.YtpbodidpcbodaaaDoor.Pure
