/- What a register says. (By a program of this session.) -/
import Derived.Test.YtlopmcakfalkpaaDoorCPending
set_option linter.unusedSimpArgs false
set_option linter.unusedVariables false
namespace Go.Proofs.YtlopmcakfalkpaaDoor.Hx
open Go.RowKit Go.Proofs.YtlopmcakfalkpaaDoor.Q Go.Proofs.YtlopmcakfalkpaaDoorW.PrintWords Go.Proofs.YtlopmcakfalkpaaDoorW.PrintLast Go.Proofs.YtlopmcakfalkpaaDoorW.PrintMore Go.Proofs.YtlopmcakfalkpaaDoor.Rg

theorem fieldOff_isU {no : Int} {o : Nat} (h : fieldOff no = some o) : isU o = true := by
  have h_mOff : ∀ o, mOff no = some o → isU o = true := by
    intro o h; unfold mOff at h
    by_cases g : no = 768
    · rw [if_pos g] at h; cases h; rfl
    rw [if_neg g] at h; clear g
    by_cases g : no = 770
    · rw [if_pos g] at h; cases h; rfl
    rw [if_neg g] at h; clear g
    by_cases g : no = 771
    · rw [if_pos g] at h; cases h; rfl
    rw [if_neg g] at h; clear g
    by_cases g : no = 772
    · rw [if_pos g] at h; cases h; rfl
    rw [if_neg g] at h; clear g
    by_cases g : no = 773
    · rw [if_pos g] at h; cases h; rfl
    rw [if_neg g] at h; clear g
    by_cases g : no = 774
    · rw [if_pos g] at h; cases h; rfl
    rw [if_neg g] at h; clear g
    by_cases g : no = 832
    · rw [if_pos g] at h; cases h; rfl
    rw [if_neg g] at h; clear g
    by_cases g : no = 833
    · rw [if_pos g] at h; cases h; rfl
    rw [if_neg g] at h; clear g
    by_cases g : no = 834
    · rw [if_pos g] at h; cases h; rfl
    rw [if_neg g] at h; clear g
    by_cases g : no = 835
    · rw [if_pos g] at h; cases h; rfl
    rw [if_neg g] at h; clear g
    by_cases g : no = 843
    · rw [if_pos g] at h; cases h; rfl
    rw [if_neg g] at h; clear g
    by_cases g : no = 842
    · rw [if_pos g] at h; cases h; rfl
    rw [if_neg g] at h; clear g
    by_cases g : no = 2816
    · rw [if_pos g] at h; cases h; rfl
    rw [if_neg g] at h; clear g
    by_cases g : no = 2818
    · rw [if_pos g] at h; cases h; rfl
    rw [if_neg g] at h; clear g
    cases h
  have h_superOff : ∀ o, superOff no = some o → isU o = true := by
    intro o h; unfold superOff at h
    by_cases g : no = 261
    · rw [if_pos g] at h; cases h; rfl
    rw [if_neg g] at h; clear g
    by_cases g : no = 262
    · rw [if_pos g] at h; cases h; rfl
    rw [if_neg g] at h; clear g
    by_cases g : no = 320
    · rw [if_pos g] at h; cases h; rfl
    rw [if_neg g] at h; clear g
    by_cases g : no = 321
    · rw [if_pos g] at h; cases h; rfl
    rw [if_neg g] at h; clear g
    by_cases g : no = 322
    · rw [if_pos g] at h; cases h; rfl
    rw [if_neg g] at h; clear g
    by_cases g : no = 323
    · rw [if_pos g] at h; cases h; rfl
    rw [if_neg g] at h; clear g
    by_cases g : no = 384
    · rw [if_pos g] at h; cases h; rfl
    rw [if_neg g] at h; clear g
    by_cases g : no = 512
    · rw [if_pos g] at h; cases h; rfl
    rw [if_neg g] at h; clear g
    by_cases g : no = 517
    · rw [if_pos g] at h; cases h; rfl
    rw [if_neg g] at h; clear g
    by_cases g : no = 576
    · rw [if_pos g] at h; cases h; rfl
    rw [if_neg g] at h; clear g
    by_cases g : no = 577
    · rw [if_pos g] at h; cases h; rfl
    rw [if_neg g] at h; clear g
    by_cases g : no = 578
    · rw [if_pos g] at h; cases h; rfl
    rw [if_neg g] at h; clear g
    by_cases g : no = 579
    · rw [if_pos g] at h; cases h; rfl
    rw [if_neg g] at h; clear g
    by_cases g : no = 640
    · rw [if_pos g] at h; cases h; rfl
    rw [if_neg g] at h; clear g
    cases h
  have h_hypOff : ∀ o, hypOff no = some o → isU o = true := by
    intro o h; unfold hypOff at h
    by_cases g : no = 1536
    · rw [if_pos g] at h; cases h; rfl
    rw [if_neg g] at h; clear g
    by_cases g : no = 1538
    · rw [if_pos g] at h; cases h; rfl
    rw [if_neg g] at h; clear g
    by_cases g : no = 1539
    · rw [if_pos g] at h; cases h; rfl
    rw [if_neg g] at h; clear g
    by_cases g : no = 1605
    · rw [if_pos g] at h; cases h; rfl
    rw [if_neg g] at h; clear g
    by_cases g : no = 1543
    · rw [if_pos g] at h; cases h; rfl
    rw [if_neg g] at h; clear g
    by_cases g : no = 1542
    · rw [if_pos g] at h; cases h; rfl
    rw [if_neg g] at h; clear g
    by_cases g : no = 1603
    · rw [if_pos g] at h; cases h; rfl
    rw [if_neg g] at h; clear g
    by_cases g : no = 1610
    · rw [if_pos g] at h; cases h; rfl
    rw [if_neg g] at h; clear g
    by_cases g : no = 1664
    · rw [if_pos g] at h; cases h; rfl
    rw [if_neg g] at h; clear g
    by_cases g : no = 1541
    · rw [if_pos g] at h; cases h; rfl
    rw [if_neg g] at h; clear g
    cases h
  unfold fieldOff at h
  cases hm : mOff no with
  | some j => rw [hm] at h; cases h; exact h_mOff _ hm
  | none =>
    rw [hm] at h
    cases hs : superOff no with
    | some j => rw [hs] at h; cases h; exact h_superOff _ hs
    | none => rw [hs] at h; exact h_hypOff _ h
def readT (h : Ht) (la lb lc ld : Bool) (lg lt : Int) (m : Int) : Int := if m = 256 then Go.bits .or .u64 (Go.bits .and .u64 (h.x 38) 786722) 8589934592 else if m = 836 then pendV h la lb lc ld lg lt else if m = 324 then Go.bits .and .u64 (Go.bits .and .u64 (pendV h la lb lc ld lg lt) 546) (h.x 40) else if m = 260 then Go.bits .and .u64 (Go.bits .and .u64 (h.x 41) 546) (h.x 40) else if m = 1604 then Go.bits .and .u64 (pendV h la lb lc ld lg lt) 5188 else if m = 1540 then Go.bits .and .u64 (h.x 41) 5188 else if m = 580 then Go.bits .and .u64 (Go.bits .and .u64 (pendV h la lb lc ld lg lt) 1092) (h.x 60) / 2 else if m = 516 then Go.bits .and .u64 (Go.bits .and .u64 (h.x 41) 1092) (h.x 60) / 2 else if m = 3602 then Go.bits .and .u64 lg 2 else if m = 3072 then h.x 75 else if m = 3074 then h.x 76 else if m = 3073 then if h.v = true then IntKind.u64.wrap (lt + h.x 67) else lt else if m = 769 then 9223372036856091009 else 0
/-- What a register says. -/
def readV (h : Ht) (la lb lc ld : Bool) (lg lt : Int) (no : Int) : Int := match fieldOff (meantV h.v no) with
  | some o => h.x o
  | none => readT h la lb lc ld lg lt (meantV h.v no)
set_option maxHeartbeats 16000000 in
set_option maxRecDepth 100000 in
theorem read_c (h : Ht) (la lb lc ld : Bool) (lg lt : Int) (no : Int) (w : World) : Calls Tryd.prog 13 #[.agg h.cs, .agg #[.bool la, .bool lb, .bool lc, .bool ld, .int .u64 lg, .int .u64 lt], .int .i64 no] w fun e w' => e = .returned (.int .u64 (readV h la lb lc ld lg lt no)) ∧ Below w.heap.size w w' := by
  have hm := fun g w H => meant_c g no h w H
  unfold readV
  generalize meantV h.v no = no2 at hm ⊢
  have HM := Lib.hid hm; have HP := Lib.hid (pending_c h la lb lc ld lg lt)
  clear hm
  cases ho : fieldOff no2 with
  | some j =>
    have hj := fieldOff_isU ho
    have hf := fun g w => field_c g no2 w
    rw [ho] at hf
    have HF := Lib.hid hf; have HJ := Lib.hid hj
    clear hf ho hj
    simp only
    have hu25 := Tryd.underlying25; have hu27 := Tryd.underlying27
    go_enter Tryd.func13, Tryd.ntmps13
    go_wp2_with (first | ((with_reducible refine gate_dst (N := 3) rfl ?_); refine box_event ?hg (N := 3) ?hd (cs := h.cs) (t := 25) ?hr ?_; (case hd => rfl); (case hg => rfl); (case hr => first | (go_simp; done) | (go_simp; rfl)); intro ga hg w_1 H1 hb; have hB_2 := Lib.hid (below_step (Below.refl w.heap.size w) hb); have G_ga := Lib.hid (show w.heap.size ≤ ga by rw [hg]; exact ((Below.refl w.heap.size w)).size); have K_ga := Lib.hid (show Hb w_1 ga h from H1); clear hg hb H1) | ((with_reducible refine gate_dst (N := 4) rfl ?_); refine box_event ?hg (N := 4) ?hd (cs := #[.bool la, .bool lb, .bool lc, .bool ld, .int .u64 lg, .int .u64 lt]) (t := 27) ?hr ?_; (case hd => rfl); (case hg => rfl); (case hr => first | (go_simp; done) | (go_simp; rfl)); intro gt hg w_3 H1 hb; have hB_4 := Lib.hid (below_step hB_2.out hb); have G_gt := Lib.hid (show w.heap.size ≤ gt by rw [hg]; exact (hB_2.out).size); have N_ga_gt := Lib.hid (show ga ≠ gt by rw [hg]; exact Nat.ne_of_lt (K_ga.out.lt)); replace K_ga := Lib.hid (K_ga.out.below hb); have K_gt := Lib.hid (show w_3.heap[gt]? = some (.cells #[.bool la, .bool lb, .bool lc, .bool ld, .int .u64 lg, .int .u64 lt] 27 (0, 0)) from H1); clear hg hb H1 hB_2; clear hu25 hu27))
    refine (HM.out ga _ K_ga.out).mono ?_
    rintro e1 w1 ⟨rfl, rfl⟩
    go_wp2_with fail
    refine (HF.out ga _).mono ?_
    rintro e2 w2 ⟨rfl, rfl⟩
    simp only [ptrOf, Option.map_some]
    have cj := K_ga.out.u j HJ.out; have fj := K_ga.out.fr j
    go_wp2
    go_ret
    exact ⟨rfl, hB_4.out⟩
  | none =>
    have hf := fun g w => field_c g no2 w
    rw [ho] at hf
    have HF := Lib.hid hf
    clear hf ho
    simp only
    by_cases h_256 : no2 = 256
    · subst h_256
      rw [show readT h la lb lc ld lg lt 256 = (Go.bits .or .u64 (Go.bits .and .u64 (h.x 38) 786722) 8589934592) from rfl]
      have hu25 := Tryd.underlying25; have hu27 := Tryd.underlying27
      go_enter Tryd.func13, Tryd.ntmps13
      go_wp2_with (first | ((with_reducible refine gate_dst (N := 3) rfl ?_); refine box_event ?hg (N := 3) ?hd (cs := h.cs) (t := 25) ?hr ?_; (case hd => rfl); (case hg => rfl); (case hr => first | (go_simp; done) | (go_simp; rfl)); intro ga hg w_1 H1 hb; have hB_2 := Lib.hid (below_step (Below.refl w.heap.size w) hb); have G_ga := Lib.hid (show w.heap.size ≤ ga by rw [hg]; exact ((Below.refl w.heap.size w)).size); have K_ga := Lib.hid (show Hb w_1 ga h from H1); clear hg hb H1) | ((with_reducible refine gate_dst (N := 4) rfl ?_); refine box_event ?hg (N := 4) ?hd (cs := #[.bool la, .bool lb, .bool lc, .bool ld, .int .u64 lg, .int .u64 lt]) (t := 27) ?hr ?_; (case hd => rfl); (case hg => rfl); (case hr => first | (go_simp; done) | (go_simp; rfl)); intro gt hg w_3 H1 hb; have hB_4 := Lib.hid (below_step hB_2.out hb); have G_gt := Lib.hid (show w.heap.size ≤ gt by rw [hg]; exact (hB_2.out).size); have N_ga_gt := Lib.hid (show ga ≠ gt by rw [hg]; exact Nat.ne_of_lt (K_ga.out.lt)); replace K_ga := Lib.hid (K_ga.out.below hb); have K_gt := Lib.hid (show w_3.heap[gt]? = some (.cells #[.bool la, .bool lb, .bool lc, .bool ld, .int .u64 lg, .int .u64 lt] 27 (0, 0)) from H1); clear hg hb H1 hB_2; have c_ga_38 := K_ga.out.u 38 rfl; have f_ga_38 := K_ga.out.fr 38; clear hu25 hu27))
      refine (HM.out ga _ K_ga.out).mono ?_
      rintro e1 w1 ⟨rfl, rfl⟩
      go_wp2_with fail
      refine (HF.out ga _).mono ?_
      rintro e2 w2 ⟨rfl, rfl⟩
      simp only [ptrOf, Option.map_none]
      go_wp2
      go_ret
      exact ⟨rfl, hB_4.out⟩
    by_cases h_836 : no2 = 836
    · subst h_836
      rw [show readT h la lb lc ld lg lt 836 = (pendV h la lb lc ld lg lt) from rfl]
      have hu25 := Tryd.underlying25; have hu27 := Tryd.underlying27
      go_enter Tryd.func13, Tryd.ntmps13
      go_wp2_with (first | ((with_reducible refine gate_dst (N := 3) rfl ?_); refine box_event ?hg (N := 3) ?hd (cs := h.cs) (t := 25) ?hr ?_; (case hd => rfl); (case hg => rfl); (case hr => first | (go_simp; done) | (go_simp; rfl)); intro ga hg w_1 H1 hb; have hB_2 := Lib.hid (below_step (Below.refl w.heap.size w) hb); have G_ga := Lib.hid (show w.heap.size ≤ ga by rw [hg]; exact ((Below.refl w.heap.size w)).size); have K_ga := Lib.hid (show Hb w_1 ga h from H1); clear hg hb H1) | ((with_reducible refine gate_dst (N := 4) rfl ?_); refine box_event ?hg (N := 4) ?hd (cs := #[.bool la, .bool lb, .bool lc, .bool ld, .int .u64 lg, .int .u64 lt]) (t := 27) ?hr ?_; (case hd => rfl); (case hg => rfl); (case hr => first | (go_simp; done) | (go_simp; rfl)); intro gt hg w_3 H1 hb; have hB_4 := Lib.hid (below_step hB_2.out hb); have G_gt := Lib.hid (show w.heap.size ≤ gt by rw [hg]; exact (hB_2.out).size); have N_ga_gt := Lib.hid (show ga ≠ gt by rw [hg]; exact Nat.ne_of_lt (K_ga.out.lt)); replace K_ga := Lib.hid (K_ga.out.below hb); have K_gt := Lib.hid (show w_3.heap[gt]? = some (.cells #[.bool la, .bool lb, .bool lc, .bool ld, .int .u64 lg, .int .u64 lt] 27 (0, 0)) from H1); clear hg hb H1 hB_2; clear hu25 hu27))
      refine (HM.out ga _ K_ga.out).mono ?_
      rintro e1 w1 ⟨rfl, rfl⟩
      go_wp2_with fail
      refine (HF.out ga _).mono ?_
      rintro e2 w2 ⟨rfl, rfl⟩
      simp only [ptrOf, Option.map_none]
      go_upto_region 9 with (fail)
      refine wp_region_list ?_
      refine load_hart (h := h) rfl (.tmp 3) rfl ga rfl K_ga.out ?_
      refine wpList_load_row rfl 27 (.tmp 4) rfl gt rfl 27 #[.bool la, .bool lb, .bool lc, .bool ld, .int .u64 lg, .int .u64 lt] (0, 0) _ K_gt.out Tryd.underlying27 rfl (by kernel_rfl) ?_
      go_wp2_with fail
      refine (HP.out _).mono ?_
      rintro e_5 w_6 ⟨rfl, hb⟩
      have hB_7 := Lib.hid (below_step hB_4.out hb)
      replace K_ga := Lib.hid (K_ga.out.below hb)
      replace K_gt := Lib.hid (blk_below K_gt.out hb)
      clear hb hB_4
      go_wp2
      go_ret
      exact ⟨rfl, hB_7.out⟩
    by_cases h_324 : no2 = 324
    · subst h_324
      rw [show readT h la lb lc ld lg lt 324 = (Go.bits .and .u64 (Go.bits .and .u64 (pendV h la lb lc ld lg lt) 546) (h.x 40)) from rfl]
      have hu25 := Tryd.underlying25; have hu27 := Tryd.underlying27
      go_enter Tryd.func13, Tryd.ntmps13
      go_wp2_with (first | ((with_reducible refine gate_dst (N := 3) rfl ?_); refine box_event ?hg (N := 3) ?hd (cs := h.cs) (t := 25) ?hr ?_; (case hd => rfl); (case hg => rfl); (case hr => first | (go_simp; done) | (go_simp; rfl)); intro ga hg w_1 H1 hb; have hB_2 := Lib.hid (below_step (Below.refl w.heap.size w) hb); have G_ga := Lib.hid (show w.heap.size ≤ ga by rw [hg]; exact ((Below.refl w.heap.size w)).size); have K_ga := Lib.hid (show Hb w_1 ga h from H1); clear hg hb H1) | ((with_reducible refine gate_dst (N := 4) rfl ?_); refine box_event ?hg (N := 4) ?hd (cs := #[.bool la, .bool lb, .bool lc, .bool ld, .int .u64 lg, .int .u64 lt]) (t := 27) ?hr ?_; (case hd => rfl); (case hg => rfl); (case hr => first | (go_simp; done) | (go_simp; rfl)); intro gt hg w_3 H1 hb; have hB_4 := Lib.hid (below_step hB_2.out hb); have G_gt := Lib.hid (show w.heap.size ≤ gt by rw [hg]; exact (hB_2.out).size); have N_ga_gt := Lib.hid (show ga ≠ gt by rw [hg]; exact Nat.ne_of_lt (K_ga.out.lt)); replace K_ga := Lib.hid (K_ga.out.below hb); have K_gt := Lib.hid (show w_3.heap[gt]? = some (.cells #[.bool la, .bool lb, .bool lc, .bool ld, .int .u64 lg, .int .u64 lt] 27 (0, 0)) from H1); clear hg hb H1 hB_2; clear hu25 hu27))
      refine (HM.out ga _ K_ga.out).mono ?_
      rintro e1 w1 ⟨rfl, rfl⟩
      go_wp2_with fail
      refine (HF.out ga _).mono ?_
      rintro e2 w2 ⟨rfl, rfl⟩
      simp only [ptrOf, Option.map_none]
      go_upto_region 11 with (fail)
      refine start_ (n := 8) (S := fun w' => Hb w' ga h ∧ w'.heap[gt]? = some (.cells #[.bool la, .bool lb, .bool lc, .bool ld, .int .u64 lg, .int .u64 lt] 27 (0, 0)) ∧ w'.cell? ⟨ga, 40, none⟩ = some (.int .u64 (h.x 40))) (ds := []) #[false, false, false, false, false, false, false, false] (by kernel_rfl) rfl rfl ⟨K_ga.out.drew, blk_drew K_gt.out, (K_ga.out.drew.u 40 rfl)⟩ (fun hHeld => ?_)
      replace K_ga := Lib.hid (K_ga.out.drew)
      replace K_gt := Lib.hid (blk_drew K_gt.out)
      have hB_6 := Lib.hid (below_drew1 hB_4.out)
      clear hB_4
      generalize World.drew w2 = w_5 at K_ga K_gt hB_6 hHeld ⊢
      refine pure_ (i := 4) (N := some 35) (v := ?_) (a' := ?_) #[false, false, false, false, true, false, false, false] rfl rfl (by kernel_rfl) (fun _ _ _ h => h) (Or.inl ⟨by rfl, ?_⟩) ?_ ?_
      rotate_left
      · intro w'
        go_simp
        with_reducible rfl
      rotate_left
      · simp only [Act.put, List.setIfInBounds_toArray, List.set_cons_zero, List.set_cons_succ, i64_w, i32_w]
        rfl
      refine take_ (i := 0) (N := some 31) (v := .agg h.cs) (a' := ?_) #[true, false, false, false, true, false, false, false] rfl rfl (by kernel_rfl) (fun _ _ _ h => h) (Or.inl ⟨by rfl, ?_⟩) hHeld ?_ ?_
      · rintro w' ⟨s0, s1, s2⟩; exact exec_load_hart rfl rfl s0
      rotate_left
      · simp only [Act.put, List.setIfInBounds_toArray, List.set_cons_zero, List.set_cons_succ, i64_w, i32_w]
        rfl
      refine take_ (i := 1) (N := some 32) (v := .agg #[.bool la, .bool lb, .bool lc, .bool ld, .int .u64 lg, .int .u64 lt]) (a' := ?_) #[true, true, false, false, true, false, false, false] rfl rfl (by kernel_rfl) (fun _ _ _ h => h) (Or.inl ⟨by rfl, ?_⟩) hHeld ?_ ?_
      · rintro w' ⟨s0, s1, s2⟩; exact exec_load_blk rfl rfl s1 Tryd.underlying27 rfl (by kernel_rfl)
      rotate_left
      · simp only [Act.put, List.setIfInBounds_toArray, List.set_cons_zero, List.set_cons_succ, i64_w, i32_w]
        rfl
      refine take_ (i := 5) (N := some 36) (v := ?_) (a' := ?_) #[true, true, false, false, true, true, false, false] rfl rfl (by kernel_rfl) (fun _ _ _ h => h) (Or.inl ⟨by rfl, ?_⟩) hHeld ?_ ?_
      rotate_left
      · rintro w' ⟨s0, s1, s2⟩
        go_simp
        with_reducible rfl
      rotate_left
      · simp only [Act.put, List.setIfInBounds_toArray, List.set_cons_zero, List.set_cons_succ, i64_w, i32_w]
        rfl
      have HH := Lib.hid hHeld
      clear hHeld
      refine one_ (i := 2) (N := some 33) #[true, true, true, false, true, true, false, false] rfl rfl (by kernel_rfl) (by decide) (fun K hK => ?_)
      refine goes_ Tryd.func11 (by kernel_rfl) rfl #[.agg h.cs, .agg #[.bool la, .bool lb, .bool lc, .bool ld, .int .u64 lg, .int .u64 lt]] (by rfl) rfl rfl (by simp only [List.map_toArray, List.map_cons, List.map_nil]; rfl) ?_
      with_reducible refine (HP.out _).mono ?_
      rintro e_ w_7 ⟨rfl, hb⟩
      refine ⟨_, rfl, ?_⟩
      have s_0 := Hb.below (HH.out.1) hb
      have s_1 := blk_below (HH.out.2.1) hb
      have s_2 := (Hb.u s_0 40 rfl)
      replace K_ga := Lib.hid (K_ga.out.below hb)
      replace K_gt := Lib.hid (blk_below K_gt.out hb)
      have hB_8 := Lib.hid (below_step hB_6.out hb)
      clear HH hb hB_6
      refine hK.out _ _ ⟨s_0, s_1, s_2⟩ (fun hHeld => ?_)
      have HH := Lib.hid hHeld
      clear hHeld s_0 s_1 s_2
      clear hK K
      refine norm_ (a' := ?_) ?_ ?_
      rotate_left
      · show Act.put _ (some 33) _ = _
        simp only [Act.put, List.setIfInBounds_toArray, List.set_cons_zero, List.set_cons_succ, i64_w, i32_w]
        rfl
      refine pure_ (i := 3) (N := some 34) (v := ?_) (a' := ?_) #[true, true, true, true, true, true, false, false] rfl rfl (by kernel_rfl) (fun _ _ _ h => h) (Or.inl ⟨by rfl, ?_⟩) ?_ ?_
      rotate_left
      · intro w'
        go_simp
        with_reducible rfl
      rotate_left
      · simp only [Act.put, List.setIfInBounds_toArray, List.set_cons_zero, List.set_cons_succ, i64_w, i32_w]
        rfl
      refine pure_ (i := 6) (N := some 37) (v := ?_) (a' := ?_) #[true, true, true, true, true, true, true, false] rfl rfl (by kernel_rfl) (fun _ _ _ h => h) (Or.inl ⟨by rfl, ?_⟩) ?_ ?_
      rotate_left
      · intro w'
        go_simp
        with_reducible rfl
      rotate_left
      · simp only [Act.put, List.setIfInBounds_toArray, List.set_cons_zero, List.set_cons_succ, i64_w, i32_w]
        rfl
      refine pure_ (i := 7) (N := some 6) (v := ?_) (a' := ?_) #[true, true, true, true, true, true, true, true] rfl rfl (by kernel_rfl) (fun _ _ _ h => h) (Or.inl ⟨by rfl, ?_⟩) ?_ ?_
      rotate_left
      · intro w'
        go_simp
        with_reducible rfl
      rotate_left
      · simp only [Act.put, List.setIfInBounds_toArray, List.set_cons_zero, List.set_cons_succ, i64_w, i32_w]
        rfl
      refine done_ (by kernel_rfl) ?_
      try clear HH
      go_wp2
      go_ret
      exact ⟨rfl, hB_8.out⟩
    by_cases h_260 : no2 = 260
    · subst h_260
      rw [show readT h la lb lc ld lg lt 260 = (Go.bits .and .u64 (Go.bits .and .u64 (h.x 41) 546) (h.x 40)) from rfl]
      have hu25 := Tryd.underlying25; have hu27 := Tryd.underlying27
      go_enter Tryd.func13, Tryd.ntmps13
      go_wp2_with (first | ((with_reducible refine gate_dst (N := 3) rfl ?_); refine box_event ?hg (N := 3) ?hd (cs := h.cs) (t := 25) ?hr ?_; (case hd => rfl); (case hg => rfl); (case hr => first | (go_simp; done) | (go_simp; rfl)); intro ga hg w_1 H1 hb; have hB_2 := Lib.hid (below_step (Below.refl w.heap.size w) hb); have G_ga := Lib.hid (show w.heap.size ≤ ga by rw [hg]; exact ((Below.refl w.heap.size w)).size); have K_ga := Lib.hid (show Hb w_1 ga h from H1); clear hg hb H1) | ((with_reducible refine gate_dst (N := 4) rfl ?_); refine box_event ?hg (N := 4) ?hd (cs := #[.bool la, .bool lb, .bool lc, .bool ld, .int .u64 lg, .int .u64 lt]) (t := 27) ?hr ?_; (case hd => rfl); (case hg => rfl); (case hr => first | (go_simp; done) | (go_simp; rfl)); intro gt hg w_3 H1 hb; have hB_4 := Lib.hid (below_step hB_2.out hb); have G_gt := Lib.hid (show w.heap.size ≤ gt by rw [hg]; exact (hB_2.out).size); have N_ga_gt := Lib.hid (show ga ≠ gt by rw [hg]; exact Nat.ne_of_lt (K_ga.out.lt)); replace K_ga := Lib.hid (K_ga.out.below hb); have K_gt := Lib.hid (show w_3.heap[gt]? = some (.cells #[.bool la, .bool lb, .bool lc, .bool ld, .int .u64 lg, .int .u64 lt] 27 (0, 0)) from H1); clear hg hb H1 hB_2; have c_ga_40 := K_ga.out.u 40 rfl; have f_ga_40 := K_ga.out.fr 40; have c_ga_41 := K_ga.out.u 41 rfl; have f_ga_41 := K_ga.out.fr 41; clear hu25 hu27))
      refine (HM.out ga _ K_ga.out).mono ?_
      rintro e1 w1 ⟨rfl, rfl⟩
      go_wp2_with fail
      refine (HF.out ga _).mono ?_
      rintro e2 w2 ⟨rfl, rfl⟩
      simp only [ptrOf, Option.map_none]
      go_wp2
      go_ret
      exact ⟨rfl, hB_4.out⟩
    by_cases h_1604 : no2 = 1604
    · subst h_1604
      rw [show readT h la lb lc ld lg lt 1604 = (Go.bits .and .u64 (pendV h la lb lc ld lg lt) 5188) from rfl]
      have hu25 := Tryd.underlying25; have hu27 := Tryd.underlying27
      go_enter Tryd.func13, Tryd.ntmps13
      go_wp2_with (first | ((with_reducible refine gate_dst (N := 3) rfl ?_); refine box_event ?hg (N := 3) ?hd (cs := h.cs) (t := 25) ?hr ?_; (case hd => rfl); (case hg => rfl); (case hr => first | (go_simp; done) | (go_simp; rfl)); intro ga hg w_1 H1 hb; have hB_2 := Lib.hid (below_step (Below.refl w.heap.size w) hb); have G_ga := Lib.hid (show w.heap.size ≤ ga by rw [hg]; exact ((Below.refl w.heap.size w)).size); have K_ga := Lib.hid (show Hb w_1 ga h from H1); clear hg hb H1) | ((with_reducible refine gate_dst (N := 4) rfl ?_); refine box_event ?hg (N := 4) ?hd (cs := #[.bool la, .bool lb, .bool lc, .bool ld, .int .u64 lg, .int .u64 lt]) (t := 27) ?hr ?_; (case hd => rfl); (case hg => rfl); (case hr => first | (go_simp; done) | (go_simp; rfl)); intro gt hg w_3 H1 hb; have hB_4 := Lib.hid (below_step hB_2.out hb); have G_gt := Lib.hid (show w.heap.size ≤ gt by rw [hg]; exact (hB_2.out).size); have N_ga_gt := Lib.hid (show ga ≠ gt by rw [hg]; exact Nat.ne_of_lt (K_ga.out.lt)); replace K_ga := Lib.hid (K_ga.out.below hb); have K_gt := Lib.hid (show w_3.heap[gt]? = some (.cells #[.bool la, .bool lb, .bool lc, .bool ld, .int .u64 lg, .int .u64 lt] 27 (0, 0)) from H1); clear hg hb H1 hB_2; clear hu25 hu27))
      refine (HM.out ga _ K_ga.out).mono ?_
      rintro e1 w1 ⟨rfl, rfl⟩
      go_wp2_with fail
      refine (HF.out ga _).mono ?_
      rintro e2 w2 ⟨rfl, rfl⟩
      simp only [ptrOf, Option.map_none]
      go_upto_region 15 with (fail)
      refine wp_region_list ?_
      refine load_hart (h := h) rfl (.tmp 3) rfl ga rfl K_ga.out ?_
      refine wpList_load_row rfl 27 (.tmp 4) rfl gt rfl 27 #[.bool la, .bool lb, .bool lc, .bool ld, .int .u64 lg, .int .u64 lt] (0, 0) _ K_gt.out Tryd.underlying27 rfl (by kernel_rfl) ?_
      go_wp2_with fail
      refine (HP.out _).mono ?_
      rintro e_5 w_6 ⟨rfl, hb⟩
      have hB_7 := Lib.hid (below_step hB_4.out hb)
      replace K_ga := Lib.hid (K_ga.out.below hb)
      replace K_gt := Lib.hid (blk_below K_gt.out hb)
      clear hb hB_4
      go_wp2
      go_ret
      exact ⟨rfl, hB_7.out⟩
    by_cases h_1540 : no2 = 1540
    · subst h_1540
      rw [show readT h la lb lc ld lg lt 1540 = (Go.bits .and .u64 (h.x 41) 5188) from rfl]
      have hu25 := Tryd.underlying25; have hu27 := Tryd.underlying27
      go_enter Tryd.func13, Tryd.ntmps13
      go_wp2_with (first | ((with_reducible refine gate_dst (N := 3) rfl ?_); refine box_event ?hg (N := 3) ?hd (cs := h.cs) (t := 25) ?hr ?_; (case hd => rfl); (case hg => rfl); (case hr => first | (go_simp; done) | (go_simp; rfl)); intro ga hg w_1 H1 hb; have hB_2 := Lib.hid (below_step (Below.refl w.heap.size w) hb); have G_ga := Lib.hid (show w.heap.size ≤ ga by rw [hg]; exact ((Below.refl w.heap.size w)).size); have K_ga := Lib.hid (show Hb w_1 ga h from H1); clear hg hb H1) | ((with_reducible refine gate_dst (N := 4) rfl ?_); refine box_event ?hg (N := 4) ?hd (cs := #[.bool la, .bool lb, .bool lc, .bool ld, .int .u64 lg, .int .u64 lt]) (t := 27) ?hr ?_; (case hd => rfl); (case hg => rfl); (case hr => first | (go_simp; done) | (go_simp; rfl)); intro gt hg w_3 H1 hb; have hB_4 := Lib.hid (below_step hB_2.out hb); have G_gt := Lib.hid (show w.heap.size ≤ gt by rw [hg]; exact (hB_2.out).size); have N_ga_gt := Lib.hid (show ga ≠ gt by rw [hg]; exact Nat.ne_of_lt (K_ga.out.lt)); replace K_ga := Lib.hid (K_ga.out.below hb); have K_gt := Lib.hid (show w_3.heap[gt]? = some (.cells #[.bool la, .bool lb, .bool lc, .bool ld, .int .u64 lg, .int .u64 lt] 27 (0, 0)) from H1); clear hg hb H1 hB_2; have c_ga_41 := K_ga.out.u 41 rfl; have f_ga_41 := K_ga.out.fr 41; clear hu25 hu27))
      refine (HM.out ga _ K_ga.out).mono ?_
      rintro e1 w1 ⟨rfl, rfl⟩
      go_wp2_with fail
      refine (HF.out ga _).mono ?_
      rintro e2 w2 ⟨rfl, rfl⟩
      simp only [ptrOf, Option.map_none]
      go_wp2
      go_ret
      exact ⟨rfl, hB_4.out⟩
    by_cases h_580 : no2 = 580
    · subst h_580
      rw [show readT h la lb lc ld lg lt 580 = (Go.bits .and .u64 (Go.bits .and .u64 (pendV h la lb lc ld lg lt) 1092) (h.x 60) / 2) from rfl]
      have hu25 := Tryd.underlying25; have hu27 := Tryd.underlying27
      go_enter Tryd.func13, Tryd.ntmps13
      go_wp2_with (first | ((with_reducible refine gate_dst (N := 3) rfl ?_); refine box_event ?hg (N := 3) ?hd (cs := h.cs) (t := 25) ?hr ?_; (case hd => rfl); (case hg => rfl); (case hr => first | (go_simp; done) | (go_simp; rfl)); intro ga hg w_1 H1 hb; have hB_2 := Lib.hid (below_step (Below.refl w.heap.size w) hb); have G_ga := Lib.hid (show w.heap.size ≤ ga by rw [hg]; exact ((Below.refl w.heap.size w)).size); have K_ga := Lib.hid (show Hb w_1 ga h from H1); clear hg hb H1) | ((with_reducible refine gate_dst (N := 4) rfl ?_); refine box_event ?hg (N := 4) ?hd (cs := #[.bool la, .bool lb, .bool lc, .bool ld, .int .u64 lg, .int .u64 lt]) (t := 27) ?hr ?_; (case hd => rfl); (case hg => rfl); (case hr => first | (go_simp; done) | (go_simp; rfl)); intro gt hg w_3 H1 hb; have hB_4 := Lib.hid (below_step hB_2.out hb); have G_gt := Lib.hid (show w.heap.size ≤ gt by rw [hg]; exact (hB_2.out).size); have N_ga_gt := Lib.hid (show ga ≠ gt by rw [hg]; exact Nat.ne_of_lt (K_ga.out.lt)); replace K_ga := Lib.hid (K_ga.out.below hb); have K_gt := Lib.hid (show w_3.heap[gt]? = some (.cells #[.bool la, .bool lb, .bool lc, .bool ld, .int .u64 lg, .int .u64 lt] 27 (0, 0)) from H1); clear hg hb H1 hB_2; clear hu25 hu27))
      refine (HM.out ga _ K_ga.out).mono ?_
      rintro e1 w1 ⟨rfl, rfl⟩
      go_wp2_with fail
      refine (HF.out ga _).mono ?_
      rintro e2 w2 ⟨rfl, rfl⟩
      simp only [ptrOf, Option.map_none]
      go_upto_region 19 with (fail)
      refine start_ (n := 9) (S := fun w' => Hb w' ga h ∧ w'.heap[gt]? = some (.cells #[.bool la, .bool lb, .bool lc, .bool ld, .int .u64 lg, .int .u64 lt] 27 (0, 0)) ∧ w'.cell? ⟨ga, 60, none⟩ = some (.int .u64 (h.x 60))) (ds := []) #[false, false, false, false, false, false, false, false, false] (by kernel_rfl) rfl rfl ⟨K_ga.out.drew, blk_drew K_gt.out, (K_ga.out.drew.u 60 rfl)⟩ (fun hHeld => ?_)
      replace K_ga := Lib.hid (K_ga.out.drew)
      replace K_gt := Lib.hid (blk_drew K_gt.out)
      have hB_6 := Lib.hid (below_drew1 hB_4.out)
      clear hB_4
      generalize World.drew w2 = w_5 at K_ga K_gt hB_6 hHeld ⊢
      refine pure_ (i := 4) (N := some 63) (v := ?_) (a' := ?_) #[false, false, false, false, true, false, false, false, false] rfl rfl (by kernel_rfl) (fun _ _ _ h => h) (Or.inl ⟨by rfl, ?_⟩) ?_ ?_
      rotate_left
      · intro w'
        go_simp
        with_reducible rfl
      rotate_left
      · simp only [Act.put, List.setIfInBounds_toArray, List.set_cons_zero, List.set_cons_succ, i64_w, i32_w]
        rfl
      refine take_ (i := 0) (N := some 59) (v := .agg h.cs) (a' := ?_) #[true, false, false, false, true, false, false, false, false] rfl rfl (by kernel_rfl) (fun _ _ _ h => h) (Or.inl ⟨by rfl, ?_⟩) hHeld ?_ ?_
      · rintro w' ⟨s0, s1, s2⟩; exact exec_load_hart rfl rfl s0
      rotate_left
      · simp only [Act.put, List.setIfInBounds_toArray, List.set_cons_zero, List.set_cons_succ, i64_w, i32_w]
        rfl
      refine take_ (i := 1) (N := some 60) (v := .agg #[.bool la, .bool lb, .bool lc, .bool ld, .int .u64 lg, .int .u64 lt]) (a' := ?_) #[true, true, false, false, true, false, false, false, false] rfl rfl (by kernel_rfl) (fun _ _ _ h => h) (Or.inl ⟨by rfl, ?_⟩) hHeld ?_ ?_
      · rintro w' ⟨s0, s1, s2⟩; exact exec_load_blk rfl rfl s1 Tryd.underlying27 rfl (by kernel_rfl)
      rotate_left
      · simp only [Act.put, List.setIfInBounds_toArray, List.set_cons_zero, List.set_cons_succ, i64_w, i32_w]
        rfl
      refine take_ (i := 5) (N := some 64) (v := ?_) (a' := ?_) #[true, true, false, false, true, true, false, false, false] rfl rfl (by kernel_rfl) (fun _ _ _ h => h) (Or.inl ⟨by rfl, ?_⟩) hHeld ?_ ?_
      rotate_left
      · rintro w' ⟨s0, s1, s2⟩
        go_simp
        with_reducible rfl
      rotate_left
      · simp only [Act.put, List.setIfInBounds_toArray, List.set_cons_zero, List.set_cons_succ, i64_w, i32_w]
        rfl
      have HH := Lib.hid hHeld
      clear hHeld
      refine one_ (i := 2) (N := some 61) #[true, true, true, false, true, true, false, false, false] rfl rfl (by kernel_rfl) (by decide) (fun K hK => ?_)
      refine goes_ Tryd.func11 (by kernel_rfl) rfl #[.agg h.cs, .agg #[.bool la, .bool lb, .bool lc, .bool ld, .int .u64 lg, .int .u64 lt]] (by rfl) rfl rfl (by simp only [List.map_toArray, List.map_cons, List.map_nil]; rfl) ?_
      with_reducible refine (HP.out _).mono ?_
      rintro e_ w_7 ⟨rfl, hb⟩
      refine ⟨_, rfl, ?_⟩
      have s_0 := Hb.below (HH.out.1) hb
      have s_1 := blk_below (HH.out.2.1) hb
      have s_2 := (Hb.u s_0 60 rfl)
      replace K_ga := Lib.hid (K_ga.out.below hb)
      replace K_gt := Lib.hid (blk_below K_gt.out hb)
      have hB_8 := Lib.hid (below_step hB_6.out hb)
      clear HH hb hB_6
      refine hK.out _ _ ⟨s_0, s_1, s_2⟩ (fun hHeld => ?_)
      have HH := Lib.hid hHeld
      clear hHeld s_0 s_1 s_2
      clear hK K
      refine norm_ (a' := ?_) ?_ ?_
      rotate_left
      · show Act.put _ (some 61) _ = _
        simp only [Act.put, List.setIfInBounds_toArray, List.set_cons_zero, List.set_cons_succ, i64_w, i32_w]
        rfl
      refine pure_ (i := 3) (N := some 62) (v := ?_) (a' := ?_) #[true, true, true, true, true, true, false, false, false] rfl rfl (by kernel_rfl) (fun _ _ _ h => h) (Or.inl ⟨by rfl, ?_⟩) ?_ ?_
      rotate_left
      · intro w'
        go_simp
        with_reducible rfl
      rotate_left
      · simp only [Act.put, List.setIfInBounds_toArray, List.set_cons_zero, List.set_cons_succ, i64_w, i32_w]
        rfl
      refine pure_ (i := 6) (N := some 65) (v := ?_) (a' := ?_) #[true, true, true, true, true, true, true, false, false] rfl rfl (by kernel_rfl) (fun _ _ _ h => h) (Or.inl ⟨by rfl, ?_⟩) ?_ ?_
      rotate_left
      · intro w'
        go_simp
        with_reducible rfl
      rotate_left
      · simp only [Act.put, List.setIfInBounds_toArray, List.set_cons_zero, List.set_cons_succ, i64_w, i32_w]
        rfl
      refine pure_ (i := 7) (N := some 66) (v := ?_) (a' := ?_) #[true, true, true, true, true, true, true, true, false] rfl rfl (by kernel_rfl) (fun _ _ _ h => h) (Or.inl ⟨by rfl, ?_⟩) ?_ ?_
      rotate_left
      · intro w'
        go_simp
        with_reducible rfl
      rotate_left
      · simp only [Act.put, List.setIfInBounds_toArray, List.set_cons_zero, List.set_cons_succ, i64_w, i32_w]
        rfl
      refine pure_ (i := 8) (N := some 6) (v := ?_) (a' := ?_) #[true, true, true, true, true, true, true, true, true] rfl rfl (by kernel_rfl) (fun _ _ _ h => h) (Or.inl ⟨by rfl, ?_⟩) ?_ ?_
      rotate_left
      · intro w'
        go_simp
        with_reducible rfl
      rotate_left
      · simp only [Act.put, List.setIfInBounds_toArray, List.set_cons_zero, List.set_cons_succ, i64_w, i32_w]
        rfl
      refine done_ (by kernel_rfl) ?_
      try clear HH
      go_wp2
      go_ret
      exact ⟨rfl, hB_8.out⟩
    by_cases h_516 : no2 = 516
    · subst h_516
      rw [show readT h la lb lc ld lg lt 516 = (Go.bits .and .u64 (Go.bits .and .u64 (h.x 41) 1092) (h.x 60) / 2) from rfl]
      have hu25 := Tryd.underlying25; have hu27 := Tryd.underlying27
      go_enter Tryd.func13, Tryd.ntmps13
      go_wp2_with (first | ((with_reducible refine gate_dst (N := 3) rfl ?_); refine box_event ?hg (N := 3) ?hd (cs := h.cs) (t := 25) ?hr ?_; (case hd => rfl); (case hg => rfl); (case hr => first | (go_simp; done) | (go_simp; rfl)); intro ga hg w_1 H1 hb; have hB_2 := Lib.hid (below_step (Below.refl w.heap.size w) hb); have G_ga := Lib.hid (show w.heap.size ≤ ga by rw [hg]; exact ((Below.refl w.heap.size w)).size); have K_ga := Lib.hid (show Hb w_1 ga h from H1); clear hg hb H1) | ((with_reducible refine gate_dst (N := 4) rfl ?_); refine box_event ?hg (N := 4) ?hd (cs := #[.bool la, .bool lb, .bool lc, .bool ld, .int .u64 lg, .int .u64 lt]) (t := 27) ?hr ?_; (case hd => rfl); (case hg => rfl); (case hr => first | (go_simp; done) | (go_simp; rfl)); intro gt hg w_3 H1 hb; have hB_4 := Lib.hid (below_step hB_2.out hb); have G_gt := Lib.hid (show w.heap.size ≤ gt by rw [hg]; exact (hB_2.out).size); have N_ga_gt := Lib.hid (show ga ≠ gt by rw [hg]; exact Nat.ne_of_lt (K_ga.out.lt)); replace K_ga := Lib.hid (K_ga.out.below hb); have K_gt := Lib.hid (show w_3.heap[gt]? = some (.cells #[.bool la, .bool lb, .bool lc, .bool ld, .int .u64 lg, .int .u64 lt] 27 (0, 0)) from H1); clear hg hb H1 hB_2; have c_ga_41 := K_ga.out.u 41 rfl; have f_ga_41 := K_ga.out.fr 41; have c_ga_60 := K_ga.out.u 60 rfl; have f_ga_60 := K_ga.out.fr 60; clear hu25 hu27))
      refine (HM.out ga _ K_ga.out).mono ?_
      rintro e1 w1 ⟨rfl, rfl⟩
      go_wp2_with fail
      refine (HF.out ga _).mono ?_
      rintro e2 w2 ⟨rfl, rfl⟩
      simp only [ptrOf, Option.map_none]
      go_wp2
      go_ret
      exact ⟨rfl, hB_4.out⟩
    by_cases h_3602 : no2 = 3602
    · subst h_3602
      rw [show readT h la lb lc ld lg lt 3602 = (Go.bits .and .u64 lg 2) from rfl]
      have hu25 := Tryd.underlying25; have hu27 := Tryd.underlying27
      go_enter Tryd.func13, Tryd.ntmps13
      go_wp2_with (first | ((with_reducible refine gate_dst (N := 3) rfl ?_); refine box_event ?hg (N := 3) ?hd (cs := h.cs) (t := 25) ?hr ?_; (case hd => rfl); (case hg => rfl); (case hr => first | (go_simp; done) | (go_simp; rfl)); intro ga hg w_1 H1 hb; have hB_2 := Lib.hid (below_step (Below.refl w.heap.size w) hb); have G_ga := Lib.hid (show w.heap.size ≤ ga by rw [hg]; exact ((Below.refl w.heap.size w)).size); have K_ga := Lib.hid (show Hb w_1 ga h from H1); clear hg hb H1) | ((with_reducible refine gate_dst (N := 4) rfl ?_); refine box_event ?hg (N := 4) ?hd (cs := #[.bool la, .bool lb, .bool lc, .bool ld, .int .u64 lg, .int .u64 lt]) (t := 27) ?hr ?_; (case hd => rfl); (case hg => rfl); (case hr => first | (go_simp; done) | (go_simp; rfl)); intro gt hg w_3 H1 hb; have hB_4 := Lib.hid (below_step hB_2.out hb); have G_gt := Lib.hid (show w.heap.size ≤ gt by rw [hg]; exact (hB_2.out).size); have N_ga_gt := Lib.hid (show ga ≠ gt by rw [hg]; exact Nat.ne_of_lt (K_ga.out.lt)); replace K_ga := Lib.hid (K_ga.out.below hb); have K_gt := Lib.hid (show w_3.heap[gt]? = some (.cells #[.bool la, .bool lb, .bool lc, .bool ld, .int .u64 lg, .int .u64 lt] 27 (0, 0)) from H1); clear hg hb H1 hB_2; have c_gt_4 := (show World.cell? _ ⟨gt, 4, none⟩ = some (.int .u64 lg) from (blk_cell K_gt.out 4).trans rfl); have f_gt_4 := blk_frozen K_gt.out 4; clear hu25 hu27))
      refine (HM.out ga _ K_ga.out).mono ?_
      rintro e1 w1 ⟨rfl, rfl⟩
      go_wp2_with fail
      refine (HF.out ga _).mono ?_
      rintro e2 w2 ⟨rfl, rfl⟩
      simp only [ptrOf, Option.map_none]
      go_wp2
      go_ret
      exact ⟨rfl, hB_4.out⟩
    by_cases h_3072 : no2 = 3072
    · subst h_3072
      rw [show readT h la lb lc ld lg lt 3072 = (h.x 75) from rfl]
      have hu25 := Tryd.underlying25; have hu27 := Tryd.underlying27
      go_enter Tryd.func13, Tryd.ntmps13
      go_wp2_with (first | ((with_reducible refine gate_dst (N := 3) rfl ?_); refine box_event ?hg (N := 3) ?hd (cs := h.cs) (t := 25) ?hr ?_; (case hd => rfl); (case hg => rfl); (case hr => first | (go_simp; done) | (go_simp; rfl)); intro ga hg w_1 H1 hb; have hB_2 := Lib.hid (below_step (Below.refl w.heap.size w) hb); have G_ga := Lib.hid (show w.heap.size ≤ ga by rw [hg]; exact ((Below.refl w.heap.size w)).size); have K_ga := Lib.hid (show Hb w_1 ga h from H1); clear hg hb H1) | ((with_reducible refine gate_dst (N := 4) rfl ?_); refine box_event ?hg (N := 4) ?hd (cs := #[.bool la, .bool lb, .bool lc, .bool ld, .int .u64 lg, .int .u64 lt]) (t := 27) ?hr ?_; (case hd => rfl); (case hg => rfl); (case hr => first | (go_simp; done) | (go_simp; rfl)); intro gt hg w_3 H1 hb; have hB_4 := Lib.hid (below_step hB_2.out hb); have G_gt := Lib.hid (show w.heap.size ≤ gt by rw [hg]; exact (hB_2.out).size); have N_ga_gt := Lib.hid (show ga ≠ gt by rw [hg]; exact Nat.ne_of_lt (K_ga.out.lt)); replace K_ga := Lib.hid (K_ga.out.below hb); have K_gt := Lib.hid (show w_3.heap[gt]? = some (.cells #[.bool la, .bool lb, .bool lc, .bool ld, .int .u64 lg, .int .u64 lt] 27 (0, 0)) from H1); clear hg hb H1 hB_2; have c_ga_75 := K_ga.out.u 75 rfl; have f_ga_75 := K_ga.out.fr 75; clear hu25 hu27))
      refine (HM.out ga _ K_ga.out).mono ?_
      rintro e1 w1 ⟨rfl, rfl⟩
      go_wp2_with fail
      refine (HF.out ga _).mono ?_
      rintro e2 w2 ⟨rfl, rfl⟩
      simp only [ptrOf, Option.map_none]
      go_wp2
      go_ret
      exact ⟨rfl, hB_4.out⟩
    by_cases h_3074 : no2 = 3074
    · subst h_3074
      rw [show readT h la lb lc ld lg lt 3074 = (h.x 76) from rfl]
      have hu25 := Tryd.underlying25; have hu27 := Tryd.underlying27
      go_enter Tryd.func13, Tryd.ntmps13
      go_wp2_with (first | ((with_reducible refine gate_dst (N := 3) rfl ?_); refine box_event ?hg (N := 3) ?hd (cs := h.cs) (t := 25) ?hr ?_; (case hd => rfl); (case hg => rfl); (case hr => first | (go_simp; done) | (go_simp; rfl)); intro ga hg w_1 H1 hb; have hB_2 := Lib.hid (below_step (Below.refl w.heap.size w) hb); have G_ga := Lib.hid (show w.heap.size ≤ ga by rw [hg]; exact ((Below.refl w.heap.size w)).size); have K_ga := Lib.hid (show Hb w_1 ga h from H1); clear hg hb H1) | ((with_reducible refine gate_dst (N := 4) rfl ?_); refine box_event ?hg (N := 4) ?hd (cs := #[.bool la, .bool lb, .bool lc, .bool ld, .int .u64 lg, .int .u64 lt]) (t := 27) ?hr ?_; (case hd => rfl); (case hg => rfl); (case hr => first | (go_simp; done) | (go_simp; rfl)); intro gt hg w_3 H1 hb; have hB_4 := Lib.hid (below_step hB_2.out hb); have G_gt := Lib.hid (show w.heap.size ≤ gt by rw [hg]; exact (hB_2.out).size); have N_ga_gt := Lib.hid (show ga ≠ gt by rw [hg]; exact Nat.ne_of_lt (K_ga.out.lt)); replace K_ga := Lib.hid (K_ga.out.below hb); have K_gt := Lib.hid (show w_3.heap[gt]? = some (.cells #[.bool la, .bool lb, .bool lc, .bool ld, .int .u64 lg, .int .u64 lt] 27 (0, 0)) from H1); clear hg hb H1 hB_2; have c_ga_76 := K_ga.out.u 76 rfl; have f_ga_76 := K_ga.out.fr 76; clear hu25 hu27))
      refine (HM.out ga _ K_ga.out).mono ?_
      rintro e1 w1 ⟨rfl, rfl⟩
      go_wp2_with fail
      refine (HF.out ga _).mono ?_
      rintro e2 w2 ⟨rfl, rfl⟩
      simp only [ptrOf, Option.map_none]
      go_wp2
      go_ret
      exact ⟨rfl, hB_4.out⟩
    by_cases h_3073 : no2 = 3073
    · subst h_3073
      rw [show readT h la lb lc ld lg lt 3073 = (if h.v = true then IntKind.u64.wrap (lt + h.x 67) else lt) from rfl]
      cases hv : h.v
      · rw [if_neg (show ¬ (false = true) by decide)]
        have hu25 := Tryd.underlying25; have hu27 := Tryd.underlying27
        go_enter Tryd.func13, Tryd.ntmps13
        go_wp2_with (first | ((with_reducible refine gate_dst (N := 3) rfl ?_); refine box_event ?hg (N := 3) ?hd (cs := h.cs) (t := 25) ?hr ?_; (case hd => rfl); (case hg => rfl); (case hr => first | (go_simp; done) | (go_simp; rfl)); intro ga hg w_1 H1 hb; have hB_2 := Lib.hid (below_step (Below.refl w.heap.size w) hb); have G_ga := Lib.hid (show w.heap.size ≤ ga by rw [hg]; exact ((Below.refl w.heap.size w)).size); have K_ga := Lib.hid (show Hb w_1 ga h from H1); clear hg hb H1) | ((with_reducible refine gate_dst (N := 4) rfl ?_); refine box_event ?hg (N := 4) ?hd (cs := #[.bool la, .bool lb, .bool lc, .bool ld, .int .u64 lg, .int .u64 lt]) (t := 27) ?hr ?_; (case hd => rfl); (case hg => rfl); (case hr => first | (go_simp; done) | (go_simp; rfl)); intro gt hg w_3 H1 hb; have hB_4 := Lib.hid (below_step hB_2.out hb); have G_gt := Lib.hid (show w.heap.size ≤ gt by rw [hg]; exact (hB_2.out).size); have N_ga_gt := Lib.hid (show ga ≠ gt by rw [hg]; exact Nat.ne_of_lt (K_ga.out.lt)); replace K_ga := Lib.hid (K_ga.out.below hb); have K_gt := Lib.hid (show w_3.heap[gt]? = some (.cells #[.bool la, .bool lb, .bool lc, .bool ld, .int .u64 lg, .int .u64 lt] 27 (0, 0)) from H1); clear hg hb H1 hB_2; have c_ga_34 := K_ga.out.cv; have f_ga_34 := K_ga.out.fr 34; have c_ga_67 := K_ga.out.u 67 rfl; have f_ga_67 := K_ga.out.fr 67; have c_gt_5 := (show World.cell? _ ⟨gt, 5, none⟩ = some (.int .u64 lt) from (blk_cell K_gt.out 5).trans rfl); have f_gt_5 := blk_frozen K_gt.out 5; clear hu25 hu27))
        refine (HM.out ga _ K_ga.out).mono ?_
        rintro e1 w1 ⟨rfl, rfl⟩
        go_wp2_with fail
        refine (HF.out ga _).mono ?_
        rintro e2 w2 ⟨rfl, rfl⟩
        simp only [ptrOf, Option.map_none]
        go_wp2
        go_ret
        exact ⟨rfl, hB_4.out⟩
      · rw [if_pos rfl]
        have hu25 := Tryd.underlying25; have hu27 := Tryd.underlying27
        go_enter Tryd.func13, Tryd.ntmps13
        go_wp2_with (first | ((with_reducible refine gate_dst (N := 3) rfl ?_); refine box_event ?hg (N := 3) ?hd (cs := h.cs) (t := 25) ?hr ?_; (case hd => rfl); (case hg => rfl); (case hr => first | (go_simp; done) | (go_simp; rfl)); intro ga hg w_1 H1 hb; have hB_2 := Lib.hid (below_step (Below.refl w.heap.size w) hb); have G_ga := Lib.hid (show w.heap.size ≤ ga by rw [hg]; exact ((Below.refl w.heap.size w)).size); have K_ga := Lib.hid (show Hb w_1 ga h from H1); clear hg hb H1) | ((with_reducible refine gate_dst (N := 4) rfl ?_); refine box_event ?hg (N := 4) ?hd (cs := #[.bool la, .bool lb, .bool lc, .bool ld, .int .u64 lg, .int .u64 lt]) (t := 27) ?hr ?_; (case hd => rfl); (case hg => rfl); (case hr => first | (go_simp; done) | (go_simp; rfl)); intro gt hg w_3 H1 hb; have hB_4 := Lib.hid (below_step hB_2.out hb); have G_gt := Lib.hid (show w.heap.size ≤ gt by rw [hg]; exact (hB_2.out).size); have N_ga_gt := Lib.hid (show ga ≠ gt by rw [hg]; exact Nat.ne_of_lt (K_ga.out.lt)); replace K_ga := Lib.hid (K_ga.out.below hb); have K_gt := Lib.hid (show w_3.heap[gt]? = some (.cells #[.bool la, .bool lb, .bool lc, .bool ld, .int .u64 lg, .int .u64 lt] 27 (0, 0)) from H1); clear hg hb H1 hB_2; have c_ga_34 := K_ga.out.cv; have f_ga_34 := K_ga.out.fr 34; have c_ga_67 := K_ga.out.u 67 rfl; have f_ga_67 := K_ga.out.fr 67; have c_gt_5 := (show World.cell? _ ⟨gt, 5, none⟩ = some (.int .u64 lt) from (blk_cell K_gt.out 5).trans rfl); have f_gt_5 := blk_frozen K_gt.out 5; clear hu25 hu27))
        refine (HM.out ga _ K_ga.out).mono ?_
        rintro e1 w1 ⟨rfl, rfl⟩
        go_wp2_with fail
        refine (HF.out ga _).mono ?_
        rintro e2 w2 ⟨rfl, rfl⟩
        simp only [ptrOf, Option.map_none]
        go_wp2
        go_ret
        exact ⟨rfl, hB_4.out⟩
    by_cases h_769 : no2 = 769
    · subst h_769
      rw [show readT h la lb lc ld lg lt 769 = (9223372036856091009) from rfl]
      have hu25 := Tryd.underlying25; have hu27 := Tryd.underlying27
      go_enter Tryd.func13, Tryd.ntmps13
      go_wp2_with (first | ((with_reducible refine gate_dst (N := 3) rfl ?_); refine box_event ?hg (N := 3) ?hd (cs := h.cs) (t := 25) ?hr ?_; (case hd => rfl); (case hg => rfl); (case hr => first | (go_simp; done) | (go_simp; rfl)); intro ga hg w_1 H1 hb; have hB_2 := Lib.hid (below_step (Below.refl w.heap.size w) hb); have G_ga := Lib.hid (show w.heap.size ≤ ga by rw [hg]; exact ((Below.refl w.heap.size w)).size); have K_ga := Lib.hid (show Hb w_1 ga h from H1); clear hg hb H1) | ((with_reducible refine gate_dst (N := 4) rfl ?_); refine box_event ?hg (N := 4) ?hd (cs := #[.bool la, .bool lb, .bool lc, .bool ld, .int .u64 lg, .int .u64 lt]) (t := 27) ?hr ?_; (case hd => rfl); (case hg => rfl); (case hr => first | (go_simp; done) | (go_simp; rfl)); intro gt hg w_3 H1 hb; have hB_4 := Lib.hid (below_step hB_2.out hb); have G_gt := Lib.hid (show w.heap.size ≤ gt by rw [hg]; exact (hB_2.out).size); have N_ga_gt := Lib.hid (show ga ≠ gt by rw [hg]; exact Nat.ne_of_lt (K_ga.out.lt)); replace K_ga := Lib.hid (K_ga.out.below hb); have K_gt := Lib.hid (show w_3.heap[gt]? = some (.cells #[.bool la, .bool lb, .bool lc, .bool ld, .int .u64 lg, .int .u64 lt] 27 (0, 0)) from H1); clear hg hb H1 hB_2; clear hu25 hu27))
      refine (HM.out ga _ K_ga.out).mono ?_
      rintro e1 w1 ⟨rfl, rfl⟩
      go_wp2_with fail
      refine (HF.out ga _).mono ?_
      rintro e2 w2 ⟨rfl, rfl⟩
      simp only [ptrOf, Option.map_none]
      go_wp2
      go_ret
      exact ⟨rfl, hB_4.out⟩
    have e_256 : (no2 == 256) = false := beq_eq_false_iff_ne.2 h_256
    have e_836 : (no2 == 836) = false := beq_eq_false_iff_ne.2 h_836
    have e_324 : (no2 == 324) = false := beq_eq_false_iff_ne.2 h_324
    have e_260 : (no2 == 260) = false := beq_eq_false_iff_ne.2 h_260
    have e_1604 : (no2 == 1604) = false := beq_eq_false_iff_ne.2 h_1604
    have e_1540 : (no2 == 1540) = false := beq_eq_false_iff_ne.2 h_1540
    have e_580 : (no2 == 580) = false := beq_eq_false_iff_ne.2 h_580
    have e_516 : (no2 == 516) = false := beq_eq_false_iff_ne.2 h_516
    have e_3602 : (no2 == 3602) = false := beq_eq_false_iff_ne.2 h_3602
    have e_3072 : (no2 == 3072) = false := beq_eq_false_iff_ne.2 h_3072
    have e_3074 : (no2 == 3074) = false := beq_eq_false_iff_ne.2 h_3074
    have e_3073 : (no2 == 3073) = false := beq_eq_false_iff_ne.2 h_3073
    have e_769 : (no2 == 769) = false := beq_eq_false_iff_ne.2 h_769
    have hm : readT h la lb lc ld lg lt no2 = 0 := by unfold readT; rw [if_neg h_256, if_neg h_836, if_neg h_324, if_neg h_260, if_neg h_1604, if_neg h_1540, if_neg h_580, if_neg h_516, if_neg h_3602, if_neg h_3072, if_neg h_3074, if_neg h_3073, if_neg h_769]
    rw [hm]
    clear hm h_256 h_836 h_324 h_260 h_1604 h_1540 h_580 h_516 h_3602 h_3072 h_3074 h_3073 h_769
    have hu25 := Tryd.underlying25; have hu27 := Tryd.underlying27
    go_enter Tryd.func13, Tryd.ntmps13
    go_wp2_with (first | ((with_reducible refine gate_dst (N := 3) rfl ?_); refine box_event ?hg (N := 3) ?hd (cs := h.cs) (t := 25) ?hr ?_; (case hd => rfl); (case hg => rfl); (case hr => first | (go_simp; done) | (go_simp; rfl)); intro ga hg w_1 H1 hb; have hB_2 := Lib.hid (below_step (Below.refl w.heap.size w) hb); have G_ga := Lib.hid (show w.heap.size ≤ ga by rw [hg]; exact ((Below.refl w.heap.size w)).size); have K_ga := Lib.hid (show Hb w_1 ga h from H1); clear hg hb H1) | ((with_reducible refine gate_dst (N := 4) rfl ?_); refine box_event ?hg (N := 4) ?hd (cs := #[.bool la, .bool lb, .bool lc, .bool ld, .int .u64 lg, .int .u64 lt]) (t := 27) ?hr ?_; (case hd => rfl); (case hg => rfl); (case hr => first | (go_simp; done) | (go_simp; rfl)); intro gt hg w_3 H1 hb; have hB_4 := Lib.hid (below_step hB_2.out hb); have G_gt := Lib.hid (show w.heap.size ≤ gt by rw [hg]; exact (hB_2.out).size); have N_ga_gt := Lib.hid (show ga ≠ gt by rw [hg]; exact Nat.ne_of_lt (K_ga.out.lt)); replace K_ga := Lib.hid (K_ga.out.below hb); have K_gt := Lib.hid (show w_3.heap[gt]? = some (.cells #[.bool la, .bool lb, .bool lc, .bool ld, .int .u64 lg, .int .u64 lt] 27 (0, 0)) from H1); clear hg hb H1 hB_2; clear hu25 hu27))
    refine (HM.out ga _ K_ga.out).mono ?_
    rintro e1 w1 ⟨rfl, rfl⟩
    go_wp2_with fail
    refine (HF.out ga _).mono ?_
    rintro e2 w2 ⟨rfl, rfl⟩
    simp only [ptrOf, Option.map_none]
    go_wp2
    go_ret
    exact ⟨rfl, hB_4.out⟩
end Go.Proofs.YtlopmcakfalkpaaDoor.Hx
