/- What is written into a register that takes all is read again, and touches no other one. (By a program of this session.) -/
import Derived.Test.YtlopmcakfalkpaaDoorCAgain
import Derived.Test.YtlopmcakfalkpaaDoorCWakes
set_option linter.unusedSimpArgs false
set_option linter.unusedVariables false
namespace Go.Proofs.YtlopmcakfalkpaaDoor.Hx
open Go.RowKit Go.Proofs.YtlopmcakfalkpaaDoor.Q Go.Proofs.YtlopmcakfalkpaaDoorW.PrintWords Go.Proofs.YtlopmcakfalkpaaDoorW.PrintLast Go.Proofs.YtlopmcakfalkpaaDoorW.PrintMore Go.Proofs.YtlopmcakfalkpaaDoor.Rg


set_option maxHeartbeats 16000000 in
set_option maxRecDepth 100000 in
theorem again_c (h : Ht) (hw : h.wf) (la lb lc ld : Bool) (lg lt : Int) (no other v : Int) (hv : 0 ≤ v ∧ v < 18446744073709551616) (w : World) (hT : Tab w) : Calls Tryd.prog 9 #[.agg h.cs, .agg #[.bool la, .bool lb, .bool lc, .bool ld, .int .u64 lg, .int .u64 lt], .int .i64 no, .int .i64 other, .int .u64 v] w fun e w' => e = .returned (.bool true) ∧ Below w.heap.size w w' := by
  have hf := fix_c h
  have AG := again_law (fix h) la lb lc ld lg lt no other v hv
  generalize fix h = f at *
  have hwr := write_c (host f) la lb lc ld lg lt no v
  generalize writeV (host f) no v = k at *
  have hr1 := read_c k la lb lc ld lg lt no
  have hr2 := read_c k la lb lc ld lg lt other
  have hr3 := read_c (host f) la lb lc ld lg lt other
  generalize readV k la lb lc ld lg lt no = r1 at *
  generalize readV k la lb lc ld lg lt other = r2 at *
  generalize readV (host f) la lb lc ld lg lt other = r3 at *
  have HF := Lib.hid hf; have HW := Lib.hid hwr; have HR1 := Lib.hid hr1; have HR2 := Lib.hid hr2; have HR3 := Lib.hid hr3; have HT := Lib.hid hT; have HAG := Lib.hid AG
  clear hf hwr hr1 hr2 hr3 hT hw hv AG
  have hu25 := Tryd.underlying25; have hu27 := Tryd.underlying27
  go_enter Tryd.func9, Tryd.ntmps9
  go_upto_region 1 with (first | ((with_reducible refine gate_dst (N := 5) rfl ?_); refine box_event ?hg (N := 5) ?hd (cs := h.cs) (t := 25) ?hr ?_; (case hd => rfl); (case hg => rfl); (case hr => first | (go_simp; done) | (go_simp; rfl)); intro ga hg w_1 H1 hb; have hB_2 := Lib.hid (below_step (Below.refl w.heap.size w) hb); have G_ga := Lib.hid (show w.heap.size ≤ ga by rw [hg]; exact ((Below.refl w.heap.size w)).size); have K_ga := Lib.hid (show Hb w_1 ga h from H1); clear hg hb H1) | ((with_reducible refine gate_dst (N := 6) rfl ?_); refine box_event ?hg (N := 6) ?hd (cs := #[.bool la, .bool lb, .bool lc, .bool ld, .int .u64 lg, .int .u64 lt]) (t := 27) ?hr ?_; (case hd => rfl); (case hg => rfl); (case hr => first | (go_simp; done) | (go_simp; rfl)); intro gt hg w_3 H1 hb; have hB_4 := Lib.hid (below_step hB_2.out hb); have G_gt := Lib.hid (show w.heap.size ≤ gt by rw [hg]; exact (hB_2.out).size); have N_ga_gt := Lib.hid (show ga ≠ gt by rw [hg]; exact Nat.ne_of_lt (K_ga.out.lt)); replace K_ga := Lib.hid (K_ga.out.below hb); have K_gt := Lib.hid (show w_3.heap[gt]? = some (.cells #[.bool la, .bool lb, .bool lc, .bool ld, .int .u64 lg, .int .u64 lt] 27 (0, 0)) from H1); clear hg hb H1 hB_2; clear hu27))
  go_wp2_with (first | ((with_reducible refine gate_dst (N := 15) rfl ?_); (first | (refine gate_guard (by rfl) ?_) | skip); refine Kd.event_run rfl (v := .agg (h).cs) (w1 := w_3) ?hb ?_; (case hb => exact exec_load_hart rfl rfl K_ga.out)))
  refine (HF.out _ (Tab.from HT.out hB_4.out)).mono ?_
  rintro e_5 w_6 ⟨rfl, hb⟩
  have hB_7 := Lib.hid (below_step hB_4.out hb)
  replace K_ga := Lib.hid (K_ga.out.below hb)
  replace K_gt := Lib.hid (blk_below K_gt.out hb)
  clear hb hB_4
  go_upto_region 3 with (first | (refine store_hart rfl (.tmp 5) (.tmp 16) rfl ga (f) rfl rfl (h) K_ga.out ?_; have hB_9 := Lib.hid (setCells_below G_ga.out (Ht.cs (f)).toList 0 _ hB_7.out); replace K_gt := Lib.hid (setCells_far' (vs := (Ht.cs (f)).toList) (o := 0) (Ne.symm N_ga_gt.out) K_gt.out); replace K_ga := Lib.hid (Hb.putAll (f) K_ga.out); clear hB_7; generalize World.setCells w_6 ga 0 (Ht.cs (f)).toList = w_8 at K_ga K_gt hB_9 ⊢; have c_ga_34 := K_ga.out.cv; have f_ga_34 := K_ga.out.fr 34))
  refine world_code ga (by repeat (with_reducible first | exact K_ga.out | apply Hb.put | apply Hb.putP | apply Hb.putV | apply Hb.putW | apply Hb.putH | apply Hb.far N_ga_gt.out | apply Hb.drewN | apply Hb.drew)) (fun w' => Below w.heap.size w w' ∧ w'.heap[gt]? = some (.cells #[.bool la, .bool lb, .bool lc, .bool ld, .int .u64 lg, .int .u64 lt] 27 (0, 0))) ⟨(by repeat (first | (with_reducible first | exact hB_9.out | apply pw_below_drewN | apply below_drew1 | refine below_set ?_ G_ga.out | refine below_set ?_ G_gt.out) | exact hB_9.out)), (by repeat (with_reducible first | exact K_gt.out | apply blk_drewN | apply blk_drew | refine blk_far ?_ (show gt ≠ _ from (Ne.symm N_ga_gt.out)) _))⟩ ?_
  clear c_ga_34 f_ga_34
  clear K_ga K_gt hB_9
  rintro w_10 q_ ⟨b_, q_gt⟩
  have K_ga := Lib.hid q_; have hB_11 := Lib.hid b_; have K_gt := Lib.hid q_gt
  clear q_ b_ q_gt
  go_wp2_with (first | ((with_reducible refine gate_dst (N := 18) rfl ?_); refine flat_event rfl 40 3 13 _ rfl .i64 wholeL Tryd.underlying40 (by kernel_rfl) (by kernel_rfl) (by rfl) (by decide) (by decide) (by rfl) ?_; intro gs hg w_12 H1 hb; have hB_13 := Lib.hid (below_step hB_11.out hb); have G_gs := Lib.hid (show w.heap.size ≤ gs by rw [hg]; exact (hB_11.out).size); have N_ga_gs := Lib.hid (show ga ≠ gs by rw [hg]; exact Nat.ne_of_lt (K_ga.out.lt)); have N_gt_gs := Lib.hid (show gt ≠ gs by rw [hg]; exact Nat.ne_of_lt (blk_lt K_gt.out)); replace K_ga := Lib.hid (K_ga.out.below hb); replace K_gt := Lib.hid (blk_below K_gt.out hb); have K_gs := Lib.hid (show w_12.heap[gs]? = some (.cells #[.int .i64 832, .int .i64 834, .int .i64 835, .int .i64 843, .int .i64 842, .int .i64 320, .int .i64 322, .int .i64 323, .int .i64 576, .int .i64 578, .int .i64 579, .int .i64 1603, .int .i64 1610] 3 (0, 0)) from H1); clear hg hb H1 hB_11))
  go_loopw [12, 13] (fun v12 v13 wr => ∃ k : Nat, k ≤ 13 ∧ v12 = .bool (isTo no k) ∧ v13 = .int .i64 k ∧ wr = w_12) (fun _ v13 _ => 13 - (intOf v13).toNat)
  case atStart => exact ⟨0, by omega, rfl, rfl, rfl⟩
  case round =>
    obtain ⟨k_, hk, rfl, rfl, rfl⟩ := hrel
    by_cases hlt : k_ < 13
    · have d0 : decide ((k_ : Int) < 13) = true := decide_eq_true (by omega)
      have ix := sl_index 13 gs 13 k_ hlt
      have hc := (blk_cell K_gs.out k_).trans (whole_at k_ hlt)
      have hE : isTo no (k_ + 1) = (if isTo no k_ = true then true else (whole k_ == no)) := rfl
      have HE := Lib.hid hE; have HLT := Lib.hid hlt
      clear hE hlt hk
      generalize isTo no k_ = b1 at *
      generalize whole k_ = z at *
      cases b1
      · cases dz : (z == no)
        · skip
          go_wp2
          go_roundw
          case rel => exact ⟨k_ + 1, HLT.out, congrArg Value.bool (HE.out.trans (by rw [if_neg (show ¬ (false = true) by decide), dz])).symm, congrArg (Value.int .i64) (wr64 HLT.out (by decide)), by first | trivial | rfl⟩
          case measure => exact meas HLT.out (by decide)
        · skip
          go_wp2
          go_roundw
          case rel => exact ⟨k_ + 1, HLT.out, congrArg Value.bool (HE.out.trans (by rw [if_neg (show ¬ (false = true) by decide), dz])).symm, congrArg (Value.int .i64) (wr64 HLT.out (by decide)), by first | trivial | rfl⟩
          case measure => exact meas HLT.out (by decide)
      · skip
        go_wp2
        go_roundw
        case rel => exact ⟨k_ + 1, HLT.out, congrArg Value.bool (HE.out.trans (if_pos rfl)).symm, congrArg (Value.int .i64) (wr64 HLT.out (by decide)), by first | trivial | rfl⟩
        case measure => exact meas HLT.out (by decide)
    · have hk13 : k_ = 13 := by omega
      subst hk13
      clear hlt hk
      cases hi : isTo no 13
      · skip
        clear hi HAG
        go_wp2_with fail
        refine (wakes_c _ (Tab.from HT.out hB_13.out)).mono ?_
        rintro e_14 w_15 ⟨rfl, hb⟩
        have hB_16 := Lib.hid (below_step hB_13.out hb)
        replace K_ga := Lib.hid (K_ga.out.below hb)
        replace K_gt := Lib.hid (blk_below K_gt.out hb)
        replace K_gs := Lib.hid (blk_below K_gs.out hb)
        clear hb hB_13
        go_wp2
        go_ret
        exact ⟨rfl, hB_16.out⟩
      · skip
        obtain ⟨d1, d2⟩ := HAG.out hi
        have HD2 := Lib.hid d2
        clear hi HAG d2
        go_upto_region 11 with fail
        go_wp2_with (first | ((with_reducible refine gate_dst (N := 37) rfl ?_); (first | (refine gate_guard (by rfl) ?_) | skip); refine Kd.event_run rfl (v := .agg (host f).cs) (w1 := wr) ?hb ?_; (case hb => exact exec_load_hart rfl rfl K_ga.out)) | ((with_reducible refine gate_dst (N := 38) rfl ?_); (first | (refine gate_guard (by rfl) ?_) | skip); refine Kd.event_run rfl (v := .agg #[.bool la, .bool lb, .bool lc, .bool ld, .int .u64 lg, .int .u64 lt]) (w1 := wr) ?hb ?_; (case hb => exact exec_load_blk rfl rfl K_gt.out Tryd.underlying27 rfl (by kernel_rfl))))
        refine (HW.out _ (Tab.from HT.out hB_13.out)).mono ?_
        rintro e_14 w_15 ⟨rfl, hb⟩
        have hB_16 := Lib.hid (below_step hB_13.out hb)
        replace K_ga := Lib.hid (K_ga.out.below hb)
        replace K_gt := Lib.hid (blk_below K_gt.out hb)
        replace K_gs := Lib.hid (blk_below K_gs.out hb)
        clear hb hB_13
        go_upto_region 12 with (first | ((with_reducible refine gate_dst (N := 14) rfl ?_); refine box_event ?hg (N := 14) ?hd (cs := Ht.zero.cs) (t := 25) ?hr ?_; (case hd => rfl); (case hg => rfl); (case hr => first | (go_simp; done) | (go_simp; rfl)); intro gk hg w_17 H1 hb; have hB_19 := Lib.hid (below_step hB_16.out hb); have G_gk := Lib.hid (show w.heap.size ≤ gk by rw [hg]; exact (hB_16.out).size); have N_ga_gk := Lib.hid (show ga ≠ gk by rw [hg]; exact Nat.ne_of_lt (K_ga.out.lt)); have N_gt_gk := Lib.hid (show gt ≠ gk by rw [hg]; exact Nat.ne_of_lt (blk_lt K_gt.out)); have N_gs_gk := Lib.hid (show gs ≠ gk by rw [hg]; exact Nat.ne_of_lt (blk_lt K_gs.out)); replace K_ga := Lib.hid (K_ga.out.below hb); replace K_gt := Lib.hid (blk_below K_gt.out hb); replace K_gs := Lib.hid (blk_below K_gs.out hb); have K_gk := Lib.hid (show Hb w_17 gk Ht.zero from H1); clear hg hb H1 hB_16) | (refine store_hart rfl (.tmp 14) (.tmp 41) rfl gk k rfl rfl Ht.zero K_gk.out ?_; have hB_20 := Lib.hid (setCells_below G_gk.out (Ht.cs k).toList 0 _ hB_19.out); replace K_ga := Lib.hid (Hb.farAll (vs := (Ht.cs k).toList) (o := 0) N_ga_gk.out K_ga.out); replace K_gt := Lib.hid (setCells_far' (vs := (Ht.cs k).toList) (o := 0) N_gt_gk.out K_gt.out); replace K_gs := Lib.hid (setCells_far' (vs := (Ht.cs k).toList) (o := 0) N_gs_gk.out K_gs.out); replace K_gk := Lib.hid (Hb.putAll k K_gk.out); clear hB_19; generalize World.setCells w_17 gk 0 (Ht.cs k).toList = w_18 at K_ga K_gt K_gs K_gk hB_20 ⊢))
        clear hu25
        go_wp2_with (first | ((with_reducible refine gate_dst (N := 42) rfl ?_); (first | (refine gate_guard (by rfl) ?_) | skip); refine Kd.event_run rfl (v := .agg (k).cs) (w1 := w_18) ?hb ?_; (case hb => exact exec_load_hart rfl rfl K_gk.out)) | ((with_reducible refine gate_dst (N := 43) rfl ?_); (first | (refine gate_guard (by rfl) ?_) | skip); refine Kd.event_run rfl (v := .agg #[.bool la, .bool lb, .bool lc, .bool ld, .int .u64 lg, .int .u64 lt]) (w1 := w_18) ?hb ?_; (case hb => exact exec_load_blk rfl rfl K_gt.out Tryd.underlying27 rfl (by kernel_rfl))))
        refine (HR1.out _).mono ?_
        rintro e_21 w_22 ⟨rfl, hb⟩
        have hB_23 := Lib.hid (below_step hB_20.out hb)
        replace K_ga := Lib.hid (K_ga.out.below hb)
        replace K_gt := Lib.hid (blk_below K_gt.out hb)
        replace K_gs := Lib.hid (blk_below K_gs.out hb)
        replace K_gk := Lib.hid (K_gk.out.below hb)
        clear hb hB_20
        go_upto_region 14 with fail
        cases d3 : (other == no)
        · skip
          have d4 := HD2.out d3
          clear HD2
          refine start_ (n := 18) (S := fun w' => Hb w' gk k ∧ w'.heap[gt]? = some (.cells #[.bool la, .bool lb, .bool lc, .bool ld, .int .u64 lg, .int .u64 lt] 27 (0, 0)) ∧ Hb w' ga (host f) ∧ Tab w') (ds := []) #[false, false, false, false, false, false, false, false, false, false, false, false, false, false, false, false, false, false] (by kernel_rfl) rfl rfl ⟨K_gk.out.drew, blk_drew K_gt.out, K_ga.out.drew, (Tab.from HT.out (below_drew1 hB_23.out))⟩ (fun hHeld => ?_)
          replace K_ga := Lib.hid (K_ga.out.drew)
          replace K_gt := Lib.hid (blk_drew K_gt.out)
          replace K_gs := Lib.hid (blk_drew K_gs.out)
          replace K_gk := Lib.hid (K_gk.out.drew)
          have hB_25 := Lib.hid (below_drew1 hB_23.out)
          clear hB_23
          generalize World.drew w_22 = w_24 at K_ga K_gt K_gs K_gk hB_25 hHeld ⊢
          refine pure_ (i := 0) (N := some 48) (v := ?_) (a' := ?_) #[true, false, false, false, false, false, false, false, false, false, false, false, false, false, false, false, false, false] rfl rfl (by kernel_rfl) (fun _ _ _ h => h) (Or.inl ⟨by rfl, ?_⟩) ?_ ?_
          rotate_left
          · intro w'
            go_simp
            with_reducible rfl
          rotate_left
          · simp only [Act.put, List.setIfInBounds_toArray, List.set_cons_zero, List.set_cons_succ, i64_w, i32_w]
            rfl
          refine pure_ (i := 1) (N := some 49) (v := ?_) (a' := ?_) #[true, true, false, false, false, false, false, false, false, false, false, false, false, false, false, false, false, false] rfl rfl (by kernel_rfl) (fun _ _ _ h => h) (Or.inl ⟨by rfl, ?_⟩) ?_ ?_
          rotate_left
          · intro w'
            go_simp
            with_reducible rfl
          rotate_left
          · simp only [Act.put, List.setIfInBounds_toArray, List.set_cons_zero, List.set_cons_succ, i64_w, i32_w]
            rfl
          refine pure_ (i := 2) (N := some 50) (v := ?_) (a' := ?_) #[true, true, true, false, false, false, false, false, false, false, false, false, false, false, false, false, false, false] rfl rfl (by kernel_rfl) (fun _ _ _ h => h) (Or.inl ⟨by rfl, ?_⟩) ?_ ?_
          rotate_left
          · intro w'
            go_simp
            with_reducible rfl
          rotate_left
          · simp only [Act.put, List.setIfInBounds_toArray, List.set_cons_zero, List.set_cons_succ, i64_w, i32_w]
            rfl
          refine pure_ (i := 3) (N := some 51) (v := ?_) (a' := ?_) #[true, true, true, true, false, false, false, false, false, false, false, false, false, false, false, false, false, false] rfl rfl (by kernel_rfl) (fun _ _ _ h => h) (Or.inl ⟨by rfl, ?_⟩) ?_ ?_
          rotate_left
          · intro w'
            go_simp
            with_reducible rfl
          rotate_left
          · simp only [Act.put, List.setIfInBounds_toArray, List.set_cons_zero, List.set_cons_succ, i64_w, i32_w]
            rfl
          refine pure_ (i := 6) (N := some 54) (v := ?_) (a' := ?_) #[true, true, true, true, false, false, true, false, false, false, false, false, false, false, false, false, false, false] rfl rfl (by kernel_rfl) (fun _ _ _ h => h) (Or.inl ⟨by rfl, ?_⟩) ?_ ?_
          rotate_left
          · intro w'
            go_simp
            with_reducible rfl
          rotate_left
          · simp only [Act.put, List.setIfInBounds_toArray, List.set_cons_zero, List.set_cons_succ, i64_w, i32_w]
            rfl
          refine pure_ (i := 10) (N := some 58) (v := ?_) (a' := ?_) #[true, true, true, true, false, false, true, false, false, false, true, false, false, false, false, false, false, false] rfl rfl (by kernel_rfl) (fun _ _ _ h => h) (Or.inl ⟨by rfl, ?_⟩) ?_ ?_
          rotate_left
          · intro w'
            go_simp
            with_reducible rfl
          rotate_left
          · simp only [Act.put, List.setIfInBounds_toArray, List.set_cons_zero, List.set_cons_succ, i64_w, i32_w]
            rfl
          refine take_ (i := 4) (N := some 52) (v := .agg k.cs) (a' := ?_) #[true, true, true, true, true, false, true, false, false, false, true, false, false, false, false, false, false, false] rfl rfl (by kernel_rfl) (fun _ _ _ h => h) (Or.inl ⟨by rfl, ?_⟩) hHeld ?_ ?_
          · rintro w' ⟨s0, s1, s2, s3⟩; exact exec_load_hart rfl rfl s0
          rotate_left
          · simp only [Act.put, List.setIfInBounds_toArray, List.set_cons_zero, List.set_cons_succ, i64_w, i32_w]
            rfl
          refine take_ (i := 5) (N := some 53) (v := .agg #[.bool la, .bool lb, .bool lc, .bool ld, .int .u64 lg, .int .u64 lt]) (a' := ?_) #[true, true, true, true, true, true, true, false, false, false, true, false, false, false, false, false, false, false] rfl rfl (by kernel_rfl) (fun _ _ _ h => h) (Or.inl ⟨by rfl, ?_⟩) hHeld ?_ ?_
          · rintro w' ⟨s0, s1, s2, s3⟩; exact exec_load_blk rfl rfl s1 Tryd.underlying27 rfl (by kernel_rfl)
          rotate_left
          · simp only [Act.put, List.setIfInBounds_toArray, List.set_cons_zero, List.set_cons_succ, i64_w, i32_w]
            rfl
          refine take_ (i := 8) (N := some 56) (v := .agg (host f).cs) (a' := ?_) #[true, true, true, true, true, true, true, false, true, false, true, false, false, false, false, false, false, false] rfl rfl (by kernel_rfl) (fun _ _ _ h => h) (Or.inl ⟨by rfl, ?_⟩) hHeld ?_ ?_
          · rintro w' ⟨s0, s1, s2, s3⟩; exact exec_load_hart rfl rfl s2
          rotate_left
          · simp only [Act.put, List.setIfInBounds_toArray, List.set_cons_zero, List.set_cons_succ, i64_w, i32_w]
            rfl
          refine take_ (i := 9) (N := some 57) (v := .agg #[.bool la, .bool lb, .bool lc, .bool ld, .int .u64 lg, .int .u64 lt]) (a' := ?_) #[true, true, true, true, true, true, true, false, true, true, true, false, false, false, false, false, false, false] rfl rfl (by kernel_rfl) (fun _ _ _ h => h) (Or.inl ⟨by rfl, ?_⟩) hHeld ?_ ?_
          · rintro w' ⟨s0, s1, s2, s3⟩; exact exec_load_blk rfl rfl s1 Tryd.underlying27 rfl (by kernel_rfl)
          rotate_left
          · simp only [Act.put, List.setIfInBounds_toArray, List.set_cons_zero, List.set_cons_succ, i64_w, i32_w]
            rfl
          have HH := Lib.hid hHeld
          clear hHeld
          refine one_ (i := 7) (N := some 55) #[true, true, true, true, true, true, true, true, true, true, true, false, false, false, false, false, false, false] rfl rfl (by kernel_rfl) (by decide) (fun K hK => ?_)
          refine goes_ Tryd.func13 (by kernel_rfl) rfl #[.agg k.cs, .agg #[.bool la, .bool lb, .bool lc, .bool ld, .int .u64 lg, .int .u64 lt], .int .i64 other] (by rfl) rfl rfl (by simp only [List.map_toArray, List.map_cons, List.map_nil]; rfl) ?_
          with_reducible refine (HR2.out _).mono ?_
          rintro e_ w_26 ⟨rfl, hb⟩
          refine ⟨_, rfl, ?_⟩
          have s_0 := Hb.below (HH.out.1) hb
          have s_1 := blk_below (HH.out.2.1) hb
          have s_2 := Hb.below (HH.out.2.2.1) hb
          have s_3 := Tab.from (HH.out.2.2.2) hb
          replace K_ga := Lib.hid (K_ga.out.below hb)
          replace K_gt := Lib.hid (blk_below K_gt.out hb)
          replace K_gs := Lib.hid (blk_below K_gs.out hb)
          replace K_gk := Lib.hid (K_gk.out.below hb)
          have hB_27 := Lib.hid (below_step hB_25.out hb)
          clear HH hb hB_25
          refine hK.out _ _ ⟨s_0, s_1, s_2, s_3⟩ (fun hHeld => ?_)
          have HH := Lib.hid hHeld
          clear hHeld s_0 s_1 s_2 s_3
          clear hK K
          refine norm_ (a' := ?_) ?_ ?_
          rotate_left
          · show Act.put _ (some 55) _ = _
            simp only [Act.put, List.setIfInBounds_toArray, List.set_cons_zero, List.set_cons_succ, i64_w, i32_w]
            rfl
          refine one_ (i := 11) (N := some 59) #[true, true, true, true, true, true, true, true, true, true, true, true, false, false, false, false, false, false] rfl rfl (by kernel_rfl) (by decide) (fun K hK => ?_)
          refine goes_ Tryd.func13 (by kernel_rfl) rfl #[.agg (host f).cs, .agg #[.bool la, .bool lb, .bool lc, .bool ld, .int .u64 lg, .int .u64 lt], .int .i64 other] (by rfl) rfl rfl (by simp only [List.map_toArray, List.map_cons, List.map_nil]; rfl) ?_
          with_reducible refine (HR3.out _).mono ?_
          rintro e_ w_28 ⟨rfl, hb⟩
          refine ⟨_, rfl, ?_⟩
          have s_0 := Hb.below (HH.out.1) hb
          have s_1 := blk_below (HH.out.2.1) hb
          have s_2 := Hb.below (HH.out.2.2.1) hb
          have s_3 := Tab.from (HH.out.2.2.2) hb
          replace K_ga := Lib.hid (K_ga.out.below hb)
          replace K_gt := Lib.hid (blk_below K_gt.out hb)
          replace K_gs := Lib.hid (blk_below K_gs.out hb)
          replace K_gk := Lib.hid (K_gk.out.below hb)
          have hB_29 := Lib.hid (below_step hB_27.out hb)
          clear HH hb hB_27
          refine hK.out _ _ ⟨s_0, s_1, s_2, s_3⟩ (fun hHeld => ?_)
          have HH := Lib.hid hHeld
          clear hHeld s_0 s_1 s_2 s_3
          clear hK K
          refine norm_ (a' := ?_) ?_ ?_
          rotate_left
          · show Act.put _ (some 59) _ = _
            simp only [Act.put, List.setIfInBounds_toArray, List.set_cons_zero, List.set_cons_succ, i64_w, i32_w]
            rfl
          refine pure_ (i := 12) (N := some 60) (v := ?_) (a' := ?_) #[true, true, true, true, true, true, true, true, true, true, true, true, true, false, false, false, false, false] rfl rfl (by kernel_rfl) (fun _ _ _ h => h) (Or.inl ⟨by rfl, ?_⟩) ?_ ?_
          rotate_left
          · intro w'
            go_simp
            with_reducible rfl
          rotate_left
          · simp only [Act.put, List.setIfInBounds_toArray, List.set_cons_zero, List.set_cons_succ, i64_w, i32_w]
            rfl
          refine pure_ (i := 13) (N := some 61) (v := ?_) (a' := ?_) #[true, true, true, true, true, true, true, true, true, true, true, true, true, true, false, false, false, false] rfl rfl (by kernel_rfl) (fun _ _ _ h => h) (Or.inl ⟨by rfl, ?_⟩) ?_ ?_
          rotate_left
          · intro w'
            go_simp
            with_reducible rfl
          rotate_left
          · simp only [Act.put, List.setIfInBounds_toArray, List.set_cons_zero, List.set_cons_succ, i64_w, i32_w]
            rfl
          refine pure_ (i := 14) (N := some 62) (v := ?_) (a' := ?_) #[true, true, true, true, true, true, true, true, true, true, true, true, true, true, true, false, false, false] rfl rfl (by kernel_rfl) (fun _ _ _ h => h) (Or.inl ⟨by rfl, ?_⟩) ?_ ?_
          rotate_left
          · intro w'
            go_simp
            with_reducible rfl
          rotate_left
          · simp only [Act.put, List.setIfInBounds_toArray, List.set_cons_zero, List.set_cons_succ, i64_w, i32_w]
            rfl
          refine one_ (i := 15) (N := some 63) #[true, true, true, true, true, true, true, true, true, true, true, true, true, true, true, true, false, false] rfl rfl (by kernel_rfl) (by decide) (fun K hK => ?_)
          refine goes_ Tryd.func17 (by kernel_rfl) rfl #[] (by rfl) rfl rfl (by simp) ?_
          with_reducible refine (wakes_c _ HH.out.2.2.2).mono ?_
          rintro e_ w_30 ⟨rfl, hb⟩
          refine ⟨_, rfl, ?_⟩
          have s_0 := Hb.below (HH.out.1) hb
          have s_1 := blk_below (HH.out.2.1) hb
          have s_2 := Hb.below (HH.out.2.2.1) hb
          have s_3 := Tab.from (HH.out.2.2.2) hb
          replace K_ga := Lib.hid (K_ga.out.below hb)
          replace K_gt := Lib.hid (blk_below K_gt.out hb)
          replace K_gs := Lib.hid (blk_below K_gs.out hb)
          replace K_gk := Lib.hid (K_gk.out.below hb)
          have hB_31 := Lib.hid (below_step hB_29.out hb)
          clear HH hb hB_29
          refine hK.out _ _ ⟨s_0, s_1, s_2, s_3⟩ (fun hHeld => ?_)
          have HH := Lib.hid hHeld
          clear hHeld s_0 s_1 s_2 s_3
          clear hK K
          refine norm_ (a' := ?_) ?_ ?_
          rotate_left
          · show Act.put _ (some 63) _ = _
            simp only [Act.put, List.setIfInBounds_toArray, List.set_cons_zero, List.set_cons_succ, i64_w, i32_w]
            rfl
          refine pure_ (i := 16) (N := some 64) (v := ?_) (a' := ?_) #[true, true, true, true, true, true, true, true, true, true, true, true, true, true, true, true, true, false] rfl rfl (by kernel_rfl) (fun _ _ _ h => h) (Or.inl ⟨by rfl, ?_⟩) ?_ ?_
          rotate_left
          · intro w'
            go_simp
            with_reducible rfl
          rotate_left
          · simp only [Act.put, List.setIfInBounds_toArray, List.set_cons_zero, List.set_cons_succ, i64_w, i32_w]
            rfl
          refine pure_ (i := 17) (N := some 10) (v := ?_) (a' := ?_) #[true, true, true, true, true, true, true, true, true, true, true, true, true, true, true, true, true, true] rfl rfl (by kernel_rfl) (fun _ _ _ h => h) (Or.inl ⟨by rfl, ?_⟩) ?_ ?_
          rotate_left
          · intro w'
            go_simp
            with_reducible rfl
          rotate_left
          · simp only [Act.put, List.setIfInBounds_toArray, List.set_cons_zero, List.set_cons_succ, i64_w, i32_w]
            rfl
          refine done_ (by kernel_rfl) ?_
          try clear HH
          go_wp2
          go_ret
          exact ⟨rfl, hB_31.out⟩
        · skip
          clear HD2
          refine start_ (n := 18) (S := fun w' => Hb w' gk k ∧ w'.heap[gt]? = some (.cells #[.bool la, .bool lb, .bool lc, .bool ld, .int .u64 lg, .int .u64 lt] 27 (0, 0)) ∧ Hb w' ga (host f) ∧ Tab w') (ds := []) #[false, false, false, false, false, false, false, false, false, false, false, false, false, false, false, false, false, false] (by kernel_rfl) rfl rfl ⟨K_gk.out.drew, blk_drew K_gt.out, K_ga.out.drew, (Tab.from HT.out (below_drew1 hB_23.out))⟩ (fun hHeld => ?_)
          replace K_ga := Lib.hid (K_ga.out.drew)
          replace K_gt := Lib.hid (blk_drew K_gt.out)
          replace K_gs := Lib.hid (blk_drew K_gs.out)
          replace K_gk := Lib.hid (K_gk.out.drew)
          have hB_25 := Lib.hid (below_drew1 hB_23.out)
          clear hB_23
          generalize World.drew w_22 = w_24 at K_ga K_gt K_gs K_gk hB_25 hHeld ⊢
          refine pure_ (i := 0) (N := some 48) (v := ?_) (a' := ?_) #[true, false, false, false, false, false, false, false, false, false, false, false, false, false, false, false, false, false] rfl rfl (by kernel_rfl) (fun _ _ _ h => h) (Or.inl ⟨by rfl, ?_⟩) ?_ ?_
          rotate_left
          · intro w'
            go_simp
            with_reducible rfl
          rotate_left
          · simp only [Act.put, List.setIfInBounds_toArray, List.set_cons_zero, List.set_cons_succ, i64_w, i32_w]
            rfl
          refine pure_ (i := 1) (N := some 49) (v := ?_) (a' := ?_) #[true, true, false, false, false, false, false, false, false, false, false, false, false, false, false, false, false, false] rfl rfl (by kernel_rfl) (fun _ _ _ h => h) (Or.inl ⟨by rfl, ?_⟩) ?_ ?_
          rotate_left
          · intro w'
            go_simp
            with_reducible rfl
          rotate_left
          · simp only [Act.put, List.setIfInBounds_toArray, List.set_cons_zero, List.set_cons_succ, i64_w, i32_w]
            rfl
          refine pure_ (i := 2) (N := some 50) (v := ?_) (a' := ?_) #[true, true, true, false, false, false, false, false, false, false, false, false, false, false, false, false, false, false] rfl rfl (by kernel_rfl) (fun _ _ _ h => h) (Or.inl ⟨by rfl, ?_⟩) ?_ ?_
          rotate_left
          · intro w'
            go_simp
            with_reducible rfl
          rotate_left
          · simp only [Act.put, List.setIfInBounds_toArray, List.set_cons_zero, List.set_cons_succ, i64_w, i32_w]
            rfl
          refine pure_ (i := 3) (N := some 51) (v := ?_) (a' := ?_) #[true, true, true, true, false, false, false, false, false, false, false, false, false, false, false, false, false, false] rfl rfl (by kernel_rfl) (fun _ _ _ h => h) (Or.inl ⟨by rfl, ?_⟩) ?_ ?_
          rotate_left
          · intro w'
            go_simp
            with_reducible rfl
          rotate_left
          · simp only [Act.put, List.setIfInBounds_toArray, List.set_cons_zero, List.set_cons_succ, i64_w, i32_w]
            rfl
          refine pure_ (i := 4) (N := some 52) (v := undef) (a' := ?_) #[true, true, true, true, true, false, false, false, false, false, false, false, false, false, false, false, false, false] rfl rfl (by kernel_rfl) (fun _ _ _ h => h) (Or.inr ⟨by rfl, rfl⟩) ?_ ?_
          rotate_left
          · simp only [Act.put, List.setIfInBounds_toArray, List.set_cons_zero, List.set_cons_succ, i64_w, i32_w]
            rfl
          refine pure_ (i := 5) (N := some 53) (v := undef) (a' := ?_) #[true, true, true, true, true, true, false, false, false, false, false, false, false, false, false, false, false, false] rfl rfl (by kernel_rfl) (fun _ _ _ h => h) (Or.inr ⟨by rfl, rfl⟩) ?_ ?_
          rotate_left
          · simp only [Act.put, List.setIfInBounds_toArray, List.set_cons_zero, List.set_cons_succ, i64_w, i32_w]
            rfl
          refine pure_ (i := 6) (N := some 54) (v := undef) (a' := ?_) #[true, true, true, true, true, true, true, false, false, false, false, false, false, false, false, false, false, false] rfl rfl (by kernel_rfl) (fun _ _ _ h => h) (Or.inr ⟨by rfl, rfl⟩) ?_ ?_
          rotate_left
          · simp only [Act.put, List.setIfInBounds_toArray, List.set_cons_zero, List.set_cons_succ, i64_w, i32_w]
            rfl
          refine pure_ (i := 7) (N := some 55) (v := undef) (a' := ?_) #[true, true, true, true, true, true, true, true, false, false, false, false, false, false, false, false, false, false] rfl rfl (by kernel_rfl) (fun _ _ _ h => h) (Or.inr ⟨by rfl, rfl⟩) ?_ ?_
          rotate_left
          · simp only [Act.put, List.setIfInBounds_toArray, List.set_cons_zero, List.set_cons_succ, i64_w, i32_w]
            rfl
          refine pure_ (i := 8) (N := some 56) (v := undef) (a' := ?_) #[true, true, true, true, true, true, true, true, true, false, false, false, false, false, false, false, false, false] rfl rfl (by kernel_rfl) (fun _ _ _ h => h) (Or.inr ⟨by rfl, rfl⟩) ?_ ?_
          rotate_left
          · simp only [Act.put, List.setIfInBounds_toArray, List.set_cons_zero, List.set_cons_succ, i64_w, i32_w]
            rfl
          refine pure_ (i := 9) (N := some 57) (v := undef) (a' := ?_) #[true, true, true, true, true, true, true, true, true, true, false, false, false, false, false, false, false, false] rfl rfl (by kernel_rfl) (fun _ _ _ h => h) (Or.inr ⟨by rfl, rfl⟩) ?_ ?_
          rotate_left
          · simp only [Act.put, List.setIfInBounds_toArray, List.set_cons_zero, List.set_cons_succ, i64_w, i32_w]
            rfl
          refine pure_ (i := 10) (N := some 58) (v := undef) (a' := ?_) #[true, true, true, true, true, true, true, true, true, true, true, false, false, false, false, false, false, false] rfl rfl (by kernel_rfl) (fun _ _ _ h => h) (Or.inr ⟨by rfl, rfl⟩) ?_ ?_
          rotate_left
          · simp only [Act.put, List.setIfInBounds_toArray, List.set_cons_zero, List.set_cons_succ, i64_w, i32_w]
            rfl
          refine pure_ (i := 11) (N := some 59) (v := undef) (a' := ?_) #[true, true, true, true, true, true, true, true, true, true, true, true, false, false, false, false, false, false] rfl rfl (by kernel_rfl) (fun _ _ _ h => h) (Or.inr ⟨by rfl, rfl⟩) ?_ ?_
          rotate_left
          · simp only [Act.put, List.setIfInBounds_toArray, List.set_cons_zero, List.set_cons_succ, i64_w, i32_w]
            rfl
          refine pure_ (i := 12) (N := some 60) (v := undef) (a' := ?_) #[true, true, true, true, true, true, true, true, true, true, true, true, true, false, false, false, false, false] rfl rfl (by kernel_rfl) (fun _ _ _ h => h) (Or.inr ⟨by rfl, rfl⟩) ?_ ?_
          rotate_left
          · simp only [Act.put, List.setIfInBounds_toArray, List.set_cons_zero, List.set_cons_succ, i64_w, i32_w]
            rfl
          refine pure_ (i := 13) (N := some 61) (v := ?_) (a' := ?_) #[true, true, true, true, true, true, true, true, true, true, true, true, true, true, false, false, false, false] rfl rfl (by kernel_rfl) (fun _ _ _ h => h) (Or.inl ⟨by rfl, ?_⟩) ?_ ?_
          rotate_left
          · intro w'
            go_simp
            with_reducible rfl
          rotate_left
          · simp only [Act.put, List.setIfInBounds_toArray, List.set_cons_zero, List.set_cons_succ, i64_w, i32_w]
            rfl
          refine pure_ (i := 14) (N := some 62) (v := ?_) (a' := ?_) #[true, true, true, true, true, true, true, true, true, true, true, true, true, true, true, false, false, false] rfl rfl (by kernel_rfl) (fun _ _ _ h => h) (Or.inl ⟨by rfl, ?_⟩) ?_ ?_
          rotate_left
          · intro w'
            go_simp
            with_reducible rfl
          rotate_left
          · simp only [Act.put, List.setIfInBounds_toArray, List.set_cons_zero, List.set_cons_succ, i64_w, i32_w]
            rfl
          have HH := Lib.hid hHeld
          clear hHeld
          refine one_ (i := 15) (N := some 63) #[true, true, true, true, true, true, true, true, true, true, true, true, true, true, true, true, false, false] rfl rfl (by kernel_rfl) (by decide) (fun K hK => ?_)
          refine goes_ Tryd.func17 (by kernel_rfl) rfl #[] (by rfl) rfl rfl (by simp) ?_
          with_reducible refine (wakes_c _ HH.out.2.2.2).mono ?_
          rintro e_ w_26 ⟨rfl, hb⟩
          refine ⟨_, rfl, ?_⟩
          have s_0 := Hb.below (HH.out.1) hb
          have s_1 := blk_below (HH.out.2.1) hb
          have s_2 := Hb.below (HH.out.2.2.1) hb
          have s_3 := Tab.from (HH.out.2.2.2) hb
          replace K_ga := Lib.hid (K_ga.out.below hb)
          replace K_gt := Lib.hid (blk_below K_gt.out hb)
          replace K_gs := Lib.hid (blk_below K_gs.out hb)
          replace K_gk := Lib.hid (K_gk.out.below hb)
          have hB_27 := Lib.hid (below_step hB_25.out hb)
          clear HH hb hB_25
          refine hK.out _ _ ⟨s_0, s_1, s_2, s_3⟩ (fun hHeld => ?_)
          have HH := Lib.hid hHeld
          clear hHeld s_0 s_1 s_2 s_3
          clear hK K
          refine norm_ (a' := ?_) ?_ ?_
          rotate_left
          · show Act.put _ (some 63) _ = _
            simp only [Act.put, List.setIfInBounds_toArray, List.set_cons_zero, List.set_cons_succ, i64_w, i32_w]
            rfl
          refine pure_ (i := 16) (N := some 64) (v := ?_) (a' := ?_) #[true, true, true, true, true, true, true, true, true, true, true, true, true, true, true, true, true, false] rfl rfl (by kernel_rfl) (fun _ _ _ h => h) (Or.inl ⟨by rfl, ?_⟩) ?_ ?_
          rotate_left
          · intro w'
            go_simp
            with_reducible rfl
          rotate_left
          · simp only [Act.put, List.setIfInBounds_toArray, List.set_cons_zero, List.set_cons_succ, i64_w, i32_w]
            rfl
          refine pure_ (i := 17) (N := some 10) (v := ?_) (a' := ?_) #[true, true, true, true, true, true, true, true, true, true, true, true, true, true, true, true, true, true] rfl rfl (by kernel_rfl) (fun _ _ _ h => h) (Or.inl ⟨by rfl, ?_⟩) ?_ ?_
          rotate_left
          · intro w'
            go_simp
            with_reducible rfl
          rotate_left
          · simp only [Act.put, List.setIfInBounds_toArray, List.set_cons_zero, List.set_cons_succ, i64_w, i32_w]
            rfl
          refine done_ (by kernel_rfl) ?_
          try clear HH
          go_wp2
          go_ret
          exact ⟨rfl, hB_27.out⟩
end Go.Proofs.YtlopmcakfalkpaaDoor.Hx
