/- A mode that may do more never meets an exception where one that may do less meets none: of any hart, any register. (Walked by a program of this session.) -/
import Derived.Test.YtbmmafebekehdaaDoorHeq
import Derived.Test.YtbmmafebekehdaaDoorHrow
import Derived.Test.YtbmmafebekehdaaDoorQCheck
import Derived.Test.YtbmmafebekehdaaDoorQWakes11
set_option linter.unusedSimpArgs false
set_option linter.unusedVariables false
namespace Go.Proofs.YtbmmafebekehdaaDoor.Hx
open Go.RowKit Go.Proofs.YtbmmafebekehdaaDoor.Q Go.Proofs.YtbmmafebekehdaaDoor.QN Go.Proofs.YtbmmafebekehdaaDoorW.PrintWords Go.Proofs.YtbmmafebekehdaaDoorW.PrintLast Go.Proofs.YtbmmafebekehdaaDoorW.PrintMore Go.Proofs.YtbmmafebekehdaaDoor.Rg
theorem ctr3 (p : Int) (v : Bool) (sc mc hc b : Int) : ctr p v sc mc hc b = 0 ∨ ctr p v sc mc hc b = 2 ∨ ctr p v sc mc hc b = 22 := by
  unfold ctr; repeat' split
  all_goals simp
theorem rest3 (p : Int) (v : Bool) (ms hs no lv : Int) : rest p v ms hs no lv = 0 ∨ rest p v ms hs no lv = 2 ∨ rest p v ms hs no lv = 22 := by
  unfold rest; repeat' split
  all_goals simp
theorem tail3 (p : Int) (v : Bool) (ms mc sc hs hc no : Int) : tail p v ms mc sc hs hc no = 0 ∨ tail p v ms mc sc hs hc no = 2 ∨ tail p v ms mc sc hs hc no = 22 := by
  unfold tail
  split
  · simp
  · split
    · exact ctr3 ..
    · split
      · simp
      · exact rest3 ..
theorem chk3 (K : Bool) (p : Int) (v : Bool) (ms mc sc hs hc no : Int) (w : Bool) : chk K p v ms mc sc hs hc no w = 0 ∨ chk K p v ms mc sc hs hc no w = 2 ∨ chk K p v ms mc sc hs hc no w = 22 := by
  unfold chk
  split
  · simp
  · split
    · simp
    · exact tail3 ..
theorem ctr_01 (v : Bool) (sc mc hc b : Int) (h : ctr 0 v sc mc hc b = 0) : ctr 1 v sc mc hc b = 0 := by
  unfold ctr at h ⊢
  by_cases h2 : Go.bits .and .u64 mc b = 0 <;> by_cases h3 : Go.bits .and .u64 hc b = 0 <;> by_cases h4 : Go.bits .and .u64 sc b = 0 <;> cases v <;> simp_all
theorem rest_0 (v : Bool) (ms hs no lv : Int) : rest 0 v ms hs no lv ≠ 0 := by
  unfold rest
  cases v <;> simp
theorem tail_01 (v : Bool) (ms mc sc hs hc no : Int) (h : tail 0 v ms mc sc hs hc no = 0) : tail 1 v ms mc sc hs hc no = 0 := by
  unfold tail at h ⊢
  rw [if_neg (show ¬ ((0 : Int) ≠ 0 ∧ (0 : Int) ≠ 1) by decide)] at h
  rw [if_neg (show ¬ ((1 : Int) ≠ 0 ∧ (1 : Int) ≠ 1) by decide)]
  split at h
  · rename_i g; rw [if_pos g]; exact ctr_01 _ _ _ _ _ h
  · split at h
    · cases h
    · exact absurd h (rest_0 _ _ _ _ _)
theorem tail_3 (v : Bool) (ms mc sc hs hc no : Int) : tail 3 v ms mc sc hs hc no = 0 := by
  unfold tail; rw [if_pos (show ((3 : Int) ≠ 0 ∧ (3 : Int) ≠ 1) by decide)]
theorem ctr_22 (p : Int) (sc mc hc b : Int) : ctr p false sc mc hc b ≠ 22 := by
  unfold ctr
  by_cases h2 : Go.bits .and .u64 mc b = 0 <;> by_cases h3 : Go.bits .and .u64 hc b = 0 <;> by_cases h4 : Go.bits .and .u64 sc b = 0 <;> by_cases h1 : p = 0 <;> simp [h1, h2, h3, h4]
theorem rest_22 (p : Int) (ms hs no lv : Int) : rest p false ms hs no lv ≠ 22 := by
  unfold rest
  simp only [Bool.false_eq_true, if_false]
  repeat' split
  all_goals decide
theorem tail_22 (p : Int) (ms mc sc hs hc no : Int) : tail p false ms mc sc hs hc no ≠ 22 := by
  unfold tail
  split
  · decide
  · split
    · exact ctr_22 _ _ _ _ _
    · split
      · decide
      · exact rest_22 _ _ _ _ _
/-- What is asked of the five answers. -/
theorem rises_law (K : Bool) (p : Int) (v : Bool) (ms mc sc hs hc no : Int) (w : Bool) : (chk K 0 v ms mc sc hs hc no w = 0 → chk K 1 v ms mc sc hs hc no w = 0) ∧ (chk K 1 v ms mc sc hs hc no w = 0 → chk K 3 v ms mc sc hs hc no w = 0) ∧ chk K 3 v ms mc sc hs hc no w ≠ 22 ∧
    (v = false → chk K 0 v ms mc sc hs hc no w ≠ 22 ∧ chk K 1 v ms mc sc hs hc no w ≠ 22) ∧ (chk K p v ms mc sc hs hc no true = 0 → chk K p v ms mc sc hs hc no false = 0) ∧ (K = false → chk K p v ms mc sc hs hc no true = 2 ∧ chk K p v ms mc sc hs hc no false = 2) := by
  cases K
  · have e : ∀ q u, chk false q v ms mc sc hs hc no u = 2 := fun q u => if_pos rfl
    simp only [e]; simp
  · have e : ∀ q u, chk true q v ms mc sc hs hc no u = if u = true ∧ 3072 ≤ no then 2 else tail q v ms mc sc hs hc no := fun q u => if_neg (by decide)
    simp only [e]
    refine ⟨?_, ?_, ?_, ?_, ?_, fun h => by cases h⟩
    · split
      · exact id
      · exact tail_01 _ _ _ _ _ _ _
    · split
      · exact id
      · intro _; exact tail_3 ..
    · split
      · decide
      · rw [tail_3]; decide
    · intro hv
      subst hv
      split
      · exact ⟨by decide, by decide⟩
      · exact ⟨tail_22 _ _ _ _ _ _ _, tail_22 _ _ _ _ _ _ _⟩
    · rw [if_neg (show ¬ (false = true ∧ 3072 ≤ no) from fun q => by cases q.1)]
      split
      · intro q; cases q
      · exact id

theorem check_c (h : Ht) (no : Int) (wr : Bool) (w : World) (hT : Tab w) : Calls Tryd.prog 15 #[.agg h.cs, .int .i64 no, .bool wr] w fun e w' => e = .returned (.int .i64 (chk (kn no) (h.x 33) h.v (h.x 38) (h.x 44) (h.x 52) (h.x 58) (h.x 62) no wr)) ∧ Below w.heap.size w w' := by
  rw [h.cs_lit]
  exact csrno_Check.calls (0 + 5) (h.x 0) (h.x 1) (h.x 2) (h.x 3) (h.x 4) (h.x 5) (h.x 6) (h.x 7) (h.x 8) (h.x 9) (h.x 10) (h.x 11) (h.x 12) (h.x 13) (h.x 14) (h.x 15) (h.x 16) (h.x 17) (h.x 18) (h.x 19) (h.x 20) (h.x 21) (h.x 22) (h.x 23) (h.x 24) (h.x 25) (h.x 26) (h.x 27) (h.x 28) (h.x 29) (h.x 30) (h.x 31) (h.x 32) (h.x 33) h.v h.wt h.hl (h.x 37) (h.x 38) (h.x 39) (h.x 40) (h.x 41) (h.x 42) (h.x 43) (h.x 44) (h.x 45) (h.x 46) (h.x 47) (h.x 48) (h.x 49) (h.x 50) (h.x 51) (h.x 52) (h.x 53) (h.x 54) (h.x 55) (h.x 56) (h.x 57) (h.x 58) (h.x 59) (h.x 60) (h.x 61) (h.x 62) (h.x 63) (h.x 64) (h.x 65) (h.x 66) (h.x 67) (h.x 68) (h.x 69) (h.x 70) (h.x 71) (h.x 72) (h.x 73) (h.x 74) (h.x 75) (h.x 76) no wr _ w (check_eq 0 (h.x 0) (h.x 1) (h.x 2) (h.x 3) (h.x 4) (h.x 5) (h.x 6) (h.x 7) (h.x 8) (h.x 9) (h.x 10) (h.x 11) (h.x 12) (h.x 13) (h.x 14) (h.x 15) (h.x 16) (h.x 17) (h.x 18) (h.x 19) (h.x 20) (h.x 21) (h.x 22) (h.x 23) (h.x 24) (h.x 25) (h.x 26) (h.x 27) (h.x 28) (h.x 29) (h.x 30) (h.x 31) (h.x 32) (h.x 33) h.v h.wt h.hl (h.x 37) (h.x 38) (h.x 39) (h.x 40) (h.x 41) (h.x 42) (h.x 43) (h.x 44) (h.x 45) (h.x 46) (h.x 47) (h.x 48) (h.x 49) (h.x 50) (h.x 51) (h.x 52) (h.x 53) (h.x 54) (h.x 55) (h.x 56) (h.x 57) (h.x 58) (h.x 59) (h.x 60) (h.x 61) (h.x 62) (h.x 63) (h.x 64) (h.x 65) (h.x 66) (h.x 67) (h.x 68) (h.x 69) (h.x 70) (h.x 71) (h.x 72) (h.x 73) (h.x 74) (h.x 75) (h.x 76) no wr) hT
theorem known_c (no : Int) (w : World) (hT : Tab w) : Calls Tryd.prog 12 #[.int .i64 no] w fun e w' => e = .returned (.bool (kn no)) ∧ Drawn0 w w' := csrno_Known.calls no _ w (known_eq no) hT
theorem Below_of {n : Nat} {w w1 w2 : World} (e : w1 = w2) (H : Below n w w1) : Below n w w2 := e ▸ H
theorem exec_dummy : True := trivial

set_option maxHeartbeats 16000000 in
set_option maxRecDepth 100000 in
theorem rises_c (h : Ht) (no : Int) (wr : Bool) (w : World) (hT : Tab w) : Calls Tryd.prog 5 #[.agg h.cs, .int .i64 no, .bool wr] w fun e w' => e = .returned (.bool true) ∧ Below w.heap.size w w' := by
  have hca := check_c (h.set 33 0) no wr
  rw [show chk (kn no) ((h.set 33 0).x 33) (h.set 33 0).v ((h.set 33 0).x 38) ((h.set 33 0).x 44) ((h.set 33 0).x 52) ((h.set 33 0).x 58) ((h.set 33 0).x 62) no wr = chk (kn no) 0 h.v (h.x 38) (h.x 44) (h.x 52) (h.x 58) (h.x 62) no wr from rfl] at hca
  have hcb := check_c (h.set 33 1) no wr
  rw [show chk (kn no) ((h.set 33 1).x 33) (h.set 33 1).v ((h.set 33 1).x 38) ((h.set 33 1).x 44) ((h.set 33 1).x 52) ((h.set 33 1).x 58) ((h.set 33 1).x 62) no wr = chk (kn no) 1 h.v (h.x 38) (h.x 44) (h.x 52) (h.x 58) (h.x 62) no wr from rfl] at hcb
  have hcc := check_c (h.set 33 3) no wr
  rw [show chk (kn no) ((h.set 33 3).x 33) (h.set 33 3).v ((h.set 33 3).x 38) ((h.set 33 3).x 44) ((h.set 33 3).x 52) ((h.set 33 3).x 58) ((h.set 33 3).x 62) no wr = chk (kn no) 3 h.v (h.x 38) (h.x 44) (h.x 52) (h.x 58) (h.x 62) no wr from rfl] at hcc
  have hcx := check_c h no true
  have hcy := check_c h no false
  obtain ⟨r1, r2, r3, r4, r5, r6⟩ := rises_law (kn no) (h.x 33) h.v (h.x 38) (h.x 44) (h.x 52) (h.x 58) (h.x 62) no wr
  have x3 := chk3 (kn no) (h.x 33) h.v (h.x 38) (h.x 44) (h.x 52) (h.x 58) (h.x 62) no true
  have y3 := chk3 (kn no) (h.x 33) h.v (h.x 38) (h.x 44) (h.x 52) (h.x 58) (h.x 62) no false
  generalize chk (kn no) 0 h.v (h.x 38) (h.x 44) (h.x 52) (h.x 58) (h.x 62) no wr = a at *
  generalize chk (kn no) 1 h.v (h.x 38) (h.x 44) (h.x 52) (h.x 58) (h.x 62) no wr = b at *
  generalize chk (kn no) 3 h.v (h.x 38) (h.x 44) (h.x 52) (h.x 58) (h.x 62) no wr = c at *
  generalize chk (kn no) (h.x 33) h.v (h.x 38) (h.x 44) (h.x 52) (h.x 58) (h.x 62) no true = x at *
  generalize chk (kn no) (h.x 33) h.v (h.x 38) (h.x 44) (h.x 52) (h.x 58) (h.x 62) no false = y at *
  have hkn := known_c no
  generalize kn no = K at *
  have HA := Lib.hid hca
  have HB := Lib.hid hcb
  have HC := Lib.hid hcc
  have HX := Lib.hid hcx
  have HY := Lib.hid hcy
  have HKN := Lib.hid hkn; have HT := Lib.hid hT; have R1 := Lib.hid r1; have R2 := Lib.hid r2; have R3 := Lib.hid r3; have R4 := Lib.hid r4; have R5 := Lib.hid r5; have R6 := Lib.hid r6; have X3 := Lib.hid x3; have Y3 := Lib.hid y3
  clear hca hcb hcc hcx hcy hkn hT r1 r2 r3 r4 r5 r6 x3 y3
  have hu30 := Tryd.underlying30
  go_enter Tryd.func5, Tryd.ntmps5
  go_upto_region 1 with (first | ((with_reducible refine gate_dst (N := 3) rfl ?_); refine box_event ?hg (N := 3) ?hd (cs := h.cs) (t := 30) ?hr ?_; (case hd => rfl); (case hg => rfl); (case hr => first | (go_simp; done) | (go_simp; rfl)); intro ga hg w_1 H1 hb; have hB_2 := Lib.hid (below_step (Below.refl w.heap.size w) hb); have G_ga := Lib.hid (show w.heap.size ≤ ga by rw [hg]; exact ((Below.refl w.heap.size w)).size); have K_ga := Lib.hid (show Hb w_1 ga h from H1); clear hg hb H1))
  go_upto_region 3 with (first | ((with_reducible refine gate_dst (N := 15) rfl ?_); (first | (refine gate_guard (by kernel_rfl) ?_) | skip); refine Kd.event_run rfl (v := .agg (h).cs) (w1 := w_1) ?hb ?_; (case hb => exact exec_load_hart rfl rfl K_ga.out)) | ((with_reducible refine gate_dst (N := 7) rfl ?_); refine box_event ?hg (N := 7) ?hd (cs := Ht.zero.cs) (t := 30) ?hr ?_; (case hd => rfl); (case hg => rfl); (case hr => first | (go_simp; done) | (go_simp; rfl)); intro gu hg w_3 H1 hb; have hB_5 := Lib.hid (below_step hB_2.out hb); have G_gu := Lib.hid (show w.heap.size ≤ gu by rw [hg]; exact (hB_2.out).size); have N_ga_gu := Lib.hid (show ga ≠ gu by rw [hg]; exact Nat.ne_of_lt (K_ga.out.lt)); replace K_ga := Lib.hid (K_ga.out.below hb); have K_gu := Lib.hid (show Hb w_3 gu Ht.zero from H1); clear hg hb H1 hB_2) | (refine store_hart rfl (.tmp 7) (.tmp 15) rfl gu h rfl rfl Ht.zero K_gu.out ?_; have hB_6 := Lib.hid (setCells_below G_gu.out (Ht.cs h).toList 0 _ hB_5.out); replace K_ga := Lib.hid (Hb.farAll (vs := (Ht.cs h).toList) (o := 0) N_ga_gu.out K_ga.out); replace K_gu := Lib.hid (Hb.putAll h K_gu.out); clear hB_5; generalize World.setCells w_3 gu 0 (Ht.cs h).toList = w_4 at K_ga K_gu hB_6 ⊢; have c_gu_33 := K_gu.out.p; have f_gu_33 := K_gu.out.fr 33))
  refine world_code gu (by repeat (with_reducible first | exact K_gu.out | apply Hb.put | apply Hb.putP | apply Hb.putV | apply Hb.putW | apply Hb.putH | apply Hb.far (Ne.symm N_ga_gu.out) | apply Hb.drewN | apply Hb.drew)) (fun w' => Below w.heap.size w w' ∧ Hb w' ga h) ⟨(by repeat (first | (with_reducible first | exact hB_6.out | apply pw_below_drewN | apply below_drew1 | refine below_set ?_ G_ga.out | refine below_set ?_ G_gu.out) | exact hB_6.out)), (by repeat (with_reducible first | exact K_ga.out | apply Hb.put | apply Hb.putP | apply Hb.putV | apply Hb.putW | apply Hb.putH | apply Hb.far N_ga_gu.out | apply Hb.drewN | apply Hb.drew))⟩ ?_
  clear c_gu_33 f_gu_33
  clear K_ga K_gu hB_6
  rintro w_7 q_ ⟨b_, q_ga⟩
  have K_gu := Lib.hid q_; have hB_8 := Lib.hid b_; have K_ga := Lib.hid q_ga
  clear q_ b_ q_ga
  go_upto_region 5 with (first | ((with_reducible refine gate_dst (N := 17) rfl ?_); (first | (refine gate_guard (by kernel_rfl) ?_) | skip); refine Kd.event_run rfl (v := .agg (h).cs) (w1 := w_7) ?hb ?_; (case hb => exact exec_load_hart rfl rfl K_ga.out)) | ((with_reducible refine gate_dst (N := 8) rfl ?_); refine box_event ?hg (N := 8) ?hd (cs := Ht.zero.cs) (t := 30) ?hr ?_; (case hd => rfl); (case hg => rfl); (case hr => first | (go_simp; done) | (go_simp; rfl)); intro gs hg w_9 H1 hb; have hB_11 := Lib.hid (below_step hB_8.out hb); have G_gs := Lib.hid (show w.heap.size ≤ gs by rw [hg]; exact (hB_8.out).size); have N_ga_gs := Lib.hid (show ga ≠ gs by rw [hg]; exact Nat.ne_of_lt (K_ga.out.lt)); have N_gu_gs := Lib.hid (show gu ≠ gs by rw [hg]; exact Nat.ne_of_lt (K_gu.out.lt)); replace K_ga := Lib.hid (K_ga.out.below hb); replace K_gu := Lib.hid (K_gu.out.below hb); have K_gs := Lib.hid (show Hb w_9 gs Ht.zero from H1); clear hg hb H1 hB_8) | (refine store_hart rfl (.tmp 8) (.tmp 17) rfl gs h rfl rfl Ht.zero K_gs.out ?_; have hB_12 := Lib.hid (setCells_below G_gs.out (Ht.cs h).toList 0 _ hB_11.out); replace K_ga := Lib.hid (Hb.farAll (vs := (Ht.cs h).toList) (o := 0) N_ga_gs.out K_ga.out); replace K_gu := Lib.hid (Hb.farAll (vs := (Ht.cs h).toList) (o := 0) N_gu_gs.out K_gu.out); replace K_gs := Lib.hid (Hb.putAll h K_gs.out); clear hB_11; generalize World.setCells w_9 gs 0 (Ht.cs h).toList = w_10 at K_ga K_gu K_gs hB_12 ⊢; have c_gs_33 := K_gs.out.p; have f_gs_33 := K_gs.out.fr 33))
  refine world_code gs (by repeat (with_reducible first | exact K_gs.out | apply Hb.put | apply Hb.putP | apply Hb.putV | apply Hb.putW | apply Hb.putH | apply Hb.far (Ne.symm N_ga_gs.out) | apply Hb.far (Ne.symm N_gu_gs.out) | apply Hb.drewN | apply Hb.drew)) (fun w' => Below w.heap.size w w' ∧ Hb w' ga h ∧ Hb w' gu (h.set 33 0)) ⟨(by repeat (first | (with_reducible first | exact hB_12.out | apply pw_below_drewN | apply below_drew1 | refine below_set ?_ G_ga.out | refine below_set ?_ G_gu.out | refine below_set ?_ G_gs.out) | exact hB_12.out)), (by repeat (with_reducible first | exact K_ga.out | apply Hb.put | apply Hb.putP | apply Hb.putV | apply Hb.putW | apply Hb.putH | apply Hb.far N_ga_gu.out | apply Hb.far N_ga_gs.out | apply Hb.drewN | apply Hb.drew)), (by repeat (with_reducible first | exact K_gu.out | apply Hb.put | apply Hb.putP | apply Hb.putV | apply Hb.putW | apply Hb.putH | apply Hb.far (Ne.symm N_ga_gu.out) | apply Hb.far N_gu_gs.out | apply Hb.drewN | apply Hb.drew))⟩ ?_
  clear c_gs_33 f_gs_33
  clear K_ga K_gu K_gs hB_12
  rintro w_13 q_ ⟨b_, q_ga, q_gu⟩
  have K_gs := Lib.hid q_; have hB_14 := Lib.hid b_; have K_ga := Lib.hid q_ga; have K_gu := Lib.hid q_gu
  clear q_ b_ q_ga q_gu
  go_upto_region 7 with (first | ((with_reducible refine gate_dst (N := 19) rfl ?_); (first | (refine gate_guard (by kernel_rfl) ?_) | skip); refine Kd.event_run rfl (v := .agg (h).cs) (w1 := w_13) ?hb ?_; (case hb => exact exec_load_hart rfl rfl K_ga.out)) | ((with_reducible refine gate_dst (N := 9) rfl ?_); refine box_event ?hg (N := 9) ?hd (cs := Ht.zero.cs) (t := 30) ?hr ?_; (case hd => rfl); (case hg => rfl); (case hr => first | (go_simp; done) | (go_simp; rfl)); intro gm hg w_15 H1 hb; have hB_17 := Lib.hid (below_step hB_14.out hb); have G_gm := Lib.hid (show w.heap.size ≤ gm by rw [hg]; exact (hB_14.out).size); have N_ga_gm := Lib.hid (show ga ≠ gm by rw [hg]; exact Nat.ne_of_lt (K_ga.out.lt)); have N_gu_gm := Lib.hid (show gu ≠ gm by rw [hg]; exact Nat.ne_of_lt (K_gu.out.lt)); have N_gs_gm := Lib.hid (show gs ≠ gm by rw [hg]; exact Nat.ne_of_lt (K_gs.out.lt)); replace K_ga := Lib.hid (K_ga.out.below hb); replace K_gu := Lib.hid (K_gu.out.below hb); replace K_gs := Lib.hid (K_gs.out.below hb); have K_gm := Lib.hid (show Hb w_15 gm Ht.zero from H1); clear hg hb H1 hB_14) | (refine store_hart rfl (.tmp 9) (.tmp 19) rfl gm h rfl rfl Ht.zero K_gm.out ?_; have hB_18 := Lib.hid (setCells_below G_gm.out (Ht.cs h).toList 0 _ hB_17.out); replace K_ga := Lib.hid (Hb.farAll (vs := (Ht.cs h).toList) (o := 0) N_ga_gm.out K_ga.out); replace K_gu := Lib.hid (Hb.farAll (vs := (Ht.cs h).toList) (o := 0) N_gu_gm.out K_gu.out); replace K_gs := Lib.hid (Hb.farAll (vs := (Ht.cs h).toList) (o := 0) N_gs_gm.out K_gs.out); replace K_gm := Lib.hid (Hb.putAll h K_gm.out); clear hB_17; generalize World.setCells w_15 gm 0 (Ht.cs h).toList = w_16 at K_ga K_gu K_gs K_gm hB_18 ⊢; have c_gm_33 := K_gm.out.p; have f_gm_33 := K_gm.out.fr 33))
  refine world_code gm (by repeat (with_reducible first | exact K_gm.out | apply Hb.put | apply Hb.putP | apply Hb.putV | apply Hb.putW | apply Hb.putH | apply Hb.far (Ne.symm N_ga_gm.out) | apply Hb.far (Ne.symm N_gu_gm.out) | apply Hb.far (Ne.symm N_gs_gm.out) | apply Hb.drewN | apply Hb.drew)) (fun w' => Below w.heap.size w w' ∧ Hb w' ga h ∧ Hb w' gu (h.set 33 0) ∧ Hb w' gs (h.set 33 1)) ⟨(by repeat (first | (with_reducible first | exact hB_18.out | apply pw_below_drewN | apply below_drew1 | refine below_set ?_ G_ga.out | refine below_set ?_ G_gu.out | refine below_set ?_ G_gs.out | refine below_set ?_ G_gm.out) | exact hB_18.out)), (by repeat (with_reducible first | exact K_ga.out | apply Hb.put | apply Hb.putP | apply Hb.putV | apply Hb.putW | apply Hb.putH | apply Hb.far N_ga_gu.out | apply Hb.far N_ga_gs.out | apply Hb.far N_ga_gm.out | apply Hb.drewN | apply Hb.drew)), (by repeat (with_reducible first | exact K_gu.out | apply Hb.put | apply Hb.putP | apply Hb.putV | apply Hb.putW | apply Hb.putH | apply Hb.far (Ne.symm N_ga_gu.out) | apply Hb.far N_gu_gs.out | apply Hb.far N_gu_gm.out | apply Hb.drewN | apply Hb.drew)), (by repeat (with_reducible first | exact K_gs.out | apply Hb.put | apply Hb.putP | apply Hb.putV | apply Hb.putW | apply Hb.putH | apply Hb.far (Ne.symm N_ga_gs.out) | apply Hb.far (Ne.symm N_gu_gs.out) | apply Hb.far N_gs_gm.out | apply Hb.drewN | apply Hb.drew))⟩ ?_
  clear c_gm_33 f_gm_33
  clear K_ga K_gu K_gs K_gm hB_18
  rintro w_19 q_ ⟨b_, q_ga, q_gu, q_gs⟩
  have K_gm := Lib.hid q_; have hB_20 := Lib.hid b_; have K_ga := Lib.hid q_ga; have K_gu := Lib.hid q_gu; have K_gs := Lib.hid q_gs
  clear q_ b_ q_ga q_gu q_gs
  go_wp2_with (first | ((with_reducible refine gate_dst (N := 21) rfl ?_); (first | (refine gate_guard (by kernel_rfl) ?_) | skip); refine Kd.event_run rfl (v := .agg ((h.set 33 0)).cs) (w1 := w_19) ?hb ?_; (case hb => exact exec_load_hart rfl rfl K_gu.out)))
  refine (HA.out _ (Tab.from HT.out hB_20.out)).mono ?_
  rintro e_21 w_22 ⟨rfl, hb⟩
  have hB_23 := Lib.hid (below_step hB_20.out hb)
  replace K_ga := Lib.hid (K_ga.out.below hb)
  replace K_gu := Lib.hid (K_gu.out.below hb)
  replace K_gs := Lib.hid (K_gs.out.below hb)
  replace K_gm := Lib.hid (K_gm.out.below hb)
  clear hb hB_20
  go_wp2_with (first | ((with_reducible refine gate_dst (N := 25) rfl ?_); (first | (refine gate_guard (by kernel_rfl) ?_) | skip); refine Kd.event_run rfl (v := .agg ((h.set 33 1)).cs) (w1 := w_22) ?hb ?_; (case hb => exact exec_load_hart rfl rfl K_gs.out)))
  refine (HB.out _ (Tab.from HT.out hB_23.out)).mono ?_
  rintro e_24 w_25 ⟨rfl, hb⟩
  have hB_26 := Lib.hid (below_step hB_23.out hb)
  replace K_ga := Lib.hid (K_ga.out.below hb)
  replace K_gu := Lib.hid (K_gu.out.below hb)
  replace K_gs := Lib.hid (K_gs.out.below hb)
  replace K_gm := Lib.hid (K_gm.out.below hb)
  clear hb hB_23
  go_wp2_with (first | ((with_reducible refine gate_dst (N := 29) rfl ?_); (first | (refine gate_guard (by kernel_rfl) ?_) | skip); refine Kd.event_run rfl (v := .agg ((h.set 33 3)).cs) (w1 := w_25) ?hb ?_; (case hb => exact exec_load_hart rfl rfl K_gm.out)))
  refine (HC.out _ (Tab.from HT.out hB_26.out)).mono ?_
  rintro e_27 w_28 ⟨rfl, hb⟩
  have hB_29 := Lib.hid (below_step hB_26.out hb)
  replace K_ga := Lib.hid (K_ga.out.below hb)
  replace K_gu := Lib.hid (K_gu.out.below hb)
  replace K_gs := Lib.hid (K_gs.out.below hb)
  replace K_gm := Lib.hid (K_gm.out.below hb)
  clear hb hB_26
  go_upto_region 10 with fail
  clear hu30
  cases d1 : (a == 0)
  · cases d2 : (b == 0)
    · skip
      have d7 : (c == 22) = false := beq_eq_false_iff_ne.2 R3.out
      go_upto_region 12 with fail
      have c_ga_34 := K_ga.out.cv; have f_ga_34 := K_ga.out.fr 34
      cases d8 : h.v
      · skip
        obtain ⟨z1, z2⟩ := R4.out d8
        have d9 : (a == 22) = false := beq_eq_false_iff_ne.2 z1; have d10 : (b == 22) = false := beq_eq_false_iff_ne.2 z2
        clear z1 z2
        go_upto_region 14 with fail
        clear c_ga_34 f_ga_34
        go_wp2_with (first | ((with_reducible refine gate_dst (N := 62) rfl ?_); (first | (refine gate_guard (by kernel_rfl) ?_) | skip); refine Kd.event_run rfl (v := .agg (h).cs) (w1 := w_28) ?hb ?_; (case hb => exact exec_load_hart rfl rfl K_ga.out)))
        refine (HX.out _ (Tab.from HT.out hB_29.out)).mono ?_
        rintro e_30 w_31 ⟨rfl, hb⟩
        have hB_32 := Lib.hid (below_step hB_29.out hb)
        replace K_ga := Lib.hid (K_ga.out.below hb)
        replace K_gu := Lib.hid (K_gu.out.below hb)
        replace K_gs := Lib.hid (K_gs.out.below hb)
        replace K_gm := Lib.hid (K_gm.out.below hb)
        clear hb hB_29
        go_upto_region 15 with fail
        go_wp2_with (first | ((with_reducible refine gate_dst (N := 65) rfl ?_); (first | (refine gate_guard (by kernel_rfl) ?_) | skip); refine Kd.event_run rfl (v := .agg (h).cs) (w1 := w_31) ?hb ?_; (case hb => exact exec_load_hart rfl rfl K_ga.out)))
        refine (HY.out _ (Tab.from HT.out hB_32.out)).mono ?_
        rintro e_33 w_34 ⟨rfl, hb⟩
        have hB_35 := Lib.hid (below_step hB_32.out hb)
        replace K_ga := Lib.hid (K_ga.out.below hb)
        replace K_gu := Lib.hid (K_gu.out.below hb)
        replace K_gs := Lib.hid (K_gs.out.below hb)
        replace K_gm := Lib.hid (K_gm.out.below hb)
        clear hb hB_32
        go_upto_region 16 with fail
        have r5 := R5.out; have r6 := R6.out
        rcases X3.out with rfl | rfl | rfl
        · obtain rfl := r5 rfl
          cases K
          · exact absurd (r6 rfl).1 (by decide)
          · clear r5 r6
            go_upto_region 20 with fail
            go_wp2_with fail
            refine (HKN.out _ (Tab.from HT.out hB_35.out)).mono ?_
            rintro e9 w9 ⟨rfl, n_, e9⟩
            replace K_ga := Lib.hid (Hb.of e9.symm (K_ga.out.drewN n_))
            replace K_gu := Lib.hid (Hb.of e9.symm (K_gu.out.drewN n_))
            replace K_gs := Lib.hid (Hb.of e9.symm (K_gs.out.drewN n_))
            replace K_gm := Lib.hid (Hb.of e9.symm (K_gm.out.drewN n_))
            have hB_36 := Lib.hid (Below_of e9.symm (pw_below_drewN hB_35.out n_))
            clear e9 hB_35
            go_wp2
            go_ret
            exact ⟨rfl, hB_36.out⟩
        · rcases Y3.out with rfl | rfl | rfl
          · cases K
            · exact absurd (r6 rfl) (by decide)
            · clear r5 r6
              go_upto_region 20 with fail
              go_wp2_with fail
              refine (HKN.out _ (Tab.from HT.out hB_35.out)).mono ?_
              rintro e9 w9 ⟨rfl, n_, e9⟩
              replace K_ga := Lib.hid (Hb.of e9.symm (K_ga.out.drewN n_))
              replace K_gu := Lib.hid (Hb.of e9.symm (K_gu.out.drewN n_))
              replace K_gs := Lib.hid (Hb.of e9.symm (K_gs.out.drewN n_))
              replace K_gm := Lib.hid (Hb.of e9.symm (K_gm.out.drewN n_))
              have hB_36 := Lib.hid (Below_of e9.symm (pw_below_drewN hB_35.out n_))
              clear e9 hB_35
              go_wp2
              go_ret
              exact ⟨rfl, hB_36.out⟩
          · cases K
            · clear r5 r6
              go_upto_region 20 with fail
              go_wp2_with fail
              refine (HKN.out _ (Tab.from HT.out hB_35.out)).mono ?_
              rintro e9 w9 ⟨rfl, n_, e9⟩
              replace K_ga := Lib.hid (Hb.of e9.symm (K_ga.out.drewN n_))
              replace K_gu := Lib.hid (Hb.of e9.symm (K_gu.out.drewN n_))
              replace K_gs := Lib.hid (Hb.of e9.symm (K_gs.out.drewN n_))
              replace K_gm := Lib.hid (Hb.of e9.symm (K_gm.out.drewN n_))
              have hB_36 := Lib.hid (Below_of e9.symm (pw_below_drewN hB_35.out n_))
              clear e9 hB_35
              go_wp2_with fail
              refine (mezzaninelaw11_wakes.calls true _ csrno_wakes (Tab.from HT.out hB_36.out)).mono ?_
              rintro e_37 w_38 ⟨rfl, hb⟩
              have hB_39 := Lib.hid (below_step hB_36.out hb)
              replace K_ga := Lib.hid (K_ga.out.below hb)
              replace K_gu := Lib.hid (K_gu.out.below hb)
              replace K_gs := Lib.hid (K_gs.out.below hb)
              replace K_gm := Lib.hid (K_gm.out.below hb)
              clear hb hB_36
              go_wp2
              go_ret
              exact ⟨rfl, hB_39.out⟩
            · clear r5 r6
              go_upto_region 20 with fail
              go_wp2_with fail
              refine (HKN.out _ (Tab.from HT.out hB_35.out)).mono ?_
              rintro e9 w9 ⟨rfl, n_, e9⟩
              replace K_ga := Lib.hid (Hb.of e9.symm (K_ga.out.drewN n_))
              replace K_gu := Lib.hid (Hb.of e9.symm (K_gu.out.drewN n_))
              replace K_gs := Lib.hid (Hb.of e9.symm (K_gs.out.drewN n_))
              replace K_gm := Lib.hid (Hb.of e9.symm (K_gm.out.drewN n_))
              have hB_36 := Lib.hid (Below_of e9.symm (pw_below_drewN hB_35.out n_))
              clear e9 hB_35
              go_wp2
              go_ret
              exact ⟨rfl, hB_36.out⟩
          · cases K
            · exact absurd (r6 rfl) (by decide)
            · clear r5 r6
              go_upto_region 20 with fail
              go_wp2_with fail
              refine (HKN.out _ (Tab.from HT.out hB_35.out)).mono ?_
              rintro e9 w9 ⟨rfl, n_, e9⟩
              replace K_ga := Lib.hid (Hb.of e9.symm (K_ga.out.drewN n_))
              replace K_gu := Lib.hid (Hb.of e9.symm (K_gu.out.drewN n_))
              replace K_gs := Lib.hid (Hb.of e9.symm (K_gs.out.drewN n_))
              replace K_gm := Lib.hid (Hb.of e9.symm (K_gm.out.drewN n_))
              have hB_36 := Lib.hid (Below_of e9.symm (pw_below_drewN hB_35.out n_))
              clear e9 hB_35
              go_wp2
              go_ret
              exact ⟨rfl, hB_36.out⟩
        · rcases Y3.out with rfl | rfl | rfl
          · cases K
            · exact absurd (r6 rfl) (by decide)
            · clear r5 r6
              go_upto_region 20 with fail
              go_wp2_with fail
              refine (HKN.out _ (Tab.from HT.out hB_35.out)).mono ?_
              rintro e9 w9 ⟨rfl, n_, e9⟩
              replace K_ga := Lib.hid (Hb.of e9.symm (K_ga.out.drewN n_))
              replace K_gu := Lib.hid (Hb.of e9.symm (K_gu.out.drewN n_))
              replace K_gs := Lib.hid (Hb.of e9.symm (K_gs.out.drewN n_))
              replace K_gm := Lib.hid (Hb.of e9.symm (K_gm.out.drewN n_))
              have hB_36 := Lib.hid (Below_of e9.symm (pw_below_drewN hB_35.out n_))
              clear e9 hB_35
              go_wp2
              go_ret
              exact ⟨rfl, hB_36.out⟩
          · cases K
            · exact absurd (r6 rfl) (by decide)
            · clear r5 r6
              go_upto_region 20 with fail
              go_wp2_with fail
              refine (HKN.out _ (Tab.from HT.out hB_35.out)).mono ?_
              rintro e9 w9 ⟨rfl, n_, e9⟩
              replace K_ga := Lib.hid (Hb.of e9.symm (K_ga.out.drewN n_))
              replace K_gu := Lib.hid (Hb.of e9.symm (K_gu.out.drewN n_))
              replace K_gs := Lib.hid (Hb.of e9.symm (K_gs.out.drewN n_))
              replace K_gm := Lib.hid (Hb.of e9.symm (K_gm.out.drewN n_))
              have hB_36 := Lib.hid (Below_of e9.symm (pw_below_drewN hB_35.out n_))
              clear e9 hB_35
              go_wp2
              go_ret
              exact ⟨rfl, hB_36.out⟩
          · cases K
            · exact absurd (r6 rfl) (by decide)
            · clear r5 r6
              go_upto_region 20 with fail
              go_wp2_with fail
              refine (HKN.out _ (Tab.from HT.out hB_35.out)).mono ?_
              rintro e9 w9 ⟨rfl, n_, e9⟩
              replace K_ga := Lib.hid (Hb.of e9.symm (K_ga.out.drewN n_))
              replace K_gu := Lib.hid (Hb.of e9.symm (K_gu.out.drewN n_))
              replace K_gs := Lib.hid (Hb.of e9.symm (K_gs.out.drewN n_))
              replace K_gm := Lib.hid (Hb.of e9.symm (K_gm.out.drewN n_))
              have hB_36 := Lib.hid (Below_of e9.symm (pw_below_drewN hB_35.out n_))
              clear e9 hB_35
              go_wp2
              go_ret
              exact ⟨rfl, hB_36.out⟩
      · skip
        go_upto_region 14 with fail
        clear c_ga_34 f_ga_34
        go_wp2_with (first | ((with_reducible refine gate_dst (N := 62) rfl ?_); (first | (refine gate_guard (by kernel_rfl) ?_) | skip); refine Kd.event_run rfl (v := .agg (h).cs) (w1 := w_28) ?hb ?_; (case hb => exact exec_load_hart rfl rfl K_ga.out)))
        refine (HX.out _ (Tab.from HT.out hB_29.out)).mono ?_
        rintro e_30 w_31 ⟨rfl, hb⟩
        have hB_32 := Lib.hid (below_step hB_29.out hb)
        replace K_ga := Lib.hid (K_ga.out.below hb)
        replace K_gu := Lib.hid (K_gu.out.below hb)
        replace K_gs := Lib.hid (K_gs.out.below hb)
        replace K_gm := Lib.hid (K_gm.out.below hb)
        clear hb hB_29
        go_upto_region 15 with fail
        go_wp2_with (first | ((with_reducible refine gate_dst (N := 65) rfl ?_); (first | (refine gate_guard (by kernel_rfl) ?_) | skip); refine Kd.event_run rfl (v := .agg (h).cs) (w1 := w_31) ?hb ?_; (case hb => exact exec_load_hart rfl rfl K_ga.out)))
        refine (HY.out _ (Tab.from HT.out hB_32.out)).mono ?_
        rintro e_33 w_34 ⟨rfl, hb⟩
        have hB_35 := Lib.hid (below_step hB_32.out hb)
        replace K_ga := Lib.hid (K_ga.out.below hb)
        replace K_gu := Lib.hid (K_gu.out.below hb)
        replace K_gs := Lib.hid (K_gs.out.below hb)
        replace K_gm := Lib.hid (K_gm.out.below hb)
        clear hb hB_32
        go_upto_region 16 with fail
        have r5 := R5.out; have r6 := R6.out
        rcases X3.out with rfl | rfl | rfl
        · obtain rfl := r5 rfl
          cases K
          · exact absurd (r6 rfl).1 (by decide)
          · clear r5 r6
            go_upto_region 20 with fail
            go_wp2_with fail
            refine (HKN.out _ (Tab.from HT.out hB_35.out)).mono ?_
            rintro e9 w9 ⟨rfl, n_, e9⟩
            replace K_ga := Lib.hid (Hb.of e9.symm (K_ga.out.drewN n_))
            replace K_gu := Lib.hid (Hb.of e9.symm (K_gu.out.drewN n_))
            replace K_gs := Lib.hid (Hb.of e9.symm (K_gs.out.drewN n_))
            replace K_gm := Lib.hid (Hb.of e9.symm (K_gm.out.drewN n_))
            have hB_36 := Lib.hid (Below_of e9.symm (pw_below_drewN hB_35.out n_))
            clear e9 hB_35
            go_wp2
            go_ret
            exact ⟨rfl, hB_36.out⟩
        · rcases Y3.out with rfl | rfl | rfl
          · cases K
            · exact absurd (r6 rfl) (by decide)
            · clear r5 r6
              go_upto_region 20 with fail
              go_wp2_with fail
              refine (HKN.out _ (Tab.from HT.out hB_35.out)).mono ?_
              rintro e9 w9 ⟨rfl, n_, e9⟩
              replace K_ga := Lib.hid (Hb.of e9.symm (K_ga.out.drewN n_))
              replace K_gu := Lib.hid (Hb.of e9.symm (K_gu.out.drewN n_))
              replace K_gs := Lib.hid (Hb.of e9.symm (K_gs.out.drewN n_))
              replace K_gm := Lib.hid (Hb.of e9.symm (K_gm.out.drewN n_))
              have hB_36 := Lib.hid (Below_of e9.symm (pw_below_drewN hB_35.out n_))
              clear e9 hB_35
              go_wp2
              go_ret
              exact ⟨rfl, hB_36.out⟩
          · cases K
            · clear r5 r6
              go_upto_region 20 with fail
              go_wp2_with fail
              refine (HKN.out _ (Tab.from HT.out hB_35.out)).mono ?_
              rintro e9 w9 ⟨rfl, n_, e9⟩
              replace K_ga := Lib.hid (Hb.of e9.symm (K_ga.out.drewN n_))
              replace K_gu := Lib.hid (Hb.of e9.symm (K_gu.out.drewN n_))
              replace K_gs := Lib.hid (Hb.of e9.symm (K_gs.out.drewN n_))
              replace K_gm := Lib.hid (Hb.of e9.symm (K_gm.out.drewN n_))
              have hB_36 := Lib.hid (Below_of e9.symm (pw_below_drewN hB_35.out n_))
              clear e9 hB_35
              go_wp2_with fail
              refine (mezzaninelaw11_wakes.calls true _ csrno_wakes (Tab.from HT.out hB_36.out)).mono ?_
              rintro e_37 w_38 ⟨rfl, hb⟩
              have hB_39 := Lib.hid (below_step hB_36.out hb)
              replace K_ga := Lib.hid (K_ga.out.below hb)
              replace K_gu := Lib.hid (K_gu.out.below hb)
              replace K_gs := Lib.hid (K_gs.out.below hb)
              replace K_gm := Lib.hid (K_gm.out.below hb)
              clear hb hB_36
              go_wp2
              go_ret
              exact ⟨rfl, hB_39.out⟩
            · clear r5 r6
              go_upto_region 20 with fail
              go_wp2_with fail
              refine (HKN.out _ (Tab.from HT.out hB_35.out)).mono ?_
              rintro e9 w9 ⟨rfl, n_, e9⟩
              replace K_ga := Lib.hid (Hb.of e9.symm (K_ga.out.drewN n_))
              replace K_gu := Lib.hid (Hb.of e9.symm (K_gu.out.drewN n_))
              replace K_gs := Lib.hid (Hb.of e9.symm (K_gs.out.drewN n_))
              replace K_gm := Lib.hid (Hb.of e9.symm (K_gm.out.drewN n_))
              have hB_36 := Lib.hid (Below_of e9.symm (pw_below_drewN hB_35.out n_))
              clear e9 hB_35
              go_wp2
              go_ret
              exact ⟨rfl, hB_36.out⟩
          · cases K
            · exact absurd (r6 rfl) (by decide)
            · clear r5 r6
              go_upto_region 20 with fail
              go_wp2_with fail
              refine (HKN.out _ (Tab.from HT.out hB_35.out)).mono ?_
              rintro e9 w9 ⟨rfl, n_, e9⟩
              replace K_ga := Lib.hid (Hb.of e9.symm (K_ga.out.drewN n_))
              replace K_gu := Lib.hid (Hb.of e9.symm (K_gu.out.drewN n_))
              replace K_gs := Lib.hid (Hb.of e9.symm (K_gs.out.drewN n_))
              replace K_gm := Lib.hid (Hb.of e9.symm (K_gm.out.drewN n_))
              have hB_36 := Lib.hid (Below_of e9.symm (pw_below_drewN hB_35.out n_))
              clear e9 hB_35
              go_wp2
              go_ret
              exact ⟨rfl, hB_36.out⟩
        · rcases Y3.out with rfl | rfl | rfl
          · cases K
            · exact absurd (r6 rfl) (by decide)
            · clear r5 r6
              go_upto_region 20 with fail
              go_wp2_with fail
              refine (HKN.out _ (Tab.from HT.out hB_35.out)).mono ?_
              rintro e9 w9 ⟨rfl, n_, e9⟩
              replace K_ga := Lib.hid (Hb.of e9.symm (K_ga.out.drewN n_))
              replace K_gu := Lib.hid (Hb.of e9.symm (K_gu.out.drewN n_))
              replace K_gs := Lib.hid (Hb.of e9.symm (K_gs.out.drewN n_))
              replace K_gm := Lib.hid (Hb.of e9.symm (K_gm.out.drewN n_))
              have hB_36 := Lib.hid (Below_of e9.symm (pw_below_drewN hB_35.out n_))
              clear e9 hB_35
              go_wp2
              go_ret
              exact ⟨rfl, hB_36.out⟩
          · cases K
            · exact absurd (r6 rfl) (by decide)
            · clear r5 r6
              go_upto_region 20 with fail
              go_wp2_with fail
              refine (HKN.out _ (Tab.from HT.out hB_35.out)).mono ?_
              rintro e9 w9 ⟨rfl, n_, e9⟩
              replace K_ga := Lib.hid (Hb.of e9.symm (K_ga.out.drewN n_))
              replace K_gu := Lib.hid (Hb.of e9.symm (K_gu.out.drewN n_))
              replace K_gs := Lib.hid (Hb.of e9.symm (K_gs.out.drewN n_))
              replace K_gm := Lib.hid (Hb.of e9.symm (K_gm.out.drewN n_))
              have hB_36 := Lib.hid (Below_of e9.symm (pw_below_drewN hB_35.out n_))
              clear e9 hB_35
              go_wp2
              go_ret
              exact ⟨rfl, hB_36.out⟩
          · cases K
            · exact absurd (r6 rfl) (by decide)
            · clear r5 r6
              go_upto_region 20 with fail
              go_wp2_with fail
              refine (HKN.out _ (Tab.from HT.out hB_35.out)).mono ?_
              rintro e9 w9 ⟨rfl, n_, e9⟩
              replace K_ga := Lib.hid (Hb.of e9.symm (K_ga.out.drewN n_))
              replace K_gu := Lib.hid (Hb.of e9.symm (K_gu.out.drewN n_))
              replace K_gs := Lib.hid (Hb.of e9.symm (K_gs.out.drewN n_))
              replace K_gm := Lib.hid (Hb.of e9.symm (K_gm.out.drewN n_))
              have hB_36 := Lib.hid (Below_of e9.symm (pw_below_drewN hB_35.out n_))
              clear e9 hB_35
              go_wp2
              go_ret
              exact ⟨rfl, hB_36.out⟩
    · skip
      have d6 : (c != 0) = false := by rw [bne_eq_false_iff_eq]; exact R2.out (eq_of_beq d2)
      have d7 : (c == 22) = false := beq_eq_false_iff_ne.2 R3.out
      go_upto_region 12 with fail
      have c_ga_34 := K_ga.out.cv; have f_ga_34 := K_ga.out.fr 34
      cases d8 : h.v
      · skip
        obtain ⟨z1, z2⟩ := R4.out d8
        have d9 : (a == 22) = false := beq_eq_false_iff_ne.2 z1; have d10 : (b == 22) = false := beq_eq_false_iff_ne.2 z2
        clear z1 z2
        go_upto_region 14 with fail
        clear c_ga_34 f_ga_34
        go_wp2_with (first | ((with_reducible refine gate_dst (N := 62) rfl ?_); (first | (refine gate_guard (by kernel_rfl) ?_) | skip); refine Kd.event_run rfl (v := .agg (h).cs) (w1 := w_28) ?hb ?_; (case hb => exact exec_load_hart rfl rfl K_ga.out)))
        refine (HX.out _ (Tab.from HT.out hB_29.out)).mono ?_
        rintro e_30 w_31 ⟨rfl, hb⟩
        have hB_32 := Lib.hid (below_step hB_29.out hb)
        replace K_ga := Lib.hid (K_ga.out.below hb)
        replace K_gu := Lib.hid (K_gu.out.below hb)
        replace K_gs := Lib.hid (K_gs.out.below hb)
        replace K_gm := Lib.hid (K_gm.out.below hb)
        clear hb hB_29
        go_upto_region 15 with fail
        go_wp2_with (first | ((with_reducible refine gate_dst (N := 65) rfl ?_); (first | (refine gate_guard (by kernel_rfl) ?_) | skip); refine Kd.event_run rfl (v := .agg (h).cs) (w1 := w_31) ?hb ?_; (case hb => exact exec_load_hart rfl rfl K_ga.out)))
        refine (HY.out _ (Tab.from HT.out hB_32.out)).mono ?_
        rintro e_33 w_34 ⟨rfl, hb⟩
        have hB_35 := Lib.hid (below_step hB_32.out hb)
        replace K_ga := Lib.hid (K_ga.out.below hb)
        replace K_gu := Lib.hid (K_gu.out.below hb)
        replace K_gs := Lib.hid (K_gs.out.below hb)
        replace K_gm := Lib.hid (K_gm.out.below hb)
        clear hb hB_32
        go_upto_region 16 with fail
        have r5 := R5.out; have r6 := R6.out
        rcases X3.out with rfl | rfl | rfl
        · obtain rfl := r5 rfl
          cases K
          · exact absurd (r6 rfl).1 (by decide)
          · clear r5 r6
            go_upto_region 20 with fail
            go_wp2_with fail
            refine (HKN.out _ (Tab.from HT.out hB_35.out)).mono ?_
            rintro e9 w9 ⟨rfl, n_, e9⟩
            replace K_ga := Lib.hid (Hb.of e9.symm (K_ga.out.drewN n_))
            replace K_gu := Lib.hid (Hb.of e9.symm (K_gu.out.drewN n_))
            replace K_gs := Lib.hid (Hb.of e9.symm (K_gs.out.drewN n_))
            replace K_gm := Lib.hid (Hb.of e9.symm (K_gm.out.drewN n_))
            have hB_36 := Lib.hid (Below_of e9.symm (pw_below_drewN hB_35.out n_))
            clear e9 hB_35
            go_wp2
            go_ret
            exact ⟨rfl, hB_36.out⟩
        · rcases Y3.out with rfl | rfl | rfl
          · cases K
            · exact absurd (r6 rfl) (by decide)
            · clear r5 r6
              go_upto_region 20 with fail
              go_wp2_with fail
              refine (HKN.out _ (Tab.from HT.out hB_35.out)).mono ?_
              rintro e9 w9 ⟨rfl, n_, e9⟩
              replace K_ga := Lib.hid (Hb.of e9.symm (K_ga.out.drewN n_))
              replace K_gu := Lib.hid (Hb.of e9.symm (K_gu.out.drewN n_))
              replace K_gs := Lib.hid (Hb.of e9.symm (K_gs.out.drewN n_))
              replace K_gm := Lib.hid (Hb.of e9.symm (K_gm.out.drewN n_))
              have hB_36 := Lib.hid (Below_of e9.symm (pw_below_drewN hB_35.out n_))
              clear e9 hB_35
              go_wp2
              go_ret
              exact ⟨rfl, hB_36.out⟩
          · cases K
            · clear r5 r6
              go_upto_region 20 with fail
              go_wp2_with fail
              refine (HKN.out _ (Tab.from HT.out hB_35.out)).mono ?_
              rintro e9 w9 ⟨rfl, n_, e9⟩
              replace K_ga := Lib.hid (Hb.of e9.symm (K_ga.out.drewN n_))
              replace K_gu := Lib.hid (Hb.of e9.symm (K_gu.out.drewN n_))
              replace K_gs := Lib.hid (Hb.of e9.symm (K_gs.out.drewN n_))
              replace K_gm := Lib.hid (Hb.of e9.symm (K_gm.out.drewN n_))
              have hB_36 := Lib.hid (Below_of e9.symm (pw_below_drewN hB_35.out n_))
              clear e9 hB_35
              go_wp2_with fail
              refine (mezzaninelaw11_wakes.calls true _ csrno_wakes (Tab.from HT.out hB_36.out)).mono ?_
              rintro e_37 w_38 ⟨rfl, hb⟩
              have hB_39 := Lib.hid (below_step hB_36.out hb)
              replace K_ga := Lib.hid (K_ga.out.below hb)
              replace K_gu := Lib.hid (K_gu.out.below hb)
              replace K_gs := Lib.hid (K_gs.out.below hb)
              replace K_gm := Lib.hid (K_gm.out.below hb)
              clear hb hB_36
              go_wp2
              go_ret
              exact ⟨rfl, hB_39.out⟩
            · clear r5 r6
              go_upto_region 20 with fail
              go_wp2_with fail
              refine (HKN.out _ (Tab.from HT.out hB_35.out)).mono ?_
              rintro e9 w9 ⟨rfl, n_, e9⟩
              replace K_ga := Lib.hid (Hb.of e9.symm (K_ga.out.drewN n_))
              replace K_gu := Lib.hid (Hb.of e9.symm (K_gu.out.drewN n_))
              replace K_gs := Lib.hid (Hb.of e9.symm (K_gs.out.drewN n_))
              replace K_gm := Lib.hid (Hb.of e9.symm (K_gm.out.drewN n_))
              have hB_36 := Lib.hid (Below_of e9.symm (pw_below_drewN hB_35.out n_))
              clear e9 hB_35
              go_wp2
              go_ret
              exact ⟨rfl, hB_36.out⟩
          · cases K
            · exact absurd (r6 rfl) (by decide)
            · clear r5 r6
              go_upto_region 20 with fail
              go_wp2_with fail
              refine (HKN.out _ (Tab.from HT.out hB_35.out)).mono ?_
              rintro e9 w9 ⟨rfl, n_, e9⟩
              replace K_ga := Lib.hid (Hb.of e9.symm (K_ga.out.drewN n_))
              replace K_gu := Lib.hid (Hb.of e9.symm (K_gu.out.drewN n_))
              replace K_gs := Lib.hid (Hb.of e9.symm (K_gs.out.drewN n_))
              replace K_gm := Lib.hid (Hb.of e9.symm (K_gm.out.drewN n_))
              have hB_36 := Lib.hid (Below_of e9.symm (pw_below_drewN hB_35.out n_))
              clear e9 hB_35
              go_wp2
              go_ret
              exact ⟨rfl, hB_36.out⟩
        · rcases Y3.out with rfl | rfl | rfl
          · cases K
            · exact absurd (r6 rfl) (by decide)
            · clear r5 r6
              go_upto_region 20 with fail
              go_wp2_with fail
              refine (HKN.out _ (Tab.from HT.out hB_35.out)).mono ?_
              rintro e9 w9 ⟨rfl, n_, e9⟩
              replace K_ga := Lib.hid (Hb.of e9.symm (K_ga.out.drewN n_))
              replace K_gu := Lib.hid (Hb.of e9.symm (K_gu.out.drewN n_))
              replace K_gs := Lib.hid (Hb.of e9.symm (K_gs.out.drewN n_))
              replace K_gm := Lib.hid (Hb.of e9.symm (K_gm.out.drewN n_))
              have hB_36 := Lib.hid (Below_of e9.symm (pw_below_drewN hB_35.out n_))
              clear e9 hB_35
              go_wp2
              go_ret
              exact ⟨rfl, hB_36.out⟩
          · cases K
            · exact absurd (r6 rfl) (by decide)
            · clear r5 r6
              go_upto_region 20 with fail
              go_wp2_with fail
              refine (HKN.out _ (Tab.from HT.out hB_35.out)).mono ?_
              rintro e9 w9 ⟨rfl, n_, e9⟩
              replace K_ga := Lib.hid (Hb.of e9.symm (K_ga.out.drewN n_))
              replace K_gu := Lib.hid (Hb.of e9.symm (K_gu.out.drewN n_))
              replace K_gs := Lib.hid (Hb.of e9.symm (K_gs.out.drewN n_))
              replace K_gm := Lib.hid (Hb.of e9.symm (K_gm.out.drewN n_))
              have hB_36 := Lib.hid (Below_of e9.symm (pw_below_drewN hB_35.out n_))
              clear e9 hB_35
              go_wp2
              go_ret
              exact ⟨rfl, hB_36.out⟩
          · cases K
            · exact absurd (r6 rfl) (by decide)
            · clear r5 r6
              go_upto_region 20 with fail
              go_wp2_with fail
              refine (HKN.out _ (Tab.from HT.out hB_35.out)).mono ?_
              rintro e9 w9 ⟨rfl, n_, e9⟩
              replace K_ga := Lib.hid (Hb.of e9.symm (K_ga.out.drewN n_))
              replace K_gu := Lib.hid (Hb.of e9.symm (K_gu.out.drewN n_))
              replace K_gs := Lib.hid (Hb.of e9.symm (K_gs.out.drewN n_))
              replace K_gm := Lib.hid (Hb.of e9.symm (K_gm.out.drewN n_))
              have hB_36 := Lib.hid (Below_of e9.symm (pw_below_drewN hB_35.out n_))
              clear e9 hB_35
              go_wp2
              go_ret
              exact ⟨rfl, hB_36.out⟩
      · skip
        go_upto_region 14 with fail
        clear c_ga_34 f_ga_34
        go_wp2_with (first | ((with_reducible refine gate_dst (N := 62) rfl ?_); (first | (refine gate_guard (by kernel_rfl) ?_) | skip); refine Kd.event_run rfl (v := .agg (h).cs) (w1 := w_28) ?hb ?_; (case hb => exact exec_load_hart rfl rfl K_ga.out)))
        refine (HX.out _ (Tab.from HT.out hB_29.out)).mono ?_
        rintro e_30 w_31 ⟨rfl, hb⟩
        have hB_32 := Lib.hid (below_step hB_29.out hb)
        replace K_ga := Lib.hid (K_ga.out.below hb)
        replace K_gu := Lib.hid (K_gu.out.below hb)
        replace K_gs := Lib.hid (K_gs.out.below hb)
        replace K_gm := Lib.hid (K_gm.out.below hb)
        clear hb hB_29
        go_upto_region 15 with fail
        go_wp2_with (first | ((with_reducible refine gate_dst (N := 65) rfl ?_); (first | (refine gate_guard (by kernel_rfl) ?_) | skip); refine Kd.event_run rfl (v := .agg (h).cs) (w1 := w_31) ?hb ?_; (case hb => exact exec_load_hart rfl rfl K_ga.out)))
        refine (HY.out _ (Tab.from HT.out hB_32.out)).mono ?_
        rintro e_33 w_34 ⟨rfl, hb⟩
        have hB_35 := Lib.hid (below_step hB_32.out hb)
        replace K_ga := Lib.hid (K_ga.out.below hb)
        replace K_gu := Lib.hid (K_gu.out.below hb)
        replace K_gs := Lib.hid (K_gs.out.below hb)
        replace K_gm := Lib.hid (K_gm.out.below hb)
        clear hb hB_32
        go_upto_region 16 with fail
        have r5 := R5.out; have r6 := R6.out
        rcases X3.out with rfl | rfl | rfl
        · obtain rfl := r5 rfl
          cases K
          · exact absurd (r6 rfl).1 (by decide)
          · clear r5 r6
            go_upto_region 20 with fail
            go_wp2_with fail
            refine (HKN.out _ (Tab.from HT.out hB_35.out)).mono ?_
            rintro e9 w9 ⟨rfl, n_, e9⟩
            replace K_ga := Lib.hid (Hb.of e9.symm (K_ga.out.drewN n_))
            replace K_gu := Lib.hid (Hb.of e9.symm (K_gu.out.drewN n_))
            replace K_gs := Lib.hid (Hb.of e9.symm (K_gs.out.drewN n_))
            replace K_gm := Lib.hid (Hb.of e9.symm (K_gm.out.drewN n_))
            have hB_36 := Lib.hid (Below_of e9.symm (pw_below_drewN hB_35.out n_))
            clear e9 hB_35
            go_wp2
            go_ret
            exact ⟨rfl, hB_36.out⟩
        · rcases Y3.out with rfl | rfl | rfl
          · cases K
            · exact absurd (r6 rfl) (by decide)
            · clear r5 r6
              go_upto_region 20 with fail
              go_wp2_with fail
              refine (HKN.out _ (Tab.from HT.out hB_35.out)).mono ?_
              rintro e9 w9 ⟨rfl, n_, e9⟩
              replace K_ga := Lib.hid (Hb.of e9.symm (K_ga.out.drewN n_))
              replace K_gu := Lib.hid (Hb.of e9.symm (K_gu.out.drewN n_))
              replace K_gs := Lib.hid (Hb.of e9.symm (K_gs.out.drewN n_))
              replace K_gm := Lib.hid (Hb.of e9.symm (K_gm.out.drewN n_))
              have hB_36 := Lib.hid (Below_of e9.symm (pw_below_drewN hB_35.out n_))
              clear e9 hB_35
              go_wp2
              go_ret
              exact ⟨rfl, hB_36.out⟩
          · cases K
            · clear r5 r6
              go_upto_region 20 with fail
              go_wp2_with fail
              refine (HKN.out _ (Tab.from HT.out hB_35.out)).mono ?_
              rintro e9 w9 ⟨rfl, n_, e9⟩
              replace K_ga := Lib.hid (Hb.of e9.symm (K_ga.out.drewN n_))
              replace K_gu := Lib.hid (Hb.of e9.symm (K_gu.out.drewN n_))
              replace K_gs := Lib.hid (Hb.of e9.symm (K_gs.out.drewN n_))
              replace K_gm := Lib.hid (Hb.of e9.symm (K_gm.out.drewN n_))
              have hB_36 := Lib.hid (Below_of e9.symm (pw_below_drewN hB_35.out n_))
              clear e9 hB_35
              go_wp2_with fail
              refine (mezzaninelaw11_wakes.calls true _ csrno_wakes (Tab.from HT.out hB_36.out)).mono ?_
              rintro e_37 w_38 ⟨rfl, hb⟩
              have hB_39 := Lib.hid (below_step hB_36.out hb)
              replace K_ga := Lib.hid (K_ga.out.below hb)
              replace K_gu := Lib.hid (K_gu.out.below hb)
              replace K_gs := Lib.hid (K_gs.out.below hb)
              replace K_gm := Lib.hid (K_gm.out.below hb)
              clear hb hB_36
              go_wp2
              go_ret
              exact ⟨rfl, hB_39.out⟩
            · clear r5 r6
              go_upto_region 20 with fail
              go_wp2_with fail
              refine (HKN.out _ (Tab.from HT.out hB_35.out)).mono ?_
              rintro e9 w9 ⟨rfl, n_, e9⟩
              replace K_ga := Lib.hid (Hb.of e9.symm (K_ga.out.drewN n_))
              replace K_gu := Lib.hid (Hb.of e9.symm (K_gu.out.drewN n_))
              replace K_gs := Lib.hid (Hb.of e9.symm (K_gs.out.drewN n_))
              replace K_gm := Lib.hid (Hb.of e9.symm (K_gm.out.drewN n_))
              have hB_36 := Lib.hid (Below_of e9.symm (pw_below_drewN hB_35.out n_))
              clear e9 hB_35
              go_wp2
              go_ret
              exact ⟨rfl, hB_36.out⟩
          · cases K
            · exact absurd (r6 rfl) (by decide)
            · clear r5 r6
              go_upto_region 20 with fail
              go_wp2_with fail
              refine (HKN.out _ (Tab.from HT.out hB_35.out)).mono ?_
              rintro e9 w9 ⟨rfl, n_, e9⟩
              replace K_ga := Lib.hid (Hb.of e9.symm (K_ga.out.drewN n_))
              replace K_gu := Lib.hid (Hb.of e9.symm (K_gu.out.drewN n_))
              replace K_gs := Lib.hid (Hb.of e9.symm (K_gs.out.drewN n_))
              replace K_gm := Lib.hid (Hb.of e9.symm (K_gm.out.drewN n_))
              have hB_36 := Lib.hid (Below_of e9.symm (pw_below_drewN hB_35.out n_))
              clear e9 hB_35
              go_wp2
              go_ret
              exact ⟨rfl, hB_36.out⟩
        · rcases Y3.out with rfl | rfl | rfl
          · cases K
            · exact absurd (r6 rfl) (by decide)
            · clear r5 r6
              go_upto_region 20 with fail
              go_wp2_with fail
              refine (HKN.out _ (Tab.from HT.out hB_35.out)).mono ?_
              rintro e9 w9 ⟨rfl, n_, e9⟩
              replace K_ga := Lib.hid (Hb.of e9.symm (K_ga.out.drewN n_))
              replace K_gu := Lib.hid (Hb.of e9.symm (K_gu.out.drewN n_))
              replace K_gs := Lib.hid (Hb.of e9.symm (K_gs.out.drewN n_))
              replace K_gm := Lib.hid (Hb.of e9.symm (K_gm.out.drewN n_))
              have hB_36 := Lib.hid (Below_of e9.symm (pw_below_drewN hB_35.out n_))
              clear e9 hB_35
              go_wp2
              go_ret
              exact ⟨rfl, hB_36.out⟩
          · cases K
            · exact absurd (r6 rfl) (by decide)
            · clear r5 r6
              go_upto_region 20 with fail
              go_wp2_with fail
              refine (HKN.out _ (Tab.from HT.out hB_35.out)).mono ?_
              rintro e9 w9 ⟨rfl, n_, e9⟩
              replace K_ga := Lib.hid (Hb.of e9.symm (K_ga.out.drewN n_))
              replace K_gu := Lib.hid (Hb.of e9.symm (K_gu.out.drewN n_))
              replace K_gs := Lib.hid (Hb.of e9.symm (K_gs.out.drewN n_))
              replace K_gm := Lib.hid (Hb.of e9.symm (K_gm.out.drewN n_))
              have hB_36 := Lib.hid (Below_of e9.symm (pw_below_drewN hB_35.out n_))
              clear e9 hB_35
              go_wp2
              go_ret
              exact ⟨rfl, hB_36.out⟩
          · cases K
            · exact absurd (r6 rfl) (by decide)
            · clear r5 r6
              go_upto_region 20 with fail
              go_wp2_with fail
              refine (HKN.out _ (Tab.from HT.out hB_35.out)).mono ?_
              rintro e9 w9 ⟨rfl, n_, e9⟩
              replace K_ga := Lib.hid (Hb.of e9.symm (K_ga.out.drewN n_))
              replace K_gu := Lib.hid (Hb.of e9.symm (K_gu.out.drewN n_))
              replace K_gs := Lib.hid (Hb.of e9.symm (K_gs.out.drewN n_))
              replace K_gm := Lib.hid (Hb.of e9.symm (K_gm.out.drewN n_))
              have hB_36 := Lib.hid (Below_of e9.symm (pw_below_drewN hB_35.out n_))
              clear e9 hB_35
              go_wp2
              go_ret
              exact ⟨rfl, hB_36.out⟩
  · skip
    have e1 := R1.out (eq_of_beq d1)
    have d2 : (b == 0) = true := by rw [e1]; rfl
    have d3 : (b != 0) = false := by rw [e1]; rfl
    have d6 : (c != 0) = false := by rw [bne_eq_false_iff_eq]; exact R2.out e1
    have d7 : (c == 22) = false := beq_eq_false_iff_ne.2 R3.out
    clear e1
    go_upto_region 12 with fail
    have c_ga_34 := K_ga.out.cv; have f_ga_34 := K_ga.out.fr 34
    cases d8 : h.v
    · skip
      obtain ⟨z1, z2⟩ := R4.out d8
      have d9 : (a == 22) = false := beq_eq_false_iff_ne.2 z1; have d10 : (b == 22) = false := beq_eq_false_iff_ne.2 z2
      clear z1 z2
      go_upto_region 14 with fail
      clear c_ga_34 f_ga_34
      go_wp2_with (first | ((with_reducible refine gate_dst (N := 62) rfl ?_); (first | (refine gate_guard (by kernel_rfl) ?_) | skip); refine Kd.event_run rfl (v := .agg (h).cs) (w1 := w_28) ?hb ?_; (case hb => exact exec_load_hart rfl rfl K_ga.out)))
      refine (HX.out _ (Tab.from HT.out hB_29.out)).mono ?_
      rintro e_30 w_31 ⟨rfl, hb⟩
      have hB_32 := Lib.hid (below_step hB_29.out hb)
      replace K_ga := Lib.hid (K_ga.out.below hb)
      replace K_gu := Lib.hid (K_gu.out.below hb)
      replace K_gs := Lib.hid (K_gs.out.below hb)
      replace K_gm := Lib.hid (K_gm.out.below hb)
      clear hb hB_29
      go_upto_region 15 with fail
      go_wp2_with (first | ((with_reducible refine gate_dst (N := 65) rfl ?_); (first | (refine gate_guard (by kernel_rfl) ?_) | skip); refine Kd.event_run rfl (v := .agg (h).cs) (w1 := w_31) ?hb ?_; (case hb => exact exec_load_hart rfl rfl K_ga.out)))
      refine (HY.out _ (Tab.from HT.out hB_32.out)).mono ?_
      rintro e_33 w_34 ⟨rfl, hb⟩
      have hB_35 := Lib.hid (below_step hB_32.out hb)
      replace K_ga := Lib.hid (K_ga.out.below hb)
      replace K_gu := Lib.hid (K_gu.out.below hb)
      replace K_gs := Lib.hid (K_gs.out.below hb)
      replace K_gm := Lib.hid (K_gm.out.below hb)
      clear hb hB_32
      go_upto_region 16 with fail
      have r5 := R5.out; have r6 := R6.out
      rcases X3.out with rfl | rfl | rfl
      · obtain rfl := r5 rfl
        cases K
        · exact absurd (r6 rfl).1 (by decide)
        · clear r5 r6
          go_upto_region 20 with fail
          go_wp2_with fail
          refine (HKN.out _ (Tab.from HT.out hB_35.out)).mono ?_
          rintro e9 w9 ⟨rfl, n_, e9⟩
          replace K_ga := Lib.hid (Hb.of e9.symm (K_ga.out.drewN n_))
          replace K_gu := Lib.hid (Hb.of e9.symm (K_gu.out.drewN n_))
          replace K_gs := Lib.hid (Hb.of e9.symm (K_gs.out.drewN n_))
          replace K_gm := Lib.hid (Hb.of e9.symm (K_gm.out.drewN n_))
          have hB_36 := Lib.hid (Below_of e9.symm (pw_below_drewN hB_35.out n_))
          clear e9 hB_35
          go_wp2
          go_ret
          exact ⟨rfl, hB_36.out⟩
      · rcases Y3.out with rfl | rfl | rfl
        · cases K
          · exact absurd (r6 rfl) (by decide)
          · clear r5 r6
            go_upto_region 20 with fail
            go_wp2_with fail
            refine (HKN.out _ (Tab.from HT.out hB_35.out)).mono ?_
            rintro e9 w9 ⟨rfl, n_, e9⟩
            replace K_ga := Lib.hid (Hb.of e9.symm (K_ga.out.drewN n_))
            replace K_gu := Lib.hid (Hb.of e9.symm (K_gu.out.drewN n_))
            replace K_gs := Lib.hid (Hb.of e9.symm (K_gs.out.drewN n_))
            replace K_gm := Lib.hid (Hb.of e9.symm (K_gm.out.drewN n_))
            have hB_36 := Lib.hid (Below_of e9.symm (pw_below_drewN hB_35.out n_))
            clear e9 hB_35
            go_wp2
            go_ret
            exact ⟨rfl, hB_36.out⟩
        · cases K
          · clear r5 r6
            go_upto_region 20 with fail
            go_wp2_with fail
            refine (HKN.out _ (Tab.from HT.out hB_35.out)).mono ?_
            rintro e9 w9 ⟨rfl, n_, e9⟩
            replace K_ga := Lib.hid (Hb.of e9.symm (K_ga.out.drewN n_))
            replace K_gu := Lib.hid (Hb.of e9.symm (K_gu.out.drewN n_))
            replace K_gs := Lib.hid (Hb.of e9.symm (K_gs.out.drewN n_))
            replace K_gm := Lib.hid (Hb.of e9.symm (K_gm.out.drewN n_))
            have hB_36 := Lib.hid (Below_of e9.symm (pw_below_drewN hB_35.out n_))
            clear e9 hB_35
            go_wp2_with fail
            refine (mezzaninelaw11_wakes.calls true _ csrno_wakes (Tab.from HT.out hB_36.out)).mono ?_
            rintro e_37 w_38 ⟨rfl, hb⟩
            have hB_39 := Lib.hid (below_step hB_36.out hb)
            replace K_ga := Lib.hid (K_ga.out.below hb)
            replace K_gu := Lib.hid (K_gu.out.below hb)
            replace K_gs := Lib.hid (K_gs.out.below hb)
            replace K_gm := Lib.hid (K_gm.out.below hb)
            clear hb hB_36
            go_wp2
            go_ret
            exact ⟨rfl, hB_39.out⟩
          · clear r5 r6
            go_upto_region 20 with fail
            go_wp2_with fail
            refine (HKN.out _ (Tab.from HT.out hB_35.out)).mono ?_
            rintro e9 w9 ⟨rfl, n_, e9⟩
            replace K_ga := Lib.hid (Hb.of e9.symm (K_ga.out.drewN n_))
            replace K_gu := Lib.hid (Hb.of e9.symm (K_gu.out.drewN n_))
            replace K_gs := Lib.hid (Hb.of e9.symm (K_gs.out.drewN n_))
            replace K_gm := Lib.hid (Hb.of e9.symm (K_gm.out.drewN n_))
            have hB_36 := Lib.hid (Below_of e9.symm (pw_below_drewN hB_35.out n_))
            clear e9 hB_35
            go_wp2
            go_ret
            exact ⟨rfl, hB_36.out⟩
        · cases K
          · exact absurd (r6 rfl) (by decide)
          · clear r5 r6
            go_upto_region 20 with fail
            go_wp2_with fail
            refine (HKN.out _ (Tab.from HT.out hB_35.out)).mono ?_
            rintro e9 w9 ⟨rfl, n_, e9⟩
            replace K_ga := Lib.hid (Hb.of e9.symm (K_ga.out.drewN n_))
            replace K_gu := Lib.hid (Hb.of e9.symm (K_gu.out.drewN n_))
            replace K_gs := Lib.hid (Hb.of e9.symm (K_gs.out.drewN n_))
            replace K_gm := Lib.hid (Hb.of e9.symm (K_gm.out.drewN n_))
            have hB_36 := Lib.hid (Below_of e9.symm (pw_below_drewN hB_35.out n_))
            clear e9 hB_35
            go_wp2
            go_ret
            exact ⟨rfl, hB_36.out⟩
      · rcases Y3.out with rfl | rfl | rfl
        · cases K
          · exact absurd (r6 rfl) (by decide)
          · clear r5 r6
            go_upto_region 20 with fail
            go_wp2_with fail
            refine (HKN.out _ (Tab.from HT.out hB_35.out)).mono ?_
            rintro e9 w9 ⟨rfl, n_, e9⟩
            replace K_ga := Lib.hid (Hb.of e9.symm (K_ga.out.drewN n_))
            replace K_gu := Lib.hid (Hb.of e9.symm (K_gu.out.drewN n_))
            replace K_gs := Lib.hid (Hb.of e9.symm (K_gs.out.drewN n_))
            replace K_gm := Lib.hid (Hb.of e9.symm (K_gm.out.drewN n_))
            have hB_36 := Lib.hid (Below_of e9.symm (pw_below_drewN hB_35.out n_))
            clear e9 hB_35
            go_wp2
            go_ret
            exact ⟨rfl, hB_36.out⟩
        · cases K
          · exact absurd (r6 rfl) (by decide)
          · clear r5 r6
            go_upto_region 20 with fail
            go_wp2_with fail
            refine (HKN.out _ (Tab.from HT.out hB_35.out)).mono ?_
            rintro e9 w9 ⟨rfl, n_, e9⟩
            replace K_ga := Lib.hid (Hb.of e9.symm (K_ga.out.drewN n_))
            replace K_gu := Lib.hid (Hb.of e9.symm (K_gu.out.drewN n_))
            replace K_gs := Lib.hid (Hb.of e9.symm (K_gs.out.drewN n_))
            replace K_gm := Lib.hid (Hb.of e9.symm (K_gm.out.drewN n_))
            have hB_36 := Lib.hid (Below_of e9.symm (pw_below_drewN hB_35.out n_))
            clear e9 hB_35
            go_wp2
            go_ret
            exact ⟨rfl, hB_36.out⟩
        · cases K
          · exact absurd (r6 rfl) (by decide)
          · clear r5 r6
            go_upto_region 20 with fail
            go_wp2_with fail
            refine (HKN.out _ (Tab.from HT.out hB_35.out)).mono ?_
            rintro e9 w9 ⟨rfl, n_, e9⟩
            replace K_ga := Lib.hid (Hb.of e9.symm (K_ga.out.drewN n_))
            replace K_gu := Lib.hid (Hb.of e9.symm (K_gu.out.drewN n_))
            replace K_gs := Lib.hid (Hb.of e9.symm (K_gs.out.drewN n_))
            replace K_gm := Lib.hid (Hb.of e9.symm (K_gm.out.drewN n_))
            have hB_36 := Lib.hid (Below_of e9.symm (pw_below_drewN hB_35.out n_))
            clear e9 hB_35
            go_wp2
            go_ret
            exact ⟨rfl, hB_36.out⟩
    · skip
      go_upto_region 14 with fail
      clear c_ga_34 f_ga_34
      go_wp2_with (first | ((with_reducible refine gate_dst (N := 62) rfl ?_); (first | (refine gate_guard (by kernel_rfl) ?_) | skip); refine Kd.event_run rfl (v := .agg (h).cs) (w1 := w_28) ?hb ?_; (case hb => exact exec_load_hart rfl rfl K_ga.out)))
      refine (HX.out _ (Tab.from HT.out hB_29.out)).mono ?_
      rintro e_30 w_31 ⟨rfl, hb⟩
      have hB_32 := Lib.hid (below_step hB_29.out hb)
      replace K_ga := Lib.hid (K_ga.out.below hb)
      replace K_gu := Lib.hid (K_gu.out.below hb)
      replace K_gs := Lib.hid (K_gs.out.below hb)
      replace K_gm := Lib.hid (K_gm.out.below hb)
      clear hb hB_29
      go_upto_region 15 with fail
      go_wp2_with (first | ((with_reducible refine gate_dst (N := 65) rfl ?_); (first | (refine gate_guard (by kernel_rfl) ?_) | skip); refine Kd.event_run rfl (v := .agg (h).cs) (w1 := w_31) ?hb ?_; (case hb => exact exec_load_hart rfl rfl K_ga.out)))
      refine (HY.out _ (Tab.from HT.out hB_32.out)).mono ?_
      rintro e_33 w_34 ⟨rfl, hb⟩
      have hB_35 := Lib.hid (below_step hB_32.out hb)
      replace K_ga := Lib.hid (K_ga.out.below hb)
      replace K_gu := Lib.hid (K_gu.out.below hb)
      replace K_gs := Lib.hid (K_gs.out.below hb)
      replace K_gm := Lib.hid (K_gm.out.below hb)
      clear hb hB_32
      go_upto_region 16 with fail
      have r5 := R5.out; have r6 := R6.out
      rcases X3.out with rfl | rfl | rfl
      · obtain rfl := r5 rfl
        cases K
        · exact absurd (r6 rfl).1 (by decide)
        · clear r5 r6
          go_upto_region 20 with fail
          go_wp2_with fail
          refine (HKN.out _ (Tab.from HT.out hB_35.out)).mono ?_
          rintro e9 w9 ⟨rfl, n_, e9⟩
          replace K_ga := Lib.hid (Hb.of e9.symm (K_ga.out.drewN n_))
          replace K_gu := Lib.hid (Hb.of e9.symm (K_gu.out.drewN n_))
          replace K_gs := Lib.hid (Hb.of e9.symm (K_gs.out.drewN n_))
          replace K_gm := Lib.hid (Hb.of e9.symm (K_gm.out.drewN n_))
          have hB_36 := Lib.hid (Below_of e9.symm (pw_below_drewN hB_35.out n_))
          clear e9 hB_35
          go_wp2
          go_ret
          exact ⟨rfl, hB_36.out⟩
      · rcases Y3.out with rfl | rfl | rfl
        · cases K
          · exact absurd (r6 rfl) (by decide)
          · clear r5 r6
            go_upto_region 20 with fail
            go_wp2_with fail
            refine (HKN.out _ (Tab.from HT.out hB_35.out)).mono ?_
            rintro e9 w9 ⟨rfl, n_, e9⟩
            replace K_ga := Lib.hid (Hb.of e9.symm (K_ga.out.drewN n_))
            replace K_gu := Lib.hid (Hb.of e9.symm (K_gu.out.drewN n_))
            replace K_gs := Lib.hid (Hb.of e9.symm (K_gs.out.drewN n_))
            replace K_gm := Lib.hid (Hb.of e9.symm (K_gm.out.drewN n_))
            have hB_36 := Lib.hid (Below_of e9.symm (pw_below_drewN hB_35.out n_))
            clear e9 hB_35
            go_wp2
            go_ret
            exact ⟨rfl, hB_36.out⟩
        · cases K
          · clear r5 r6
            go_upto_region 20 with fail
            go_wp2_with fail
            refine (HKN.out _ (Tab.from HT.out hB_35.out)).mono ?_
            rintro e9 w9 ⟨rfl, n_, e9⟩
            replace K_ga := Lib.hid (Hb.of e9.symm (K_ga.out.drewN n_))
            replace K_gu := Lib.hid (Hb.of e9.symm (K_gu.out.drewN n_))
            replace K_gs := Lib.hid (Hb.of e9.symm (K_gs.out.drewN n_))
            replace K_gm := Lib.hid (Hb.of e9.symm (K_gm.out.drewN n_))
            have hB_36 := Lib.hid (Below_of e9.symm (pw_below_drewN hB_35.out n_))
            clear e9 hB_35
            go_wp2_with fail
            refine (mezzaninelaw11_wakes.calls true _ csrno_wakes (Tab.from HT.out hB_36.out)).mono ?_
            rintro e_37 w_38 ⟨rfl, hb⟩
            have hB_39 := Lib.hid (below_step hB_36.out hb)
            replace K_ga := Lib.hid (K_ga.out.below hb)
            replace K_gu := Lib.hid (K_gu.out.below hb)
            replace K_gs := Lib.hid (K_gs.out.below hb)
            replace K_gm := Lib.hid (K_gm.out.below hb)
            clear hb hB_36
            go_wp2
            go_ret
            exact ⟨rfl, hB_39.out⟩
          · clear r5 r6
            go_upto_region 20 with fail
            go_wp2_with fail
            refine (HKN.out _ (Tab.from HT.out hB_35.out)).mono ?_
            rintro e9 w9 ⟨rfl, n_, e9⟩
            replace K_ga := Lib.hid (Hb.of e9.symm (K_ga.out.drewN n_))
            replace K_gu := Lib.hid (Hb.of e9.symm (K_gu.out.drewN n_))
            replace K_gs := Lib.hid (Hb.of e9.symm (K_gs.out.drewN n_))
            replace K_gm := Lib.hid (Hb.of e9.symm (K_gm.out.drewN n_))
            have hB_36 := Lib.hid (Below_of e9.symm (pw_below_drewN hB_35.out n_))
            clear e9 hB_35
            go_wp2
            go_ret
            exact ⟨rfl, hB_36.out⟩
        · cases K
          · exact absurd (r6 rfl) (by decide)
          · clear r5 r6
            go_upto_region 20 with fail
            go_wp2_with fail
            refine (HKN.out _ (Tab.from HT.out hB_35.out)).mono ?_
            rintro e9 w9 ⟨rfl, n_, e9⟩
            replace K_ga := Lib.hid (Hb.of e9.symm (K_ga.out.drewN n_))
            replace K_gu := Lib.hid (Hb.of e9.symm (K_gu.out.drewN n_))
            replace K_gs := Lib.hid (Hb.of e9.symm (K_gs.out.drewN n_))
            replace K_gm := Lib.hid (Hb.of e9.symm (K_gm.out.drewN n_))
            have hB_36 := Lib.hid (Below_of e9.symm (pw_below_drewN hB_35.out n_))
            clear e9 hB_35
            go_wp2
            go_ret
            exact ⟨rfl, hB_36.out⟩
      · rcases Y3.out with rfl | rfl | rfl
        · cases K
          · exact absurd (r6 rfl) (by decide)
          · clear r5 r6
            go_upto_region 20 with fail
            go_wp2_with fail
            refine (HKN.out _ (Tab.from HT.out hB_35.out)).mono ?_
            rintro e9 w9 ⟨rfl, n_, e9⟩
            replace K_ga := Lib.hid (Hb.of e9.symm (K_ga.out.drewN n_))
            replace K_gu := Lib.hid (Hb.of e9.symm (K_gu.out.drewN n_))
            replace K_gs := Lib.hid (Hb.of e9.symm (K_gs.out.drewN n_))
            replace K_gm := Lib.hid (Hb.of e9.symm (K_gm.out.drewN n_))
            have hB_36 := Lib.hid (Below_of e9.symm (pw_below_drewN hB_35.out n_))
            clear e9 hB_35
            go_wp2
            go_ret
            exact ⟨rfl, hB_36.out⟩
        · cases K
          · exact absurd (r6 rfl) (by decide)
          · clear r5 r6
            go_upto_region 20 with fail
            go_wp2_with fail
            refine (HKN.out _ (Tab.from HT.out hB_35.out)).mono ?_
            rintro e9 w9 ⟨rfl, n_, e9⟩
            replace K_ga := Lib.hid (Hb.of e9.symm (K_ga.out.drewN n_))
            replace K_gu := Lib.hid (Hb.of e9.symm (K_gu.out.drewN n_))
            replace K_gs := Lib.hid (Hb.of e9.symm (K_gs.out.drewN n_))
            replace K_gm := Lib.hid (Hb.of e9.symm (K_gm.out.drewN n_))
            have hB_36 := Lib.hid (Below_of e9.symm (pw_below_drewN hB_35.out n_))
            clear e9 hB_35
            go_wp2
            go_ret
            exact ⟨rfl, hB_36.out⟩
        · cases K
          · exact absurd (r6 rfl) (by decide)
          · clear r5 r6
            go_upto_region 20 with fail
            go_wp2_with fail
            refine (HKN.out _ (Tab.from HT.out hB_35.out)).mono ?_
            rintro e9 w9 ⟨rfl, n_, e9⟩
            replace K_ga := Lib.hid (Hb.of e9.symm (K_ga.out.drewN n_))
            replace K_gu := Lib.hid (Hb.of e9.symm (K_gu.out.drewN n_))
            replace K_gs := Lib.hid (Hb.of e9.symm (K_gs.out.drewN n_))
            replace K_gm := Lib.hid (Hb.of e9.symm (K_gm.out.drewN n_))
            have hB_36 := Lib.hid (Below_of e9.symm (pw_below_drewN hB_35.out n_))
            clear e9 hB_35
            go_wp2
            go_ret
            exact ⟨rfl, hB_36.out⟩
end Go.Proofs.YtbmmafebekehdaaDoor.Hx
namespace Go.Proofs.YtbmmafebekehdaaDoor.Pure
open Go.RowKit Go.Proofs.YtbmmafebekehdaaDoor.Hx Go.Proofs.YtbmmafebekehdaaDoor.Q
theorem CsrnoRises (h : Ht) (no : Int) (wr : Bool) (w : World) (hw : h.wf) (w_no : (Lit.int .i64 no).wf = true) (hT : Tab w) :
    Calls Tryd.prog 5 #[.agg h.cs, .int .i64 no, .bool wr] w fun e w' => e = .returned (.bool true) ∧ Below w.heap.size w w' :=
  rises_c h no wr w hT
end Go.Proofs.YtbmmafebekehdaaDoor.Pure
