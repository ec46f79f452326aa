/- The wakes. (By a program of this session.) -/
import Derived.Test.YtlopmcakfalkpaaDoorCLegal
set_option linter.unusedSimpArgs false
set_option linter.unusedVariables false
namespace Go.Proofs.YtlopmcakfalkpaaDoor.Hx
open Go.RowKit Go.Proofs.YtlopmcakfalkpaaDoor.Q Go.Proofs.YtlopmcakfalkpaaDoorW.PrintWords Go.Proofs.YtlopmcakfalkpaaDoorW.PrintLast Go.Proofs.YtlopmcakfalkpaaDoorW.PrintMore Go.Proofs.YtlopmcakfalkpaaDoor.Rg

theorem wk0 : (readV (fix Ht.zero) false false false false 0 0 771 == 5188) = true := by decide +kernel
theorem wk1 : (readV (writeV (writeV (fix Ht.zero) 768 18446744073709551615) 768 4096) false false false false 0 0 768 == 42949679104) = true := by decide +kernel
theorem wk2 : legalV (writeV (writeV (fix Ht.zero) 768 18446744073709551615) 768 4096) = true := by decide +kernel
set_option maxHeartbeats 16000000 in
set_option maxRecDepth 100000 in
theorem wakes_c (w : World) (hT : Tab w) : Calls Tryd.prog 17 #[] w fun e w' => e = .returned (.bool true) ∧ Below w.heap.size w w' := by
  have d0 := wk0; have d1 := wk1; have hl := legal_c (writeV (writeV (fix Ht.zero) 768 18446744073709551615) 768 4096)
  rw [wk2] at hl
  have hf := fix_c Ht.zero
  generalize fix Ht.zero = f at *
  have hw := write_c f false false false false 0 0 768 18446744073709551615
  have hr := read_c f false false false false 0 0 771
  generalize writeV f 768 18446744073709551615 = k1 at *
  have hw2 := write_c k1 false false false false 0 0 768 4096
  generalize writeV k1 768 4096 = k at *
  have hr2 := read_c k false false false false 0 0 768
  generalize readV f false false false false 0 0 771 = a0 at *
  generalize readV k false false false false 0 0 768 = a1 at *
  have HF := Lib.hid hf; have HW := Lib.hid hw; have HW2 := Lib.hid hw2; have HR := Lib.hid hr; have HR2 := Lib.hid hr2; have HL := Lib.hid hl; have HT := Lib.hid hT
  clear hf hw hw2 hr hr2 hl hT
  have hu25 := Tryd.underlying25
  go_enter Tryd.func17, Tryd.ntmps17
  go_wp2_with (first | ((with_reducible refine gate_dst (N := 3) rfl ?_); (first | (refine gate_guard (by rfl) ?_) | skip); refine Kd.event_run rfl (v := .agg Ht.zero.cs) (w1 := w) ?hb ?_; (case hb => kernel_rfl)))
  refine (HF.out _ HT.out).mono ?_
  rintro e_1 w_2 ⟨rfl, hb⟩
  have hB_3 := Lib.hid (below_step (Below.refl w.heap.size w) hb)
  clear hb
  go_wp2_with (first | ((with_reducible refine gate_dst (N := 1) rfl ?_); refine box_event ?hg (N := 1) ?hd (cs := Ht.zero.cs) (t := 25) ?hr ?_; (case hd => rfl); (case hg => rfl); (case hr => first | (go_simp; done) | (go_simp; rfl)); intro gh hg w_4 H1 hb; have hB_6 := Lib.hid (below_step hB_3.out hb); have G_gh := Lib.hid (show w.heap.size ≤ gh by rw [hg]; exact (hB_3.out).size); have K_gh := Lib.hid (show Hb w_4 gh Ht.zero from H1); clear hg hb H1 hB_3) | (refine store_hart rfl (.tmp 1) (.tmp 4) rfl gh f rfl rfl Ht.zero K_gh.out ?_; have hB_7 := Lib.hid (setCells_below G_gh.out (Ht.cs f).toList 0 _ hB_6.out); replace K_gh := Lib.hid (Hb.putAll f K_gh.out); clear hB_6; generalize World.setCells w_4 gh 0 (Ht.cs f).toList = w_5 at K_gh hB_7 ⊢) | ((with_reducible refine gate_dst (N := 5) rfl ?_); (first | (refine gate_guard (by rfl) ?_) | skip); refine Kd.event_run rfl (v := .agg (f).cs) (w1 := w_5) ?hb ?_; (case hb => exact exec_load_hart rfl rfl K_gh.out)) | ((with_reducible refine gate_dst (N := 6) rfl ?_); (first | (refine gate_guard (by rfl) ?_) | skip); refine Kd.event_run rfl (v := .agg #[.bool false, .bool false, .bool false, .bool false, .int .u64 0, .int .u64 0]) (w1 := w_5) ?hb ?_; (case hb => kernel_rfl)))
  refine (HW.out _ (Tab.from HT.out hB_7.out)).mono ?_
  rintro e_8 w_9 ⟨rfl, hb⟩
  have hB_10 := Lib.hid (below_step hB_7.out hb)
  replace K_gh := Lib.hid (K_gh.out.below hb)
  clear hb hB_7
  go_wp2_with (first | ((with_reducible refine gate_dst (N := 2) rfl ?_); refine box_event ?hg (N := 2) ?hd (cs := Ht.zero.cs) (t := 25) ?hr ?_; (case hd => rfl); (case hg => rfl); (case hr => first | (go_simp; done) | (go_simp; rfl)); intro gk hg w_11 H1 hb; have hB_13 := Lib.hid (below_step hB_10.out hb); have G_gk := Lib.hid (show w.heap.size ≤ gk by rw [hg]; exact (hB_10.out).size); have N_gh_gk := Lib.hid (show gh ≠ gk by rw [hg]; exact Nat.ne_of_lt (K_gh.out.lt)); replace K_gh := Lib.hid (K_gh.out.below hb); have K_gk := Lib.hid (show Hb w_11 gk Ht.zero from H1); clear hg hb H1 hB_10) | (refine store_hart rfl (.tmp 2) (.tmp 7) rfl gk k1 rfl rfl Ht.zero K_gk.out ?_; have hB_14 := Lib.hid (setCells_below G_gk.out (Ht.cs k1).toList 0 _ hB_13.out); replace K_gh := Lib.hid (Hb.farAll (vs := (Ht.cs k1).toList) (o := 0) N_gh_gk.out K_gh.out); replace K_gk := Lib.hid (Hb.putAll k1 K_gk.out); clear hB_13; generalize World.setCells w_11 gk 0 (Ht.cs k1).toList = w_12 at K_gh K_gk hB_14 ⊢) | ((with_reducible refine gate_dst (N := 8) rfl ?_); (first | (refine gate_guard (by rfl) ?_) | skip); refine Kd.event_run rfl (v := .agg (k1).cs) (w1 := w_12) ?hb ?_; (case hb => exact exec_load_hart rfl rfl K_gk.out)) | ((with_reducible refine gate_dst (N := 9) rfl ?_); (first | (refine gate_guard (by rfl) ?_) | skip); refine Kd.event_run rfl (v := .agg #[.bool false, .bool false, .bool false, .bool false, .int .u64 0, .int .u64 0]) (w1 := w_12) ?hb ?_; (case hb => kernel_rfl)))
  refine (HW2.out _ (Tab.from HT.out hB_14.out)).mono ?_
  rintro e_15 w_16 ⟨rfl, hb⟩
  have hB_17 := Lib.hid (below_step hB_14.out hb)
  replace K_gh := Lib.hid (K_gh.out.below hb)
  replace K_gk := Lib.hid (K_gk.out.below hb)
  clear hb hB_14
  go_wp2_with (first | (refine store_hart rfl (.tmp 2) (.tmp 10) rfl gk (k) rfl rfl (k1) K_gk.out ?_; have hB_19 := Lib.hid (setCells_below G_gk.out (Ht.cs (k)).toList 0 _ hB_17.out); replace K_gh := Lib.hid (Hb.farAll (vs := (Ht.cs (k)).toList) (o := 0) N_gh_gk.out K_gh.out); replace K_gk := Lib.hid (Hb.putAll (k) K_gk.out); clear hB_17; generalize World.setCells w_16 gk 0 (Ht.cs (k)).toList = w_18 at K_gh K_gk hB_19 ⊢) | ((with_reducible refine gate_dst (N := 11) rfl ?_); (first | (refine gate_guard (by rfl) ?_) | skip); refine Kd.event_run rfl (v := .agg (f).cs) (w1 := w_18) ?hb ?_; (case hb => exact exec_load_hart rfl rfl K_gh.out)) | ((with_reducible refine gate_dst (N := 12) rfl ?_); (first | (refine gate_guard (by rfl) ?_) | skip); refine Kd.event_run rfl (v := .agg #[.bool false, .bool false, .bool false, .bool false, .int .u64 0, .int .u64 0]) (w1 := w_18) ?hb ?_; (case hb => kernel_rfl)))
  refine (HR.out _).mono ?_
  rintro e_20 w_21 ⟨rfl, hb⟩
  have hB_22 := Lib.hid (below_step hB_19.out hb)
  replace K_gh := Lib.hid (K_gh.out.below hb)
  replace K_gk := Lib.hid (K_gk.out.below hb)
  clear hb hB_19
  go_wp2_with (first | ((with_reducible refine gate_dst (N := 16) rfl ?_); (first | (refine gate_guard (by rfl) ?_) | skip); refine Kd.event_run rfl (v := .agg (k).cs) (w1 := w_21) ?hb ?_; (case hb => exact exec_load_hart rfl rfl K_gk.out)) | ((with_reducible refine gate_dst (N := 17) rfl ?_); (first | (refine gate_guard (by rfl) ?_) | skip); refine Kd.event_run rfl (v := .agg #[.bool false, .bool false, .bool false, .bool false, .int .u64 0, .int .u64 0]) (w1 := w_21) ?hb ?_; (case hb => kernel_rfl)))
  refine (HR2.out _).mono ?_
  rintro e_23 w_24 ⟨rfl, hb⟩
  have hB_25 := Lib.hid (below_step hB_22.out hb)
  replace K_gh := Lib.hid (K_gh.out.below hb)
  replace K_gk := Lib.hid (K_gk.out.below hb)
  clear hb hB_22
  go_wp2_with (first | ((with_reducible refine gate_dst (N := 22) rfl ?_); (first | (refine gate_guard (by rfl) ?_) | skip); refine Kd.event_run rfl (v := .agg (k).cs) (w1 := w_24) ?hb ?_; (case hb => exact exec_load_hart rfl rfl K_gk.out)))
  refine (HL.out _ (Tab.from HT.out hB_25.out)).mono ?_
  rintro e_26 w_27 ⟨rfl, hb⟩
  have hB_28 := Lib.hid (below_step hB_25.out hb)
  replace K_gh := Lib.hid (K_gh.out.below hb)
  replace K_gk := Lib.hid (K_gk.out.below hb)
  clear hb hB_25
  go_wp2
  go_ret
  exact ⟨rfl, hB_28.out⟩
end Go.Proofs.YtlopmcakfalkpaaDoor.Hx
