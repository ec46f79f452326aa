/- A timer's interrupt wakes. (By a program of this session.) -/
import Derived.Test.YtpbodidpcbodaaaDoorINext
import Derived.Test.YtpbodidpcbodaaaDoorCFix
import Derived.Test.YtpbodidpcbodaaaDoorCBase
set_option linter.unusedSimpArgs false
set_option linter.unusedVariables false
namespace Go.Proofs.YtpbodidpcbodaaaDoor.Hx
open Go.Proofs.YtpbodidpcbodaaaDoor.Bv Go.RowKit Go.Proofs.YtpbodidpcbodaaaDoor.Q Go.Proofs.YtpbodidpcbodaaaDoorW.PrintWords Go.Proofs.YtpbodidpcbodaaaDoorW.PrintLast Go.Proofs.YtpbodidpcbodaaaDoorW.PrintMore Go.Proofs.YtpbodidpcbodaaaDoor.Rg

def hz : Ht := (Ht.zero.set 33 1).set 41 128
theorem wk7 : nextO (fix hz) (asksV (fix hz) false true false false 0 0) = some 7 := by decide +kernel
theorem wk0 : nextO (fix hz) (asksV (fix hz) false false false false 0 0) = none := by decide +kernel
theorem trap7 : trapV (some 7) = #[.bool true, .int .u64 9223372036854775815, .int .u64 0, .int .u64 0, .int .u64 0, .bool false] := by kernel_rfl
theorem trap0 : trapV none = #[.bool false, .int .u64 0, .int .u64 0, .int .u64 0, .int .u64 0, .bool false] := rfl
set_option maxHeartbeats 16000000 in
set_option maxRecDepth 100000 in
theorem wakes_c (w : World) (hT : Tab w) (hZ : TabZ w) : Calls Tryd.prog 8 #[] w fun e w' => e = .returned (.bool true) ∧ Below w.heap.size w w' := by
  have hf := fix_c hz
  have h7 := next_c (fix hz) false true false false 0 0
  have h0 := next_c (fix hz) false false false false 0 0
  rw [wk7, trap7] at h7
  rw [wk0, trap0] at h0
  generalize fix hz = f at *
  have HF := Lib.hid hf; have H7 := Lib.hid h7; have H0 := Lib.hid h0; have HT := Lib.hid hT; have HZ := Lib.hid hZ
  clear hf h7 h0 hT hZ
  have hu25 := Tryd.underlying25
  go_enter Tryd.func8, Tryd.ntmps8
  go_wp2_with (first | ((with_reducible refine gate_dst (N := 2) rfl ?_); (first | (refine gate_guard (by kernel_rfl) ?_) | skip); refine Kd.event_run rfl (v := .agg hz.cs) (w1 := w) ?hb ?_; (case hb => kernel_rfl)))
  refine (HF.out _ HT.out).mono ?_
  rintro e_1 w_2 ⟨rfl, hb⟩
  have hB_3 := Lib.hid (below_step (Below.refl w.heap.size w) hb)
  clear hb
  go_wp2_with (first | ((with_reducible refine gate_dst (N := 1) rfl ?_); refine box_event ?hg (N := 1) ?hd (cs := Ht.zero.cs) (t := 25) ?hr ?_; (case hd => rfl); (case hg => rfl); (case hr => first | (go_simp; done) | (go_simp; rfl)); intro gh hg w_4 H1 hb; have hB_6 := Lib.hid (below_step hB_3.out hb); have G_gh := Lib.hid (show w.heap.size ≤ gh by rw [hg]; exact (hB_3.out).size); have K_gh := Lib.hid (show Hb w_4 gh Ht.zero from H1); clear hg hb H1 hB_3) | (refine store_hart rfl (.tmp 1) (.tmp 3) rfl gh f rfl rfl Ht.zero K_gh.out ?_; have hB_7 := Lib.hid (setCells_below G_gh.out (Ht.cs f).toList 0 _ hB_6.out); replace K_gh := Lib.hid (Hb.putAll f K_gh.out); clear hB_6; generalize World.setCells w_4 gh 0 (Ht.cs f).toList = w_5 at K_gh hB_7 ⊢) | ((with_reducible refine gate_dst (N := 4) rfl ?_); (first | (refine gate_guard (by kernel_rfl) ?_) | skip); refine Kd.event_run rfl (v := .agg (f).cs) (w1 := w_5) ?hb ?_; (case hb => exact exec_load_hart rfl rfl K_gh.out)) | ((with_reducible refine gate_dst (N := 5) rfl ?_); (first | (refine gate_guard (by kernel_rfl) ?_) | skip); refine Kd.event_run rfl (v := .agg #[.bool false, .bool true, .bool false, .bool false, .int .u64 0, .int .u64 0]) (w1 := w_5) ?hb ?_; (case hb => kernel_rfl)))
  refine (H7.out _ (TabZ.from HZ.out hB_7.out)).mono ?_
  rintro e_8 w_9 ⟨rfl, hb⟩
  have hB_10 := Lib.hid (below_step hB_7.out hb)
  replace K_gh := Lib.hid (K_gh.out.below hb)
  clear hb hB_7
  go_wp2_with (first | ((with_reducible refine gate_dst (N := 7) rfl ?_); (first | (refine gate_guard (by kernel_rfl) ?_) | skip); refine Kd.event_run rfl (v := .agg #[.bool true, .int .u64 9223372036854775815, .int .u64 0, .int .u64 0, .int .u64 0, .bool false]) (w1 := w_9) ?hb ?_; (case hb => kernel_rfl)) | ((with_reducible refine gate_dst (N := 8) rfl ?_); (first | (refine gate_guard (by kernel_rfl) ?_) | skip); refine Kd.event_run rfl (v := .bool true) (w1 := w_9) ?hb ?_; (case hb => kernel_rfl)) | ((with_reducible refine gate_dst (N := 10) rfl ?_); (first | (refine gate_guard (by kernel_rfl) ?_) | skip); refine Kd.event_run rfl (v := .agg (f).cs) (w1 := w_9) ?hb ?_; (case hb => exact exec_load_hart rfl rfl K_gh.out)) | ((with_reducible refine gate_dst (N := 11) rfl ?_); (first | (refine gate_guard (by kernel_rfl) ?_) | skip); refine Kd.event_run rfl (v := .agg #[.bool false, .bool false, .bool false, .bool false, .int .u64 0, .int .u64 0]) (w1 := w_9) ?hb ?_; (case hb => kernel_rfl)))
  refine (H0.out _ (TabZ.from HZ.out hB_10.out)).mono ?_
  rintro e_11 w_12 ⟨rfl, hb⟩
  have hB_13 := Lib.hid (below_step hB_10.out hb)
  replace K_gh := Lib.hid (K_gh.out.below hb)
  clear hb hB_10
  go_wp2_with (first | ((with_reducible refine gate_dst (N := 13) rfl ?_); (first | (refine gate_guard (by kernel_rfl) ?_) | skip); refine Kd.event_run rfl (v := .agg #[.bool false, .int .u64 0, .int .u64 0, .int .u64 0, .int .u64 0, .bool false]) (w1 := w_12) ?hb ?_; (case hb => kernel_rfl)) | ((with_reducible refine gate_dst (N := 14) rfl ?_); (first | (refine gate_guard (by kernel_rfl) ?_) | skip); refine Kd.event_run rfl (v := .bool true) (w1 := w_12) ?hb ?_; (case hb => kernel_rfl)))
  go_ret
  exact ⟨rfl, hB_13.out⟩
end Go.Proofs.YtpbodidpcbodaaaDoor.Hx
