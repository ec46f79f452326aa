/- An interrupt, and the way back: chapter 14's wakes. (Walked; by a program of this session.) -/
import Derived.Test.YtfehchhmghpfpaaDoorHOne
import Derived.Test.YtfehchhmghpfpaaDoorHEnter
set_option linter.unusedSimpArgs false
set_option linter.unusedVariables false
namespace Go.Proofs.YtfehchhmghpfpaaDoor.Hx
open Go.RowKit Go.Proofs.YtfehchhmghpfpaaDoor.Q Go.Proofs.YtfehchhmghpfpaaDoorW.PrintWords Go.Proofs.YtfehchhmghpfpaaDoorW.PrintLast Go.Proofs.YtfehchhmghpfpaaDoorW.PrintMore Go.Proofs.YtfehchhmghpfpaaDoor.Rg

/-- The hart of the wakes. -/
def wk : Ht := ⟨fun i => bif Nat.beq i 0 then 256 else bif Nat.beq i 43 then 2049 else bif Nat.beq i 38 then 8 else 0, false, false, false⟩
theorem wk_lit : wk.cs = #[.int .u64 256, .int .u64 0, .int .u64 0, .int .u64 0, .int .u64 0, .int .u64 0, .int .u64 0, .int .u64 0, .int .u64 0, .int .u64 0, .int .u64 0, .int .u64 0, .int .u64 0, .int .u64 0, .int .u64 0, .int .u64 0, .int .u64 0, .int .u64 0, .int .u64 0, .int .u64 0, .int .u64 0, .int .u64 0, .int .u64 0, .int .u64 0, .int .u64 0, .int .u64 0, .int .u64 0, .int .u64 0, .int .u64 0, .int .u64 0, .int .u64 0, .int .u64 0, .int .u64 0, .int .u8 0, .bool false, .bool false, .bool false, .int .u64 0, .int .u64 8, .int .u64 0, .int .u64 0, .int .u64 0, .int .u64 0, .int .u64 2049, .int .u64 0, .int .u64 0, .int .u64 0, .int .u64 0, .int .u64 0, .int .u64 0, .int .u64 0, .int .u64 0, .int .u64 0, .int .u64 0, .int .u64 0, .int .u64 0, .int .u64 0, .int .u64 0, .int .u64 0, .int .u64 0, .int .u64 0, .int .u64 0, .int .u64 0, .int .u64 0, .int .u64 0, .int .u64 0, .int .u64 0, .int .u64 0, .int .u64 0, .int .u64 0, .int .u64 0, .int .u64 0, .int .u64 0, .int .u64 0, .int .u64 0, .int .u64 0, .int .u64 0] := by kernel_rfl
theorem wk_enter : ((enter wk true 9223372036854775815 0 0 0 false).x 0 == 2076) = true ∧ ((enter wk true 9223372036854775815 0 0 0 false).x 33 == 3) = true ∧ ((enter wk true 9223372036854775815 0 0 0 false).x 46 == 256) = true ∧ ((enter wk true 9223372036854775815 0 0 0 false).x 38 == 128) = true := by decide +kernel
theorem wk_mret : ((mret (enter wk true 9223372036854775815 0 0 0 false)).x 0 == 256) = true ∧ ((mret (enter wk true 9223372036854775815 0 0 0 false)).x 33 == 0) = true ∧ ((mret (enter wk true 9223372036854775815 0 0 0 false)).x 38 == 136) = true := by decide +kernel
set_option maxHeartbeats 16000000 in
set_option maxRecDepth 100000 in
theorem wakes_c (w : World) : Calls Tryd.prog 10 #[] w fun e w' => e = .returned (.bool true) ∧ Below w.heap.size w w' := by
  obtain ⟨a0, a1, a2, a3⟩ := wk_enter
  obtain ⟨b0, b1, b2⟩ := wk_mret
  have he := enter_c wk true 9223372036854775815 0 0 0 false (by decide) (by decide)
  generalize enter wk true 9223372036854775815 0 0 0 false = k at *
  have hm := mret_c k
  generalize mret k = l at *
  have HE := Lib.hid he; have HM := Lib.hid hm
  clear he hm
  have hu25 := Tryd.underlying25
  go_enter Tryd.func10, Tryd.ntmps10
  go_upto_region 2 with (first | ((with_reducible refine gate_dst (N := 4) rfl ?_); refine Kd.event_run rfl (v := .agg wk.cs) (w1 := w) ?hb ?_; (case hb => kernel_rfl)) | ((with_reducible refine gate_dst (N := 1) rfl ?_); refine box_event ?hg (N := 1) ?hd (cs := Ht.zero.cs) (t := 25) ?hr ?_; (case hd => rfl); (case hg => rfl); (case hr => first | (go_simp; done) | (go_simp; rfl)); intro gh hg w_1 H1 hb; have hB_3 := Lib.hid (below_step (Below.refl w.heap.size w) hb); have G_gh := Lib.hid (show w.heap.size ≤ gh by rw [hg]; exact ((Below.refl w.heap.size w)).size); have K_gh := Lib.hid (show Hb w_1 gh Ht.zero from H1); clear hg hb H1) | (refine store_hart rfl (.tmp 1) (.tmp 4) rfl gh wk rfl rfl Ht.zero K_gh.out ?_; have hB_4 := Lib.hid (setCells_below G_gh.out (Ht.cs wk).toList 0 _ hB_3.out); replace K_gh := Lib.hid (Hb.putAll wk K_gh.out); clear hB_3; generalize World.setCells w_1 gh 0 (Ht.cs wk).toList = w_2 at K_gh hB_4 ⊢))
  refine wp_region_list ?_
  refine load_hart (h := wk) rfl (.tmp 1) rfl gh rfl K_gh.out ?_
  go_wp2_with fail
  refine (HE.out _).mono ?_
  rintro e_5 w_6 ⟨rfl, hb⟩
  have hB_7 := Lib.hid (below_step hB_4.out hb)
  replace K_gh := Lib.hid (K_gh.out.below hb)
  clear hb hB_4
  go_upto_region 3 with (first | ((with_reducible refine gate_dst (N := 2) rfl ?_); refine box_event ?hg (N := 2) ?hd (cs := Ht.zero.cs) (t := 25) ?hr ?_; (case hd => rfl); (case hg => rfl); (case hr => first | (go_simp; done) | (go_simp; rfl)); intro gk hg w_8 H1 hb; have hB_10 := Lib.hid (below_step hB_7.out hb); have G_gk := Lib.hid (show w.heap.size ≤ gk by rw [hg]; exact (hB_7.out).size); have N_gh_gk := Lib.hid (show gh ≠ gk by rw [hg]; exact Nat.ne_of_lt (K_gh.out.lt)); replace K_gh := Lib.hid (K_gh.out.below hb); have K_gk := Lib.hid (show Hb w_8 gk Ht.zero from H1); clear hg hb H1 hB_7) | (refine store_hart rfl (.tmp 2) (.tmp 7) rfl gk k rfl rfl Ht.zero K_gk.out ?_; have hB_11 := Lib.hid (setCells_below G_gk.out (Ht.cs k).toList 0 _ hB_10.out); replace K_gh := Lib.hid (Hb.farAll (vs := (Ht.cs k).toList) (o := 0) N_gh_gk.out K_gh.out); replace K_gk := Lib.hid (Hb.putAll k K_gk.out); clear hB_10; generalize World.setCells w_8 gk 0 (Ht.cs k).toList = w_9 at K_gh K_gk hB_11 ⊢))
  refine wp_region_list ?_
  refine load_hart (h := k) rfl (.tmp 2) rfl gk rfl K_gk.out ?_
  go_wp2_with fail
  refine (HM.out _).mono ?_
  rintro e_12 w_13 ⟨rfl, hb⟩
  have hB_14 := Lib.hid (below_step hB_11.out hb)
  replace K_gh := Lib.hid (K_gh.out.below hb)
  replace K_gk := Lib.hid (K_gk.out.below hb)
  clear hb hB_11
  go_wp2_with (first | ((with_reducible refine gate_dst (N := 3) rfl ?_); refine box_event ?hg (N := 3) ?hd (cs := Ht.zero.cs) (t := 25) ?hr ?_; (case hd => rfl); (case hg => rfl); (case hr => first | (go_simp; done) | (go_simp; rfl)); intro gl hg w_15 H1 hb; have hB_17 := Lib.hid (below_step hB_14.out hb); have G_gl := Lib.hid (show w.heap.size ≤ gl by rw [hg]; exact (hB_14.out).size); have N_gh_gl := Lib.hid (show gh ≠ gl by rw [hg]; exact Nat.ne_of_lt (K_gh.out.lt)); have N_gk_gl := Lib.hid (show gk ≠ gl by rw [hg]; exact Nat.ne_of_lt (K_gk.out.lt)); replace K_gh := Lib.hid (K_gh.out.below hb); replace K_gk := Lib.hid (K_gk.out.below hb); have K_gl := Lib.hid (show Hb w_15 gl Ht.zero from H1); clear hg hb H1 hB_14) | (refine store_hart rfl (.tmp 3) (.tmp 9) rfl gl l rfl rfl Ht.zero K_gl.out ?_; have hB_18 := Lib.hid (setCells_below G_gl.out (Ht.cs l).toList 0 _ hB_17.out); replace K_gh := Lib.hid (Hb.farAll (vs := (Ht.cs l).toList) (o := 0) N_gh_gl.out K_gh.out); replace K_gk := Lib.hid (Hb.farAll (vs := (Ht.cs l).toList) (o := 0) N_gk_gl.out K_gk.out); replace K_gl := Lib.hid (Hb.putAll l K_gl.out); clear hB_17; generalize World.setCells w_15 gl 0 (Ht.cs l).toList = w_16 at K_gh K_gk K_gl hB_18 ⊢; have c_gk_0 := K_gk.out.u 0 rfl; have f_gk_0 := K_gk.out.fr 0; have c_gk_33 := K_gk.out.p; have f_gk_33 := K_gk.out.fr 33; have c_gk_46 := K_gk.out.u 46 rfl; have f_gk_46 := K_gk.out.fr 46; have c_gk_38 := K_gk.out.u 38 rfl; have f_gk_38 := K_gk.out.fr 38; have c_gl_0 := K_gl.out.u 0 rfl; have f_gl_0 := K_gl.out.fr 0; have c_gl_33 := K_gl.out.p; have f_gl_33 := K_gl.out.fr 33; have c_gl_38 := K_gl.out.u 38 rfl; have f_gl_38 := K_gl.out.fr 38))
  go_ret
  exact ⟨rfl, hB_18.out⟩
end Go.Proofs.YtfehchhmghpfpaaDoor.Hx
