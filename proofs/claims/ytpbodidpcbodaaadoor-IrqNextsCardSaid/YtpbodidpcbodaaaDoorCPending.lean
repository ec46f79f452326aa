/- Which interrupts are pending. (By a program of this session.) -/
import Derived.Test.YtpbodidpcbodaaaDoorCSmall
set_option linter.unusedSimpArgs false
set_option linter.unusedVariables false
namespace Go.Proofs.YtpbodidpcbodaaaDoor.Hx
open Go.RowKit Go.Proofs.YtpbodidpcbodaaaDoor.Q Go.Proofs.YtpbodidpcbodaaaDoorW.PrintWords Go.Proofs.YtpbodidpcbodaaaDoorW.PrintLast Go.Proofs.YtpbodidpcbodaaaDoorW.PrintMore Go.Proofs.YtpbodidpcbodaaaDoor.Rg

def pendTo (x : Int) (b : Nat → Bool) : Nat → Int
  | 0 => x
  | k + 1 => if b k = true then Go.bits .or .u64 (pendTo x b k) (match k with | 0 => 8 | 1 => 128 | 2 => 2048 | 3 => 512 | 4 => 1024 | _ => 4096) else pendTo x b k
def pendB (h : Ht) (la lb lc ld : Bool) (lg lt : Int) (k : Nat) : Bool := match k with
  | 0 => la | 1 => lb | 2 => lc | 3 => ld
  | 4 => if (Go.bits .and .u64 (h.x 58 / 4096) 1 == 1) = true then (Go.bits .and .u64 (lg / 2) 1 == 1) else false
  | _ => (Go.bits .and .u64 lg (h.x 63) != 0)
/-- Which interrupts are pending. -/
def pendV (h : Ht) (la lb lc ld : Bool) (lg lt : Int) : Int := pendTo (Go.bits .or .u64 (h.x 42) (h.x 61)) (pendB h la lb lc ld lg lt) 6

theorem idx_0 (a b c d e f : Bool) (W : World) : (Instr.index 47 (.agg #[.bool a, .int .i64 3, .bool b, .int .i64 7, .bool c, .int .i64 11, .bool d, .int .i64 9, .bool e, .int .i64 10, .bool f, .int .i64 12]) (.int .i64 0)).run Tryd.prog W = .ok (.agg #[.bool a, .int .i64 3]) W := by kernel_rfl
theorem idx_1 (a b c d e f : Bool) (W : World) : (Instr.index 47 (.agg #[.bool a, .int .i64 3, .bool b, .int .i64 7, .bool c, .int .i64 11, .bool d, .int .i64 9, .bool e, .int .i64 10, .bool f, .int .i64 12]) (.int .i64 1)).run Tryd.prog W = .ok (.agg #[.bool b, .int .i64 7]) W := by kernel_rfl
theorem idx_2 (a b c d e f : Bool) (W : World) : (Instr.index 47 (.agg #[.bool a, .int .i64 3, .bool b, .int .i64 7, .bool c, .int .i64 11, .bool d, .int .i64 9, .bool e, .int .i64 10, .bool f, .int .i64 12]) (.int .i64 2)).run Tryd.prog W = .ok (.agg #[.bool c, .int .i64 11]) W := by kernel_rfl
theorem idx_3 (a b c d e f : Bool) (W : World) : (Instr.index 47 (.agg #[.bool a, .int .i64 3, .bool b, .int .i64 7, .bool c, .int .i64 11, .bool d, .int .i64 9, .bool e, .int .i64 10, .bool f, .int .i64 12]) (.int .i64 3)).run Tryd.prog W = .ok (.agg #[.bool d, .int .i64 9]) W := by kernel_rfl
theorem idx_4 (a b c d e f : Bool) (W : World) : (Instr.index 47 (.agg #[.bool a, .int .i64 3, .bool b, .int .i64 7, .bool c, .int .i64 11, .bool d, .int .i64 9, .bool e, .int .i64 10, .bool f, .int .i64 12]) (.int .i64 4)).run Tryd.prog W = .ok (.agg #[.bool e, .int .i64 10]) W := by kernel_rfl
theorem idx_5 (a b c d e f : Bool) (W : World) : (Instr.index 47 (.agg #[.bool a, .int .i64 3, .bool b, .int .i64 7, .bool c, .int .i64 11, .bool d, .int .i64 9, .bool e, .int .i64 10, .bool f, .int .i64 12]) (.int .i64 5)).run Tryd.prog W = .ok (.agg #[.bool f, .int .i64 12]) W := by kernel_rfl
attribute [local go_sem] idx_0 idx_1 idx_2 idx_3 idx_4 idx_5
set_option maxHeartbeats 16000000 in
set_option maxRecDepth 100000 in
theorem pending_c (h : Ht) (la lb lc ld : Bool) (lg lt : Int) (w : World) : Calls Tryd.prog 14 #[.agg h.cs, .agg #[.bool la, .bool lb, .bool lc, .bool ld, .int .u64 lg, .int .u64 lt]] w fun e w' => e = .returned (.int .u64 (pendV h la lb lc ld lg lt)) ∧ Below w.heap.size w w' := by
  obtain ⟨B, hB⟩ : ∃ B, B = pendB h la lb lc ld lg lt := ⟨_, rfl⟩
  have e0 : B 0 = la := by rw [hB]; rfl
  have e1 : B 1 = lb := by rw [hB]; rfl
  have e2 : B 2 = lc := by rw [hB]; rfl
  have e3 : B 3 = ld := by rw [hB]; rfl
  have e4 : B 4 = (if (Go.bits .and .u64 (h.x 58 / 4096) 1 == 1) = true then (Go.bits .and .u64 (lg / 2) 1 == 1) else false) := by rw [hB]; rfl
  have e5 : B 5 = (Go.bits .and .u64 lg (h.x 63) != 0) := by rw [hB]; rfl
  obtain ⟨x0, hx0⟩ : ∃ x0, Go.bits .or .u64 (h.x 42) (h.x 61) = x0 := ⟨_, rfl⟩
  have hp : pendV h la lb lc ld lg lt = pendTo x0 B 6 := by rw [← hx0, hB]; rfl
  rw [hp]
  have E0 := Lib.hid e0; have E1 := Lib.hid e1; have E2 := Lib.hid e2; have E3 := Lib.hid e3; have E4 := Lib.hid e4; have E5 := Lib.hid e5
  clear hp hB e0 e1 e2 e3 e4 e5
  cases d4 : (Go.bits .and .u64 (h.x 58 / 4096) 1 == 1)
  · skip
    rw [d4] at E4; have EX := Lib.hid hx0
    have e4 : B 4 = false := E4.out.trans (by first | rfl | simp)
    clear E4; have E4 := Lib.hid e4; clear e4
    have hu25 := Tryd.underlying25
    have hu27 := Tryd.underlying27
    go_enter Tryd.func14, Tryd.ntmps14
    go_wp2_with (first | ((with_reducible refine gate_dst (N := 2) rfl ?_); refine box_event ?hg (N := 2) ?hd (cs := h.cs) (t := 25) ?hr ?_; (case hd => rfl); (case hg => rfl); (case hr => first | (go_simp; done) | (go_simp; rfl)); intro ga hg w_1 H1 hb; have hB_2 := Lib.hid (below_step (Below.refl w.heap.size w) hb); have G_ga := Lib.hid (show w.heap.size ≤ ga by rw [hg]; exact ((Below.refl w.heap.size w)).size); have K_ga := Lib.hid (show Hb w_1 ga h from H1); clear hg hb H1) | ((with_reducible refine gate_dst (N := 3) rfl ?_); refine box_event ?hg (N := 3) ?hd (cs := #[.bool la, .bool lb, .bool lc, .bool ld, .int .u64 lg, .int .u64 lt]) (t := 27) ?hr ?_; (case hd => rfl); (case hg => rfl); (case hr => first | (go_simp; done) | (go_simp; rfl)); intro gt hg w_3 H1 hb; have hB_4 := Lib.hid (below_step hB_2.out hb); have G_gt := Lib.hid (show w.heap.size ≤ gt by rw [hg]; exact (hB_2.out).size); have N_ga_gt := Lib.hid (show ga ≠ gt by rw [hg]; exact Nat.ne_of_lt (K_ga.out.lt)); replace K_ga := Lib.hid (K_ga.out.below hb); have K_gt := Lib.hid (show w_3.heap[gt]? = some (.cells #[.bool la, .bool lb, .bool lc, .bool ld, .int .u64 lg, .int .u64 lt] 27 (0, 0)) from H1); clear hg hb H1 hB_2; have c_ga_42 := K_ga.out.u 42 rfl; have f_ga_42 := K_ga.out.fr 42; have c_ga_58 := K_ga.out.u 58 rfl; have f_ga_58 := K_ga.out.fr 58; have c_ga_61 := K_ga.out.u 61 rfl; have f_ga_61 := K_ga.out.fr 61; have c_ga_63 := K_ga.out.u 63 rfl; have f_ga_63 := K_ga.out.fr 63; have c_gt_0 := (show World.cell? _ ⟨gt, 0, none⟩ = some (.bool la) from (blk_cell K_gt.out 0).trans rfl); have f_gt_0 := blk_frozen K_gt.out 0; have c_gt_1 := (show World.cell? _ ⟨gt, 1, none⟩ = some (.bool lb) from (blk_cell K_gt.out 1).trans rfl); have f_gt_1 := blk_frozen K_gt.out 1; have c_gt_2 := (show World.cell? _ ⟨gt, 2, none⟩ = some (.bool lc) from (blk_cell K_gt.out 2).trans rfl); have f_gt_2 := blk_frozen K_gt.out 2; have c_gt_3 := (show World.cell? _ ⟨gt, 3, none⟩ = some (.bool ld) from (blk_cell K_gt.out 3).trans rfl); have f_gt_3 := blk_frozen K_gt.out 3; have c_gt_4 := (show World.cell? _ ⟨gt, 4, none⟩ = some (.int .u64 lg) from (blk_cell K_gt.out 4).trans rfl); have f_gt_4 := blk_frozen K_gt.out 4; clear hu25 hu27))
    clear c_ga_42 f_ga_42 c_ga_58 f_ga_58 c_ga_61 f_ga_61 c_ga_63 f_ga_63 c_gt_0 f_gt_0 c_gt_1 f_gt_1 c_gt_2 f_gt_2 c_gt_3 f_gt_3 c_gt_4 f_gt_4
    go_loopw [46, 5] (fun v46 v5 wr => ∃ k : Int, 0 ≤ k ∧ k ≤ 6 ∧ v46 = .int .i64 k ∧ v5 = .int .u64 (pendTo x0 B k.toNat) ∧ Below w.heap.size w wr) (fun v46 _ _ => 6 - (intOf v46).toNat)
    case atStart => exact ⟨0, by decide, by decide, rfl, by first | rfl | (rw [EX.out]; rfl), hB_4.out⟩
    case round =>
      clear hx0
      obtain ⟨k, k0, k6, rfl, rfl, hb⟩ := hrel
      have HB := Lib.hid hb
      clear hb
      have hk : k = 0 ∨ k = 1 ∨ k = 2 ∨ k = 3 ∨ k = 4 ∨ k = 5 ∨ k = 6 := by omega
      clear k0 k6
      rcases hk with rfl | rfl | rfl | rfl | rfl | rfl | rfl
      · cases la
        · skip
          go_wp2
          go_roundw
          case rel => exact ⟨1, by decide, by decide, rfl, congrArg (Value.int .u64) (show _ = (if B 0 = true then Go.bits .or .u64 (pendTo x0 B 0) 8 else pendTo x0 B 0) from by rw [E0.out]; first | rfl | simp), by repeat (first | (with_reducible first | exact HB.out | apply below_alloc) | exact HB.out)⟩
          case measure => first | (simp [intOf]; done) | (simp [intOf]; omega)
        · skip
          go_wp2
          go_roundw
          case rel => exact ⟨1, by decide, by decide, rfl, congrArg (Value.int .u64) (show _ = (if B 0 = true then Go.bits .or .u64 (pendTo x0 B 0) 8 else pendTo x0 B 0) from by rw [E0.out]; first | rfl | simp), by repeat (first | (with_reducible first | exact HB.out | apply below_alloc) | exact HB.out)⟩
          case measure => first | (simp [intOf]; done) | (simp [intOf]; omega)
      · cases lb
        · skip
          go_wp2
          go_roundw
          case rel => exact ⟨2, by decide, by decide, rfl, congrArg (Value.int .u64) (show _ = (if B 1 = true then Go.bits .or .u64 (pendTo x0 B 1) 128 else pendTo x0 B 1) from by rw [E1.out]; first | rfl | simp), by repeat (first | (with_reducible first | exact HB.out | apply below_alloc) | exact HB.out)⟩
          case measure => first | (simp [intOf]; done) | (simp [intOf]; omega)
        · skip
          go_wp2
          go_roundw
          case rel => exact ⟨2, by decide, by decide, rfl, congrArg (Value.int .u64) (show _ = (if B 1 = true then Go.bits .or .u64 (pendTo x0 B 1) 128 else pendTo x0 B 1) from by rw [E1.out]; first | rfl | simp), by repeat (first | (with_reducible first | exact HB.out | apply below_alloc) | exact HB.out)⟩
          case measure => first | (simp [intOf]; done) | (simp [intOf]; omega)
      · cases lc
        · skip
          go_wp2
          go_roundw
          case rel => exact ⟨3, by decide, by decide, rfl, congrArg (Value.int .u64) (show _ = (if B 2 = true then Go.bits .or .u64 (pendTo x0 B 2) 2048 else pendTo x0 B 2) from by rw [E2.out]; first | rfl | simp), by repeat (first | (with_reducible first | exact HB.out | apply below_alloc) | exact HB.out)⟩
          case measure => first | (simp [intOf]; done) | (simp [intOf]; omega)
        · skip
          go_wp2
          go_roundw
          case rel => exact ⟨3, by decide, by decide, rfl, congrArg (Value.int .u64) (show _ = (if B 2 = true then Go.bits .or .u64 (pendTo x0 B 2) 2048 else pendTo x0 B 2) from by rw [E2.out]; first | rfl | simp), by repeat (first | (with_reducible first | exact HB.out | apply below_alloc) | exact HB.out)⟩
          case measure => first | (simp [intOf]; done) | (simp [intOf]; omega)
      · cases ld
        · skip
          go_wp2
          go_roundw
          case rel => exact ⟨4, by decide, by decide, rfl, congrArg (Value.int .u64) (show _ = (if B 3 = true then Go.bits .or .u64 (pendTo x0 B 3) 512 else pendTo x0 B 3) from by rw [E3.out]; first | rfl | simp), by repeat (first | (with_reducible first | exact HB.out | apply below_alloc) | exact HB.out)⟩
          case measure => first | (simp [intOf]; done) | (simp [intOf]; omega)
        · skip
          go_wp2
          go_roundw
          case rel => exact ⟨4, by decide, by decide, rfl, congrArg (Value.int .u64) (show _ = (if B 3 = true then Go.bits .or .u64 (pendTo x0 B 3) 512 else pendTo x0 B 3) from by rw [E3.out]; first | rfl | simp), by repeat (first | (with_reducible first | exact HB.out | apply below_alloc) | exact HB.out)⟩
          case measure => first | (simp [intOf]; done) | (simp [intOf]; omega)
      · skip
        go_wp2
        go_roundw
        case rel => exact ⟨5, by decide, by decide, rfl, congrArg (Value.int .u64) (show _ = (if B 4 = true then Go.bits .or .u64 (pendTo x0 B 4) 1024 else pendTo x0 B 4) from by rw [E4.out]; first | rfl | simp), by repeat (first | (with_reducible first | exact HB.out | apply below_alloc) | exact HB.out)⟩
        case measure => first | (simp [intOf]; done) | (simp [intOf]; omega)
      · cases d6 : (Go.bits .and .u64 lg (h.x 63) != 0)
        · rw [d6] at E5
          go_wp2
          go_roundw
          case rel => exact ⟨6, by decide, by decide, rfl, congrArg (Value.int .u64) (show _ = (if B 5 = true then Go.bits .or .u64 (pendTo x0 B 5) 4096 else pendTo x0 B 5) from by rw [E5.out]; first | rfl | simp), by repeat (first | (with_reducible first | exact HB.out | apply below_alloc) | exact HB.out)⟩
          case measure => first | (simp [intOf]; done) | (simp [intOf]; omega)
        · rw [d6] at E5
          go_wp2
          go_roundw
          case rel => exact ⟨6, by decide, by decide, rfl, congrArg (Value.int .u64) (show _ = (if B 5 = true then Go.bits .or .u64 (pendTo x0 B 5) 4096 else pendTo x0 B 5) from by rw [E5.out]; first | rfl | simp), by repeat (first | (with_reducible first | exact HB.out | apply below_alloc) | exact HB.out)⟩
          case measure => first | (simp [intOf]; done) | (simp [intOf]; omega)
      · go_wp2
        go_ret
        exact ⟨rfl, HB.out⟩
  · skip
    rw [d4] at E4; have EX := Lib.hid hx0
    have e4 : B 4 = (Go.bits .and .u64 (lg / 2) 1 == 1) := E4.out.trans (by first | rfl | simp)
    clear E4; have E4 := Lib.hid e4; clear e4
    have hu25 := Tryd.underlying25
    have hu27 := Tryd.underlying27
    go_enter Tryd.func14, Tryd.ntmps14
    go_wp2_with (first | ((with_reducible refine gate_dst (N := 2) rfl ?_); refine box_event ?hg (N := 2) ?hd (cs := h.cs) (t := 25) ?hr ?_; (case hd => rfl); (case hg => rfl); (case hr => first | (go_simp; done) | (go_simp; rfl)); intro ga hg w_1 H1 hb; have hB_2 := Lib.hid (below_step (Below.refl w.heap.size w) hb); have G_ga := Lib.hid (show w.heap.size ≤ ga by rw [hg]; exact ((Below.refl w.heap.size w)).size); have K_ga := Lib.hid (show Hb w_1 ga h from H1); clear hg hb H1) | ((with_reducible refine gate_dst (N := 3) rfl ?_); refine box_event ?hg (N := 3) ?hd (cs := #[.bool la, .bool lb, .bool lc, .bool ld, .int .u64 lg, .int .u64 lt]) (t := 27) ?hr ?_; (case hd => rfl); (case hg => rfl); (case hr => first | (go_simp; done) | (go_simp; rfl)); intro gt hg w_3 H1 hb; have hB_4 := Lib.hid (below_step hB_2.out hb); have G_gt := Lib.hid (show w.heap.size ≤ gt by rw [hg]; exact (hB_2.out).size); have N_ga_gt := Lib.hid (show ga ≠ gt by rw [hg]; exact Nat.ne_of_lt (K_ga.out.lt)); replace K_ga := Lib.hid (K_ga.out.below hb); have K_gt := Lib.hid (show w_3.heap[gt]? = some (.cells #[.bool la, .bool lb, .bool lc, .bool ld, .int .u64 lg, .int .u64 lt] 27 (0, 0)) from H1); clear hg hb H1 hB_2; have c_ga_42 := K_ga.out.u 42 rfl; have f_ga_42 := K_ga.out.fr 42; have c_ga_58 := K_ga.out.u 58 rfl; have f_ga_58 := K_ga.out.fr 58; have c_ga_61 := K_ga.out.u 61 rfl; have f_ga_61 := K_ga.out.fr 61; have c_ga_63 := K_ga.out.u 63 rfl; have f_ga_63 := K_ga.out.fr 63; have c_gt_0 := (show World.cell? _ ⟨gt, 0, none⟩ = some (.bool la) from (blk_cell K_gt.out 0).trans rfl); have f_gt_0 := blk_frozen K_gt.out 0; have c_gt_1 := (show World.cell? _ ⟨gt, 1, none⟩ = some (.bool lb) from (blk_cell K_gt.out 1).trans rfl); have f_gt_1 := blk_frozen K_gt.out 1; have c_gt_2 := (show World.cell? _ ⟨gt, 2, none⟩ = some (.bool lc) from (blk_cell K_gt.out 2).trans rfl); have f_gt_2 := blk_frozen K_gt.out 2; have c_gt_3 := (show World.cell? _ ⟨gt, 3, none⟩ = some (.bool ld) from (blk_cell K_gt.out 3).trans rfl); have f_gt_3 := blk_frozen K_gt.out 3; have c_gt_4 := (show World.cell? _ ⟨gt, 4, none⟩ = some (.int .u64 lg) from (blk_cell K_gt.out 4).trans rfl); have f_gt_4 := blk_frozen K_gt.out 4; clear hu25 hu27))
    clear c_ga_42 f_ga_42 c_ga_58 f_ga_58 c_ga_61 f_ga_61 c_ga_63 f_ga_63 c_gt_0 f_gt_0 c_gt_1 f_gt_1 c_gt_2 f_gt_2 c_gt_3 f_gt_3 c_gt_4 f_gt_4
    go_loopw [46, 5] (fun v46 v5 wr => ∃ k : Int, 0 ≤ k ∧ k ≤ 6 ∧ v46 = .int .i64 k ∧ v5 = .int .u64 (pendTo x0 B k.toNat) ∧ Below w.heap.size w wr) (fun v46 _ _ => 6 - (intOf v46).toNat)
    case atStart => exact ⟨0, by decide, by decide, rfl, by first | rfl | (rw [EX.out]; rfl), hB_4.out⟩
    case round =>
      clear hx0
      obtain ⟨k, k0, k6, rfl, rfl, hb⟩ := hrel
      have HB := Lib.hid hb
      clear hb
      have hk : k = 0 ∨ k = 1 ∨ k = 2 ∨ k = 3 ∨ k = 4 ∨ k = 5 ∨ k = 6 := by omega
      clear k0 k6
      rcases hk with rfl | rfl | rfl | rfl | rfl | rfl | rfl
      · cases la
        · skip
          go_wp2
          go_roundw
          case rel => exact ⟨1, by decide, by decide, rfl, congrArg (Value.int .u64) (show _ = (if B 0 = true then Go.bits .or .u64 (pendTo x0 B 0) 8 else pendTo x0 B 0) from by rw [E0.out]; first | rfl | simp), by repeat (first | (with_reducible first | exact HB.out | apply below_alloc) | exact HB.out)⟩
          case measure => first | (simp [intOf]; done) | (simp [intOf]; omega)
        · skip
          go_wp2
          go_roundw
          case rel => exact ⟨1, by decide, by decide, rfl, congrArg (Value.int .u64) (show _ = (if B 0 = true then Go.bits .or .u64 (pendTo x0 B 0) 8 else pendTo x0 B 0) from by rw [E0.out]; first | rfl | simp), by repeat (first | (with_reducible first | exact HB.out | apply below_alloc) | exact HB.out)⟩
          case measure => first | (simp [intOf]; done) | (simp [intOf]; omega)
      · cases lb
        · skip
          go_wp2
          go_roundw
          case rel => exact ⟨2, by decide, by decide, rfl, congrArg (Value.int .u64) (show _ = (if B 1 = true then Go.bits .or .u64 (pendTo x0 B 1) 128 else pendTo x0 B 1) from by rw [E1.out]; first | rfl | simp), by repeat (first | (with_reducible first | exact HB.out | apply below_alloc) | exact HB.out)⟩
          case measure => first | (simp [intOf]; done) | (simp [intOf]; omega)
        · skip
          go_wp2
          go_roundw
          case rel => exact ⟨2, by decide, by decide, rfl, congrArg (Value.int .u64) (show _ = (if B 1 = true then Go.bits .or .u64 (pendTo x0 B 1) 128 else pendTo x0 B 1) from by rw [E1.out]; first | rfl | simp), by repeat (first | (with_reducible first | exact HB.out | apply below_alloc) | exact HB.out)⟩
          case measure => first | (simp [intOf]; done) | (simp [intOf]; omega)
      · cases lc
        · skip
          go_wp2
          go_roundw
          case rel => exact ⟨3, by decide, by decide, rfl, congrArg (Value.int .u64) (show _ = (if B 2 = true then Go.bits .or .u64 (pendTo x0 B 2) 2048 else pendTo x0 B 2) from by rw [E2.out]; first | rfl | simp), by repeat (first | (with_reducible first | exact HB.out | apply below_alloc) | exact HB.out)⟩
          case measure => first | (simp [intOf]; done) | (simp [intOf]; omega)
        · skip
          go_wp2
          go_roundw
          case rel => exact ⟨3, by decide, by decide, rfl, congrArg (Value.int .u64) (show _ = (if B 2 = true then Go.bits .or .u64 (pendTo x0 B 2) 2048 else pendTo x0 B 2) from by rw [E2.out]; first | rfl | simp), by repeat (first | (with_reducible first | exact HB.out | apply below_alloc) | exact HB.out)⟩
          case measure => first | (simp [intOf]; done) | (simp [intOf]; omega)
      · cases ld
        · skip
          go_wp2
          go_roundw
          case rel => exact ⟨4, by decide, by decide, rfl, congrArg (Value.int .u64) (show _ = (if B 3 = true then Go.bits .or .u64 (pendTo x0 B 3) 512 else pendTo x0 B 3) from by rw [E3.out]; first | rfl | simp), by repeat (first | (with_reducible first | exact HB.out | apply below_alloc) | exact HB.out)⟩
          case measure => first | (simp [intOf]; done) | (simp [intOf]; omega)
        · skip
          go_wp2
          go_roundw
          case rel => exact ⟨4, by decide, by decide, rfl, congrArg (Value.int .u64) (show _ = (if B 3 = true then Go.bits .or .u64 (pendTo x0 B 3) 512 else pendTo x0 B 3) from by rw [E3.out]; first | rfl | simp), by repeat (first | (with_reducible first | exact HB.out | apply below_alloc) | exact HB.out)⟩
          case measure => first | (simp [intOf]; done) | (simp [intOf]; omega)
      · cases d5 : (Go.bits .and .u64 (lg / 2) 1 == 1)
        · rw [d5] at E4
          go_wp2
          go_roundw
          case rel => exact ⟨5, by decide, by decide, rfl, congrArg (Value.int .u64) (show _ = (if B 4 = true then Go.bits .or .u64 (pendTo x0 B 4) 1024 else pendTo x0 B 4) from by rw [E4.out]; first | rfl | simp), by repeat (first | (with_reducible first | exact HB.out | apply below_alloc) | exact HB.out)⟩
          case measure => first | (simp [intOf]; done) | (simp [intOf]; omega)
        · rw [d5] at E4
          go_wp2
          go_roundw
          case rel => exact ⟨5, by decide, by decide, rfl, congrArg (Value.int .u64) (show _ = (if B 4 = true then Go.bits .or .u64 (pendTo x0 B 4) 1024 else pendTo x0 B 4) from by rw [E4.out]; first | rfl | simp), by repeat (first | (with_reducible first | exact HB.out | apply below_alloc) | exact HB.out)⟩
          case measure => first | (simp [intOf]; done) | (simp [intOf]; omega)
      · cases d6 : (Go.bits .and .u64 lg (h.x 63) != 0)
        · rw [d6] at E5
          go_wp2
          go_roundw
          case rel => exact ⟨6, by decide, by decide, rfl, congrArg (Value.int .u64) (show _ = (if B 5 = true then Go.bits .or .u64 (pendTo x0 B 5) 4096 else pendTo x0 B 5) from by rw [E5.out]; first | rfl | simp), by repeat (first | (with_reducible first | exact HB.out | apply below_alloc) | exact HB.out)⟩
          case measure => first | (simp [intOf]; done) | (simp [intOf]; omega)
        · rw [d6] at E5
          go_wp2
          go_roundw
          case rel => exact ⟨6, by decide, by decide, rfl, congrArg (Value.int .u64) (show _ = (if B 5 = true then Go.bits .or .u64 (pendTo x0 B 5) 4096 else pendTo x0 B 5) from by rw [E5.out]; first | rfl | simp), by repeat (first | (with_reducible first | exact HB.out | apply below_alloc) | exact HB.out)⟩
          case measure => first | (simp [intOf]; done) | (simp [intOf]; omega)
      · go_wp2
        go_ret
        exact ⟨rfl, HB.out⟩
end Go.Proofs.YtpbodidpcbodaaaDoor.Hx
