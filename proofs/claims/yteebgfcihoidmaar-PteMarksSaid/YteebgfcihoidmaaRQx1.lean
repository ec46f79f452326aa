/- Where the Lean function of a Go function gives a value, the Go call returns that value and changes nothing that was there: for every input. (By a program of this session, and by hand.) -/
import Derived.Test.YteebgfcihoidmaaRQx0
namespace Go.Proofs.YteebgfcihoidmaaR.Q
open Go.RowKit Go.Proofs.YteebgfcihoidmaaRW.PrintWords Go.Proofs.YteebgfcihoidmaaRW.PrintLast Go.Proofs.YteebgfcihoidmaaRW.PrintMore
attribute [local go_sem] max2_int min2_int max_two min_two max_three min_three max_four min_four   -- for this text's walks alone
set_option linter.unusedVariables false
set_option linter.unusedSimpArgs false

/-! ### mezzanineref01_Split: by hand -/
section
open Go.Proofs.YteebgfcihoidmaaR.Bv
theorem mezzanineref01_Split.zero : (Try.prog.info? 41).map (fun i => (i.zero, i.size)) = some (some (.agg (bArr fun _ => false)), 64) := by kernel_rfl
set_option maxHeartbeats 4000000 in
set_option maxRecDepth 100000 in
theorem mezzanineref01_Split.calls (x : BitVec 64) (w : World) : Calls Try.prog 27 #[.int .u64 (U x)] w fun e w' => e = .returned (.agg (wArr x)) ∧ Below w.heap.size w w' := by
  obtain ⟨hz, hi⟩ := zero_of_info mezzanineref01_Split.zero
  have HI := Lib.hid hi
  clear hi
  go_enter Try.func27, Try.ntmps27
  go_wp2
  go_loopw [0, 4] (fun v0 v4 wr => ∃ k : Nat, k ≤ 64 ∧ v4 = .int .i64 k ∧ v0 = .int .u64 (U (x >>> k)) ∧ wr = (w.alloc (.cells (bArr fun _ => false) 41)).alloc (.cells (bArr fun i => decide (i < k) && x.getLsbD i) 41)) (fun _ v4 _ => 64 - (intOf v4).toNat)
  case atStart => exact ⟨0, by omega, rfl, by simp, by simp⟩
  case round =>
    obtain ⟨k, hk, rfl, rfl, rfl⟩ := hrel
    by_cases hlt : k < 64
    · have hg : (bArr fun i => decide (i < k) && x.getLsbD i)[k]? = some (.bool false) := by rw [bArr_get _ k hlt]; simp
      have hb := U_range (x >>> k)
      go_wp2
      go_roundw
      case rel => exact ⟨k + 1, by omega, by go_num, by rw [U_half, shr_succ], by rw [bArr_set, split_step]⟩
      case measure => first | (simp [intOf]; done) | (simp [intOf]; omega)
    · obtain rfl : k = 64 := by omega
      have hi := HI.out
      have e : (bArr fun i => decide (i < 64) && x.getLsbD i) = wArr x := bArr_congr fun i h => by simp [h, bitOf]
      go_wp2_with (first | (refine wpList_load_row rfl 41 _ rfl (w.heap.size + 1) rfl 41 (bArr fun i => decide (i < 64) && x.getLsbD i) (0, 0) _ (heap_alloc2_new _ _ _) Try.underlying41 rfl (by rw [bArr_size]; exact hi) ?_) | (refine wpList_store_row rfl 41 _ _ rfl w.heap.size (bArr fun i => decide (i < 64) && x.getLsbD i) rfl rfl 41 (bArr fun _ => false) (heap_alloc2_old _ _ _) (by rw [bArr_size]; exact hi) (by rw [bArr_size, bArr_size]) (bArr_one _) ?_))
      refine bodyPost_ret (results_cell_row rfl _ _ w.heap.size 41 (bArr fun i => decide (i < 64) && x.getLsbD i) (0, 0) _ rfl (setRow_heap _ _ _ _ _ _ (heap_alloc2_old _ _ _)) Try.underlying41 rfl (by rw [bArr_size]; exact hi)) rfl ⟨by rw [e], ?_⟩
      exact below_setRow (((Below.refl _ _).alloc (Nat.le_refl _) _).alloc (by simp) _) (Nat.le_refl _) _
end

/-! ### mezzanineref01_in: function 34 -/
def mezzanineref01_in.f (a0 : Int) (a1 : Int) (a2 : Int) : Option (Bool) := if a1 ≥ 0 then (if a1 < 64 then (if a0 ≥ a1 then (some (decide ((wrap64 (a0 - a1)) < a2))) else (some false)) else (some false)) else (some false)
set_option maxHeartbeats 8000000 in
set_option maxRecDepth 100000 in
theorem mezzanineref01_in.calls (a0 : Int) (a1 : Int) (a2 : Int) (r : Bool) (w : World) (h : mezzanineref01_in.f a0 a1 a2 = some r) :
    Calls Try.prog 34 #[.int .i64 a0, .int .i64 a1, .int .i64 a2] w fun e w' => e = .returned (.bool r) ∧ Drawn0 w w' := by
  have H : (if a1 ≥ 0 then (if a1 < 64 then (if a0 ≥ a1 then (some (decide ((wrap64 (a0 - a1)) < a2))) else (some false)) else (some false)) else (some false)) = some r := h
  clear h
  by_cases c4 : a1 ≥ 0
  · rw [if_pos c4] at H
    have c4b0 : decide (0 ≤ a1) = true := decide_eq_true c4
    clear c4
    by_cases c5 : a1 < 64
    · rw [if_pos c5] at H
      have c5b0 : decide (a1 < 64) = true := decide_eq_true c5
      clear c5
      by_cases c6 : a0 ≥ a1
      · rw [if_pos c6] at H
        have c6b0 : decide (a1 ≤ a0) = true := decide_eq_true c6
        clear c6
        obtain rfl := Option.some.inj H
        go_enter Try.func34, Try.ntmps34
        go_wp2
        go_ret
        exact ⟨by first | rfl | (simp; done) | (simp [*]; done), by repeat (first | exact Drawn0.refl _ | apply Drawn0.step)⟩
      · rw [if_neg c6] at H
        have c6b0 : decide (a1 ≤ a0) = false := decide_eq_false c6
        clear c6
        obtain rfl := Option.some.inj H
        go_enter Try.func34, Try.ntmps34
        go_wp2
        go_ret
        exact ⟨by first | rfl | (simp; done) | (simp [*]; done), by repeat (first | exact Drawn0.refl _ | apply Drawn0.step)⟩
    · rw [if_neg c5] at H
      have c5b0 : decide (a1 < 64) = false := decide_eq_false c5
      clear c5
      obtain rfl := Option.some.inj H
      go_enter Try.func34, Try.ntmps34
      go_wp2
      go_ret
      exact ⟨by first | rfl | (simp; done) | (simp [*]; done), by repeat (first | exact Drawn0.refl _ | apply Drawn0.step)⟩
  · rw [if_neg c4] at H
    have c4b0 : decide (0 ≤ a1) = false := decide_eq_false c4
    clear c4
    obtain rfl := Option.some.inj H
    go_enter Try.func34, Try.ntmps34
    go_wp2
    go_ret
    exact ⟨by first | rfl | (simp; done) | (simp [*]; done), by repeat (first | exact Drawn0.refl _ | apply Drawn0.step)⟩

/-! ### mezzanineref01_Join: by hand -/
section
open Go.Proofs.YteebgfcihoidmaaR.Bv
set_option maxHeartbeats 4000000 in
set_option maxRecDepth 100000 in
theorem mezzanineref01_Join.callsW (x : BitVec 64) (w : World) : Calls Try.prog 35 #[.agg (wArr x)] w fun e w' => e = .returned (.int .u64 (U x)) ∧ Below w.heap.size w w' := by
  obtain ⟨c, hc⟩ : ∃ c, c = wArr x := ⟨_, rfl⟩
  have hcell : ∀ k, k < 64 → c[k]? = some (.bool (x.getLsbD k)) := fun k h => by rw [hc]; exact bArr_get _ k h
  rw [← hc]
  clear hc
  have HC := Lib.hid hcell
  clear hcell
  go_enter Try.func35, Try.ntmps35
  go_wp2
  go_loop [3, 4] (fun v3 v4 => ∃ k : Nat, k ≤ 64 ∧ v4 = .int .i64 ((k : Int) - 1) ∧ v3 = .int .u64 (U (x >>> k))) (fun _ v4 => (intOf v4 + 1).toNat)
  case atStart => exact ⟨64, by omega, rfl, by rw [show x >>> 64 = 0#64 from BitVec.eq_of_getLsbD_eq fun i hi => by rw [BitVec.getLsbD_ushiftRight, BitVec.getLsbD_of_ge _ _ (by omega)]; simp]; rfl⟩
  case round =>
    obtain ⟨k, hk, rfl, rfl⟩ := hrel
    by_cases hlt : k = 0
    · subst hlt
      go_wp2
      go_ret
      exact ⟨by simp, (Below.refl _ _).alloc (Nat.le_refl _) _⟩
    · obtain ⟨j, rfl⟩ : ∃ j, k = j + 1 := ⟨k - 1, by omega⟩
      have hg := HC.out j (by omega)
      have hj := join_step x j (by omega)
      have e1 : ((j + 1 : Nat) : Int) - 1 = (j : Int) := by omega
      rw [e1]
      have HJ := Lib.hid hj
      clear hj e1
      cases hb : x.getLsbD j
      · rw [hb] at hg
        have h2 := join_off x j hb
        clear hb
        go_wp2
        go_round
        case rel => exact ⟨j, by omega, rfl, by rw [HJ.out, h2]⟩
        case measure => first | (simp [intOf]; done) | (simp [intOf]; omega)
      · rw [hb] at hg
        have h2 := join_on x j hb
        clear hb
        go_wp2
        go_round
        case rel => exact ⟨j, by omega, rfl, by rw [HJ.out, join_one, h2]⟩
        case measure => first | (simp [intOf]; done) | (simp [intOf]; omega)
theorem mezzanineref01_Join.calls (b : Nat → Bool) (w : World) : Calls Try.prog 35 #[.agg (bArr b)] w fun e w' => e = .returned (.int .u64 (U (ofB b))) ∧ Below w.heap.size w w' := by
  rw [← wArr_ofB]; exact mezzanineref01_Join.callsW _ _
end

/-! ### mezzanineref01_Field: by hand -/
section
open Go.Proofs.YteebgfcihoidmaaR.Bv
def mezzanineref01_Field.St (x : BitVec 64) (lo n : Int) (k j : Nat) : Bool := decide (0 ≤ lo ∧ lo < 64 ∧ (j : Int) < n ∧ lo.toNat + j < k) && bitOf x (lo.toNat + j)
def mezzanineref01_Field.B (x : BitVec 64) (lo n : Int) : BitVec 64 := ofB (mezzanineref01_Field.St x lo n 64)
def mezzanineref01_Field.f (a0 : Int) (a1 : Int) (a2 : Int) : Option (Int) := if 0 ≤ a0 ∧ a0 < 18446744073709551616 then some (U (mezzanineref01_Field.B (BitVec.ofInt 64 a0) a1 a2)) else none
theorem mezzanineref01_in.yes (k : Nat) (lo n : Int) (hk : k < 64) (h : 0 ≤ lo ∧ lo < 64 ∧ lo ≤ k ∧ (k : Int) - lo < n) : mezzanineref01_in.f (k : Int) lo n = some true := by
  obtain ⟨h1, h2, h3, h4⟩ := h
  unfold mezzanineref01_in.f
  have e : wrap64 ((k : Int) - lo) = (k : Int) - lo := by unfold wrap64; omega
  simp [h1, h2, h3, e, h4]
theorem mezzanineref01_in.no (k : Nat) (lo n : Int) (hk : k < 64) (h : ¬ (0 ≤ lo ∧ lo < 64 ∧ lo ≤ k ∧ (k : Int) - lo < n)) : mezzanineref01_in.f (k : Int) lo n = some false := by
  unfold mezzanineref01_in.f
  by_cases h1 : 0 ≤ lo
  · by_cases h2 : lo < 64
    · by_cases h3 : lo ≤ k
      · have e : wrap64 ((k : Int) - lo) = (k : Int) - lo := by unfold wrap64; omega
        have h4 : ¬ (k : Int) - lo < n := fun h4 => h ⟨h1, h2, h3, h4⟩
        simp [h1, h2, h3, e, h4]
      · simp [h1, h2, h3]
    · simp [h1, h2]
  · simp [h1]
set_option maxHeartbeats 4000000 in
set_option maxRecDepth 100000 in
theorem mezzanineref01_Field.callsB (x : BitVec 64) (lo n : Int) (w : World) :
    Calls Try.prog 28 #[.int .u64 (U x), .int .i64 lo, .int .i64 n] w fun e w' => e = .returned (.int .u64 (U (mezzanineref01_Field.B x lo n))) ∧ Below w.heap.size w w' := by
  obtain ⟨hz, hi⟩ := zero_of_info mezzanineref01_Split.zero
  have HI := Lib.hid hi
  clear hi
  unfold mezzanineref01_Field.B
  go_enter Try.func28, Try.ntmps28
  go_wp2_with fail
  refine (mezzanineref01_Split.calls x _).mono ?_
  rintro e1 w1 ⟨rfl, hb1⟩
  go_wp2_with (refine wpList_store_row rfl 41 _ _ rfl w1.heap.size (wArr x) rfl rfl 41 (bArr fun _ => false) (heap_alloc_last _ _) (by rw [show (wArr x).size = 64 from bArr_size _]; exact HI.out) (by rw [bArr_size, show (wArr x).size = 64 from bArr_size _]) (bArr_one _) ?_)
  try simp only [blk_stored]
  have hS := hb1.size
  have hW1 := heap_alloc2_new w1 (.cells (wArr x) 41) (.cells (bArr fun _ => false) 41)
  have hW0 := heap_alloc2_old w1 (.cells (wArr x) 41) (.cells (bArr fun _ => false) 41)
  have hB : Below w.heap.size w ((w1.alloc (.cells (wArr x) 41)).alloc (.cells (bArr fun _ => false) 41)) := (hb1.alloc hb1.size _).alloc (by simp; omega) _
  have hS' : w.heap.size ≤ w1.heap.size + 1 := by omega
  have hne : w1.heap.size ≠ w1.heap.size + 1 := by omega
  generalize (w1.alloc (.cells (wArr x) 41)).alloc (.cells (bArr fun _ => false) 41) = W0 at hW0 hW1 hB ⊢
  generalize w1.heap.size + 1 = g at hW1 hS' hne ⊢
  generalize w1.heap.size = ga at hW0 hS hne ⊢
  clear hb1
  go_loopw [9] (fun v9 wr => ∃ k : Nat, k ≤ 64 ∧ v9 = .int .i64 k ∧ wr.heap[g]? = some (.cells (bArr (mezzanineref01_Field.St x lo n k)) 41 (0, 0)) ∧ wr.heap[ga]? = some (.cells (wArr x) 41 (0, 0)) ∧ Below w.heap.size w wr) (fun v9 _ => 64 - (intOf v9).toNat)
  case atStart => exact ⟨0, by omega, rfl, by rw [hW1]; congr 2; apply bArr_congr; intro i hi; simp [mezzanineref01_Field.St], hW0, hB⟩
  case round =>
    clear hW1 hW0 hB
    obtain ⟨k, hk, rfl, hW, hA, hB⟩ := hrel
    by_cases hlt : k < 64
    · have HW := Lib.hid hW
      have HA := Lib.hid hA
      have HB := Lib.hid hB
      clear hW hA hB
      by_cases hin : 0 ≤ lo ∧ lo < 64 ∧ lo ≤ k ∧ (k : Int) - lo < n
      · have hy := mezzanineref01_in.yes k lo n hlt hin
        obtain ⟨l, rfl⟩ : ∃ l : Nat, lo = (l : Int) := ⟨lo.toNat, by omega⟩
        have hl : l ≤ k := by omega
        have HY := Lib.hid hy
        clear hy
        go_wp2_with fail
        refine (mezzanineref01_in.calls _ _ _ true _ HY.out).mono ?_
        rintro e2 w2 ⟨rfl, hd2⟩
        have hb2 := hd2.below
        have hW := blk_below hb2 HW.out
        have hA := blk_below hb2 HA.out
        have hB := below_then HB.out (below_size HB.out) hb2
        have c1 := blk_cell (k := k) hA (bArr_get _ k hlt)
        have c2 := blk_cell (k := k - l) hW (bArr_get _ (k - l) (by omega))
        have f2 := blk_free (k := k - l) hW
        have hW2 := blk_set (k := k - l) (bitOf x k) hW
        have hA2 := blk_other (k := k - l) (.bool (bitOf x k)) hne hA
        have hB2 := hB.setCell (p := ⟨g, k - l, none⟩) hS' (.bool (bitOf x k))
        have HW2 := Lib.hid hW2
        have HA2 := Lib.hid hA2
        have HB2 := Lib.hid hB2
        have HN := Lib.hid hin
        clear hW hA hB hW2 hA2 hB2 hb2 hd2 HW HA HB hin
        have e3 : IntKind.i64.wrap ((k : Int) - (l : Int)) = ((k - l : Nat) : Int) := by rw [IntWalk.i64_in _ (by omega)]; omega
        go_wp2
        go_roundw
        case rel =>
          refine ⟨k + 1, by omega, by go_num, ?_, HA2.out, HB2.out⟩
          rw [HW2.out]; congr 2; apply bArr_congr; intro i hi
          obtain ⟨n1, n2, n3, n4⟩ := HN.out
          unfold mezzanineref01_Field.St
          by_cases h : i = k - l
          · subst h
            rw [if_pos rfl, show (l : Int).toNat + (k - l) = k by omega, show decide (0 ≤ (l : Int) ∧ (l : Int) < 64 ∧ ((k - l : Nat) : Int) < n ∧ k < k + 1) = true by simp; omega]; simp
          · rw [if_neg h]; congr 1; apply decide_eq_decide.2; constructor <;> intro h <;> omega
        case measure => first | (simp [intOf]; done) | (simp [intOf]; omega)
      · have hy := mezzanineref01_in.no k lo n hlt hin
        have HN := Lib.hid hin
        have HY := Lib.hid hy
        clear hy hin
        go_wp2_with fail
        refine (mezzanineref01_in.calls _ _ _ false _ HY.out).mono ?_
        rintro e2 w2 ⟨rfl, hd2⟩
        have hb2 := hd2.below
        have HW2 := Lib.hid (blk_below hb2 HW.out)
        have HA2 := Lib.hid (blk_below hb2 HA.out)
        have HB2 := Lib.hid (below_then HB.out (below_size HB.out) hb2)
        clear hb2 hd2 HW HA HB
        go_wp2
        go_roundw
        case rel =>
          refine ⟨k + 1, by omega, by go_num, ?_, HA2.out, HB2.out⟩
          rw [HW2.out]; congr 2; apply bArr_congr; intro i hi
          unfold mezzanineref01_Field.St
          congr 1; apply decide_eq_decide.2
          have := HN.out
          constructor <;> intro h <;> omega
        case measure => first | (simp [intOf]; done) | (simp [intOf]; omega)
    · obtain rfl : k = 64 := by omega
      have HB2 := Lib.hid hB
      clear hB hA
      have HW2 := Lib.hid hW
      clear hW
      go_wp2_with (refine wpList_load_row rfl 41 _ rfl g rfl 41 _ (0, 0) _ HW2.out Try.underlying41 rfl (by rw [bArr_size]; exact HI.out) ?_)
      refine (mezzanineref01_Join.calls _ _).mono ?_
      rintro e3 w3 ⟨rfl, hb3⟩
      go_wp2
      go_ret
      exact ⟨rfl, below_then HB2.out (below_size HB2.out) hb3⟩
theorem mezzanineref01_Field.calls (a0 : Int) (a1 : Int) (a2 : Int) (r : Int) (w : World) (h : mezzanineref01_Field.f a0 a1 a2 = some r) :
    Calls Try.prog 28 #[.int .u64 a0, .int .i64 a1, .int .i64 a2] w fun e w' => e = .returned (.int .u64 r) ∧ Below w.heap.size w w' := by
  unfold mezzanineref01_Field.f at h
  split at h
  · rename_i hc
    obtain rfl := Option.some.inj h
    have := mezzanineref01_Field.callsB (BitVec.ofInt 64 a0) a1 a2 w
    rw [U_ofInt hc.1 hc.2] at this
    exact this
  · exact absurd h (by simp)
end

/-! ### mezzanineref15_Of: by hand -/
section
open Go.Proofs.YteebgfcihoidmaaR.Bv
def mezzanineref15_Of.f (a0 : Int) : Option (Bool × Bool × Bool × Bool × Bool × Bool × Bool × Bool × Int × Int) := if 0 ≤ a0 ∧ a0 < 18446744073709551616 then some (bitOf (BitVec.ofInt 64 a0) 0, bitOf (BitVec.ofInt 64 a0) 1, bitOf (BitVec.ofInt 64 a0) 2, bitOf (BitVec.ofInt 64 a0) 3, bitOf (BitVec.ofInt 64 a0) 4, bitOf (BitVec.ofInt 64 a0) 5, bitOf (BitVec.ofInt 64 a0) 6, bitOf (BitVec.ofInt 64 a0) 7, U (mezzanineref01_Field.B (BitVec.ofInt 64 a0) 10 44), U (mezzanineref01_Field.B (BitVec.ofInt 64 a0) 54 10)) else none
set_option maxHeartbeats 4000000 in
set_option maxRecDepth 100000 in
theorem mezzanineref15_Of.callsB (x : BitVec 64) (w : World) :
    Calls Try.prog 10 #[.int .u64 (U x)] w fun e w' => e = .returned (.agg #[.bool (bitOf x 0), .bool (bitOf x 1), .bool (bitOf x 2), .bool (bitOf x 3), .bool (bitOf x 4), .bool (bitOf x 5), .bool (bitOf x 6), .bool (bitOf x 7), .int .u64 (U (mezzanineref01_Field.B x 10 44)), .int .u64 (U (mezzanineref01_Field.B x 54 10))]) ∧ Below w.heap.size w w' := by
  obtain ⟨hz, hi⟩ := zero_of_info mezzanineref01_Split.zero
  have HI := Lib.hid hi
  clear hi
  have hu := Try.underlying24

  have hF (lo n : Int) (W : World) := mezzanineref01_Field.callsB x lo n W
  go_enter Try.func10, Try.ntmps10
  go_wp2_with fail
  refine (mezzanineref01_Split.calls x _).mono ?_
  rintro e1 w1 ⟨rfl, hb1⟩
  have g0 : (wArr x)[0]? = some (.bool (bitOf x 0)) := bArr_get _ 0 (by decide)
  have g1 : (wArr x)[1]? = some (.bool (bitOf x 1)) := bArr_get _ 1 (by decide)
  have g2 : (wArr x)[2]? = some (.bool (bitOf x 2)) := bArr_get _ 2 (by decide)
  have g3 : (wArr x)[3]? = some (.bool (bitOf x 3)) := bArr_get _ 3 (by decide)
  have g4 : (wArr x)[4]? = some (.bool (bitOf x 4)) := bArr_get _ 4 (by decide)
  have g5 : (wArr x)[5]? = some (.bool (bitOf x 5)) := bArr_get _ 5 (by decide)
  have g6 : (wArr x)[6]? = some (.bool (bitOf x 6)) := bArr_get _ 6 (by decide)
  have g7 : (wArr x)[7]? = some (.bool (bitOf x 7)) := bArr_get _ 7 (by decide)
  go_wp2_with (refine wpList_store_row rfl 41 _ _ rfl w1.heap.size (wArr x) rfl rfl 41 (bArr fun _ => false) (heap_alloc_last _ _) (by rw [show (wArr x).size = 64 from bArr_size _]; exact HI.out) (by rw [bArr_size, show (wArr x).size = 64 from bArr_size _]) (bArr_one _) ?_; rw [blk_stored])
  have hS := hb1.size
  have hB := Below.alloc (Below.refl w.heap.size w) (Nat.le_refl _) (.cells #[.bool false, .bool false, .bool false, .bool false, .bool false, .bool false, .bool false, .bool false, .int .u64 0, .int .u64 0] 24)
  have hB1 := below_step hB hb1
  have hB2 := (hB1.alloc hB1.size (.cells (wArr x) 41)).alloc (by have := hB1.size; simp; omega) (.cells #[.bool (bitOf x 0), .bool (bitOf x 1), .bool (bitOf x 2), .bool (bitOf x 3), .bool (bitOf x 4), .bool (bitOf x 5), .bool (bitOf x 6), .bool (bitOf x 7), .int .u64 0, .int .u64 0] 24)
  have hR1 := blk_below hb1 (heap_alloc_last w _)
  have hX1 := heap_alloc2_new w1 (.cells (wArr x) 41) (.cells #[.bool (bitOf x 0), .bool (bitOf x 1), .bool (bitOf x 2), .bool (bitOf x 3), .bool (bitOf x 4), .bool (bitOf x 5), .bool (bitOf x 6), .bool (bitOf x 7), .int .u64 0, .int .u64 0] 24)
  have hR2 := blk_alloc (blk_alloc hR1 (.cells (wArr x) 41)) (.cells #[.bool (bitOf x 0), .bool (bitOf x 1), .bool (bitOf x 2), .bool (bitOf x 3), .bool (bitOf x 4), .bool (bitOf x 5), .bool (bitOf x 6), .bool (bitOf x 7), .int .u64 0, .int .u64 0] 24)
  have hne : w.heap.size ≠ w1.heap.size + 1 := by have := hB1.size; omega
  have hle : w.heap.size ≤ w1.heap.size + 1 := by have := hB1.size; omega
  clear hb1 hS hB hB1 hR1
  generalize (w1.alloc (.cells (wArr x) 41)).alloc (.cells #[.bool (bitOf x 0), .bool (bitOf x 1), .bool (bitOf x 2), .bool (bitOf x 3), .bool (bitOf x 4), .bool (bitOf x 5), .bool (bitOf x 6), .bool (bitOf x 7), .int .u64 0, .int .u64 0] 24) = W0 at hB2 hX1 hR2 ⊢
  generalize w1.heap.size + 1 = gx at hX1 hne hle ⊢
  generalize w1.heap.size = ga
  have hB3 := hB2.size
  refine (hF 10 44 _).mono ?_
  rintro e2 w2 ⟨rfl, hb2⟩
  have hX2 := blk_below hb2 hX1
  have hR3 := blk_below hb2 hR2
  have hB4 := below_step hB2 hb2
  clear hX1 hR2 hb2 hB3 hB2
  have HR3 := Lib.hid hR3
  have HB4 := Lib.hid hB4
  clear hR3 hB4
  have c8 : w2.cell? ⟨gx, 8, none⟩ = some (.int .u64 0) := blk_cell hX2 rfl
  have f8 : w2.frozen? ⟨gx, 8, none⟩ = false := blk_free hX2
  have HX2 := Lib.hid hX2
  clear hX2
  go_wp2_with fail
  have hX3 := blk_put (cs' := #[.bool (bitOf x 0), .bool (bitOf x 1), .bool (bitOf x 2), .bool (bitOf x 3), .bool (bitOf x 4), .bool (bitOf x 5), .bool (bitOf x 6), .bool (bitOf x 7), .int .u64 (U (mezzanineref01_Field.B x 10 44)), .int .u64 0]) HX2.out 8 (.int .u64 (U (mezzanineref01_Field.B x 10 44))) rfl
  have hR4 := blk_other (k := 8) (.int .u64 (U (mezzanineref01_Field.B x 10 44))) hne HR3.out
  have hB5 := below_set HB4.out (g := gx) (j := 8) (v := .int .u64 (U (mezzanineref01_Field.B x 10 44))) hle
  clear c8 f8 HX2 HR3 HB4
  generalize w2.setCell ⟨gx, 8, none⟩ (.int .u64 (U (mezzanineref01_Field.B x 10 44))) = W1 at hX3 hR4 hB5 ⊢
  refine (hF 54 10 _).mono ?_
  rintro e3 w3 ⟨rfl, hb3⟩
  have hX4 := blk_below hb3 hX3
  have hR5 := blk_below hb3 hR4
  have hB6 := below_step hB5 hb3
  clear hX3 hR4 hb3 hB5
  have HR5 := Lib.hid hR5
  have HB6 := Lib.hid hB6
  clear hR5 hB6
  have c9 : w3.cell? ⟨gx, 9, none⟩ = some (.int .u64 0) := blk_cell hX4 rfl
  have f9 : w3.frozen? ⟨gx, 9, none⟩ = false := blk_free hX4
  have hX5 := blk_put (cs' := #[.bool (bitOf x 0), .bool (bitOf x 1), .bool (bitOf x 2), .bool (bitOf x 3), .bool (bitOf x 4), .bool (bitOf x 5), .bool (bitOf x 6), .bool (bitOf x 7), .int .u64 (U (mezzanineref01_Field.B x 10 44)), .int .u64 (U (mezzanineref01_Field.B x 54 10))]) hX4 9 (.int .u64 (U (mezzanineref01_Field.B x 54 10))) rfl
  have hR6 := blk_other (k := 9) (.int .u64 (U (mezzanineref01_Field.B x 54 10))) hne HR5.out
  have HX5 := Lib.hid hX5
  have HR6 := Lib.hid hR6
  clear hX4 hX5 hR6 HR5
  have hs0 : ((Try.prog.info? 24).map (·.size)) = some 10 := by kernel_rfl
  have HS := Lib.hid hs0
  clear hs0 hz
  go_wp2_with (first | (refine wpList_load_row rfl 24 _ rfl gx rfl 24 _ (0, 0) _ HX5.out hu rfl HS.out ?_) | (refine wpList_store_row rfl 24 _ _ rfl w.heap.size _ rfl rfl 24 _ HR6.out HS.out rfl ?one ?_))
  case one => kernel_rfl
  refine bodyPost_ret (results_cell_row rfl _ _ w.heap.size 24 #[.bool (bitOf x 0), .bool (bitOf x 1), .bool (bitOf x 2), .bool (bitOf x 3), .bool (bitOf x 4), .bool (bitOf x 5), .bool (bitOf x 6), .bool (bitOf x 7), .int .u64 (U (mezzanineref01_Field.B x 10 44)), .int .u64 (U (mezzanineref01_Field.B x 54 10))] (0, 0) _ rfl (setRow_heap _ _ _ _ _ _ HR6.out) hu rfl HS.out) rfl ⟨rfl, ?_⟩
  exact below_setRow (below_set HB6.out hle) (Nat.le_refl _) _
theorem mezzanineref15_Of.calls (a0 : Int) (r1 r2 r3 r4 r5 r6 r7 r8 : Bool) (r9 r10 : Int) (w : World) (h : mezzanineref15_Of.f a0 = some (r1, r2, r3, r4, r5, r6, r7, r8, r9, r10)) :
    Calls Try.prog 10 #[.int .u64 a0] w fun e w' => e = .returned (.agg #[.bool r1, .bool r2, .bool r3, .bool r4, .bool r5, .bool r6, .bool r7, .bool r8, .int .u64 r9, .int .u64 r10]) ∧ Below w.heap.size w w' := by
  unfold mezzanineref15_Of.f at h
  split at h
  · rename_i hc
    have h2 := Option.some.inj h
    simp only [Prod.mk.injEq] at h2
    obtain ⟨rfl, rfl, rfl, rfl, rfl, rfl, rfl, rfl, rfl, rfl⟩ := h2
    have := mezzanineref15_Of.callsB (BitVec.ofInt 64 a0) w
    rw [U_ofInt hc.1 hc.2] at this
    exact this
  · exact absurd h (by simp)
end

/-! ### bits_width: function 36 -/
def bits_width.f (a0 : Int) (a1 : Int) : Option (Int) := if a0 < 0 then (some 0) else (if a0 > 63 then (some 0) else (if a1 < 1 then (some 0) else (some (mn a1 (wrap64 (64 - a0))))))
set_option maxHeartbeats 8000000 in
set_option maxRecDepth 100000 in
theorem bits_width.calls (a0 : Int) (a1 : Int) (r : Int) (w : World) (h : bits_width.f a0 a1 = some r) :
    Calls Try.prog 36 #[.int .i64 a0, .int .i64 a1] w fun e w' => e = .returned (.int .i64 r) ∧ Below w.heap.size w w' := by
  have HB := Aside0.mk (Below.refl w.heap.size w)
  have H : (if a0 < 0 then (some 0) else (if a0 > 63 then (some 0) else (if a1 < 1 then (some 0) else (some (mn a1 (wrap64 (64 - a0))))))) = some r := h
  clear h
  by_cases c3 : a0 < 0
  · rw [if_pos c3] at H
    have c3b0 : decide (a0 < 0) = true := decide_eq_true c3
    clear c3
    obtain rfl := Option.some.inj H
    go_enter Try.func36, Try.ntmps36
    go_wp2
    go_ret
    exact ⟨by first | rfl | (simp [errW_none, errW_some] <;> rfl) | (simp [*, errW_none, errW_some] <;> rfl), by repeat (first | (with_reducible first | exact HB.out | apply below_alloc | apply pw_below_drewN | apply below_drew1) | exact HB.out)⟩
  · rw [if_neg c3] at H
    have c3b0 : decide (a0 < 0) = false := decide_eq_false c3
    clear c3
    by_cases c4 : a0 > 63
    · rw [if_pos c4] at H
      have c4b0 : decide (63 < a0) = true := decide_eq_true c4
      clear c4
      obtain rfl := Option.some.inj H
      go_enter Try.func36, Try.ntmps36
      go_wp2
      go_ret
      exact ⟨by first | rfl | (simp [errW_none, errW_some] <;> rfl) | (simp [*, errW_none, errW_some] <;> rfl), by repeat (first | (with_reducible first | exact HB.out | apply below_alloc | apply pw_below_drewN | apply below_drew1) | exact HB.out)⟩
    · rw [if_neg c4] at H
      have c4b0 : decide (63 < a0) = false := decide_eq_false c4
      clear c4
      by_cases c5 : a1 < 1
      · rw [if_pos c5] at H
        have c5b0 : decide (a1 < 1) = true := decide_eq_true c5
        clear c5
        obtain rfl := Option.some.inj H
        go_enter Try.func36, Try.ntmps36
        go_wp2
        go_ret
        exact ⟨by first | rfl | (simp [errW_none, errW_some] <;> rfl) | (simp [*, errW_none, errW_some] <;> rfl), by repeat (first | (with_reducible first | exact HB.out | apply below_alloc | apply pw_below_drewN | apply below_drew1) | exact HB.out)⟩
      · rw [if_neg c5] at H
        have c5b0 : decide (a1 < 1) = false := decide_eq_false c5
        clear c5
        obtain ⟨ji6, hji6⟩ : ∃ j_ : Int, (mn a1 (wrap64 (64 - a0))) = j_ := ⟨_, rfl⟩
        replace H : (some ji6) = some r := by first | (rw [hji6] at H; exact H) | (simp only [hji6] at H ⊢; exact H)
        have hji6_ : (if (wrap64 (64 - a0)) < a1 then (wrap64 (64 - a0)) else a1) = ji6 := hji6
        obtain rfl := Option.some.inj H
        go_enter Try.func36, Try.ntmps36
        go_wp2
        go_ret
        exact ⟨by first | rfl | (simp [errW_none, errW_some] <;> rfl) | (simp only [← hji6]; first | rfl | (simp [errW_none, errW_some] <;> rfl)) | (simp [*, errW_none, errW_some] <;> rfl), by repeat (first | (with_reducible first | exact HB.out | apply below_alloc | apply pw_below_drewN | apply below_drew1) | exact HB.out)⟩

/-! ### bits_Mask: function 37 -/
def bits_Mask.f (a0 : Int) : Option (Int) := if a0 ≤ 0 then (some 0) else (if a0 > 63 then (some 18446744073709551615) else (if 0 ≤ a0 then (some (IntKind.u64.wrap ((shl .u64 1 a0) - 1))) else (none)))
set_option maxHeartbeats 8000000 in
set_option maxRecDepth 100000 in
theorem bits_Mask.calls (a0 : Int) (r : Int) (w : World) (h : bits_Mask.f a0 = some r) :
    Calls Try.prog 37 #[.int .i64 a0] w fun e w' => e = .returned (.int .u64 r) ∧ Drawn0 w w' := by
  have H : (if a0 ≤ 0 then (some 0) else (if a0 > 63 then (some 18446744073709551615) else (if 0 ≤ a0 then (some (IntKind.u64.wrap ((shl .u64 1 a0) - 1))) else (none)))) = some r := h
  clear h
  by_cases c2 : a0 ≤ 0
  · rw [if_pos c2] at H
    have c2b0 : decide (a0 ≤ 0) = true := decide_eq_true c2
    clear c2
    obtain rfl := Option.some.inj H
    go_enter Try.func37, Try.ntmps37
    go_wp2
    go_ret
    exact ⟨by first | rfl | (simp; done) | (simp [*]; done), by repeat (first | exact Drawn0.refl _ | apply Drawn0.step)⟩
  · rw [if_neg c2] at H
    have c2b0 : decide (a0 ≤ 0) = false := decide_eq_false c2
    clear c2
    by_cases c3 : a0 > 63
    · rw [if_pos c3] at H
      have c3b0 : decide (63 < a0) = true := decide_eq_true c3
      clear c3
      obtain rfl := Option.some.inj H
      go_enter Try.func37, Try.ntmps37
      go_wp2
      go_ret
      exact ⟨by first | rfl | (simp; done) | (simp [*]; done), by repeat (first | exact Drawn0.refl _ | apply Drawn0.step)⟩
    · rw [if_neg c3] at H
      have c3b0 : decide (63 < a0) = false := decide_eq_false c3
      clear c3
      by_cases c4 : 0 ≤ a0
      · rw [if_pos c4] at H
        have c4b0 := eq_true c4
        have c4b1 : decide (0 ≤ a0) = true := decide_eq_true c4
        clear c4
        obtain ⟨ji5, hji5⟩ : ∃ j_ : Int, (shl .u64 1 a0) = j_ := ⟨_, rfl⟩
        replace H : (some (IntKind.u64.wrap ((ji5) - 1))) = some r := by first | (rw [hji5] at H; exact H) | (simp only [hji5] at H ⊢; exact H)
        have hji5_ : (IntKind.u64.wrap (1 * 2 ^ min a0.toNat 64)) = ji5 := hji5
        have hji5z : a0 ≤ 64 → (IntKind.u64.wrap (1 * 2 ^ a0.toNat)) = ji5 := shl_small hji5
        have hji5u : (IntKind.u64.wrap (2 ^ min a0.toNat 64)) = ji5 := by have h_ := hji5_; rw [Int.one_mul] at h_; exact h_
        have hji5v : a0 ≤ 64 → (IntKind.u64.wrap (2 ^ a0.toNat)) = ji5 := fun hle_ => by have h_ := hji5z hle_; rw [Int.one_mul] at h_; exact h_
        obtain rfl := Option.some.inj H
        go_enter Try.func37, Try.ntmps37
        go_wp2
        go_ret
        exact ⟨by first | rfl | (simp; done) | (simp only [← hji5] <;> (first | rfl | simp)) | (simp [*]; done), by repeat (first | exact Drawn0.refl _ | apply Drawn0.step)⟩
      · rw [if_neg c4] at H
        exact absurd H (by simp)

end Go.Proofs.YteebgfcihoidmaaR.Q
