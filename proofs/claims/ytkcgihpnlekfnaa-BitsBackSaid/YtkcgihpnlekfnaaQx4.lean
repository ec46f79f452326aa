/- Where the Lean function of a Go function gives a value, the Go call returns that value and changes nothing that was there: for every input. (By a program of this session, and by hand.) -/
import Derived.Test.YtkcgihpnlekfnaaQx0
import Derived.Test.YtkcgihpnlekfnaaQx1
import Derived.Test.YtkcgihpnlekfnaaQx2
import Derived.Test.YtkcgihpnlekfnaaQx3
namespace Go.Proofs.Ytkcgihpnlekfnaa.Q
open Go.RowKit Go.Proofs.YtkcgihpnlekfnaaW.PrintWords Go.Proofs.YtkcgihpnlekfnaaW.PrintLast Go.Proofs.YtkcgihpnlekfnaaW.PrintMore
attribute [local go_sem] max2_int min2_int max_two min_two max_three min_three max_four min_four   -- for this text's walks alone
set_option linter.unusedVariables false
set_option linter.unusedSimpArgs false

/-! ### mezzanineref01_Field: by hand -/
section
open Go.Proofs.Ytkcgihpnlekfnaa.Bv
def mezzanineref01_Field.St (x : BitVec 64) (lo n : Int) (k j : Nat) : Bool := decide (0 ≤ lo ∧ lo < 64 ∧ (j : Int) < n ∧ lo.toNat + j < k) && bitOf x (lo.toNat + j)
def mezzanineref01_Field.B (x : BitVec 64) (lo n : Int) : BitVec 64 := ofB (mezzanineref01_Field.St x lo n 64)
def mezzanineref01_Field.f (a0 : Int) (a1 : Int) (a2 : Int) : Option (Int) := if 0 ≤ a0 ∧ a0 < 18446744073709551616 then some (U (mezzanineref01_Field.B (BitVec.ofInt 64 a0) a1 a2)) else none
theorem mezzanineref01_in.yes (k : Nat) (lo n : Int) (hk : k < 64) (h : 0 ≤ lo ∧ lo < 64 ∧ lo ≤ k ∧ (k : Int) - lo < n) : mezzanineref01_in.f (k : Int) lo n = some true := by
  obtain ⟨h1, h2, h3, h4⟩ := h
  unfold mezzanineref01_in.f
  have e : wrap64 ((k : Int) - lo) = (k : Int) - lo := by unfold wrap64; omega
  simp [h1, h2, h3, e, h4]
theorem mezzanineref01_in.no (k : Nat) (lo n : Int) (hk : k < 64) (h : ¬ (0 ≤ lo ∧ lo < 64 ∧ lo ≤ k ∧ (k : Int) - lo < n)) : mezzanineref01_in.f (k : Int) lo n = some false := by
  unfold mezzanineref01_in.f
  by_cases h1 : 0 ≤ lo
  · by_cases h2 : lo < 64
    · by_cases h3 : lo ≤ k
      · have e : wrap64 ((k : Int) - lo) = (k : Int) - lo := by unfold wrap64; omega
        have h4 : ¬ (k : Int) - lo < n := fun h4 => h ⟨h1, h2, h3, h4⟩
        simp [h1, h2, h3, e, h4]
      · simp [h1, h2, h3]
    · simp [h1, h2]
  · simp [h1]
set_option maxHeartbeats 4000000 in
set_option maxRecDepth 100000 in
theorem mezzanineref01_Field.callsB (x : BitVec 64) (lo n : Int) (w : World) :
    Calls Try.prog 16 #[.int .u64 (U x), .int .i64 lo, .int .i64 n] w fun e w' => e = .returned (.int .u64 (U (mezzanineref01_Field.B x lo n))) ∧ Below w.heap.size w w' := by
  obtain ⟨hz, hi⟩ := zero_of_info mezzanineref01_Split.zero
  have HI := Lib.hid hi
  clear hi
  unfold mezzanineref01_Field.B
  go_enter Try.func16, Try.ntmps16
  go_wp2_with fail
  refine (mezzanineref01_Split.calls x _).mono ?_
  rintro e1 w1 ⟨rfl, hb1⟩
  go_wp2_with (refine wpList_store_row rfl 36 _ _ rfl w1.heap.size (wArr x) rfl rfl 36 (bArr fun _ => false) (heap_alloc_last _ _) (by rw [show (wArr x).size = 64 from bArr_size _]; exact HI.out) (by rw [bArr_size, show (wArr x).size = 64 from bArr_size _]) (bArr_one _) ?_)
  try simp only [blk_stored]
  have hS := hb1.size
  have hW1 := heap_alloc2_new w1 (.cells (wArr x) 36) (.cells (bArr fun _ => false) 36)
  have hW0 := heap_alloc2_old w1 (.cells (wArr x) 36) (.cells (bArr fun _ => false) 36)
  have hB : Below w.heap.size w ((w1.alloc (.cells (wArr x) 36)).alloc (.cells (bArr fun _ => false) 36)) := (hb1.alloc hb1.size _).alloc (by simp; omega) _
  have hS' : w.heap.size ≤ w1.heap.size + 1 := by omega
  have hne : w1.heap.size ≠ w1.heap.size + 1 := by omega
  generalize (w1.alloc (.cells (wArr x) 36)).alloc (.cells (bArr fun _ => false) 36) = W0 at hW0 hW1 hB ⊢
  generalize w1.heap.size + 1 = g at hW1 hS' hne ⊢
  generalize w1.heap.size = ga at hW0 hS hne ⊢
  clear hb1
  go_loopw [9] (fun v9 wr => ∃ k : Nat, k ≤ 64 ∧ v9 = .int .i64 k ∧ wr.heap[g]? = some (.cells (bArr (mezzanineref01_Field.St x lo n k)) 36 (0, 0)) ∧ wr.heap[ga]? = some (.cells (wArr x) 36 (0, 0)) ∧ Below w.heap.size w wr) (fun v9 _ => 64 - (intOf v9).toNat)
  case atStart => exact ⟨0, by omega, rfl, by rw [hW1]; congr 2; apply bArr_congr; intro i hi; simp [mezzanineref01_Field.St], hW0, hB⟩
  case round =>
    clear hW1 hW0 hB
    obtain ⟨k, hk, rfl, hW, hA, hB⟩ := hrel
    by_cases hlt : k < 64
    · have HW := Lib.hid hW
      have HA := Lib.hid hA
      have HB := Lib.hid hB
      clear hW hA hB
      by_cases hin : 0 ≤ lo ∧ lo < 64 ∧ lo ≤ k ∧ (k : Int) - lo < n
      · have hy := mezzanineref01_in.yes k lo n hlt hin
        obtain ⟨l, rfl⟩ : ∃ l : Nat, lo = (l : Int) := ⟨lo.toNat, by omega⟩
        have hl : l ≤ k := by omega
        have HY := Lib.hid hy
        clear hy
        go_wp2_with fail
        refine (mezzanineref01_in.calls _ _ _ true _ HY.out).mono ?_
        rintro e2 w2 ⟨rfl, hd2⟩
        have hb2 := hd2.below
        have hW := blk_below hb2 HW.out
        have hA := blk_below hb2 HA.out
        have hB := below_then HB.out (below_size HB.out) hb2
        have c1 := blk_cell (k := k) hA (bArr_get _ k hlt)
        have c2 := blk_cell (k := k - l) hW (bArr_get _ (k - l) (by omega))
        have f2 := blk_free (k := k - l) hW
        have hW2 := blk_set (k := k - l) (bitOf x k) hW
        have hA2 := blk_other (k := k - l) (.bool (bitOf x k)) hne hA
        have hB2 := hB.setCell (p := ⟨g, k - l, none⟩) hS' (.bool (bitOf x k))
        have HW2 := Lib.hid hW2
        have HA2 := Lib.hid hA2
        have HB2 := Lib.hid hB2
        have HN := Lib.hid hin
        clear hW hA hB hW2 hA2 hB2 hb2 hd2 HW HA HB hin
        have e3 : IntKind.i64.wrap ((k : Int) - (l : Int)) = ((k - l : Nat) : Int) := by rw [IntWalk.i64_in _ (by omega)]; omega
        go_wp2
        go_roundw
        case rel =>
          refine ⟨k + 1, by omega, by go_num, ?_, HA2.out, HB2.out⟩
          rw [HW2.out]; congr 2; apply bArr_congr; intro i hi
          obtain ⟨n1, n2, n3, n4⟩ := HN.out
          unfold mezzanineref01_Field.St
          by_cases h : i = k - l
          · subst h
            rw [if_pos rfl, show (l : Int).toNat + (k - l) = k by omega, show decide (0 ≤ (l : Int) ∧ (l : Int) < 64 ∧ ((k - l : Nat) : Int) < n ∧ k < k + 1) = true by simp; omega]; simp
          · rw [if_neg h]; congr 1; apply decide_eq_decide.2; constructor <;> intro h <;> omega
        case measure => first | (simp [intOf]; done) | (simp [intOf]; omega)
      · have hy := mezzanineref01_in.no k lo n hlt hin
        have HN := Lib.hid hin
        have HY := Lib.hid hy
        clear hy hin
        go_wp2_with fail
        refine (mezzanineref01_in.calls _ _ _ false _ HY.out).mono ?_
        rintro e2 w2 ⟨rfl, hd2⟩
        have hb2 := hd2.below
        have HW2 := Lib.hid (blk_below hb2 HW.out)
        have HA2 := Lib.hid (blk_below hb2 HA.out)
        have HB2 := Lib.hid (below_then HB.out (below_size HB.out) hb2)
        clear hb2 hd2 HW HA HB
        go_wp2
        go_roundw
        case rel =>
          refine ⟨k + 1, by omega, by go_num, ?_, HA2.out, HB2.out⟩
          rw [HW2.out]; congr 2; apply bArr_congr; intro i hi
          unfold mezzanineref01_Field.St
          congr 1; apply decide_eq_decide.2
          have := HN.out
          constructor <;> intro h <;> omega
        case measure => first | (simp [intOf]; done) | (simp [intOf]; omega)
    · obtain rfl : k = 64 := by omega
      have HB2 := Lib.hid hB
      clear hB hA
      have HW2 := Lib.hid hW
      clear hW
      go_wp2_with (refine wpList_load_row rfl 36 _ rfl g rfl 36 _ (0, 0) _ HW2.out Try.underlying36 rfl (by rw [bArr_size]; exact HI.out) ?_)
      refine (mezzanineref01_Join.calls _ _).mono ?_
      rintro e3 w3 ⟨rfl, hb3⟩
      go_wp2
      go_ret
      exact ⟨rfl, below_then HB2.out (below_size HB2.out) hb3⟩
theorem mezzanineref01_Field.calls (a0 : Int) (a1 : Int) (a2 : Int) (r : Int) (w : World) (h : mezzanineref01_Field.f a0 a1 a2 = some r) :
    Calls Try.prog 16 #[.int .u64 a0, .int .i64 a1, .int .i64 a2] w fun e w' => e = .returned (.int .u64 r) ∧ Below w.heap.size w w' := by
  unfold mezzanineref01_Field.f at h
  split at h
  · rename_i hc
    obtain rfl := Option.some.inj h
    have := mezzanineref01_Field.callsB (BitVec.ofInt 64 a0) a1 a2 w
    rw [U_ofInt hc.1 hc.2] at this
    exact this
  · exact absurd h (by simp)
end

/-! ### bits_Put: function 17 -/
def bits_Put.f (a0 : Int) (a1 : Int) (a2 : Int) (a3 : Int) : Option (Int) := (bits_width.f a1 a2).bind fun t123 => (if t123 = 0 then (some a0) else ((bits_Mask.f t123).bind fun t124 => (if 0 ≤ a1 then (some (Go.bits .or .u64 (Go.bits .andNot .u64 a0 (shl .u64 t124 a1)) (Go.bits .and .u64 (shl .u64 a3 a1) (shl .u64 t124 a1)))) else (none))))
set_option maxHeartbeats 8000000 in
set_option maxRecDepth 100000 in
theorem bits_Put.calls (a0 : Int) (a1 : Int) (a2 : Int) (a3 : Int) (r : Int) (w : World) (h : bits_Put.f a0 a1 a2 a3 = some r) :
    Calls Try.prog 17 #[.int .u64 a0, .int .i64 a1, .int .i64 a2, .int .u64 a3] w fun e w' => e = .returned (.int .u64 r) ∧ Below w.heap.size w w' := by
  have HB := Aside0.mk (Below.refl w.heap.size w)
  have H : ((bits_width.f a1 a2).bind fun t123 => (if t123 = 0 then (some a0) else ((bits_Mask.f t123).bind fun t124 => (if 0 ≤ a1 then (some (Go.bits .or .u64 (Go.bits .andNot .u64 a0 (shl .u64 t124 a1)) (Go.bits .and .u64 (shl .u64 a3 a1) (shl .u64 t124 a1)))) else (none))))) = some r := h
  clear h
  replace H := Option.bind_eq_some_iff.mp H
  obtain ⟨t123, A50, H⟩ := H
  replace H : (if t123 = 0 then (some a0) else ((bits_Mask.f t123).bind fun t124 => (if 0 ≤ a1 then (some (Go.bits .or .u64 (Go.bits .andNot .u64 a0 (shl .u64 t124 a1)) (Go.bits .and .u64 (shl .u64 a3 a1) (shl .u64 t124 a1)))) else (none)))) = some r := H
  have A5 := Aside0.mk A50
  clear A50
  by_cases c6 : t123 = 0
  · rw [if_pos c6] at H
    have c6b0 : (t123 == 0) = true := beq_iff_eq.mpr c6
    have c6b1 : (t123 != 0) = false := bne_eq_false_iff_eq.mpr c6
    clear c6
    obtain rfl := Option.some.inj H
    go_enter Try.func17, Try.ntmps17
    go_wp2_with (first | ((with_reducible refine gate_callee (f := 24) rfl ?_); refine goesL_ (some 12) rfl rfl Try.func24 (by kernel_rfl) rfl #[.int .i64 a1, .int .i64 a2] rfl (by (try simp only [List.map_toArray, List.map_cons, List.map_nil]); first | done | rfl | (simp only [List.length_drop, List.length_take]; rfl)) ?_; (with_reducible refine (bits_width.calls a1 a2 t123 _ A5.out).mono ?_); rintro e w7 ⟨rfl, hb⟩; refine ⟨_, rfl, ?_⟩; have n0_ := Aside0.mk (below_step (by repeat (first | (with_reducible first | exact HB.out | apply below_alloc | apply pw_below_drewN | apply below_drew1) | exact HB.out)) hb); clear HB; have HB := n0_; clear n0_; (try clear hb); (try clear hb2); (try clear hk); (try clear hi)))
    go_ret
    exact ⟨by first | rfl | (simp [errW_none, errW_some] <;> rfl) | (simp [*, errW_none, errW_some] <;> rfl), by repeat (first | (with_reducible first | exact HB.out | apply below_alloc | apply pw_below_drewN | apply below_drew1) | exact HB.out)⟩
  · rw [if_neg c6] at H
    have c6b0 : (t123 == 0) = false := beq_eq_false_iff_ne.mpr c6
    have c6b1 : (t123 != 0) = true := bne_iff_ne.mpr c6
    replace H := Option.bind_eq_some_iff.mp H
    obtain ⟨t124, A80, H⟩ := H
    replace H : (if 0 ≤ a1 then (some (Go.bits .or .u64 (Go.bits .andNot .u64 a0 (shl .u64 t124 a1)) (Go.bits .and .u64 (shl .u64 a3 a1) (shl .u64 t124 a1)))) else (none)) = some r := H
    have A8 := Aside0.mk A80
    clear A80
    by_cases c9 : 0 ≤ a1
    · rw [if_pos c9] at H
      have c9b0 := eq_true c9
      have c9b1 : decide (0 ≤ a1) = true := decide_eq_true c9
      clear c9
      obtain ⟨ji10, hji10⟩ : ∃ j_ : Int, (shl .u64 t124 a1) = j_ := ⟨_, rfl⟩
      replace H : (some (Go.bits .or .u64 (Go.bits .andNot .u64 a0 (ji10)) (Go.bits .and .u64 (shl .u64 a3 a1) (ji10)))) = some r := by first | (rw [hji10] at H; exact H) | (simp only [hji10] at H ⊢; exact H)
      (try rw [hji10] at A5)
      (try rw [hji10] at A8)
      have hji10_ : (IntKind.u64.wrap (t124 * 2 ^ min a1.toNat 64)) = ji10 := hji10
      have hji10z : a1 ≤ 64 → (IntKind.u64.wrap (t124 * 2 ^ a1.toNat)) = ji10 := shl_small hji10
      have c11b0 := eq_true (of_decide_eq_true (by first | (with_reducible assumption) | assumption) : 0 ≤ a1)
      obtain ⟨ji12, hji12⟩ : ∃ j_ : Int, (shl .u64 a3 a1) = j_ := ⟨_, rfl⟩
      replace H : (some (Go.bits .or .u64 (Go.bits .andNot .u64 a0 (ji10)) (Go.bits .and .u64 (ji12) (ji10)))) = some r := by first | (rw [hji12] at H; exact H) | (simp only [hji12] at H ⊢; exact H)
      (try rw [hji12] at A5)
      (try rw [hji12] at A8)
      have hji12_ : (IntKind.u64.wrap (a3 * 2 ^ min a1.toNat 64)) = ji12 := hji12
      have hji12z : a1 ≤ 64 → (IntKind.u64.wrap (a3 * 2 ^ a1.toNat)) = ji12 := shl_small hji12
      obtain rfl := Option.some.inj H
      go_enter Try.func17, Try.ntmps17
      go_wp2_with (first | ((with_reducible refine gate_callee (f := 24) rfl ?_); refine goesL_ (some 12) rfl rfl Try.func24 (by kernel_rfl) rfl #[.int .i64 a1, .int .i64 a2] rfl (by (try simp only [List.map_toArray, List.map_cons, List.map_nil]); first | done | rfl | (simp only [List.length_drop, List.length_take]; rfl)) ?_; (with_reducible refine (bits_width.calls a1 a2 t123 _ A5.out).mono ?_); rintro e w13 ⟨rfl, hb⟩; refine ⟨_, rfl, ?_⟩; have n0_ := Aside0.mk (below_step (by repeat (first | (with_reducible first | exact HB.out | apply below_alloc | apply pw_below_drewN | apply below_drew1) | exact HB.out)) hb); clear HB; have HB := n0_; clear n0_; (try clear hb); (try clear hb2); (try clear hk); (try clear hi)) | ((with_reducible refine gate_callee (f := 14) rfl ?_); refine goesL_ (some 17) rfl rfl Try.func14 (by kernel_rfl) rfl #[.int .i64 t123] rfl (by (try simp only [List.map_toArray, List.map_cons, List.map_nil]); first | done | rfl | (simp only [List.length_drop, List.length_take]; rfl)) ?_; (with_reducible refine (bits_Mask.calls t123 t124 _ A8.out).mono ?_); rintro e w' ⟨rfl, ⟨nd, rfl⟩⟩; refine ⟨_, rfl, ?_⟩))
      go_ret
      exact ⟨by first | rfl | (simp [errW_none, errW_some] <;> rfl) | (simp only [← hji10, ← hji12]; first | rfl | (simp [errW_none, errW_some] <;> rfl)) | (simp [*, errW_none, errW_some] <;> rfl), by repeat (first | (with_reducible first | exact HB.out | apply below_alloc | apply pw_below_drewN | apply below_drew1) | exact HB.out)⟩
    · rw [if_neg c9] at H
      exact absurd H (by simp)

/-! ### mezzanineref01_Put: by hand -/
section
open Go.Proofs.Ytkcgihpnlekfnaa.Bv
def mezzanineref01_Put.St (x v : BitVec 64) (lo n : Int) (k i : Nat) : Bool := if i < k ∧ 0 ≤ lo ∧ lo < 64 ∧ lo ≤ i ∧ (i : Int) - lo < n then bitOf v (i - lo.toNat) else bitOf x i
def mezzanineref01_Put.B (x : BitVec 64) (lo n : Int) (v : BitVec 64) : BitVec 64 := ofB (mezzanineref01_Put.St x v lo n 64)
def mezzanineref01_Put.f (a0 : Int) (a1 : Int) (a2 : Int) (a3 : Int) : Option (Int) := if 0 ≤ a0 ∧ a0 < 18446744073709551616 ∧ 0 ≤ a3 ∧ a3 < 18446744073709551616 then some (U (mezzanineref01_Put.B (BitVec.ofInt 64 a0) a1 a2 (BitVec.ofInt 64 a3))) else none
set_option maxHeartbeats 4000000 in
set_option maxRecDepth 100000 in
theorem mezzanineref01_Put.callsB (x v : BitVec 64) (lo n : Int) (w : World) :
    Calls Try.prog 18 #[.int .u64 (U x), .int .i64 lo, .int .i64 n, .int .u64 (U v)] w fun e w' => e = .returned (.int .u64 (U (mezzanineref01_Put.B x lo n v))) ∧ Below w.heap.size w w' := by
  obtain ⟨hz, hi⟩ := zero_of_info mezzanineref01_Split.zero
  have HI := Lib.hid hi
  clear hi
  unfold mezzanineref01_Put.B
  go_enter Try.func18, Try.ntmps18
  go_wp2_with fail
  refine (mezzanineref01_Split.calls x _).mono ?_
  rintro e1 w1 ⟨rfl, hb1⟩
  go_wp2_with (refine wpList_store_row rfl 36 _ _ rfl w1.heap.size (wArr x) rfl rfl 36 (bArr fun _ => false) (heap_alloc_last _ _) (by rw [show (wArr x).size = 64 from bArr_size _]; exact HI.out) (by rw [bArr_size, show (wArr x).size = 64 from bArr_size _]) (bArr_one _) ?_)
  rw [blk_stored]
  have hA := heap_alloc_last w1 (.cells (wArr x) 36)
  have hB : Below w.heap.size w (w1.alloc (.cells (wArr x) 36)) := hb1.alloc hb1.size _
  have hS := hb1.size
  have hlt : w1.heap.size < (w1.alloc (.cells (wArr x) 36)).heap.size := by simp
  generalize w1.alloc (.cells (wArr x) 36) = W1 at hA hB hlt ⊢
  generalize w1.heap.size = g at hA hS hlt ⊢
  clear hb1
  refine (mezzanineref01_Split.calls v _).mono ?_
  rintro e2 w2 ⟨rfl, hb2⟩
  go_wp2_with (refine wpList_store_row rfl 36 _ _ rfl w2.heap.size (wArr v) rfl rfl 36 (bArr fun _ => false) (heap_alloc_last _ _) (by rw [show (wArr v).size = 64 from bArr_size _]; exact HI.out) (by rw [bArr_size, show (wArr v).size = 64 from bArr_size _]) (bArr_one _) ?_)
  rw [blk_stored]
  have hB0 : Below w.heap.size w w2 := below_then hB (below_size hB) hb2
  have hA2 : (w2.alloc (.cells (wArr v) 36)).heap[g]? = some (.cells (wArr x) 36 (0, 0)) := by
    rw [heap_alloc_old _ _ (by have := hb2.size; omega)]; exact blk_below hb2 hA
  have hV := heap_alloc_last w2 (.cells (wArr v) 36)
  have hB2 : Below w.heap.size w (w2.alloc (.cells (wArr v) 36)) := hB0.alloc (below_size hB0) _
  have hne : w2.heap.size ≠ g := by have := hb2.size; omega
  generalize w2.alloc (.cells (wArr v) 36) = W0 at hA2 hV hB2 ⊢
  generalize w2.heap.size = gv at hV hne ⊢
  clear hb2 hB hA hlt hB0
  go_loopw [11] (fun v11 wr => ∃ k : Nat, k ≤ 64 ∧ v11 = .int .i64 k ∧ wr.heap[g]? = some (.cells (bArr (mezzanineref01_Put.St x v lo n k)) 36 (0, 0)) ∧ wr.heap[gv]? = some (.cells (wArr v) 36 (0, 0)) ∧ Below w.heap.size w wr) (fun v11 _ => 64 - (intOf v11).toNat)
  case atStart => exact ⟨0, by omega, rfl, by refine hA2.trans ?_; first | rfl | (congr 2; apply bArr_congr; intro i hi; simp [mezzanineref01_Put.St]), hV, hB2⟩
  case round =>
    clear hA2 hV hB2
    obtain ⟨k, hk, rfl, hW, hA, hB⟩ := hrel
    by_cases hlt : k < 64
    · have HW := Lib.hid hW
      have HA := Lib.hid hA
      have HB := Lib.hid hB
      clear hW hA hB
      by_cases hin : 0 ≤ lo ∧ lo < 64 ∧ lo ≤ k ∧ (k : Int) - lo < n
      · have hy := mezzanineref01_in.yes k lo n hlt hin
        obtain ⟨l, rfl⟩ : ∃ l : Nat, lo = (l : Int) := ⟨lo.toNat, by omega⟩
        have hl : l ≤ k := by omega
        have HY := Lib.hid hy
        clear hy
        go_wp2_with fail
        refine (mezzanineref01_in.calls _ _ _ true _ HY.out).mono ?_
        rintro e2 w3 ⟨rfl, hd2⟩
        have hb2 := hd2.below
        have hW := blk_below hb2 HW.out
        have hA := blk_below hb2 HA.out
        have hB := below_then HB.out (below_size HB.out) hb2
        have c1 := blk_cell (k := k - l) hA (bArr_get _ (k - l) (by omega))
        have c2 := blk_cell (k := k) hW (bArr_get _ k (by omega))
        have f2 := blk_free (k := k) hW
        have hW2 := blk_set (k := k) (bitOf v (k - l)) hW
        have hA2 := blk_other (k := k) (.bool (bitOf v (k - l))) hne hA
        have hB2 := hB.setCell (p := ⟨g, k, none⟩) hS (.bool (bitOf v (k - l)))
        have HW2 := Lib.hid hW2
        have HA2 := Lib.hid hA2
        have HB2 := Lib.hid hB2
        have HN := Lib.hid hin
        clear hW hA hB hW2 hA2 hB2 hb2 hd2 HW HA HB hin
        have e3 : IntKind.i64.wrap ((k : Int) - (l : Int)) = ((k - l : Nat) : Int) := by rw [IntWalk.i64_in _ (by omega)]; omega
        go_wp2
        go_roundw
        case rel =>
          refine ⟨k + 1, by omega, by go_num, ?_, HA2.out, HB2.out⟩
          rw [HW2.out]; congr 2; apply bArr_congr; intro i hi
          obtain ⟨n1, n2, n3, n4⟩ := HN.out
          unfold mezzanineref01_Put.St
          by_cases h : i = k
          · subst h
            rw [if_pos rfl, if_pos (by omega), show i - (l : Int).toNat = i - l by omega]
          · rw [if_neg h]
            by_cases h2 : i < k ∧ 0 ≤ (l : Int) ∧ (l : Int) < 64 ∧ (l : Int) ≤ i ∧ (i : Int) - l < n
            · rw [if_pos h2, if_pos (by omega)]
            · rw [if_neg h2, if_neg (by omega)]
        case measure => first | (simp [intOf]; done) | (simp [intOf]; omega)
      · have hy := mezzanineref01_in.no k lo n hlt hin
        have HN := Lib.hid hin
        have HY := Lib.hid hy
        clear hy hin
        go_wp2_with fail
        refine (mezzanineref01_in.calls _ _ _ false _ HY.out).mono ?_
        rintro e2 w3 ⟨rfl, hd2⟩
        have hb2 := hd2.below
        have HW2 := Lib.hid (blk_below hb2 HW.out)
        have HA2 := Lib.hid (blk_below hb2 HA.out)
        have HB2 := Lib.hid (below_then HB.out (below_size HB.out) hb2)
        clear hb2 hd2 HW HA HB
        go_wp2
        go_roundw
        case rel =>
          refine ⟨k + 1, by omega, by go_num, ?_, HA2.out, HB2.out⟩
          rw [HW2.out]; congr 2; apply bArr_congr; intro i hi
          unfold mezzanineref01_Put.St
          have := HN.out
          by_cases h2 : i < k ∧ 0 ≤ lo ∧ lo < 64 ∧ lo ≤ i ∧ (i : Int) - lo < n
          · rw [if_pos h2, if_pos (by omega)]
          · rw [if_neg h2, if_neg (by intro h3; by_cases h4 : i = k; · subst h4; omega
                                      · omega)]
        case measure => first | (simp [intOf]; done) | (simp [intOf]; omega)
    · obtain rfl : k = 64 := by omega
      have HB2 := Lib.hid hB
      have HW2 := Lib.hid hW
      clear hB hA hW
      go_wp2_with (refine wpList_load_row rfl 36 _ rfl g rfl 36 _ (0, 0) _ HW2.out Try.underlying36 rfl (by rw [bArr_size]; exact HI.out) ?_)
      refine (mezzanineref01_Join.calls _ _).mono ?_
      rintro e3 w3 ⟨rfl, hb3⟩
      go_wp2
      go_ret
      exact ⟨rfl, below_then HB2.out (below_size HB2.out) hb3⟩
theorem mezzanineref01_Put.calls (a0 : Int) (a1 : Int) (a2 : Int) (a3 : Int) (r : Int) (w : World) (h : mezzanineref01_Put.f a0 a1 a2 a3 = some r) :
    Calls Try.prog 18 #[.int .u64 a0, .int .i64 a1, .int .i64 a2, .int .u64 a3] w fun e w' => e = .returned (.int .u64 r) ∧ Below w.heap.size w w' := by
  unfold mezzanineref01_Put.f at h
  split at h
  · rename_i hc
    obtain rfl := Option.some.inj h
    have := mezzanineref01_Put.callsB (BitVec.ofInt 64 a0) (BitVec.ofInt 64 a3) a1 a2 w
    rw [U_ofInt hc.1 hc.2.1, U_ofInt hc.2.2.1 hc.2.2.2] at this
    exact this
  · exact absurd h (by simp)
end

/-! ### mezzaninelaw01_BitsPieces: function 5 -/
def mezzaninelaw01_BitsPieces.f (k : Nat) (a0 : Int) (a1 : Int) (a2 : Int) (a3 : Int) : Option (Bool) := (mezzaninelaw01_awake.f k).bind fun t125 => (if t125 = true then ((bits_Mask.f a3).bind fun t126 => ((mezzanineref01_Mask.f a3).bind fun t127 => (if t126 = t127 then ((bits_Field.f a0 a2 a3).bind fun t128 => ((mezzanineref01_Field.f a0 a2 a3).bind fun t129 => (if t128 = t129 then ((bits_Put.f a0 a2 a3 a1).bind fun t130 => ((mezzanineref01_Put.f a0 a2 a3 a1).bind fun t131 => (some (t130 == t131)))) else (some false)))) else (some false)))) else (some false))
theorem mezzaninelaw01_BitsPieces.mono : ∀ a0 a1 a2 a3 k, LeO (mezzaninelaw01_BitsPieces.f k a0 a1 a2 a3) (mezzaninelaw01_BitsPieces.f (k + 1) a0 a1 a2 a3) := by
  intro a0 a1 a2 a3 k
  unfold mezzaninelaw01_BitsPieces.f
  repeat' first
      | (with_reducible exact mezzaninelaw01_awake.mono _)
      | (with_reducible exact LeO.refl _)
      | (with_reducible exact LeO.none _)
      | (with_reducible refine LeO.ite ?_ ?_)
      | (with_reducible refine LeO.bind ?_ (fun _ => ?_))
      | exact mezzaninelaw01_awake.mono _
      | exact LeO.none _
      | refine LeO.ite ?_ ?_
      | refine LeO.bind ?_ (fun _ => ?_)
set_option maxHeartbeats 8000000 in
set_option maxRecDepth 100000 in
theorem mezzaninelaw01_BitsPieces.calls (k : Nat) (a0 : Int) (a1 : Int) (a2 : Int) (a3 : Int) (r : Bool) (w : World) (h : mezzaninelaw01_BitsPieces.f k a0 a1 a2 a3 = some r) :
    Calls Try.prog 5 #[.int .u64 a0, .int .u64 a1, .int .i64 a2, .int .i64 a3] w fun e w' => e = .returned (.bool r) ∧ Below w.heap.size w w' := by
  have HB := Aside0.mk (Below.refl w.heap.size w)
  have H : ((mezzaninelaw01_awake.f k).bind fun t125 => (if t125 = true then ((bits_Mask.f a3).bind fun t126 => ((mezzanineref01_Mask.f a3).bind fun t127 => (if t126 = t127 then ((bits_Field.f a0 a2 a3).bind fun t128 => ((mezzanineref01_Field.f a0 a2 a3).bind fun t129 => (if t128 = t129 then ((bits_Put.f a0 a2 a3 a1).bind fun t130 => ((mezzanineref01_Put.f a0 a2 a3 a1).bind fun t131 => (some (t130 == t131)))) else (some false)))) else (some false)))) else (some false))) = some r := h
  clear h
  replace H := Option.bind_eq_some_iff.mp H
  obtain ⟨t125, A50, H⟩ := H
  replace H : (if t125 = true then ((bits_Mask.f a3).bind fun t126 => ((mezzanineref01_Mask.f a3).bind fun t127 => (if t126 = t127 then ((bits_Field.f a0 a2 a3).bind fun t128 => ((mezzanineref01_Field.f a0 a2 a3).bind fun t129 => (if t128 = t129 then ((bits_Put.f a0 a2 a3 a1).bind fun t130 => ((mezzanineref01_Put.f a0 a2 a3 a1).bind fun t131 => (some (t130 == t131)))) else (some false)))) else (some false)))) else (some false)) = some r := H
  have A5 := Aside0.mk A50
  clear A50
  by_cases c6 : t125 = true
  · subst c6
    have H1 : ((bits_Mask.f a3).bind fun t126 => ((mezzanineref01_Mask.f a3).bind fun t127 => (if t126 = t127 then ((bits_Field.f a0 a2 a3).bind fun t128 => ((mezzanineref01_Field.f a0 a2 a3).bind fun t129 => (if t128 = t129 then ((bits_Put.f a0 a2 a3 a1).bind fun t130 => ((mezzanineref01_Put.f a0 a2 a3 a1).bind fun t131 => (some (t130 == t131)))) else (some false)))) else (some false)))) = some r := by rw [if_pos rfl] at H; exact H
    clear H
    have H := H1
    clear H1
    replace H := Option.bind_eq_some_iff.mp H
    obtain ⟨t126, A70, H⟩ := H
    replace H : ((mezzanineref01_Mask.f a3).bind fun t127 => (if t126 = t127 then ((bits_Field.f a0 a2 a3).bind fun t128 => ((mezzanineref01_Field.f a0 a2 a3).bind fun t129 => (if t128 = t129 then ((bits_Put.f a0 a2 a3 a1).bind fun t130 => ((mezzanineref01_Put.f a0 a2 a3 a1).bind fun t131 => (some (t130 == t131)))) else (some false)))) else (some false))) = some r := H
    have A7 := Aside0.mk A70
    clear A70
    replace H := Option.bind_eq_some_iff.mp H
    obtain ⟨t127, A80, H⟩ := H
    replace H : (if t126 = t127 then ((bits_Field.f a0 a2 a3).bind fun t128 => ((mezzanineref01_Field.f a0 a2 a3).bind fun t129 => (if t128 = t129 then ((bits_Put.f a0 a2 a3 a1).bind fun t130 => ((mezzanineref01_Put.f a0 a2 a3 a1).bind fun t131 => (some (t130 == t131)))) else (some false)))) else (some false)) = some r := H
    have A8 := Aside0.mk A80
    clear A80
    by_cases c9 : t126 = t127
    · rw [if_pos c9] at H
      have c9b0 : (t126 == t127) = true := beq_iff_eq.mpr c9
      have c9b1 : (t126 != t127) = false := bne_eq_false_iff_eq.mpr c9
      clear c9
      replace H := Option.bind_eq_some_iff.mp H
      obtain ⟨t128, A100, H⟩ := H
      replace H : ((mezzanineref01_Field.f a0 a2 a3).bind fun t129 => (if t128 = t129 then ((bits_Put.f a0 a2 a3 a1).bind fun t130 => ((mezzanineref01_Put.f a0 a2 a3 a1).bind fun t131 => (some (t130 == t131)))) else (some false))) = some r := H
      have A10 := Aside0.mk A100
      clear A100
      replace H := Option.bind_eq_some_iff.mp H
      obtain ⟨t129, A110, H⟩ := H
      replace H : (if t128 = t129 then ((bits_Put.f a0 a2 a3 a1).bind fun t130 => ((mezzanineref01_Put.f a0 a2 a3 a1).bind fun t131 => (some (t130 == t131)))) else (some false)) = some r := H
      have A11 := Aside0.mk A110
      clear A110
      by_cases c12 : t128 = t129
      · rw [if_pos c12] at H
        have c12b0 : (t128 == t129) = true := beq_iff_eq.mpr c12
        have c12b1 : (t128 != t129) = false := bne_eq_false_iff_eq.mpr c12
        clear c12
        replace H := Option.bind_eq_some_iff.mp H
        obtain ⟨t130, A130, H⟩ := H
        replace H : ((mezzanineref01_Put.f a0 a2 a3 a1).bind fun t131 => (some (t130 == t131))) = some r := H
        have A13 := Aside0.mk A130
        clear A130
        replace H := Option.bind_eq_some_iff.mp H
        obtain ⟨t131, A140, H⟩ := H
        replace H : (some (t130 == t131)) = some r := H
        have A14 := Aside0.mk A140
        clear A140
        obtain rfl := Option.some.inj H
        go_enter Try.func5, Try.ntmps5
        go_wp2_with (first | ((with_reducible refine gate_callee (f := 8) rfl ?_); refine goesL_ (some 9) rfl rfl Try.func8 (by kernel_rfl) rfl #[] rfl (by (try simp only [List.map_toArray, List.map_cons, List.map_nil]); first | done | rfl | (simp only [List.length_drop, List.length_take]; rfl)) ?_; (with_reducible refine (mezzaninelaw01_awake.calls k  true _ A5.out).mono ?_); rintro e w15 ⟨rfl, hb⟩; refine ⟨_, rfl, ?_⟩; have n0_ := Aside0.mk (below_step (by repeat (first | (with_reducible first | exact HB.out | apply below_alloc | apply pw_below_drewN | apply below_drew1) | exact HB.out)) hb); clear HB; have HB := n0_; clear n0_; (try clear hb); (try clear hb2); (try clear hk); (try clear hi)) | (go_at_call 14; (with_reducible refine (bits_Mask.calls a3 t126 _ A7.out).mono ?_); rintro e w' ⟨rfl, ⟨nd, rfl⟩⟩) | (go_at_call 15; (with_reducible refine (mezzanineref01_Mask.calls a3 t127 _ A8.out).mono ?_); rintro e w16 ⟨rfl, hb⟩; have n0_ := Aside0.mk (below_step (by repeat (first | (with_reducible first | exact HB.out | apply below_alloc | apply pw_below_drewN | apply below_drew1) | exact HB.out)) hb); clear HB; have HB := n0_; clear n0_; (try clear hb); (try clear hb2); (try clear hk); (try clear hi)) | (go_at_call 13; (with_reducible refine (bits_Field.calls a0 a2 a3 t128 _ A10.out).mono ?_); rintro e w17 ⟨rfl, hb⟩; have n0_ := Aside0.mk (below_step (by repeat (first | (with_reducible first | exact HB.out | apply below_alloc | apply pw_below_drewN | apply below_drew1) | exact HB.out)) hb); clear HB; have HB := n0_; clear n0_; (try clear hb); (try clear hb2); (try clear hk); (try clear hi)) | (go_at_call 16; (with_reducible refine (mezzanineref01_Field.calls a0 a2 a3 t129 _ A11.out).mono ?_); rintro e w18 ⟨rfl, hb⟩; have n0_ := Aside0.mk (below_step (by repeat (first | (with_reducible first | exact HB.out | apply below_alloc | apply pw_below_drewN | apply below_drew1) | exact HB.out)) hb); clear HB; have HB := n0_; clear n0_; (try clear hb); (try clear hb2); (try clear hk); (try clear hi)) | (go_at_call 17; (with_reducible refine (bits_Put.calls a0 a2 a3 a1 t130 _ A13.out).mono ?_); rintro e w19 ⟨rfl, hb⟩; have n0_ := Aside0.mk (below_step (by repeat (first | (with_reducible first | exact HB.out | apply below_alloc | apply pw_below_drewN | apply below_drew1) | exact HB.out)) hb); clear HB; have HB := n0_; clear n0_; (try clear hb); (try clear hb2); (try clear hk); (try clear hi)) | (go_at_call 18; (with_reducible refine (mezzanineref01_Put.calls a0 a2 a3 a1 t131 _ A14.out).mono ?_); rintro e w20 ⟨rfl, hb⟩; have n0_ := Aside0.mk (below_step (by repeat (first | (with_reducible first | exact HB.out | apply below_alloc | apply pw_below_drewN | apply below_drew1) | exact HB.out)) hb); clear HB; have HB := n0_; clear n0_; (try clear hb); (try clear hb2); (try clear hk); (try clear hi)))
        go_ret
        exact ⟨by first | rfl | (simp [errW_none, errW_some] <;> rfl) | (simp [*, errW_none, errW_some] <;> rfl), by repeat (first | (with_reducible first | exact HB.out | apply below_alloc | apply pw_below_drewN | apply below_drew1) | exact HB.out)⟩
      · rw [if_neg c12] at H
        have c12b0 : (t128 == t129) = false := beq_eq_false_iff_ne.mpr c12
        have c12b1 : (t128 != t129) = true := bne_iff_ne.mpr c12
        obtain rfl := Option.some.inj H
        go_enter Try.func5, Try.ntmps5
        go_wp2_with (first | ((with_reducible refine gate_callee (f := 8) rfl ?_); refine goesL_ (some 9) rfl rfl Try.func8 (by kernel_rfl) rfl #[] rfl (by (try simp only [List.map_toArray, List.map_cons, List.map_nil]); first | done | rfl | (simp only [List.length_drop, List.length_take]; rfl)) ?_; (with_reducible refine (mezzaninelaw01_awake.calls k  true _ A5.out).mono ?_); rintro e w21 ⟨rfl, hb⟩; refine ⟨_, rfl, ?_⟩; have n0_ := Aside0.mk (below_step (by repeat (first | (with_reducible first | exact HB.out | apply below_alloc | apply pw_below_drewN | apply below_drew1) | exact HB.out)) hb); clear HB; have HB := n0_; clear n0_; (try clear hb); (try clear hb2); (try clear hk); (try clear hi)) | (go_at_call 14; (with_reducible refine (bits_Mask.calls a3 t126 _ A7.out).mono ?_); rintro e w' ⟨rfl, ⟨nd, rfl⟩⟩) | (go_at_call 15; (with_reducible refine (mezzanineref01_Mask.calls a3 t127 _ A8.out).mono ?_); rintro e w22 ⟨rfl, hb⟩; have n0_ := Aside0.mk (below_step (by repeat (first | (with_reducible first | exact HB.out | apply below_alloc | apply pw_below_drewN | apply below_drew1) | exact HB.out)) hb); clear HB; have HB := n0_; clear n0_; (try clear hb); (try clear hb2); (try clear hk); (try clear hi)) | (go_at_call 13; (with_reducible refine (bits_Field.calls a0 a2 a3 t128 _ A10.out).mono ?_); rintro e w23 ⟨rfl, hb⟩; have n0_ := Aside0.mk (below_step (by repeat (first | (with_reducible first | exact HB.out | apply below_alloc | apply pw_below_drewN | apply below_drew1) | exact HB.out)) hb); clear HB; have HB := n0_; clear n0_; (try clear hb); (try clear hb2); (try clear hk); (try clear hi)) | (go_at_call 16; (with_reducible refine (mezzanineref01_Field.calls a0 a2 a3 t129 _ A11.out).mono ?_); rintro e w24 ⟨rfl, hb⟩; have n0_ := Aside0.mk (below_step (by repeat (first | (with_reducible first | exact HB.out | apply below_alloc | apply pw_below_drewN | apply below_drew1) | exact HB.out)) hb); clear HB; have HB := n0_; clear n0_; (try clear hb); (try clear hb2); (try clear hk); (try clear hi)))
        go_ret
        exact ⟨by first | rfl | (simp [errW_none, errW_some] <;> rfl) | (simp [*, errW_none, errW_some] <;> rfl), by repeat (first | (with_reducible first | exact HB.out | apply below_alloc | apply pw_below_drewN | apply below_drew1) | exact HB.out)⟩
    · rw [if_neg c9] at H
      have c9b0 : (t126 == t127) = false := beq_eq_false_iff_ne.mpr c9
      have c9b1 : (t126 != t127) = true := bne_iff_ne.mpr c9
      obtain rfl := Option.some.inj H
      go_enter Try.func5, Try.ntmps5
      go_wp2_with (first | ((with_reducible refine gate_callee (f := 8) rfl ?_); refine goesL_ (some 9) rfl rfl Try.func8 (by kernel_rfl) rfl #[] rfl (by (try simp only [List.map_toArray, List.map_cons, List.map_nil]); first | done | rfl | (simp only [List.length_drop, List.length_take]; rfl)) ?_; (with_reducible refine (mezzaninelaw01_awake.calls k  true _ A5.out).mono ?_); rintro e w25 ⟨rfl, hb⟩; refine ⟨_, rfl, ?_⟩; have n0_ := Aside0.mk (below_step (by repeat (first | (with_reducible first | exact HB.out | apply below_alloc | apply pw_below_drewN | apply below_drew1) | exact HB.out)) hb); clear HB; have HB := n0_; clear n0_; (try clear hb); (try clear hb2); (try clear hk); (try clear hi)) | (go_at_call 14; (with_reducible refine (bits_Mask.calls a3 t126 _ A7.out).mono ?_); rintro e w' ⟨rfl, ⟨nd, rfl⟩⟩) | (go_at_call 15; (with_reducible refine (mezzanineref01_Mask.calls a3 t127 _ A8.out).mono ?_); rintro e w26 ⟨rfl, hb⟩; have n0_ := Aside0.mk (below_step (by repeat (first | (with_reducible first | exact HB.out | apply below_alloc | apply pw_below_drewN | apply below_drew1) | exact HB.out)) hb); clear HB; have HB := n0_; clear n0_; (try clear hb); (try clear hb2); (try clear hk); (try clear hi)))
      go_ret
      exact ⟨by first | rfl | (simp [errW_none, errW_some] <;> rfl) | (simp [*, errW_none, errW_some] <;> rfl), by repeat (first | (with_reducible first | exact HB.out | apply below_alloc | apply pw_below_drewN | apply below_drew1) | exact HB.out)⟩
  · replace c6 := Bool.eq_false_iff.mpr c6
    subst c6
    have H1 : (some false) = some r := by rw [if_neg (show ¬ (false = true) by decide)] at H; exact H
    clear H
    have H := H1
    clear H1
    obtain rfl := Option.some.inj H
    go_enter Try.func5, Try.ntmps5
    go_wp2_with (first | ((with_reducible refine gate_callee (f := 8) rfl ?_); refine goesL_ (some 9) rfl rfl Try.func8 (by kernel_rfl) rfl #[] rfl (by (try simp only [List.map_toArray, List.map_cons, List.map_nil]); first | done | rfl | (simp only [List.length_drop, List.length_take]; rfl)) ?_; (with_reducible refine (mezzaninelaw01_awake.calls k  false _ A5.out).mono ?_); rintro e w27 ⟨rfl, hb⟩; refine ⟨_, rfl, ?_⟩; have n0_ := Aside0.mk (below_step (by repeat (first | (with_reducible first | exact HB.out | apply below_alloc | apply pw_below_drewN | apply below_drew1) | exact HB.out)) hb); clear HB; have HB := n0_; clear n0_; (try clear hb); (try clear hb2); (try clear hk); (try clear hi)))
    go_ret
    exact ⟨by first | rfl | (simp [errW_none, errW_some] <;> rfl) | (simp [*, errW_none, errW_some] <;> rfl), by repeat (first | (with_reducible first | exact HB.out | apply below_alloc | apply pw_below_drewN | apply below_drew1) | exact HB.out)⟩

/-- THE ONE PURE STATEMENT of mezzaninelaw01_BitsPieces: yours. -/
def mezzaninelaw01_BitsPieces.Pure : Prop := ∀ (a0 : Int) (a1 : Int) (a2 : Int) (a3 : Int), (Lit.int .u64 a0).wf = true → (Lit.int .u64 a1).wf = true → (Lit.int .i64 a2).wf = true → (Lit.int .i64 a3).wf = true → ∃ k, mezzaninelaw01_BitsPieces.f k a0 a1 a2 a3 = some true
theorem mezzaninelaw01_BitsPieces.walk (P : mezzaninelaw01_BitsPieces.Pure) (a0 : Int) (a1 : Int) (a2 : Int) (a3 : Int) (w : World) (w0 : (Lit.int .u64 a0).wf = true) (w1 : (Lit.int .u64 a1).wf = true) (w2 : (Lit.int .i64 a2).wf = true) (w3 : (Lit.int .i64 a3).wf = true) :
    Calls Try.prog 5 #[.int .u64 a0, .int .u64 a1, .int .i64 a2, .int .i64 a3] w fun e w' => e = .returned (.bool true) ∧ Below w.heap.size w w' := by
  obtain ⟨k, h⟩ := P a0 a1 a2 a3 w0 w1 w2 w3
  refine (mezzaninelaw01_BitsPieces.calls k a0 a1 a2 a3 true w h).mono ?_
  rintro e w' ⟨rfl, hd⟩
  exact ⟨rfl, hd⟩

end Go.Proofs.Ytkcgihpnlekfnaa.Q
