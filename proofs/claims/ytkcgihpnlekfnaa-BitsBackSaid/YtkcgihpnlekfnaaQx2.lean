/- Where the Lean function of a Go function gives a value, the Go call returns that value and changes nothing that was there: for every input. (By a program of this session, and by hand.) -/
import Derived.Test.YtkcgihpnlekfnaaQx0
import Derived.Test.YtkcgihpnlekfnaaQx1
namespace Go.Proofs.Ytkcgihpnlekfnaa.Q
open Go.RowKit Go.Proofs.YtkcgihpnlekfnaaW.PrintWords Go.Proofs.YtkcgihpnlekfnaaW.PrintLast Go.Proofs.YtkcgihpnlekfnaaW.PrintMore
attribute [local go_sem] max2_int min2_int max_two min_two max_three min_three max_four min_four   -- for this text's walks alone
set_option linter.unusedVariables false
set_option linter.unusedSimpArgs false

/-! ### mezzanineref01_Join: by hand -/
section
open Go.Proofs.Ytkcgihpnlekfnaa.Bv
set_option maxHeartbeats 4000000 in
set_option maxRecDepth 100000 in
theorem mezzanineref01_Join.callsW (x : BitVec 64) (w : World) : Calls Try.prog 23 #[.agg (wArr x)] w fun e w' => e = .returned (.int .u64 (U x)) ∧ Below w.heap.size w w' := by
  obtain ⟨c, hc⟩ : ∃ c, c = wArr x := ⟨_, rfl⟩
  have hcell : ∀ k, k < 64 → c[k]? = some (.bool (x.getLsbD k)) := fun k h => by rw [hc]; exact bArr_get _ k h
  rw [← hc]
  clear hc
  have HC := Lib.hid hcell
  clear hcell
  go_enter Try.func23, Try.ntmps23
  go_wp2
  go_loop [3, 4] (fun v3 v4 => ∃ k : Nat, k ≤ 64 ∧ v4 = .int .i64 ((k : Int) - 1) ∧ v3 = .int .u64 (U (x >>> k))) (fun _ v4 => (intOf v4 + 1).toNat)
  case atStart => exact ⟨64, by omega, rfl, by rw [show x >>> 64 = 0#64 from BitVec.eq_of_getLsbD_eq fun i hi => by rw [BitVec.getLsbD_ushiftRight, BitVec.getLsbD_of_ge _ _ (by omega)]; simp]; rfl⟩
  case round =>
    obtain ⟨k, hk, rfl, rfl⟩ := hrel
    by_cases hlt : k = 0
    · subst hlt
      go_wp2
      go_ret
      exact ⟨by simp, (Below.refl _ _).alloc (Nat.le_refl _) _⟩
    · obtain ⟨j, rfl⟩ : ∃ j, k = j + 1 := ⟨k - 1, by omega⟩
      have hg := HC.out j (by omega)
      have hj := join_step x j (by omega)
      have e1 : ((j + 1 : Nat) : Int) - 1 = (j : Int) := by omega
      rw [e1]
      have HJ := Lib.hid hj
      clear hj e1
      cases hb : x.getLsbD j
      · rw [hb] at hg
        have h2 := join_off x j hb
        clear hb
        go_wp2
        go_round
        case rel => exact ⟨j, by omega, rfl, by rw [HJ.out, h2]⟩
        case measure => first | (simp [intOf]; done) | (simp [intOf]; omega)
      · rw [hb] at hg
        have h2 := join_on x j hb
        clear hb
        go_wp2
        go_round
        case rel => exact ⟨j, by omega, rfl, by rw [HJ.out, join_one, h2]⟩
        case measure => first | (simp [intOf]; done) | (simp [intOf]; omega)
theorem mezzanineref01_Join.calls (b : Nat → Bool) (w : World) : Calls Try.prog 23 #[.agg (bArr b)] w fun e w' => e = .returned (.int .u64 (U (ofB b))) ∧ Below w.heap.size w w' := by
  rw [← wArr_ofB]; exact mezzanineref01_Join.callsW _ _
end

/-! ### mezzanineref01_Sext: by hand -/
section
open Go.Proofs.Ytkcgihpnlekfnaa.Bv
def mezzanineref01_Sext.B (x : BitVec 64) (n : Int) : BitVec 64 := if n < 1 then 0#64 else ofB fun i => if n ≤ (i : Int) then bitOf x (n - 1).toNat else bitOf x i
def mezzanineref01_Sext.f (a0 : Int) (a1 : Int) : Option (Int) := if 0 ≤ a0 ∧ a0 < 18446744073709551616 ∧ -9223372036854775808 ≤ a1 ∧ a1 < 9223372036854775808 then some (U (mezzanineref01_Sext.B (BitVec.ofInt 64 a0) a1)) else none
set_option maxHeartbeats 4000000 in
set_option maxRecDepth 100000 in
theorem mezzanineref01_Sext.callsB (x : BitVec 64) (n : Int) (h0 : -9223372036854775808 ≤ n) (h1 : n < 9223372036854775808) (w : World) :
    Calls Try.prog 10 #[.int .u64 (U x), .int .i64 n] w fun e w' => e = .returned (.int .u64 (U (mezzanineref01_Sext.B x n))) ∧ Below w.heap.size w w' := by
  by_cases hn : n < 1
  · have e : mezzanineref01_Sext.B x n = 0#64 := by unfold mezzanineref01_Sext.B; rw [if_pos hn]
    rw [e]
    go_enter Try.func10, Try.ntmps10
    go_wp2
    go_ret
    exact ⟨rfl, Below.refl _ _⟩
  obtain ⟨m, rfl⟩ : ∃ m : Nat, n = (m : Int) + 1 := ⟨(n - 1).toNat, by omega⟩
  obtain ⟨hz, hi⟩ := zero_of_info mezzanineref01_Split.zero
  have HI := Lib.hid hi
  clear hi
  have e : mezzanineref01_Sext.B x ((m : Int) + 1) = ofB fun i => if m < i then bitOf x m else bitOf x i := by
    unfold mezzanineref01_Sext.B; rw [if_neg hn]; congr 1; funext i
    rw [show ((m : Int) + 1 - 1).toNat = m by omega]
    by_cases h : m < i
    · rw [if_pos h, if_pos (by omega)]
    · rw [if_neg h, if_neg (by omega)]
  rw [e]
  have hlt1 : ¬ ((m : Int) + 1 < 1) := by omega
  clear h0 h1 hn e
  go_enter Try.func10, Try.ntmps10
  go_wp2_with fail
  refine (mezzanineref01_Split.calls x _).mono ?_
  rintro e1 w1 ⟨rfl, hb1⟩
  go_wp2_with (refine wpList_store_row rfl 36 _ _ rfl w1.heap.size (wArr x) rfl rfl 36 (bArr fun _ => false) (heap_alloc_last _ _) (by rw [show (wArr x).size = 64 from bArr_size _]; exact HI.out) (by rw [bArr_size, show (wArr x).size = 64 from bArr_size _]) (bArr_one _) ?_)
  rw [blk_stored]
  have hW : (w1.alloc (.cells (wArr x) 36)).heap[w1.heap.size]? = some (.cells (bArr fun i => if m < i ∧ i < 0 then bitOf x m else bitOf x i) 36 (0, 0)) := by
    rw [heap_alloc_last]; simp [wArr]
  have hB : Below w.heap.size w (w1.alloc (.cells (wArr x) 36)) := hb1.alloc hb1.size _
  have hS := hb1.size
  generalize w1.alloc (.cells (wArr x) 36) = W0 at hW hB ⊢
  generalize w1.heap.size = g at hW hS ⊢
  clear hb1
  go_loopw [6] (fun v6 wr => ∃ k : Nat, k ≤ 64 ∧ v6 = .int .i64 k ∧ wr.heap[g]? = some (.cells (bArr fun i => if m < i ∧ i < k then bitOf x m else bitOf x i) 36 (0, 0)) ∧ Below w.heap.size w wr) (fun v6 _ => 64 - (intOf v6).toNat)
  case atStart => exact ⟨0, by omega, rfl, hW, hB⟩
  case round =>
    clear hW hB
    obtain ⟨k, hk, rfl, hW, hB⟩ := hrel
    by_cases hlt : k < 64
    · by_cases hm : m < k
      · have c1 := blk_cell (k := m) hW (bArr_get _ m (by omega))
        have c2 := blk_cell (k := k) hW (bArr_get _ k hlt)
        have f2 := blk_free (k := k) hW
        rw [if_neg (by omega)] at c1 c2
        have hW2 := blk_set (k := k) (bitOf x m) hW
        have hB2 := hB.setCell (p := ⟨g, k, none⟩) hS (.bool (bitOf x m))
        have d1 : decide ((m : Int) + 1 ≤ (k : Int)) = true := by simp; omega
        have HW2 := Lib.hid hW2
        have HB2 := Lib.hid hB2
        clear hW hB hW2 hB2
        go_wp2
        go_roundw
        case rel =>
          refine ⟨k + 1, by omega, by go_num, ?_, HB2.out⟩
          rw [HW2.out]; congr 2; apply bArr_congr; intro i hi
          by_cases h : i = k
          · subst h; rw [if_pos rfl, if_pos (by omega)]
          · rw [if_neg h]
            by_cases h2 : m < i ∧ i < k
            · rw [if_pos h2, if_pos (by omega)]
            · rw [if_neg h2, if_neg (by omega)]
        case measure => first | (simp [intOf]; done) | (simp [intOf]; omega)
      · have d1 : decide ((m : Int) + 1 ≤ (k : Int)) = false := by simp; omega
        have HW2 := Lib.hid hW
        have HB2 := Lib.hid hB
        clear hW hB
        go_wp2
        go_roundw
        case rel =>
          refine ⟨k + 1, by omega, by go_num, ?_, HB2.out⟩
          rw [HW2.out]; congr 2; apply bArr_congr; intro i hi
          rw [if_neg (by omega), if_neg (by omega)]
        case measure => first | (simp [intOf]; done) | (simp [intOf]; omega)
    · obtain rfl : k = 64 := by omega
      have HB2 := Lib.hid hB
      clear hB
      have ec : (bArr fun i => if m < i ∧ i < 64 then bitOf x m else bitOf x i) = bArr fun i => if m < i then bitOf x m else bitOf x i := by
        apply bArr_congr; intro i hi
        by_cases h : m < i
        · rw [if_pos h, if_pos ⟨h, hi⟩]
        · rw [if_neg h, if_neg (by omega)]
      rw [ec] at hW
      clear ec
      have HW2 := Lib.hid hW
      clear hW
      go_wp2_with (refine wpList_load_row rfl 36 _ rfl g rfl 36 _ (0, 0) _ HW2.out Try.underlying36 rfl (by rw [bArr_size]; exact HI.out) ?_)
      refine (mezzanineref01_Join.calls _ _).mono ?_
      rintro e3 w3 ⟨rfl, hb3⟩
      go_wp2
      go_ret
      exact ⟨rfl, below_then HB2.out (below_size HB2.out) hb3⟩
theorem mezzanineref01_Sext.calls (a0 : Int) (a1 : Int) (r : Int) (w : World) (h : mezzanineref01_Sext.f a0 a1 = some r) :
    Calls Try.prog 10 #[.int .u64 a0, .int .i64 a1] w fun e w' => e = .returned (.int .u64 r) ∧ Below w.heap.size w w' := by
  unfold mezzanineref01_Sext.f at h
  split at h
  · rename_i hc
    obtain rfl := Option.some.inj h
    have := mezzanineref01_Sext.callsB (BitVec.ofInt 64 a0) a1 hc.2.2.1 hc.2.2.2 w
    rw [U_ofInt hc.1 hc.2.1] at this
    exact this
  · exact absurd h (by simp)
end

/-! ### bits_Canon: function 11 -/
def bits_Canon.f (a0 : Int) (a1 : Int) : Option (Bool) := if a1 > 0 then ((bits_Sext.f a0 a1).bind fun t110 => (some (t110 == a0))) else (some false)
set_option maxHeartbeats 8000000 in
set_option maxRecDepth 100000 in
theorem bits_Canon.calls (a0 : Int) (a1 : Int) (r : Bool) (w : World) (h : bits_Canon.f a0 a1 = some r) :
    Calls Try.prog 11 #[.int .u64 a0, .int .i64 a1] w fun e w' => e = .returned (.bool r) ∧ Drawn0 w w' := by
  have H : (if a1 > 0 then ((bits_Sext.f a0 a1).bind fun t110 => (some (t110 == a0))) else (some false)) = some r := h
  clear h
  by_cases c3 : a1 > 0
  · rw [if_pos c3] at H
    have c3b0 : decide (0 < a1) = true := decide_eq_true c3
    clear c3
    replace H := Option.bind_eq_some_iff.mp H
    obtain ⟨t110, A40, H⟩ := H
    replace H : (some (t110 == a0)) = some r := H
    have A4 := Aside0.mk A40
    clear A40
    obtain rfl := Option.some.inj H
    go_enter Try.func11, Try.ntmps11
    go_wp2_with (first | (go_at_call 9; (with_reducible refine (bits_Sext.calls a0 a1 t110 _ A4.out).mono ?_); rintro e w' ⟨rfl, ⟨nd, rfl⟩⟩))
    go_ret
    exact ⟨by first | rfl | (simp; done) | (simp [*]; done), by repeat (first | exact Drawn0.refl _ | apply Drawn0.step)⟩
  · rw [if_neg c3] at H
    have c3b0 : decide (0 < a1) = false := decide_eq_false c3
    clear c3
    obtain rfl := Option.some.inj H
    go_enter Try.func11, Try.ntmps11
    go_wp2
    go_ret
    exact ⟨by first | rfl | (simp; done) | (simp [*]; done), by repeat (first | exact Drawn0.refl _ | apply Drawn0.step)⟩

/-! ### mezzanineref01_Canon: by hand -/
section
open Go.Proofs.Ytkcgihpnlekfnaa.Bv
def mezzanineref01_Canon.B (x : BitVec 64) (n : Int) : Bool := decide (1 ≤ n) && (List.range 64).all fun i => !decide (n ≤ (i : Int)) || (bitOf x i == bitOf x (n - 1).toNat)
def mezzanineref01_Canon.f (a0 : Int) (a1 : Int) : Option (Bool) := if 0 ≤ a0 ∧ a0 < 18446744073709551616 ∧ -9223372036854775808 ≤ a1 ∧ a1 < 9223372036854775808 then some (mezzanineref01_Canon.B (BitVec.ofInt 64 a0) a1) else none
set_option maxHeartbeats 4000000 in
set_option maxRecDepth 100000 in
theorem mezzanineref01_Canon.callsB (x : BitVec 64) (n : Int) (h0 : -9223372036854775808 ≤ n) (h1 : n < 9223372036854775808) (w : World) :
    Calls Try.prog 12 #[.int .u64 (U x), .int .i64 n] w fun e w' => e = .returned (.bool (mezzanineref01_Canon.B x n)) ∧ Below w.heap.size w w' := by
  by_cases hn : n < 1
  · have e : mezzanineref01_Canon.B x n = false := by unfold mezzanineref01_Canon.B; rw [show decide (1 ≤ n) = false by simp; omega]; rfl
    rw [e]
    go_enter Try.func12, Try.ntmps12
    go_wp2
    go_ret
    exact ⟨rfl, Below.refl _ _⟩
  obtain ⟨m, rfl⟩ : ∃ m : Nat, n = (m : Int) + 1 := ⟨(n - 1).toNat, by omega⟩
  obtain ⟨hz, hi⟩ := zero_of_info mezzanineref01_Split.zero
  have HI := Lib.hid hi
  clear hi
  have hyes : (∀ i, i < 64 → m < i → bitOf x i = bitOf x m) → mezzanineref01_Canon.B x ((m : Int) + 1) = true := by
    intro h
    unfold mezzanineref01_Canon.B
    rw [show ((m : Int) + 1 - 1).toNat = m by omega, show decide (1 ≤ (m : Int) + 1) = true by simp; omega, Bool.true_and, List.all_eq_true]
    intro i hi
    rw [List.mem_range] at hi
    by_cases h2 : m < i
    · rw [h i hi h2]; simp
    · rw [show decide ((m : Int) + 1 ≤ (i : Int)) = false by simp; omega]; rfl
  have hno : ∀ k, k < 64 → m < k → bitOf x k ≠ bitOf x m → mezzanineref01_Canon.B x ((m : Int) + 1) = false := by
    intro k hk hm h
    unfold mezzanineref01_Canon.B
    rw [show ((m : Int) + 1 - 1).toNat = m by omega, show decide (1 ≤ (m : Int) + 1) = true by simp; omega, Bool.true_and, List.all_eq_false]
    refine ⟨k, List.mem_range.2 hk, ?_⟩
    rw [show decide ((m : Int) + 1 ≤ (k : Int)) = true by simp; omega]
    simpa using h
  have HY := Lib.hid hyes
  have HN := Lib.hid hno
  have hlt1 : ¬ ((m : Int) + 1 < 1) := by omega
  clear h0 h1 hn hyes hno
  go_enter Try.func12, Try.ntmps12
  go_wp2_with fail
  refine (mezzanineref01_Split.calls x _).mono ?_
  rintro e1 w1 ⟨rfl, hb1⟩
  go_wp2_with (refine wpList_store_row rfl 36 _ _ rfl w1.heap.size (wArr x) rfl rfl 36 (bArr fun _ => false) (heap_alloc_last _ _) (by rw [show (wArr x).size = 64 from bArr_size _]; exact HI.out) (by rw [bArr_size, show (wArr x).size = 64 from bArr_size _]) (bArr_one _) ?_)
  rw [blk_stored]
  have hW := heap_alloc_last w1 (.cells (wArr x) 36)
  have hB : Below w.heap.size w (w1.alloc (.cells (wArr x) 36)) := hb1.alloc hb1.size _
  generalize w1.alloc (.cells (wArr x) 36) = W0 at hW hB ⊢
  generalize w1.heap.size = g at hW ⊢
  clear hb1
  go_loopw [6] (fun v6 wr => ∃ k : Nat, k ≤ 64 ∧ v6 = .int .i64 k ∧ (∀ i, i < k → m < i → bitOf x i = bitOf x m) ∧ wr.heap[g]? = some (.cells (wArr x) 36 (0, 0)) ∧ Below w.heap.size w wr) (fun v6 _ => 64 - (intOf v6).toNat)
  case atStart => exact ⟨0, by omega, rfl, fun i hi => absurd hi (Nat.not_lt_zero i), hW, hB⟩
  case round =>
    clear hW hB
    obtain ⟨k, hk, rfl, hall, hW, hB⟩ := hrel
    have HA := Lib.hid hall
    have HB := Lib.hid hB
    clear hall hB
    by_cases hlt : k < 64
    · have HW := Lib.hid hW
      by_cases hm : m < k
      · have c1 := blk_cell (k := m) hW (bArr_get _ m (by omega))
        have c2 := blk_cell (k := k) hW (bArr_get _ k hlt)
        clear hW
        have d1 : decide ((m : Int) + 1 ≤ (k : Int)) = true := by simp; omega
        obtain ⟨b1, hb1⟩ : ∃ b, b = bitOf x m := ⟨_, rfl⟩
        obtain ⟨b2, hb2⟩ : ∃ b, b = bitOf x k := ⟨_, rfl⟩
        rw [← hb1] at c1
        rw [← hb2] at c2
        have H1 := Lib.hid hb1
        have H2 := Lib.hid hb2
        clear hb1 hb2
        by_cases hb : b2 = b1
        · subst hb
          go_wp2
          go_quiet (fail)
          go_wp2
          go_roundw
          case rel =>
            refine ⟨k + 1, by omega, by go_num, ?_, HW.out, pw_below_drewN HB.out _⟩
            intro i hi hmi
            by_cases h : i = k
            · subst h; rw [← H2.out, ← H1.out]
            · exact HA.out i (by omega) hmi
          case measure => first | (simp [intOf]; done) | (simp [intOf]; omega)
        · have HBN := Lib.hid hb
          clear hb
          cases b1 <;> cases b2
          · exact absurd rfl HBN.out
          · go_wp2
            go_quiet (fail)
            go_wp2
            go_ret
            exact ⟨by rw [HN.out k hlt hm (by rw [← H2.out, ← H1.out]; exact HBN.out)]; rfl, pw_below_drewN HB.out _⟩
          · go_wp2
            go_quiet (fail)
            go_wp2
            go_ret
            exact ⟨by rw [HN.out k hlt hm (by rw [← H2.out, ← H1.out]; exact HBN.out)]; rfl, pw_below_drewN HB.out _⟩
          · exact absurd rfl HBN.out
      · have d1 : decide ((m : Int) + 1 ≤ (k : Int)) = false := by simp; omega
        clear hW
        go_wp2
        go_quiet (fail)
        go_wp2
        go_roundw
        case rel =>
          refine ⟨k + 1, by omega, by go_num, ?_, HW.out, pw_below_drewN HB.out _⟩
          intro i hi hmi
          exact HA.out i (by omega) hmi
        case measure => first | (simp [intOf]; done) | (simp [intOf]; omega)
    · obtain rfl : k = 64 := by omega
      clear hW
      go_wp2
      go_ret
      exact ⟨by rw [HY.out HA.out]; rfl, HB.out⟩
theorem mezzanineref01_Canon.calls (a0 : Int) (a1 : Int) (r : Bool) (w : World) (h : mezzanineref01_Canon.f a0 a1 = some r) :
    Calls Try.prog 12 #[.int .u64 a0, .int .i64 a1] w fun e w' => e = .returned (.bool r) ∧ Below w.heap.size w w' := by
  unfold mezzanineref01_Canon.f at h
  split at h
  · rename_i hc
    obtain rfl := Option.some.inj h
    have := mezzanineref01_Canon.callsB (BitVec.ofInt 64 a0) a1 hc.2.2.1 hc.2.2.2 w
    rw [U_ofInt hc.1 hc.2.1] at this
    exact this
  · exact absurd h (by simp)
end

/-! ### mezzaninelaw01_BitsSigns: function 3 -/
def mezzaninelaw01_BitsSigns.f (k : Nat) (a0 : Int) (a1 : Int) : Option (Bool) := (mezzaninelaw01_awake.f k).bind fun t111 => (if t111 = true then ((bits_Sext.f a0 a1).bind fun t112 => ((mezzanineref01_Sext.f a0 a1).bind fun t113 => (if t112 = t113 then ((bits_Canon.f a0 a1).bind fun t114 => ((mezzanineref01_Canon.f a0 a1).bind fun t115 => (some (t114 == t115)))) else (some false)))) else (some false))
theorem mezzaninelaw01_BitsSigns.mono : ∀ a0 a1 k, LeO (mezzaninelaw01_BitsSigns.f k a0 a1) (mezzaninelaw01_BitsSigns.f (k + 1) a0 a1) := by
  intro a0 a1 k
  unfold mezzaninelaw01_BitsSigns.f
  repeat' first
      | (with_reducible exact mezzaninelaw01_awake.mono _)
      | (with_reducible exact LeO.refl _)
      | (with_reducible exact LeO.none _)
      | (with_reducible refine LeO.ite ?_ ?_)
      | (with_reducible refine LeO.bind ?_ (fun _ => ?_))
      | exact mezzaninelaw01_awake.mono _
      | exact LeO.none _
      | refine LeO.ite ?_ ?_
      | refine LeO.bind ?_ (fun _ => ?_)
set_option maxHeartbeats 8000000 in
set_option maxRecDepth 100000 in
theorem mezzaninelaw01_BitsSigns.calls (k : Nat) (a0 : Int) (a1 : Int) (r : Bool) (w : World) (h : mezzaninelaw01_BitsSigns.f k a0 a1 = some r) :
    Calls Try.prog 3 #[.int .u64 a0, .int .i64 a1] w fun e w' => e = .returned (.bool r) ∧ Below w.heap.size w w' := by
  have HB := Aside0.mk (Below.refl w.heap.size w)
  have H : ((mezzaninelaw01_awake.f k).bind fun t111 => (if t111 = true then ((bits_Sext.f a0 a1).bind fun t112 => ((mezzanineref01_Sext.f a0 a1).bind fun t113 => (if t112 = t113 then ((bits_Canon.f a0 a1).bind fun t114 => ((mezzanineref01_Canon.f a0 a1).bind fun t115 => (some (t114 == t115)))) else (some false)))) else (some false))) = some r := h
  clear h
  replace H := Option.bind_eq_some_iff.mp H
  obtain ⟨t111, A30, H⟩ := H
  replace H : (if t111 = true then ((bits_Sext.f a0 a1).bind fun t112 => ((mezzanineref01_Sext.f a0 a1).bind fun t113 => (if t112 = t113 then ((bits_Canon.f a0 a1).bind fun t114 => ((mezzanineref01_Canon.f a0 a1).bind fun t115 => (some (t114 == t115)))) else (some false)))) else (some false)) = some r := H
  have A3 := Aside0.mk A30
  clear A30
  by_cases c4 : t111 = true
  · subst c4
    have H1 : ((bits_Sext.f a0 a1).bind fun t112 => ((mezzanineref01_Sext.f a0 a1).bind fun t113 => (if t112 = t113 then ((bits_Canon.f a0 a1).bind fun t114 => ((mezzanineref01_Canon.f a0 a1).bind fun t115 => (some (t114 == t115)))) else (some false)))) = some r := by rw [if_pos rfl] at H; exact H
    clear H
    have H := H1
    clear H1
    replace H := Option.bind_eq_some_iff.mp H
    obtain ⟨t112, A50, H⟩ := H
    replace H : ((mezzanineref01_Sext.f a0 a1).bind fun t113 => (if t112 = t113 then ((bits_Canon.f a0 a1).bind fun t114 => ((mezzanineref01_Canon.f a0 a1).bind fun t115 => (some (t114 == t115)))) else (some false))) = some r := H
    have A5 := Aside0.mk A50
    clear A50
    replace H := Option.bind_eq_some_iff.mp H
    obtain ⟨t113, A60, H⟩ := H
    replace H : (if t112 = t113 then ((bits_Canon.f a0 a1).bind fun t114 => ((mezzanineref01_Canon.f a0 a1).bind fun t115 => (some (t114 == t115)))) else (some false)) = some r := H
    have A6 := Aside0.mk A60
    clear A60
    by_cases c7 : t112 = t113
    · rw [if_pos c7] at H
      have c7b0 : (t112 == t113) = true := beq_iff_eq.mpr c7
      have c7b1 : (t112 != t113) = false := bne_eq_false_iff_eq.mpr c7
      clear c7
      replace H := Option.bind_eq_some_iff.mp H
      obtain ⟨t114, A80, H⟩ := H
      replace H : ((mezzanineref01_Canon.f a0 a1).bind fun t115 => (some (t114 == t115))) = some r := H
      have A8 := Aside0.mk A80
      clear A80
      replace H := Option.bind_eq_some_iff.mp H
      obtain ⟨t115, A90, H⟩ := H
      replace H : (some (t114 == t115)) = some r := H
      have A9 := Aside0.mk A90
      clear A90
      obtain rfl := Option.some.inj H
      go_enter Try.func3, Try.ntmps3
      go_wp2_with (first | ((with_reducible refine gate_callee (f := 8) rfl ?_); refine goesL_ (some 5) rfl rfl Try.func8 (by kernel_rfl) rfl #[] rfl (by (try simp only [List.map_toArray, List.map_cons, List.map_nil]); first | done | rfl | (simp only [List.length_drop, List.length_take]; rfl)) ?_; (with_reducible refine (mezzaninelaw01_awake.calls k  true _ A3.out).mono ?_); rintro e w10 ⟨rfl, hb⟩; refine ⟨_, rfl, ?_⟩; have n0_ := Aside0.mk (below_step (by repeat (first | (with_reducible first | exact HB.out | apply below_alloc | apply pw_below_drewN | apply below_drew1) | exact HB.out)) hb); clear HB; have HB := n0_; clear n0_; (try clear hb); (try clear hb2); (try clear hk); (try clear hi)) | (go_at_call 9; (with_reducible refine (bits_Sext.calls a0 a1 t112 _ A5.out).mono ?_); rintro e w' ⟨rfl, ⟨nd, rfl⟩⟩) | (go_at_call 10; (with_reducible refine (mezzanineref01_Sext.calls a0 a1 t113 _ A6.out).mono ?_); rintro e w11 ⟨rfl, hb⟩; have n0_ := Aside0.mk (below_step (by repeat (first | (with_reducible first | exact HB.out | apply below_alloc | apply pw_below_drewN | apply below_drew1) | exact HB.out)) hb); clear HB; have HB := n0_; clear n0_; (try clear hb); (try clear hb2); (try clear hk); (try clear hi)) | (go_at_call 11; (with_reducible refine (bits_Canon.calls a0 a1 t114 _ A8.out).mono ?_); rintro e w' ⟨rfl, ⟨nd, rfl⟩⟩) | (go_at_call 12; (with_reducible refine (mezzanineref01_Canon.calls a0 a1 t115 _ A9.out).mono ?_); rintro e w12 ⟨rfl, hb⟩; have n0_ := Aside0.mk (below_step (by repeat (first | (with_reducible first | exact HB.out | apply below_alloc | apply pw_below_drewN | apply below_drew1) | exact HB.out)) hb); clear HB; have HB := n0_; clear n0_; (try clear hb); (try clear hb2); (try clear hk); (try clear hi)))
      go_ret
      exact ⟨by first | rfl | (simp [errW_none, errW_some] <;> rfl) | (simp [*, errW_none, errW_some] <;> rfl), by repeat (first | (with_reducible first | exact HB.out | apply below_alloc | apply pw_below_drewN | apply below_drew1) | exact HB.out)⟩
    · rw [if_neg c7] at H
      have c7b0 : (t112 == t113) = false := beq_eq_false_iff_ne.mpr c7
      have c7b1 : (t112 != t113) = true := bne_iff_ne.mpr c7
      obtain rfl := Option.some.inj H
      go_enter Try.func3, Try.ntmps3
      go_wp2_with (first | ((with_reducible refine gate_callee (f := 8) rfl ?_); refine goesL_ (some 5) rfl rfl Try.func8 (by kernel_rfl) rfl #[] rfl (by (try simp only [List.map_toArray, List.map_cons, List.map_nil]); first | done | rfl | (simp only [List.length_drop, List.length_take]; rfl)) ?_; (with_reducible refine (mezzaninelaw01_awake.calls k  true _ A3.out).mono ?_); rintro e w13 ⟨rfl, hb⟩; refine ⟨_, rfl, ?_⟩; have n0_ := Aside0.mk (below_step (by repeat (first | (with_reducible first | exact HB.out | apply below_alloc | apply pw_below_drewN | apply below_drew1) | exact HB.out)) hb); clear HB; have HB := n0_; clear n0_; (try clear hb); (try clear hb2); (try clear hk); (try clear hi)) | (go_at_call 9; (with_reducible refine (bits_Sext.calls a0 a1 t112 _ A5.out).mono ?_); rintro e w' ⟨rfl, ⟨nd, rfl⟩⟩) | (go_at_call 10; (with_reducible refine (mezzanineref01_Sext.calls a0 a1 t113 _ A6.out).mono ?_); rintro e w14 ⟨rfl, hb⟩; have n0_ := Aside0.mk (below_step (by repeat (first | (with_reducible first | exact HB.out | apply below_alloc | apply pw_below_drewN | apply below_drew1) | exact HB.out)) hb); clear HB; have HB := n0_; clear n0_; (try clear hb); (try clear hb2); (try clear hk); (try clear hi)))
      go_ret
      exact ⟨by first | rfl | (simp [errW_none, errW_some] <;> rfl) | (simp [*, errW_none, errW_some] <;> rfl), by repeat (first | (with_reducible first | exact HB.out | apply below_alloc | apply pw_below_drewN | apply below_drew1) | exact HB.out)⟩
  · replace c4 := Bool.eq_false_iff.mpr c4
    subst c4
    have H1 : (some false) = some r := by rw [if_neg (show ¬ (false = true) by decide)] at H; exact H
    clear H
    have H := H1
    clear H1
    obtain rfl := Option.some.inj H
    go_enter Try.func3, Try.ntmps3
    go_wp2_with (first | ((with_reducible refine gate_callee (f := 8) rfl ?_); refine goesL_ (some 5) rfl rfl Try.func8 (by kernel_rfl) rfl #[] rfl (by (try simp only [List.map_toArray, List.map_cons, List.map_nil]); first | done | rfl | (simp only [List.length_drop, List.length_take]; rfl)) ?_; (with_reducible refine (mezzaninelaw01_awake.calls k  false _ A3.out).mono ?_); rintro e w15 ⟨rfl, hb⟩; refine ⟨_, rfl, ?_⟩; have n0_ := Aside0.mk (below_step (by repeat (first | (with_reducible first | exact HB.out | apply below_alloc | apply pw_below_drewN | apply below_drew1) | exact HB.out)) hb); clear HB; have HB := n0_; clear n0_; (try clear hb); (try clear hb2); (try clear hk); (try clear hi)))
    go_ret
    exact ⟨by first | rfl | (simp [errW_none, errW_some] <;> rfl) | (simp [*, errW_none, errW_some] <;> rfl), by repeat (first | (with_reducible first | exact HB.out | apply below_alloc | apply pw_below_drewN | apply below_drew1) | exact HB.out)⟩

/-- THE ONE PURE STATEMENT of mezzaninelaw01_BitsSigns: yours. -/
def mezzaninelaw01_BitsSigns.Pure : Prop := ∀ (a0 : Int) (a1 : Int), (Lit.int .u64 a0).wf = true → (Lit.int .i64 a1).wf = true → ∃ k, mezzaninelaw01_BitsSigns.f k a0 a1 = some true
theorem mezzaninelaw01_BitsSigns.walk (P : mezzaninelaw01_BitsSigns.Pure) (a0 : Int) (a1 : Int) (w : World) (w0 : (Lit.int .u64 a0).wf = true) (w1 : (Lit.int .i64 a1).wf = true) :
    Calls Try.prog 3 #[.int .u64 a0, .int .i64 a1] w fun e w' => e = .returned (.bool true) ∧ Below w.heap.size w w' := by
  obtain ⟨k, h⟩ := P a0 a1 w0 w1
  refine (mezzaninelaw01_BitsSigns.calls k a0 a1 true w h).mono ?_
  rintro e w' ⟨rfl, hd⟩
  exact ⟨rfl, hd⟩

end Go.Proofs.Ytkcgihpnlekfnaa.Q
