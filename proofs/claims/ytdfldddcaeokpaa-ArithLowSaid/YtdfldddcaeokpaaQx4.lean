/- Where the Lean function of a Go function gives a value, the Go call returns that value and changes nothing that was there: for every input. (By a program of this session, and by hand.) -/
import Derived.Test.YtdfldddcaeokpaaQx0
import Derived.Test.YtdfldddcaeokpaaQx1
import Derived.Test.YtdfldddcaeokpaaQx3
namespace Go.Proofs.Ytdfldddcaeokpaa.Q
open Go.RowKit Go.Proofs.YtdfldddcaeokpaaW.PrintWords Go.Proofs.YtdfldddcaeokpaaW.PrintLast Go.Proofs.YtdfldddcaeokpaaW.PrintMore
attribute [local go_sem] max2_int min2_int max_two min_two max_three min_three max_four min_four   -- for this text's walks alone
set_option linter.unusedVariables false
set_option linter.unusedSimpArgs false

/-! ### mezzanineref02_Mulh: function 15 -/
def mezzanineref02_Mulh.f (k : Nat) (a0 : Int) (a1 : Int) : Option (Int) := (mezzanineref02_high.f k a0 a1 true true).bind fun t130 => (some t130)
theorem mezzanineref02_Mulh.mono : ∀ a0 a1 k, LeO (mezzanineref02_Mulh.f k a0 a1) (mezzanineref02_Mulh.f (k + 1) a0 a1) := by
  intro a0 a1 k
  unfold mezzanineref02_Mulh.f
  repeat' first
      | (with_reducible exact mezzanineref02_high.mono _ _ _ _ _)
      | (with_reducible exact LeO.refl _)
      | (with_reducible exact LeO.none _)
      | (with_reducible refine LeO.ite ?_ ?_)
      | (with_reducible refine LeO.bind ?_ (fun _ => ?_))
      | exact mezzanineref02_high.mono _ _ _ _ _
      | exact LeO.none _
      | refine LeO.ite ?_ ?_
      | refine LeO.bind ?_ (fun _ => ?_)
set_option maxHeartbeats 8000000 in
set_option maxRecDepth 100000 in
theorem mezzanineref02_Mulh.calls (k : Nat) (a0 : Int) (a1 : Int) (r : Int) (w : World) (h : mezzanineref02_Mulh.f k a0 a1 = some r) :
    Calls Try.prog 15 #[.int .u64 a0, .int .u64 a1] w fun e w' => e = .returned (.int .u64 r) ∧ Below w.heap.size w w' := by
  have HB := Aside0.mk (Below.refl w.heap.size w)
  have H : ((mezzanineref02_high.f k a0 a1 true true).bind fun t130 => (some t130)) = some r := h
  clear h
  replace H := Option.bind_eq_some_iff.mp H
  obtain ⟨t130, A30, H⟩ := H
  replace H : (some t130) = some r := H
  have A3 := Aside0.mk A30
  clear A30
  obtain rfl := Option.some.inj H
  go_enter Try.func15, Try.ntmps15
  go_wp2_with (first | ((with_reducible refine gate_callee (f := 39) rfl ?_); refine goesL_ (some 7) rfl rfl Try.func39 (by kernel_rfl) rfl #[.int .u64 a0, .int .u64 a1, .bool true, .bool true] rfl (by (try simp only [List.map_toArray, List.map_cons, List.map_nil]); first | done | rfl | (simp only [List.length_drop, List.length_take]; rfl)) ?_; (with_reducible refine (mezzanineref02_high.calls k a0 a1 true true t130 _ A3.out).mono ?_); rintro e w4 ⟨rfl, hb⟩; refine ⟨_, rfl, ?_⟩; have n0_ := Aside0.mk (below_step (by repeat (first | (with_reducible first | exact HB.out | apply below_alloc | apply pw_below_drewN | apply below_drew1) | exact HB.out)) hb); clear HB; have HB := n0_; clear n0_; (try clear hb); (try clear hb2); (try clear hk); (try clear hi)))
  go_ret
  exact ⟨by first | rfl | (simp [errW_none, errW_some] <;> rfl) | (simp [*, errW_none, errW_some] <;> rfl), by repeat (first | (with_reducible first | exact HB.out | apply below_alloc | apply pw_below_drewN | apply below_drew1) | exact HB.out)⟩

/-! ### mezzanineref02_Mulhsu: function 16 -/
def mezzanineref02_Mulhsu.f (k : Nat) (a0 : Int) (a1 : Int) : Option (Int) := (mezzanineref02_high.f k a0 a1 true false).bind fun t131 => (some t131)
theorem mezzanineref02_Mulhsu.mono : ∀ a0 a1 k, LeO (mezzanineref02_Mulhsu.f k a0 a1) (mezzanineref02_Mulhsu.f (k + 1) a0 a1) := by
  intro a0 a1 k
  unfold mezzanineref02_Mulhsu.f
  repeat' first
      | (with_reducible exact mezzanineref02_high.mono _ _ _ _ _)
      | (with_reducible exact LeO.refl _)
      | (with_reducible exact LeO.none _)
      | (with_reducible refine LeO.ite ?_ ?_)
      | (with_reducible refine LeO.bind ?_ (fun _ => ?_))
      | exact mezzanineref02_high.mono _ _ _ _ _
      | exact LeO.none _
      | refine LeO.ite ?_ ?_
      | refine LeO.bind ?_ (fun _ => ?_)
set_option maxHeartbeats 8000000 in
set_option maxRecDepth 100000 in
theorem mezzanineref02_Mulhsu.calls (k : Nat) (a0 : Int) (a1 : Int) (r : Int) (w : World) (h : mezzanineref02_Mulhsu.f k a0 a1 = some r) :
    Calls Try.prog 16 #[.int .u64 a0, .int .u64 a1] w fun e w' => e = .returned (.int .u64 r) ∧ Below w.heap.size w w' := by
  have HB := Aside0.mk (Below.refl w.heap.size w)
  have H : ((mezzanineref02_high.f k a0 a1 true false).bind fun t131 => (some t131)) = some r := h
  clear h
  replace H := Option.bind_eq_some_iff.mp H
  obtain ⟨t131, A30, H⟩ := H
  replace H : (some t131) = some r := H
  have A3 := Aside0.mk A30
  clear A30
  obtain rfl := Option.some.inj H
  go_enter Try.func16, Try.ntmps16
  go_wp2_with (first | ((with_reducible refine gate_callee (f := 39) rfl ?_); refine goesL_ (some 7) rfl rfl Try.func39 (by kernel_rfl) rfl #[.int .u64 a0, .int .u64 a1, .bool true, .bool false] rfl (by (try simp only [List.map_toArray, List.map_cons, List.map_nil]); first | done | rfl | (simp only [List.length_drop, List.length_take]; rfl)) ?_; (with_reducible refine (mezzanineref02_high.calls k a0 a1 true false t131 _ A3.out).mono ?_); rintro e w4 ⟨rfl, hb⟩; refine ⟨_, rfl, ?_⟩; have n0_ := Aside0.mk (below_step (by repeat (first | (with_reducible first | exact HB.out | apply below_alloc | apply pw_below_drewN | apply below_drew1) | exact HB.out)) hb); clear HB; have HB := n0_; clear n0_; (try clear hb); (try clear hb2); (try clear hk); (try clear hi)))
  go_ret
  exact ⟨by first | rfl | (simp [errW_none, errW_some] <;> rfl) | (simp [*, errW_none, errW_some] <;> rfl), by repeat (first | (with_reducible first | exact HB.out | apply below_alloc | apply pw_below_drewN | apply below_drew1) | exact HB.out)⟩

/-! ### mezzanineref02_Mulhu: function 17 -/
def mezzanineref02_Mulhu.f (k : Nat) (a0 : Int) (a1 : Int) : Option (Int) := (mezzanineref02_high.f k a0 a1 false false).bind fun t132 => (some t132)
theorem mezzanineref02_Mulhu.mono : ∀ a0 a1 k, LeO (mezzanineref02_Mulhu.f k a0 a1) (mezzanineref02_Mulhu.f (k + 1) a0 a1) := by
  intro a0 a1 k
  unfold mezzanineref02_Mulhu.f
  repeat' first
      | (with_reducible exact mezzanineref02_high.mono _ _ _ _ _)
      | (with_reducible exact LeO.refl _)
      | (with_reducible exact LeO.none _)
      | (with_reducible refine LeO.ite ?_ ?_)
      | (with_reducible refine LeO.bind ?_ (fun _ => ?_))
      | exact mezzanineref02_high.mono _ _ _ _ _
      | exact LeO.none _
      | refine LeO.ite ?_ ?_
      | refine LeO.bind ?_ (fun _ => ?_)
set_option maxHeartbeats 8000000 in
set_option maxRecDepth 100000 in
theorem mezzanineref02_Mulhu.calls (k : Nat) (a0 : Int) (a1 : Int) (r : Int) (w : World) (h : mezzanineref02_Mulhu.f k a0 a1 = some r) :
    Calls Try.prog 17 #[.int .u64 a0, .int .u64 a1] w fun e w' => e = .returned (.int .u64 r) ∧ Below w.heap.size w w' := by
  have HB := Aside0.mk (Below.refl w.heap.size w)
  have H : ((mezzanineref02_high.f k a0 a1 false false).bind fun t132 => (some t132)) = some r := h
  clear h
  replace H := Option.bind_eq_some_iff.mp H
  obtain ⟨t132, A30, H⟩ := H
  replace H : (some t132) = some r := H
  have A3 := Aside0.mk A30
  clear A30
  obtain rfl := Option.some.inj H
  go_enter Try.func17, Try.ntmps17
  go_wp2_with (first | ((with_reducible refine gate_callee (f := 39) rfl ?_); refine goesL_ (some 7) rfl rfl Try.func39 (by kernel_rfl) rfl #[.int .u64 a0, .int .u64 a1, .bool false, .bool false] rfl (by (try simp only [List.map_toArray, List.map_cons, List.map_nil]); first | done | rfl | (simp only [List.length_drop, List.length_take]; rfl)) ?_; (with_reducible refine (mezzanineref02_high.calls k a0 a1 false false t132 _ A3.out).mono ?_); rintro e w4 ⟨rfl, hb⟩; refine ⟨_, rfl, ?_⟩; have n0_ := Aside0.mk (below_step (by repeat (first | (with_reducible first | exact HB.out | apply below_alloc | apply pw_below_drewN | apply below_drew1) | exact HB.out)) hb); clear HB; have HB := n0_; clear n0_; (try clear hb); (try clear hb2); (try clear hk); (try clear hi)))
  go_ret
  exact ⟨by first | rfl | (simp [errW_none, errW_some] <;> rfl) | (simp [*, errW_none, errW_some] <;> rfl), by repeat (first | (with_reducible first | exact HB.out | apply below_alloc | apply pw_below_drewN | apply below_drew1) | exact HB.out)⟩

/-! ### arith_Mulw: function 18 -/
def arith_Mulw.f (a0 : Int) (a1 : Int) : Option (Int) := (arith_half.f (IntKind.u64.wrap (a0 * a1))).bind fun t133 => (some t133)
set_option maxHeartbeats 8000000 in
set_option maxRecDepth 100000 in
theorem arith_Mulw.calls (a0 : Int) (a1 : Int) (r : Int) (w : World) (h : arith_Mulw.f a0 a1 = some r) :
    Calls Try.prog 18 #[.int .u64 a0, .int .u64 a1] w fun e w' => e = .returned (.int .u64 r) ∧ Drawn0 w w' := by
  have H : ((arith_half.f (IntKind.u64.wrap (a0 * a1))).bind fun t133 => (some t133)) = some r := h
  clear h
  replace H := Option.bind_eq_some_iff.mp H
  obtain ⟨t133, A30, H⟩ := H
  replace H : (some t133) = some r := H
  have A3 := Aside0.mk A30
  clear A30
  obtain rfl := Option.some.inj H
  go_enter Try.func18, Try.ntmps18
  go_wp2_with (first | ((with_reducible refine gate_callee (f := 40) rfl ?_); refine goesL_ (some 8) rfl rfl Try.func40 (by kernel_rfl) rfl #[.int .u64 (IntKind.u64.wrap (a0 * a1))] rfl (by (try simp only [List.map_toArray, List.map_cons, List.map_nil]); first | done | rfl | (simp only [List.length_drop, List.length_take]; rfl)) ?_; (with_reducible refine (arith_half.calls (IntKind.u64.wrap (a0 * a1)) t133 _ A3.out).mono ?_); rintro e w' ⟨rfl, ⟨nd, rfl⟩⟩; refine ⟨_, rfl, ?_⟩))
  go_ret
  exact ⟨by first | rfl | (simp; done) | (simp [*]; done), by repeat (first | exact Drawn0.refl _ | apply Drawn0.step)⟩

/-! ### mezzanineref01_Join: by hand -/
section
open Go.Proofs.Ytdfldddcaeokpaa.Bv
set_option maxHeartbeats 4000000 in
set_option maxRecDepth 100000 in
theorem mezzanineref01_Join.callsW (x : BitVec 64) (w : World) : Calls Try.prog 52 #[.agg (wArr x)] w fun e w' => e = .returned (.int .u64 (U x)) ∧ Below w.heap.size w w' := by
  obtain ⟨c, hc⟩ : ∃ c, c = wArr x := ⟨_, rfl⟩
  have hcell : ∀ k, k < 64 → c[k]? = some (.bool (x.getLsbD k)) := fun k h => by rw [hc]; exact bArr_get _ k h
  rw [← hc]
  clear hc
  have HC := Lib.hid hcell
  clear hcell
  go_enter Try.func52, Try.ntmps52
  go_wp2
  go_loop [3, 4] (fun v3 v4 => ∃ k : Nat, k ≤ 64 ∧ v4 = .int .i64 ((k : Int) - 1) ∧ v3 = .int .u64 (U (x >>> k))) (fun _ v4 => (intOf v4 + 1).toNat)
  case atStart => exact ⟨64, by omega, rfl, by rw [show x >>> 64 = 0#64 from BitVec.eq_of_getLsbD_eq fun i hi => by rw [BitVec.getLsbD_ushiftRight, BitVec.getLsbD_of_ge _ _ (by omega)]; simp]; rfl⟩
  case round =>
    obtain ⟨k, hk, rfl, rfl⟩ := hrel
    by_cases hlt : k = 0
    · subst hlt
      go_wp2
      go_ret
      exact ⟨by simp, (Below.refl _ _).alloc (Nat.le_refl _) _⟩
    · obtain ⟨j, rfl⟩ : ∃ j, k = j + 1 := ⟨k - 1, by omega⟩
      have hg := HC.out j (by omega)
      have hj := join_step x j (by omega)
      have e1 : ((j + 1 : Nat) : Int) - 1 = (j : Int) := by omega
      rw [e1]
      have HJ := Lib.hid hj
      clear hj e1
      cases hb : x.getLsbD j
      · rw [hb] at hg
        have h2 := join_off x j hb
        clear hb
        go_wp2
        go_round
        case rel => exact ⟨j, by omega, rfl, by rw [HJ.out, h2]⟩
        case measure => first | (simp [intOf]; done) | (simp [intOf]; omega)
      · rw [hb] at hg
        have h2 := join_on x j hb
        clear hb
        go_wp2
        go_round
        case rel => exact ⟨j, by omega, rfl, by rw [HJ.out, join_one, h2]⟩
        case measure => first | (simp [intOf]; done) | (simp [intOf]; omega)
theorem mezzanineref01_Join.calls (b : Nat → Bool) (w : World) : Calls Try.prog 52 #[.agg (bArr b)] w fun e w' => e = .returned (.int .u64 (U (ofB b))) ∧ Below w.heap.size w w' := by
  rw [← wArr_ofB]; exact mezzanineref01_Join.callsW _ _
end

/-! ### mezzanineref01_Sext: by hand -/
section
open Go.Proofs.Ytdfldddcaeokpaa.Bv
def mezzanineref01_Sext.B (x : BitVec 64) (n : Int) : BitVec 64 := if n < 1 then 0#64 else ofB fun i => if n ≤ (i : Int) then bitOf x (n - 1).toNat else bitOf x i
def mezzanineref01_Sext.f (a0 : Int) (a1 : Int) : Option (Int) := if 0 ≤ a0 ∧ a0 < 18446744073709551616 ∧ -9223372036854775808 ≤ a1 ∧ a1 < 9223372036854775808 then some (U (mezzanineref01_Sext.B (BitVec.ofInt 64 a0) a1)) else none
set_option maxHeartbeats 4000000 in
set_option maxRecDepth 100000 in
theorem mezzanineref01_Sext.callsB (x : BitVec 64) (n : Int) (h0 : -9223372036854775808 ≤ n) (h1 : n < 9223372036854775808) (w : World) :
    Calls Try.prog 49 #[.int .u64 (U x), .int .i64 n] w fun e w' => e = .returned (.int .u64 (U (mezzanineref01_Sext.B x n))) ∧ Below w.heap.size w w' := by
  by_cases hn : n < 1
  · have e : mezzanineref01_Sext.B x n = 0#64 := by unfold mezzanineref01_Sext.B; rw [if_pos hn]
    rw [e]
    go_enter Try.func49, Try.ntmps49
    go_wp2
    go_ret
    exact ⟨rfl, Below.refl _ _⟩
  obtain ⟨m, rfl⟩ : ∃ m : Nat, n = (m : Int) + 1 := ⟨(n - 1).toNat, by omega⟩
  obtain ⟨hz, hi⟩ := zero_of_info mezzanineref01_Split.zero
  have HI := Lib.hid hi
  clear hi
  have e : mezzanineref01_Sext.B x ((m : Int) + 1) = ofB fun i => if m < i then bitOf x m else bitOf x i := by
    unfold mezzanineref01_Sext.B; rw [if_neg hn]; congr 1; funext i
    rw [show ((m : Int) + 1 - 1).toNat = m by omega]
    by_cases h : m < i
    · rw [if_pos h, if_pos (by omega)]
    · rw [if_neg h, if_neg (by omega)]
  rw [e]
  have hlt1 : ¬ ((m : Int) + 1 < 1) := by omega
  clear h0 h1 hn e
  go_enter Try.func49, Try.ntmps49
  go_wp2_with fail
  refine (mezzanineref01_Split.calls x _).mono ?_
  rintro e1 w1 ⟨rfl, hb1⟩
  go_wp2_with (refine wpList_store_row rfl 48 _ _ rfl w1.heap.size (wArr x) rfl rfl 48 (bArr fun _ => false) (heap_alloc_last _ _) (by rw [show (wArr x).size = 64 from bArr_size _]; exact HI.out) (by rw [bArr_size, show (wArr x).size = 64 from bArr_size _]) (bArr_one _) ?_)
  rw [blk_stored]
  have hW : (w1.alloc (.cells (wArr x) 48)).heap[w1.heap.size]? = some (.cells (bArr fun i => if m < i ∧ i < 0 then bitOf x m else bitOf x i) 48 (0, 0)) := by
    rw [heap_alloc_last]; simp [wArr]
  have hB : Below w.heap.size w (w1.alloc (.cells (wArr x) 48)) := hb1.alloc hb1.size _
  have hS := hb1.size
  generalize w1.alloc (.cells (wArr x) 48) = W0 at hW hB ⊢
  generalize w1.heap.size = g at hW hS ⊢
  clear hb1
  go_loopw [6] (fun v6 wr => ∃ k : Nat, k ≤ 64 ∧ v6 = .int .i64 k ∧ wr.heap[g]? = some (.cells (bArr fun i => if m < i ∧ i < k then bitOf x m else bitOf x i) 48 (0, 0)) ∧ Below w.heap.size w wr) (fun v6 _ => 64 - (intOf v6).toNat)
  case atStart => exact ⟨0, by omega, rfl, hW, hB⟩
  case round =>
    clear hW hB
    obtain ⟨k, hk, rfl, hW, hB⟩ := hrel
    by_cases hlt : k < 64
    · by_cases hm : m < k
      · have c1 := blk_cell (k := m) hW (bArr_get _ m (by omega))
        have c2 := blk_cell (k := k) hW (bArr_get _ k hlt)
        have f2 := blk_free (k := k) hW
        rw [if_neg (by omega)] at c1 c2
        have hW2 := blk_set (k := k) (bitOf x m) hW
        have hB2 := hB.setCell (p := ⟨g, k, none⟩) hS (.bool (bitOf x m))
        have d1 : decide ((m : Int) + 1 ≤ (k : Int)) = true := by simp; omega
        have HW2 := Lib.hid hW2
        have HB2 := Lib.hid hB2
        clear hW hB hW2 hB2
        go_wp2
        go_roundw
        case rel =>
          refine ⟨k + 1, by omega, by go_num, ?_, HB2.out⟩
          rw [HW2.out]; congr 2; apply bArr_congr; intro i hi
          by_cases h : i = k
          · subst h; rw [if_pos rfl, if_pos (by omega)]
          · rw [if_neg h]
            by_cases h2 : m < i ∧ i < k
            · rw [if_pos h2, if_pos (by omega)]
            · rw [if_neg h2, if_neg (by omega)]
        case measure => first | (simp [intOf]; done) | (simp [intOf]; omega)
      · have d1 : decide ((m : Int) + 1 ≤ (k : Int)) = false := by simp; omega
        have HW2 := Lib.hid hW
        have HB2 := Lib.hid hB
        clear hW hB
        go_wp2
        go_roundw
        case rel =>
          refine ⟨k + 1, by omega, by go_num, ?_, HB2.out⟩
          rw [HW2.out]; congr 2; apply bArr_congr; intro i hi
          rw [if_neg (by omega), if_neg (by omega)]
        case measure => first | (simp [intOf]; done) | (simp [intOf]; omega)
    · obtain rfl : k = 64 := by omega
      have HB2 := Lib.hid hB
      clear hB
      have ec : (bArr fun i => if m < i ∧ i < 64 then bitOf x m else bitOf x i) = bArr fun i => if m < i then bitOf x m else bitOf x i := by
        apply bArr_congr; intro i hi
        by_cases h : m < i
        · rw [if_pos h, if_pos ⟨h, hi⟩]
        · rw [if_neg h, if_neg (by omega)]
      rw [ec] at hW
      clear ec
      have HW2 := Lib.hid hW
      clear hW
      go_wp2_with (refine wpList_load_row rfl 48 _ rfl g rfl 48 _ (0, 0) _ HW2.out Try.underlying48 rfl (by rw [bArr_size]; exact HI.out) ?_)
      refine (mezzanineref01_Join.calls _ _).mono ?_
      rintro e3 w3 ⟨rfl, hb3⟩
      go_wp2
      go_ret
      exact ⟨rfl, below_then HB2.out (below_size HB2.out) hb3⟩
theorem mezzanineref01_Sext.calls (a0 : Int) (a1 : Int) (r : Int) (w : World) (h : mezzanineref01_Sext.f a0 a1 = some r) :
    Calls Try.prog 49 #[.int .u64 a0, .int .i64 a1] w fun e w' => e = .returned (.int .u64 r) ∧ Below w.heap.size w w' := by
  unfold mezzanineref01_Sext.f at h
  split at h
  · rename_i hc
    obtain rfl := Option.some.inj h
    have := mezzanineref01_Sext.callsB (BitVec.ofInt 64 a0) a1 hc.2.2.1 hc.2.2.2 w
    rw [U_ofInt hc.1 hc.2.1] at this
    exact this
  · exact absurd h (by simp)
end

/-! ### mezzanineref02_drawn: function 41 -/
def mezzanineref02_drawn.f (a0 : Int) : Option (Int) := (mezzanineref01_Sext.f a0 32).bind fun t134 => (some t134)
set_option maxHeartbeats 8000000 in
set_option maxRecDepth 100000 in
theorem mezzanineref02_drawn.calls (a0 : Int) (r : Int) (w : World) (h : mezzanineref02_drawn.f a0 = some r) :
    Calls Try.prog 41 #[.int .u64 a0] w fun e w' => e = .returned (.int .u64 r) ∧ Below w.heap.size w w' := by
  have HB := Aside0.mk (Below.refl w.heap.size w)
  have H : ((mezzanineref01_Sext.f a0 32).bind fun t134 => (some t134)) = some r := h
  clear h
  replace H := Option.bind_eq_some_iff.mp H
  obtain ⟨t134, A20, H⟩ := H
  replace H : (some t134) = some r := H
  have A2 := Aside0.mk A20
  clear A20
  obtain rfl := Option.some.inj H
  go_enter Try.func41, Try.ntmps41
  go_wp2_with (first | ((with_reducible refine gate_callee (f := 49) rfl ?_); refine goesL_ (some 4) rfl rfl Try.func49 (by kernel_rfl) rfl #[.int .u64 a0, .int .i64 32] rfl (by (try simp only [List.map_toArray, List.map_cons, List.map_nil]); first | done | rfl | (simp only [List.length_drop, List.length_take]; rfl)) ?_; (with_reducible refine (mezzanineref01_Sext.calls a0 32 t134 _ A2.out).mono ?_); rintro e w3 ⟨rfl, hb⟩; refine ⟨_, rfl, ?_⟩; have n0_ := Aside0.mk (below_step (by repeat (first | (with_reducible first | exact HB.out | apply below_alloc | apply pw_below_drewN | apply below_drew1) | exact HB.out)) hb); clear HB; have HB := n0_; clear n0_; (try clear hb); (try clear hb2); (try clear hk); (try clear hi)))
  go_ret
  exact ⟨by first | rfl | (simp [errW_none, errW_some] <;> rfl) | (simp [*, errW_none, errW_some] <;> rfl), by repeat (first | (with_reducible first | exact HB.out | apply below_alloc | apply pw_below_drewN | apply below_drew1) | exact HB.out)⟩

/-! ### mezzanineref02_Mul: function 42 -/
def mezzanineref02_Mul.f (a0 : Int) (a1 : Int) : Option (Int) := (mezzanineref02_product.f a0 a1).bind fun bt135 => (some bt135.2)
set_option maxHeartbeats 8000000 in
set_option maxRecDepth 100000 in
theorem mezzanineref02_Mul.calls (a0 : Int) (a1 : Int) (r : Int) (w : World) (h : mezzanineref02_Mul.f a0 a1 = some r) :
    Calls Try.prog 42 #[.int .u64 a0, .int .u64 a1] w fun e w' => e = .returned (.int .u64 r) ∧ Below w.heap.size w w' := by
  have HB := Aside0.mk (Below.refl w.heap.size w)
  have H : ((mezzanineref02_product.f a0 a1).bind fun bt135 => (some bt135.2)) = some r := h
  clear h
  replace H := Option.bind_eq_some_iff.mp H
  obtain ⟨⟨t135, t136⟩, A30, H⟩ := H
  replace H : (some t136) = some r := H
  have A3 := Aside0.mk A30
  clear A30
  obtain rfl := Option.some.inj H
  go_enter Try.func42, Try.ntmps42
  go_wp2_with (first | ((with_reducible refine gate_callee (f := 46) rfl ?_); refine goesL_ (some 10) rfl rfl Try.func46 (by kernel_rfl) rfl #[.int .u64 a0, .int .u64 a1] rfl (by (try simp only [List.map_toArray, List.map_cons, List.map_nil]); first | done | rfl | (simp only [List.length_drop, List.length_take]; rfl)) ?_; (with_reducible refine (mezzanineref02_product.calls a0 a1 t135 t136 _ A3.out).mono ?_); rintro e w4 ⟨rfl, hb⟩; refine ⟨_, rfl, ?_⟩; have n0_ := Aside0.mk (below_step (by repeat (first | (with_reducible first | exact HB.out | apply below_alloc | apply pw_below_drewN | apply below_drew1) | exact HB.out)) hb); clear HB; have HB := n0_; clear n0_; (try clear hb); (try clear hb2); (try clear hk); (try clear hi)))
  go_ret
  exact ⟨by first | rfl | (simp [errW_none, errW_some] <;> rfl) | (simp [*, errW_none, errW_some] <;> rfl), by repeat (first | (with_reducible first | exact HB.out | apply below_alloc | apply pw_below_drewN | apply below_drew1) | exact HB.out)⟩

/-! ### mezzanineref02_low: function 43 -/
def mezzanineref02_low.f (a0 : Int) : Option (Int) := some (Int.tmod a0 4294967296)
set_option maxHeartbeats 8000000 in
set_option maxRecDepth 100000 in
theorem mezzanineref02_low.calls (a0 : Int) (r : Int) (w : World) (h : mezzanineref02_low.f a0 = some r) :
    Calls Try.prog 43 #[.int .u64 a0] w fun e w' => e = .returned (.int .u64 r) ∧ Drawn0 w w' := by
  have H : (some (Int.tmod a0 4294967296)) = some r := h
  clear h
  obtain rfl := Option.some.inj H
  go_enter Try.func43, Try.ntmps43
  go_wp2
  go_ret
  exact ⟨by first | rfl | (simp; done) | (simp [*]; done), by repeat (first | exact Drawn0.refl _ | apply Drawn0.step)⟩

/-! ### mezzanineref02_Mulw: function 19 -/
def mezzanineref02_Mulw.f (a0 : Int) (a1 : Int) : Option (Int) := (mezzanineref02_low.f a0).bind fun t137 => ((mezzanineref02_low.f a1).bind fun t138 => ((mezzanineref02_Mul.f t137 t138).bind fun t139 => ((mezzanineref02_drawn.f t139).bind fun t140 => (some t140))))
set_option maxHeartbeats 8000000 in
set_option maxRecDepth 100000 in
theorem mezzanineref02_Mulw.calls (a0 : Int) (a1 : Int) (r : Int) (w : World) (h : mezzanineref02_Mulw.f a0 a1 = some r) :
    Calls Try.prog 19 #[.int .u64 a0, .int .u64 a1] w fun e w' => e = .returned (.int .u64 r) ∧ Below w.heap.size w w' := by
  have HB := Aside0.mk (Below.refl w.heap.size w)
  have H : ((mezzanineref02_low.f a0).bind fun t137 => ((mezzanineref02_low.f a1).bind fun t138 => ((mezzanineref02_Mul.f t137 t138).bind fun t139 => ((mezzanineref02_drawn.f t139).bind fun t140 => (some t140))))) = some r := h
  clear h
  replace H := Option.bind_eq_some_iff.mp H
  obtain ⟨t137, A30, H⟩ := H
  replace H : ((mezzanineref02_low.f a1).bind fun t138 => ((mezzanineref02_Mul.f t137 t138).bind fun t139 => ((mezzanineref02_drawn.f t139).bind fun t140 => (some t140)))) = some r := H
  have A3 := Aside0.mk A30
  clear A30
  replace H := Option.bind_eq_some_iff.mp H
  obtain ⟨t138, A40, H⟩ := H
  replace H : ((mezzanineref02_Mul.f t137 t138).bind fun t139 => ((mezzanineref02_drawn.f t139).bind fun t140 => (some t140))) = some r := H
  have A4 := Aside0.mk A40
  clear A40
  replace H := Option.bind_eq_some_iff.mp H
  obtain ⟨t139, A50, H⟩ := H
  replace H : ((mezzanineref02_drawn.f t139).bind fun t140 => (some t140)) = some r := H
  have A5 := Aside0.mk A50
  clear A50
  replace H := Option.bind_eq_some_iff.mp H
  obtain ⟨t140, A60, H⟩ := H
  replace H : (some t140) = some r := H
  have A6 := Aside0.mk A60
  clear A60
  obtain rfl := Option.some.inj H
  go_enter Try.func19, Try.ntmps19
  go_wp2_with (first | ((with_reducible refine gate_callee (f := 43) rfl ?_); refine goesL_ (some 6) rfl rfl Try.func43 (by kernel_rfl) rfl #[.int .u64 a0] rfl (by (try simp only [List.map_toArray, List.map_cons, List.map_nil]); first | done | rfl | (simp only [List.length_drop, List.length_take]; rfl)) ?_; (with_reducible refine (mezzanineref02_low.calls a0 t137 _ A3.out).mono ?_); rintro e w' ⟨rfl, ⟨nd, rfl⟩⟩; refine ⟨_, rfl, ?_⟩) | ((with_reducible refine gate_callee (f := 43) rfl ?_); refine goesL_ (some 8) rfl rfl Try.func43 (by kernel_rfl) rfl #[.int .u64 a1] rfl (by (try simp only [List.map_toArray, List.map_cons, List.map_nil]); first | done | rfl | (simp only [List.length_drop, List.length_take]; rfl)) ?_; (with_reducible refine (mezzanineref02_low.calls a1 t138 _ A4.out).mono ?_); rintro e w' ⟨rfl, ⟨nd, rfl⟩⟩; refine ⟨_, rfl, ?_⟩) | ((with_reducible refine gate_callee (f := 42) rfl ?_); refine goesL_ (some 9) rfl rfl Try.func42 (by kernel_rfl) rfl #[.int .u64 t137, .int .u64 t138] rfl (by (try simp only [List.map_toArray, List.map_cons, List.map_nil]); first | done | rfl | (simp only [List.length_drop, List.length_take]; rfl)) ?_; (with_reducible refine (mezzanineref02_Mul.calls t137 t138 t139 _ A5.out).mono ?_); rintro e w7 ⟨rfl, hb⟩; refine ⟨_, rfl, ?_⟩; have n0_ := Aside0.mk (below_step (by repeat (first | (with_reducible first | exact HB.out | apply below_alloc | apply pw_below_drewN | apply below_drew1) | exact HB.out)) hb); clear HB; have HB := n0_; clear n0_; (try clear hb); (try clear hb2); (try clear hk); (try clear hi)) | ((with_reducible refine gate_callee (f := 41) rfl ?_); refine goesL_ (some 10) rfl rfl Try.func41 (by kernel_rfl) rfl #[.int .u64 t139] rfl (by (try simp only [List.map_toArray, List.map_cons, List.map_nil]); first | done | rfl | (simp only [List.length_drop, List.length_take]; rfl)) ?_; (with_reducible refine (mezzanineref02_drawn.calls t139 t140 _ A6.out).mono ?_); rintro e w8 ⟨rfl, hb⟩; refine ⟨_, rfl, ?_⟩; have n0_ := Aside0.mk (below_step (by repeat (first | (with_reducible first | exact HB.out | apply below_alloc | apply pw_below_drewN | apply below_drew1) | exact HB.out)) hb); clear HB; have HB := n0_; clear n0_; (try clear hb); (try clear hb2); (try clear hk); (try clear hi)))
  go_ret
  exact ⟨by first | rfl | (simp [errW_none, errW_some] <;> rfl) | (simp [*, errW_none, errW_some] <;> rfl), by repeat (first | (with_reducible first | exact HB.out | apply below_alloc | apply pw_below_drewN | apply below_drew1) | exact HB.out)⟩

/-! ### mezzaninelaw02_ArithProducts: function 4 -/
def mezzaninelaw02_ArithProducts.f (k : Nat) (a0 : Int) (a1 : Int) : Option (Bool) := (mezzaninelaw02_awake.f).bind fun t141 => (if t141 = true then ((arith_Mulh.f a0 a1).bind fun t142 => ((mezzanineref02_Mulh.f k a0 a1).bind fun t143 => (if t142 = t143 then ((arith_Mulhsu.f a0 a1).bind fun t144 => ((mezzanineref02_Mulhsu.f k a0 a1).bind fun t145 => (if t144 = t145 then ((arith_Mulhu.f a0 a1).bind fun t146 => ((mezzanineref02_Mulhu.f k a0 a1).bind fun t147 => (if t146 = t147 then ((arith_Mulw.f a0 a1).bind fun t148 => ((mezzanineref02_Mulw.f a0 a1).bind fun t149 => (some (t148 == t149)))) else (some false)))) else (some false)))) else (some false)))) else (some false))
theorem mezzaninelaw02_ArithProducts.mono : ∀ a0 a1 k, LeO (mezzaninelaw02_ArithProducts.f k a0 a1) (mezzaninelaw02_ArithProducts.f (k + 1) a0 a1) := by
  intro a0 a1 k
  unfold mezzaninelaw02_ArithProducts.f
  repeat' first
      | (with_reducible exact mezzanineref02_Mulh.mono _ _ _)
      | (with_reducible exact mezzanineref02_Mulhsu.mono _ _ _)
      | (with_reducible exact mezzanineref02_Mulhu.mono _ _ _)
      | (with_reducible exact LeO.refl _)
      | (with_reducible exact LeO.none _)
      | (with_reducible refine LeO.ite ?_ ?_)
      | (with_reducible refine LeO.bind ?_ (fun _ => ?_))
      | exact mezzanineref02_Mulh.mono _ _ _
      | exact mezzanineref02_Mulhsu.mono _ _ _
      | exact mezzanineref02_Mulhu.mono _ _ _
      | exact LeO.none _
      | refine LeO.ite ?_ ?_
      | refine LeO.bind ?_ (fun _ => ?_)
set_option maxHeartbeats 8000000 in
set_option maxRecDepth 100000 in
theorem mezzaninelaw02_ArithProducts.calls (k : Nat) (a0 : Int) (a1 : Int) (r : Bool) (w : World) (ht : r = true) (h : mezzaninelaw02_ArithProducts.f k a0 a1 = some r) :
    Calls Try.prog 4 #[.int .u64 a0, .int .u64 a1] w fun e w' => e = .returned (.bool r) ∧ Below w.heap.size w w' := by
  have HB := Aside0.mk (Below.refl w.heap.size w)
  have HT := Aside0.mk ht
  clear ht
  have H : ((mezzaninelaw02_awake.f).bind fun t141 => (if t141 = true then ((arith_Mulh.f a0 a1).bind fun t142 => ((mezzanineref02_Mulh.f k a0 a1).bind fun t143 => (if t142 = t143 then ((arith_Mulhsu.f a0 a1).bind fun t144 => ((mezzanineref02_Mulhsu.f k a0 a1).bind fun t145 => (if t144 = t145 then ((arith_Mulhu.f a0 a1).bind fun t146 => ((mezzanineref02_Mulhu.f k a0 a1).bind fun t147 => (if t146 = t147 then ((arith_Mulw.f a0 a1).bind fun t148 => ((mezzanineref02_Mulw.f a0 a1).bind fun t149 => (some (t148 == t149)))) else (some false)))) else (some false)))) else (some false)))) else (some false))) = some r := h
  clear h
  replace H := Option.bind_eq_some_iff.mp H
  obtain ⟨t141, A30, H⟩ := H
  replace H : (if t141 = true then ((arith_Mulh.f a0 a1).bind fun t142 => ((mezzanineref02_Mulh.f k a0 a1).bind fun t143 => (if t142 = t143 then ((arith_Mulhsu.f a0 a1).bind fun t144 => ((mezzanineref02_Mulhsu.f k a0 a1).bind fun t145 => (if t144 = t145 then ((arith_Mulhu.f a0 a1).bind fun t146 => ((mezzanineref02_Mulhu.f k a0 a1).bind fun t147 => (if t146 = t147 then ((arith_Mulw.f a0 a1).bind fun t148 => ((mezzanineref02_Mulw.f a0 a1).bind fun t149 => (some (t148 == t149)))) else (some false)))) else (some false)))) else (some false)))) else (some false)) = some r := H
  have A3 := Aside0.mk A30
  clear A30
  by_cases c4 : t141 = true
  · subst c4
    have H1 : ((arith_Mulh.f a0 a1).bind fun t142 => ((mezzanineref02_Mulh.f k a0 a1).bind fun t143 => (if t142 = t143 then ((arith_Mulhsu.f a0 a1).bind fun t144 => ((mezzanineref02_Mulhsu.f k a0 a1).bind fun t145 => (if t144 = t145 then ((arith_Mulhu.f a0 a1).bind fun t146 => ((mezzanineref02_Mulhu.f k a0 a1).bind fun t147 => (if t146 = t147 then ((arith_Mulw.f a0 a1).bind fun t148 => ((mezzanineref02_Mulw.f a0 a1).bind fun t149 => (some (t148 == t149)))) else (some false)))) else (some false)))) else (some false)))) = some r := by rw [if_pos rfl] at H; exact H
    clear H
    have H := H1
    clear H1
    replace H := Option.bind_eq_some_iff.mp H
    obtain ⟨t142, A50, H⟩ := H
    replace H : ((mezzanineref02_Mulh.f k a0 a1).bind fun t143 => (if t142 = t143 then ((arith_Mulhsu.f a0 a1).bind fun t144 => ((mezzanineref02_Mulhsu.f k a0 a1).bind fun t145 => (if t144 = t145 then ((arith_Mulhu.f a0 a1).bind fun t146 => ((mezzanineref02_Mulhu.f k a0 a1).bind fun t147 => (if t146 = t147 then ((arith_Mulw.f a0 a1).bind fun t148 => ((mezzanineref02_Mulw.f a0 a1).bind fun t149 => (some (t148 == t149)))) else (some false)))) else (some false)))) else (some false))) = some r := H
    have A5 := Aside0.mk A50
    clear A50
    replace H := Option.bind_eq_some_iff.mp H
    obtain ⟨t143, A60, H⟩ := H
    replace H : (if t142 = t143 then ((arith_Mulhsu.f a0 a1).bind fun t144 => ((mezzanineref02_Mulhsu.f k a0 a1).bind fun t145 => (if t144 = t145 then ((arith_Mulhu.f a0 a1).bind fun t146 => ((mezzanineref02_Mulhu.f k a0 a1).bind fun t147 => (if t146 = t147 then ((arith_Mulw.f a0 a1).bind fun t148 => ((mezzanineref02_Mulw.f a0 a1).bind fun t149 => (some (t148 == t149)))) else (some false)))) else (some false)))) else (some false)) = some r := H
    have A6 := Aside0.mk A60
    clear A60
    by_cases c7 : t142 = t143
    · rw [if_pos c7] at H
      have c7b0 : (t142 == t143) = true := beq_iff_eq.mpr c7
      have c7b1 : (t142 != t143) = false := bne_eq_false_iff_eq.mpr c7
      clear c7
      replace H := Option.bind_eq_some_iff.mp H
      obtain ⟨t144, A80, H⟩ := H
      replace H : ((mezzanineref02_Mulhsu.f k a0 a1).bind fun t145 => (if t144 = t145 then ((arith_Mulhu.f a0 a1).bind fun t146 => ((mezzanineref02_Mulhu.f k a0 a1).bind fun t147 => (if t146 = t147 then ((arith_Mulw.f a0 a1).bind fun t148 => ((mezzanineref02_Mulw.f a0 a1).bind fun t149 => (some (t148 == t149)))) else (some false)))) else (some false))) = some r := H
      have A8 := Aside0.mk A80
      clear A80
      replace H := Option.bind_eq_some_iff.mp H
      obtain ⟨t145, A90, H⟩ := H
      replace H : (if t144 = t145 then ((arith_Mulhu.f a0 a1).bind fun t146 => ((mezzanineref02_Mulhu.f k a0 a1).bind fun t147 => (if t146 = t147 then ((arith_Mulw.f a0 a1).bind fun t148 => ((mezzanineref02_Mulw.f a0 a1).bind fun t149 => (some (t148 == t149)))) else (some false)))) else (some false)) = some r := H
      have A9 := Aside0.mk A90
      clear A90
      by_cases c10 : t144 = t145
      · rw [if_pos c10] at H
        have c10b0 : (t144 == t145) = true := beq_iff_eq.mpr c10
        have c10b1 : (t144 != t145) = false := bne_eq_false_iff_eq.mpr c10
        clear c10
        replace H := Option.bind_eq_some_iff.mp H
        obtain ⟨t146, A110, H⟩ := H
        replace H : ((mezzanineref02_Mulhu.f k a0 a1).bind fun t147 => (if t146 = t147 then ((arith_Mulw.f a0 a1).bind fun t148 => ((mezzanineref02_Mulw.f a0 a1).bind fun t149 => (some (t148 == t149)))) else (some false))) = some r := H
        have A11 := Aside0.mk A110
        clear A110
        replace H := Option.bind_eq_some_iff.mp H
        obtain ⟨t147, A120, H⟩ := H
        replace H : (if t146 = t147 then ((arith_Mulw.f a0 a1).bind fun t148 => ((mezzanineref02_Mulw.f a0 a1).bind fun t149 => (some (t148 == t149)))) else (some false)) = some r := H
        have A12 := Aside0.mk A120
        clear A120
        by_cases c13 : t146 = t147
        · rw [if_pos c13] at H
          have c13b0 : (t146 == t147) = true := beq_iff_eq.mpr c13
          have c13b1 : (t146 != t147) = false := bne_eq_false_iff_eq.mpr c13
          clear c13
          replace H := Option.bind_eq_some_iff.mp H
          obtain ⟨t148, A140, H⟩ := H
          replace H : ((mezzanineref02_Mulw.f a0 a1).bind fun t149 => (some (t148 == t149))) = some r := H
          have A14 := Aside0.mk A140
          clear A140
          replace H := Option.bind_eq_some_iff.mp H
          obtain ⟨t149, A150, H⟩ := H
          replace H : (some (t148 == t149)) = some r := H
          have A15 := Aside0.mk A150
          clear A150
          obtain rfl := Option.some.inj H
          go_enter Try.func4, Try.ntmps4
          go_wp2_with (first | ((with_reducible refine gate_callee (f := 11) rfl ?_); refine goesL_ (some 5) rfl rfl Try.func11 (by kernel_rfl) rfl #[] rfl (by (try simp only [List.map_toArray, List.map_cons, List.map_nil]); first | done | rfl | (simp only [List.length_drop, List.length_take]; rfl)) ?_; (with_reducible refine (mezzaninelaw02_awake.calls  true _ A3.out).mono ?_); rintro e w' ⟨rfl, ⟨nd, rfl⟩⟩; refine ⟨_, rfl, ?_⟩) | (go_at_call 14; (with_reducible refine (arith_Mulh.calls a0 a1 t142 _ A5.out).mono ?_); rintro e w' ⟨rfl, ⟨nd, rfl⟩⟩) | (go_at_call 15; (with_reducible refine (mezzanineref02_Mulh.calls k a0 a1 t143 _ A6.out).mono ?_); rintro e w16 ⟨rfl, hb⟩; have n0_ := Aside0.mk (below_step (by repeat (first | (with_reducible first | exact HB.out | apply below_alloc | apply pw_below_drewN | apply below_drew1) | exact HB.out)) hb); clear HB; have HB := n0_; clear n0_; (try clear hb); (try clear hb2); (try clear hk); (try clear hi)) | (go_at_call 13; (with_reducible refine (arith_Mulhsu.calls a0 a1 t144 _ A8.out).mono ?_); rintro e w' ⟨rfl, ⟨nd, rfl⟩⟩) | (go_at_call 16; (with_reducible refine (mezzanineref02_Mulhsu.calls k a0 a1 t145 _ A9.out).mono ?_); rintro e w17 ⟨rfl, hb⟩; have n0_ := Aside0.mk (below_step (by repeat (first | (with_reducible first | exact HB.out | apply below_alloc | apply pw_below_drewN | apply below_drew1) | exact HB.out)) hb); clear HB; have HB := n0_; clear n0_; (try clear hb); (try clear hb2); (try clear hk); (try clear hi)) | (go_at_call 12; (with_reducible refine (arith_Mulhu.calls a0 a1 t146 _ A11.out).mono ?_); rintro e w' ⟨rfl, ⟨nd, rfl⟩⟩) | (go_at_call 17; (with_reducible refine (mezzanineref02_Mulhu.calls k a0 a1 t147 _ A12.out).mono ?_); rintro e w18 ⟨rfl, hb⟩; have n0_ := Aside0.mk (below_step (by repeat (first | (with_reducible first | exact HB.out | apply below_alloc | apply pw_below_drewN | apply below_drew1) | exact HB.out)) hb); clear HB; have HB := n0_; clear n0_; (try clear hb); (try clear hb2); (try clear hk); (try clear hi)) | (go_at_call 18; (with_reducible refine (arith_Mulw.calls a0 a1 t148 _ A14.out).mono ?_); rintro e w' ⟨rfl, ⟨nd, rfl⟩⟩) | (go_at_call 19; (with_reducible refine (mezzanineref02_Mulw.calls a0 a1 t149 _ A15.out).mono ?_); rintro e w19 ⟨rfl, hb⟩; have n0_ := Aside0.mk (below_step (by repeat (first | (with_reducible first | exact HB.out | apply below_alloc | apply pw_below_drewN | apply below_drew1) | exact HB.out)) hb); clear HB; have HB := n0_; clear n0_; (try clear hb); (try clear hb2); (try clear hk); (try clear hi)))
          go_ret
          exact ⟨by first | rfl | (simp [errW_none, errW_some] <;> rfl) | (simp [*, errW_none, errW_some] <;> rfl), by repeat (first | (with_reducible first | exact HB.out | apply below_alloc | apply pw_below_drewN | apply below_drew1) | exact HB.out)⟩
        · rw [if_neg c13] at H
          have c13b0 : (t146 == t147) = false := beq_eq_false_iff_ne.mpr c13
          have c13b1 : (t146 != t147) = true := bne_iff_ne.mpr c13
          exact absurd (Option.some.inj H) (by rw [HT.out]; decide)
      · rw [if_neg c10] at H
        have c10b0 : (t144 == t145) = false := beq_eq_false_iff_ne.mpr c10
        have c10b1 : (t144 != t145) = true := bne_iff_ne.mpr c10
        exact absurd (Option.some.inj H) (by rw [HT.out]; decide)
    · rw [if_neg c7] at H
      have c7b0 : (t142 == t143) = false := beq_eq_false_iff_ne.mpr c7
      have c7b1 : (t142 != t143) = true := bne_iff_ne.mpr c7
      exact absurd (Option.some.inj H) (by rw [HT.out]; decide)
  · replace c4 := Bool.eq_false_iff.mpr c4
    subst c4
    have H1 : (some false) = some r := by rw [if_neg (show ¬ (false = true) by decide)] at H; exact H
    clear H
    have H := H1
    clear H1
    exact absurd (Option.some.inj H) (by rw [HT.out]; decide)

/-- THE ONE PURE STATEMENT of mezzaninelaw02_ArithProducts: yours. -/
def mezzaninelaw02_ArithProducts.Pure : Prop := ∀ (a0 : Int) (a1 : Int), (Lit.int .u64 a0).wf = true → (Lit.int .u64 a1).wf = true → ∃ k, mezzaninelaw02_ArithProducts.f k a0 a1 = some true
theorem mezzaninelaw02_ArithProducts.walk (P : mezzaninelaw02_ArithProducts.Pure) (a0 : Int) (a1 : Int) (w : World) (w0 : (Lit.int .u64 a0).wf = true) (w1 : (Lit.int .u64 a1).wf = true) :
    Calls Try.prog 4 #[.int .u64 a0, .int .u64 a1] w fun e w' => e = .returned (.bool true) ∧ Below w.heap.size w w' := by
  obtain ⟨k, h⟩ := P a0 a1 w0 w1
  refine (mezzaninelaw02_ArithProducts.calls k a0 a1 true w rfl h).mono ?_
  rintro e w' ⟨rfl, hd⟩
  exact ⟨rfl, hd⟩

end Go.Proofs.Ytdfldddcaeokpaa.Q
