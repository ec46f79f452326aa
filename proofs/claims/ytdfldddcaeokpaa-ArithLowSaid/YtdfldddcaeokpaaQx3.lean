/- Where the Lean function of a Go function gives a value, the Go call returns that value and changes nothing that was there: for every input. (By a program of this session, and by hand.) -/
import Derived.Test.YtdfldddcaeokpaaQx0
import Derived.Test.YtdfldddcaeokpaaQx2
namespace Go.Proofs.Ytdfldddcaeokpaa.Q
open Go.RowKit Go.Proofs.YtdfldddcaeokpaaW.PrintWords Go.Proofs.YtdfldddcaeokpaaW.PrintLast Go.Proofs.YtdfldddcaeokpaaW.PrintMore
attribute [local go_sem] max2_int min2_int max_two min_two max_three min_three max_four min_four   -- for this text's walks alone
set_option linter.unusedVariables false
set_option linter.unusedSimpArgs false

/-! ### mezzanineref01_Split: by hand -/
section
open Go.Proofs.Ytdfldddcaeokpaa.Bv
theorem mezzanineref01_Split.zero : (Try.prog.info? 48).map (fun i => (i.zero, i.size)) = some (some (.agg (bArr fun _ => false)), 64) := by kernel_rfl
set_option maxHeartbeats 4000000 in
set_option maxRecDepth 100000 in
theorem mezzanineref01_Split.calls (x : BitVec 64) (w : World) : Calls Try.prog 51 #[.int .u64 (U x)] w fun e w' => e = .returned (.agg (wArr x)) ∧ Below w.heap.size w w' := by
  obtain ⟨hz, hi⟩ := zero_of_info mezzanineref01_Split.zero
  have HI := Lib.hid hi
  clear hi
  go_enter Try.func51, Try.ntmps51
  go_wp2
  go_loopw [0, 4] (fun v0 v4 wr => ∃ k : Nat, k ≤ 64 ∧ v4 = .int .i64 k ∧ v0 = .int .u64 (U (x >>> k)) ∧ wr = (w.alloc (.cells (bArr fun _ => false) 48)).alloc (.cells (bArr fun i => decide (i < k) && x.getLsbD i) 48)) (fun _ v4 _ => 64 - (intOf v4).toNat)
  case atStart => exact ⟨0, by omega, rfl, by simp, by simp⟩
  case round =>
    obtain ⟨k, hk, rfl, rfl, rfl⟩ := hrel
    by_cases hlt : k < 64
    · have hg : (bArr fun i => decide (i < k) && x.getLsbD i)[k]? = some (.bool false) := by rw [bArr_get _ k hlt]; simp
      have hb := U_range (x >>> k)
      go_wp2
      go_roundw
      case rel => exact ⟨k + 1, by omega, by go_num, by rw [U_half, shr_succ], by rw [bArr_set, split_step]⟩
      case measure => first | (simp [intOf]; done) | (simp [intOf]; omega)
    · obtain rfl : k = 64 := by omega
      have hi := HI.out
      have e : (bArr fun i => decide (i < 64) && x.getLsbD i) = wArr x := bArr_congr fun i h => by simp [h, bitOf]
      go_wp2_with (first | (refine wpList_load_row rfl 48 _ rfl (w.heap.size + 1) rfl 48 (bArr fun i => decide (i < 64) && x.getLsbD i) (0, 0) _ (heap_alloc2_new _ _ _) Try.underlying48 rfl (by rw [bArr_size]; exact hi) ?_) | (refine wpList_store_row rfl 48 _ _ rfl w.heap.size (bArr fun i => decide (i < 64) && x.getLsbD i) rfl rfl 48 (bArr fun _ => false) (heap_alloc2_old _ _ _) (by rw [bArr_size]; exact hi) (by rw [bArr_size, bArr_size]) (bArr_one _) ?_))
      refine bodyPost_ret (results_cell_row rfl _ _ w.heap.size 48 (bArr fun i => decide (i < 64) && x.getLsbD i) (0, 0) _ rfl (setRow_heap _ _ _ _ _ _ (heap_alloc2_old _ _ _)) Try.underlying48 rfl (by rw [bArr_size]; exact hi)) rfl ⟨by rw [e], ?_⟩
      exact below_setRow (((Below.refl _ _).alloc (Nat.le_refl _) _).alloc (by simp) _) (Nat.le_refl _) _
end

/-! ### mezzanineref02_product: by hand -/
section
open Go.Proofs.Ytdfldddcaeokpaa.Bv
def mezzanineref02_product.f (a0 : Int) (a1 : Int) : Option (Int × Int) := if 0 ≤ a0 ∧ a0 < 18446744073709551616 ∧ 0 ≤ a1 ∧ a1 < 18446744073709551616 then some (a0 * a1 / 18446744073709551616, a0 * a1 % 18446744073709551616) else none
/-- Behind the bits from k on. -/
def mezzanineref02_product.At (a : Int) (y : BitVec 64) (k : Nat) (q l : Int) : Prop := 0 ≤ a ∧ a < 18446744073709551616 ∧ 0 ≤ q ∧ 0 ≤ l ∧ l < 18446744073709551616 ∧ q * 18446744073709551616 + l = a * U (y >>> k)
theorem mezzanineref02_product.half (y : BitVec 64) (k : Nat) : U (y >>> k) = 2 * U (y >>> (k + 1)) + (if bitOf y k then 1 else 0) := by
  have h1 := U_half (y >>> k)
  rw [shr_succ] at h1
  have h2 := U_odd (y >>> k)
  rw [BitVec.getLsbD_ushiftRight, Nat.add_zero] at h2
  unfold bitOf
  cases hb : y.getLsbD k
  · rw [hb, beq_eq_false_iff_ne] at h2; simp; omega
  · rw [hb, beq_iff_eq] at h2; simp; omega
theorem mezzanineref02_product.bound {a : Int} {y : BitVec 64} {k : Nat} (ha0 : 0 ≤ a) (ha : a < 18446744073709551616) (hk : k < 64) :
    0 ≤ a * U (y >>> (k + 1)) ∧ a * U (y >>> (k + 1)) < 170141183460469231731687303715884105728 ∧ 2 * (a * U (y >>> (k + 1))) + a < 340282366920938463463374607431768211456 := by
  have h1 := U_range (y >>> (k + 1))
  have h2 : U (y >>> (k + 1)) ≤ 9223372036854775807 := by
    have := U_half (y >>> k); rw [shr_succ] at this
    have := U_range (y >>> k); omega
  have h3 := Int.mul_le_mul (show a ≤ 18446744073709551615 by omega) h2 h1.1 (by decide)
  exact ⟨Int.mul_nonneg ha0 h1.1, by omega, by omega⟩
/-- One round, its bit 0. -/
theorem mezzanineref02_product.off {a : Int} {y : BitVec 64} {k : Nat} {q l h1 h2 l1 : Int} (H : mezzanineref02_product.At a y (k + 1) q l) (hk : k < 64) (hb : bitOf y k = false)
    (e1 : IntKind.u64.wrap (2 * q) = h1) (e2 : (9223372036854775808 ≤ l ∧ IntKind.u64.wrap (h1 + 1) = h2) ∨ (¬ 9223372036854775808 ≤ l ∧ h1 = h2)) (e3 : IntKind.u64.wrap (2 * l) = l1) : mezzanineref02_product.At a y k h2 l1 := by
  obtain ⟨ha0, ha, hq, hl0, hl, he⟩ := H
  have hB := mezzanineref02_product.bound (y := y) ha0 ha hk
  have hh := mezzanineref02_product.half y k
  rw [hb] at hh
  unfold mezzanineref02_product.At
  have hm : a * (2 * U (y >>> (k + 1)) + (if false = true then 1 else 0)) = 2 * (a * U (y >>> (k + 1))) := by rw [if_neg (by decide), Int.add_zero, Int.mul_left_comm]
  rw [hh, hm]
  simp only [IntKind.wrap_u64] at e1 e2 e3
  clear hh hm
  generalize a * U (y >>> (k + 1)) = p at *
  have hq2 : q < 9223372036854775808 := by omega
  have f1 : h1 = 2 * q := by omega
  rcases e2 with ⟨c, e2⟩ | ⟨c, e2⟩
  · have f2 : h2 = 2 * q + 1 := by omega
    have f3 : l1 = 2 * l - 18446744073709551616 := by omega
    clear e1 e2 e3
    exact ⟨ha0, ha, by omega, by omega, by omega, by omega⟩
  · have f3 : l1 = 2 * l := by omega
    clear e1 e3
    exact ⟨ha0, ha, by omega, by omega, by omega, by omega⟩
/-- One round, its bit 1. -/
theorem mezzanineref02_product.on {a : Int} {y : BitVec 64} {k : Nat} {q l h1 h2 l1 m h3 l2 : Int} (H : mezzanineref02_product.At a y (k + 1) q l) (hk : k < 64) (hb : bitOf y k = true)
    (e1 : IntKind.u64.wrap (2 * q) = h1) (e2 : (9223372036854775808 ≤ l ∧ IntKind.u64.wrap (h1 + 1) = h2) ∨ (¬ 9223372036854775808 ≤ l ∧ h1 = h2)) (e3 : IntKind.u64.wrap (2 * l) = l1)
    (e4 : IntKind.u64.wrap (18446744073709551615 - a) = m) (e5 : (m < l1 ∧ IntKind.u64.wrap (h2 + 1) = h3) ∨ (¬ m < l1 ∧ h2 = h3)) (e6 : IntKind.u64.wrap (l1 + a) = l2) : mezzanineref02_product.At a y k h3 l2 := by
  obtain ⟨ha0, ha, hq, hl0, hl, he⟩ := H
  have hB := mezzanineref02_product.bound (y := y) ha0 ha hk
  have hh := mezzanineref02_product.half y k
  rw [hb] at hh
  unfold mezzanineref02_product.At
  have hm : a * (2 * U (y >>> (k + 1)) + (if true = true then 1 else 0)) = 2 * (a * U (y >>> (k + 1))) + a := by rw [if_pos rfl, Int.mul_add, Int.mul_one, Int.mul_left_comm]
  rw [hh, hm]
  simp only [IntKind.wrap_u64] at e1 e2 e3 e4 e5 e6
  clear hh hm
  generalize a * U (y >>> (k + 1)) = p at *
  have hq2 : q < 9223372036854775808 := by omega
  have f1 : h1 = 2 * q := by omega
  have f4 : m = 18446744073709551615 - a := by omega
  have f2 : h2 * 18446744073709551616 + l1 = 2 * p ∧ 0 ≤ h2 ∧ h2 < 18446744073709551616 ∧ 0 ≤ l1 ∧ l1 < 18446744073709551616 := by
    rcases e2 with ⟨c, e2⟩ | ⟨c, e2⟩
    · have f2 : h2 = 2 * q + 1 := by omega
      have f3 : l1 = 2 * l - 18446744073709551616 := by omega
      clear e1 e2 e3 e4 e5 e6
      exact ⟨by omega, by omega, by omega, by omega, by omega⟩
    · have f3 : l1 = 2 * l := by omega
      clear e1 e3 e4 e5 e6
      exact ⟨by omega, by omega, by omega, by omega, by omega⟩
  clear e1 e2 e3 e4 f1 he hq hl0 hl hq2
  obtain ⟨g1, g2, g3, g4, g5⟩ := f2
  rcases e5 with ⟨d, e5⟩ | ⟨d, e5⟩
  · have f6 : l2 = l1 + a - 18446744073709551616 := by omega
    have f5 : h3 = h2 + 1 := by omega
    clear e5 e6
    exact ⟨ha0, ha, by omega, by omega, by omega, by omega⟩
  · have f6 : l2 = l1 + a := by omega
    clear e6
    exact ⟨ha0, ha, by omega, by omega, by omega, by omega⟩
set_option maxHeartbeats 8000000 in
set_option maxRecDepth 100000 in
theorem mezzanineref02_product.callsB (a : Int) (y : BitVec 64) (ha0 : 0 ≤ a) (ha : a < 18446744073709551616) (w : World) :
    Calls Try.prog 46 #[.int .u64 a, .int .u64 (U y)] w fun e w' => e = .returned (.tuple #[.int .u64 (a * U y / 18446744073709551616), .int .u64 (a * U y % 18446744073709551616)]) ∧ Below w.heap.size w w' := by
  obtain ⟨hz, hi⟩ := zero_of_info mezzanineref01_Split.zero
  have HI := Lib.hid hi
  have hstart : mezzanineref02_product.At a y 64 0 0 := by
    refine ⟨ha0, ha, by omega, by omega, by omega, ?_⟩
    rw [show y >>> 64 = 0#64 from BitVec.eq_of_getLsbD_eq fun i hi => by rw [BitVec.getLsbD_ushiftRight, BitVec.getLsbD_of_ge _ _ (by omega)]; simp]
    simp [U]
  have hend : ∀ q l, mezzanineref02_product.At a y 0 q l → q = a * U y / 18446744073709551616 ∧ l = a * U y % 18446744073709551616 := by
    intro q l ⟨_, _, hq, hl0, hl, he⟩
    rw [BitVec.ushiftRight_zero] at he
    rw [← he]; omega
  have HS := Lib.hid hstart
  have HE := Lib.hid hend
  clear hi ha0 ha hstart hend
  go_enter Try.func46, Try.ntmps46
  go_wp2_with fail
  refine (mezzanineref01_Split.calls y _).mono ?_
  rintro e1 w1 ⟨rfl, hb1⟩
  go_wp2_with (refine wpList_store_row rfl 48 _ _ rfl w1.heap.size (wArr y) rfl rfl 48 (bArr fun _ => false) (heap_alloc_last _ _) (by rw [show (wArr y).size = 64 from bArr_size _]; exact HI.out) (by rw [bArr_size, show (wArr y).size = 64 from bArr_size _]) (bArr_one _) ?_)
  rw [blk_stored]
  have hW := heap_alloc_last w1 (.cells (wArr y) 48)
  have hB : Below w.heap.size w (w1.alloc (.cells (wArr y) 48)) := hb1.alloc hb1.size _
  generalize w1.alloc (.cells (wArr y) 48) = W0 at hW hB ⊢
  generalize w1.heap.size = g at hW ⊢
  have HW := Lib.hid hW
  have HB := Lib.hid hB
  clear hb1 hW hB
  go_loop [7, 8, 9] (fun v7 v8 v9 => ∃ (k : Nat) (q l : Int), k ≤ 64 ∧ v9 = .int .i64 ((k : Int) - 1) ∧ v7 = .int .u64 q ∧ v8 = .int .u64 l ∧ mezzanineref02_product.At a y k q l) (fun _ _ v9 => (intOf v9 + 1).toNat)
  case atStart => exact ⟨64, 0, 0, by omega, rfl, rfl, rfl, HS.out⟩
  case round =>
    obtain ⟨k, q, l, hk, rfl, rfl, rfl, hat⟩ := hrel
    by_cases hlt : k = 0
    · subst hlt
      obtain ⟨h1, h2⟩ := HE.out q l hat
      have H1 := Lib.hid h1
      have H2 := Lib.hid h2
      clear h1 h2 hat
      go_wp2
      go_ret2
      exact ⟨by rw [← H1.out, ← H2.out]; rfl, HB.out⟩
    · obtain ⟨j, rfl⟩ : ∃ j, k = j + 1 := ⟨k - 1, by omega⟩
      have c1 := blk_cell (k := j) HW.out (bArr_get _ j (by omega))
      have ej : ((j + 1 : Nat) : Int) - 1 = (j : Int) := by omega
      rw [ej]
      clear ej
      have HA := Lib.hid hat
      clear hat
      obtain ⟨h1, e1⟩ : ∃ h, IntKind.u64.wrap (2 * q) = h := ⟨_, rfl⟩
      obtain ⟨l1, e3⟩ : ∃ h, IntKind.u64.wrap (2 * l) = h := ⟨_, rfl⟩
      obtain ⟨m, e4⟩ : ∃ h, IntKind.u64.wrap (18446744073709551615 - a) = h := ⟨_, rfl⟩
      obtain ⟨l2, e6⟩ : ∃ h, IntKind.u64.wrap (l1 + a) = h := ⟨_, rfl⟩
      have E1 := Lib.hid e1
      have E3 := Lib.hid e3
      have E4 := Lib.hid e4
      have E6 := Lib.hid e6
      have hj : j < 64 := by omega
      cases hb : bitOf y j
      · rw [hb] at c1
        have HBit := Lib.hid hb
        clear hb
        by_cases c : 9223372036854775808 ≤ l
        · obtain ⟨h2, e2⟩ : ∃ h, IntKind.u64.wrap (h1 + 1) = h := ⟨_, rfl⟩
          have d := decide_eq_true c
          have D := Lib.hid c
          have E2 := Lib.hid e2
          clear c
          go_wp2
          go_round
          case rel => exact ⟨j, h2, l1, by omega, rfl, rfl, rfl, mezzanineref02_product.off HA.out hj HBit.out E1.out (.inl ⟨D.out, E2.out⟩) E3.out⟩
          case measure => first | (simp [intOf]; done) | (simp [intOf]; omega)
        · have d := decide_eq_false c
          have D := Lib.hid c
          clear c
          go_wp2
          go_round
          case rel => exact ⟨j, h1, l1, by omega, rfl, rfl, rfl, mezzanineref02_product.off HA.out hj HBit.out E1.out (.inr ⟨D.out, rfl⟩) E3.out⟩
          case measure => first | (simp [intOf]; done) | (simp [intOf]; omega)
      · rw [hb] at c1
        have HBit := Lib.hid hb
        clear hb
        by_cases c : 9223372036854775808 ≤ l
        · obtain ⟨h2, e2⟩ : ∃ h, IntKind.u64.wrap (h1 + 1) = h := ⟨_, rfl⟩
          obtain ⟨h3, e5⟩ : ∃ h, IntKind.u64.wrap (h2 + 1) = h := ⟨_, rfl⟩
          have d := decide_eq_true c
          have D := Lib.hid c
          have E2 := Lib.hid e2
          have E5 := Lib.hid e5
          clear c
          by_cases c2 : m < l1
          · have d2 := decide_eq_true c2
            have D2 := Lib.hid c2
            clear c2
            go_wp2
            go_round
            case rel => exact ⟨j, h3, l2, by omega, rfl, rfl, rfl, mezzanineref02_product.on HA.out hj HBit.out E1.out (.inl ⟨D.out, E2.out⟩) E3.out E4.out (.inl ⟨D2.out, E5.out⟩) E6.out⟩
            case measure => first | (simp [intOf]; done) | (simp [intOf]; omega)
          · have d2 := decide_eq_false c2
            have D2 := Lib.hid c2
            clear c2
            go_wp2
            go_round
            case rel => exact ⟨j, h2, l2, by omega, rfl, rfl, rfl, mezzanineref02_product.on HA.out hj HBit.out E1.out (.inl ⟨D.out, E2.out⟩) E3.out E4.out (.inr ⟨D2.out, rfl⟩) E6.out⟩
            case measure => first | (simp [intOf]; done) | (simp [intOf]; omega)
        · obtain ⟨h3, e5⟩ : ∃ h, IntKind.u64.wrap (h1 + 1) = h := ⟨_, rfl⟩
          have d := decide_eq_false c
          have D := Lib.hid c
          have E5 := Lib.hid e5
          clear c
          by_cases c2 : m < l1
          · have d2 := decide_eq_true c2
            have D2 := Lib.hid c2
            clear c2
            go_wp2
            go_round
            case rel => exact ⟨j, h3, l2, by omega, rfl, rfl, rfl, mezzanineref02_product.on HA.out hj HBit.out E1.out (.inr ⟨D.out, rfl⟩) E3.out E4.out (.inl ⟨D2.out, E5.out⟩) E6.out⟩
            case measure => first | (simp [intOf]; done) | (simp [intOf]; omega)
          · have d2 := decide_eq_false c2
            have D2 := Lib.hid c2
            clear c2
            go_wp2
            go_round
            case rel => exact ⟨j, h1, l2, by omega, rfl, rfl, rfl, mezzanineref02_product.on HA.out hj HBit.out E1.out (.inr ⟨D.out, rfl⟩) E3.out E4.out (.inr ⟨D2.out, rfl⟩) E6.out⟩
            case measure => first | (simp [intOf]; done) | (simp [intOf]; omega)
theorem mezzanineref02_product.calls (a0 : Int) (a1 : Int) (r1 : Int) (r2 : Int) (w : World) (h : mezzanineref02_product.f a0 a1 = some (r1, r2)) :
    Calls Try.prog 46 #[.int .u64 a0, .int .u64 a1] w fun e w' => e = .returned (.tuple #[.int .u64 r1, .int .u64 r2]) ∧ Below w.heap.size w w' := by
  unfold mezzanineref02_product.f at h
  split at h
  · rename_i hc
    have h := Option.some.inj h
    have h1 := congrArg Prod.fst h
    have h2 := congrArg Prod.snd h
    simp only at h1 h2
    have := mezzanineref02_product.callsB a0 (BitVec.ofInt 64 a1) hc.1 hc.2.1 w
    rw [U_ofInt hc.2.2.1 hc.2.2.2, h1, h2] at this
    exact this
  · exact absurd h (by simp)
end

/-! ### mezzanineref02_turned: function 47 -/
def mezzanineref02_turned.f (a0 : Int) (a1 : Int) : Option (Int × Int) := if (IntKind.u64.wrap (18446744073709551615 - a1)) = 18446744073709551615 then (some (IntKind.u64.wrap ((IntKind.u64.wrap (18446744073709551615 - a0)) + 1), 0)) else (some (IntKind.u64.wrap (18446744073709551615 - a0), IntKind.u64.wrap ((IntKind.u64.wrap (18446744073709551615 - a1)) + 1)))
set_option maxHeartbeats 8000000 in
set_option maxRecDepth 100000 in
theorem mezzanineref02_turned.calls (a0 : Int) (a1 : Int) (r1 : Int) (r2 : Int) (w : World) (h : mezzanineref02_turned.f a0 a1 = some (r1, r2)) :
    Calls Try.prog 47 #[.int .u64 a0, .int .u64 a1] w fun e w' => e = .returned (.tuple #[.int .u64 r1, .int .u64 r2]) ∧ Drawn0 w w' := by
  have H : (if (IntKind.u64.wrap (18446744073709551615 - a1)) = 18446744073709551615 then (some (IntKind.u64.wrap ((IntKind.u64.wrap (18446744073709551615 - a0)) + 1), 0)) else (some (IntKind.u64.wrap (18446744073709551615 - a0), IntKind.u64.wrap ((IntKind.u64.wrap (18446744073709551615 - a1)) + 1)))) = some (r1, r2) := h
  clear h
  by_cases c3 : (IntKind.u64.wrap (18446744073709551615 - a1)) = 18446744073709551615
  · rw [if_pos c3] at H
    have c3b0 : ((IntKind.u64.wrap (18446744073709551615 - a1)) == 18446744073709551615) = true := beq_iff_eq.mpr c3
    have c3b1 : ((IntKind.u64.wrap (18446744073709551615 - a1)) != 18446744073709551615) = false := bne_eq_false_iff_eq.mpr c3
    clear c3
    simp only [Option.some.injEq, Prod.mk.injEq] at H
    obtain ⟨rfl, rfl⟩ := H
    go_enter Try.func47, Try.ntmps47
    go_wp2
    go_ret2
    exact ⟨by first | rfl | (simp; done) | (simp [*]; done), by repeat (first | exact Drawn0.refl _ | apply Drawn0.step)⟩
  · rw [if_neg c3] at H
    have c3b0 : ((IntKind.u64.wrap (18446744073709551615 - a1)) == 18446744073709551615) = false := beq_eq_false_iff_ne.mpr c3
    have c3b1 : ((IntKind.u64.wrap (18446744073709551615 - a1)) != 18446744073709551615) = true := bne_iff_ne.mpr c3
    simp only [Option.some.injEq, Prod.mk.injEq] at H
    obtain ⟨rfl, rfl⟩ := H
    go_enter Try.func47, Try.ntmps47
    go_wp2
    go_ret2
    exact ⟨by first | rfl | (simp; done) | (simp [*]; done), by repeat (first | exact Drawn0.refl _ | apply Drawn0.step)⟩

/-! ### mezzanineref02_high: function 39 -/
mutual
def mezzanineref02_high.j0 : Nat → Int → Bool → Int → Bool → Int → Bool → Option (Int)
  | 0, _, _, _, _, _, _ => none
  | k + 1, x1, x3, x9, x10, x11, x12 => if x3 = true then (mezzanineref02_high.j1 k x9 x10 x11 x12) else (mezzanineref02_high.j1 k x9 x10 x1 false)
def mezzanineref02_high.j1 : Nat → Int → Bool → Int → Bool → Option (Int)
  | 0, _, _, _, _ => none
  | k + 1, x9, x10, x11, x12 => (mezzanineref02_product.f x9 x11).bind fun bt126 => (if (x10 != x12) = true then ((mezzanineref02_turned.f bt126.1 bt126.2).bind fun bt128 => (some bt128.1)) else (some bt126.1))
end
def mezzanineref02_high.f (k : Nat) (a0 : Int) (a1 : Int) (a2 : Bool) (a3 : Bool) : Option (Int) := (mezzanineref02_size.f a0).bind fun bt122 => ((mezzanineref02_size.f a1).bind fun bt124 => (if a2 = true then (mezzanineref02_high.j0 k a1 a3 bt122.1 bt122.2 bt124.1 bt124.2) else (mezzanineref02_high.j0 k a1 a3 a0 false bt124.1 bt124.2)))
theorem mezzanineref02_high.mono_l : ∀ k, (∀ y0 y1 y2 y3 y4 y5, LeO (mezzanineref02_high.j0 k y0 y1 y2 y3 y4 y5) (mezzanineref02_high.j0 (k + 1) y0 y1 y2 y3 y4 y5)) ∧ (∀ y0 y1 y2 y3, LeO (mezzanineref02_high.j1 k y0 y1 y2 y3) (mezzanineref02_high.j1 (k + 1) y0 y1 y2 y3))
  | 0 => ⟨fun _ _ _ _ _ _ r h => by simp [mezzanineref02_high.j0] at h, fun _ _ _ _ r h => by simp [mezzanineref02_high.j1] at h⟩
  | k + 1 => by
    obtain ⟨ih0, ih1⟩ := mezzanineref02_high.mono_l k
    refine ⟨?_, ?_⟩
    · intro y0 y1 y2 y3 y4 y5
      unfold mezzanineref02_high.j0
      repeat' first
      | (with_reducible exact ih0 _ _ _ _ _ _)
      | (with_reducible exact ih1 _ _ _ _)
      | (with_reducible exact LeO.refl _)
      | (with_reducible exact LeO.none _)
      | (with_reducible refine LeO.ite ?_ ?_)
      | (with_reducible refine LeO.bind ?_ (fun _ => ?_))
      | exact ih0 _ _ _ _ _ _
      | exact ih1 _ _ _ _
      | exact LeO.none _
      | refine LeO.ite ?_ ?_
      | refine LeO.bind ?_ (fun _ => ?_)
    · intro y0 y1 y2 y3
      unfold mezzanineref02_high.j1
      repeat' first
      | (with_reducible exact ih0 _ _ _ _ _ _)
      | (with_reducible exact ih1 _ _ _ _)
      | (with_reducible exact LeO.refl _)
      | (with_reducible exact LeO.none _)
      | (with_reducible refine LeO.ite ?_ ?_)
      | (with_reducible refine LeO.bind ?_ (fun _ => ?_))
      | exact ih0 _ _ _ _ _ _
      | exact ih1 _ _ _ _
      | exact LeO.none _
      | refine LeO.ite ?_ ?_
      | refine LeO.bind ?_ (fun _ => ?_)
theorem mezzanineref02_high.mono : ∀ a0 a1 a2 a3 k, LeO (mezzanineref02_high.f k a0 a1 a2 a3) (mezzanineref02_high.f (k + 1) a0 a1 a2 a3) := by
  intro a0 a1 a2 a3 k
  obtain ⟨ih0, ih1⟩ := mezzanineref02_high.mono_l k
  unfold mezzanineref02_high.f
  repeat' first
      | (with_reducible exact ih0 _ _ _ _ _ _)
      | (with_reducible exact ih1 _ _ _ _)
      | (with_reducible exact LeO.refl _)
      | (with_reducible exact LeO.none _)
      | (with_reducible refine LeO.ite ?_ ?_)
      | (with_reducible refine LeO.bind ?_ (fun _ => ?_))
      | exact ih0 _ _ _ _ _ _
      | exact ih1 _ _ _ _
      | exact LeO.none _
      | refine LeO.ite ?_ ?_
      | refine LeO.bind ?_ (fun _ => ?_)
set_option maxHeartbeats 8000000 in
set_option maxRecDepth 100000 in
theorem mezzanineref02_high.calls (k : Nat) (a0 : Int) (a1 : Int) (a2 : Bool) (a3 : Bool) (r : Int) (w : World) (h : mezzanineref02_high.f k a0 a1 a2 a3 = some r) :
    Calls Try.prog 39 #[.int .u64 a0, .int .u64 a1, .bool a2, .bool a3] w fun e w' => e = .returned (.int .u64 r) ∧ Below w.heap.size w w' := by
  have HB := Aside0.mk (Below.refl w.heap.size w)
  have H : ((mezzanineref02_size.f a0).bind fun bt122 => ((mezzanineref02_size.f a1).bind fun bt124 => (if a2 = true then (mezzanineref02_high.j0 k a1 a3 bt122.1 bt122.2 bt124.1 bt124.2) else (mezzanineref02_high.j0 k a1 a3 a0 false bt124.1 bt124.2)))) = some r := h
  clear h
  replace H := Option.bind_eq_some_iff.mp H
  obtain ⟨⟨t122, t123⟩, A50, H⟩ := H
  replace H : ((mezzanineref02_size.f a1).bind fun bt124 => (if a2 = true then (mezzanineref02_high.j0 k a1 a3 t122 t123 bt124.1 bt124.2) else (mezzanineref02_high.j0 k a1 a3 a0 false bt124.1 bt124.2))) = some r := H
  have A5 := Aside0.mk A50
  clear A50
  replace H := Option.bind_eq_some_iff.mp H
  obtain ⟨⟨t124, t125⟩, A60, H⟩ := H
  replace H : (if a2 = true then (mezzanineref02_high.j0 k a1 a3 t122 t123 t124 t125) else (mezzanineref02_high.j0 k a1 a3 a0 false t124 t125)) = some r := H
  have A6 := Aside0.mk A60
  clear A60
  have HC7 := Aside0.mk H
  clear H
  go_enter Try.func39, Try.ntmps39
  go_upto_if 26 with (first | ((with_reducible refine gate_callee (f := 44) rfl ?_); refine goesL_ (some 17) rfl rfl Try.func44 (by kernel_rfl) rfl #[.int .u64 a0] rfl (by (try simp only [List.map_toArray, List.map_cons, List.map_nil]); first | done | rfl | (simp only [List.length_drop, List.length_take]; rfl)) ?_; (with_reducible refine (mezzanineref02_size.calls a0 t122 t123 _ A5.out).mono ?_); rintro e w' ⟨rfl, ⟨nd, rfl⟩⟩; refine ⟨_, rfl, ?_⟩) | ((with_reducible refine gate_callee (f := 44) rfl ?_); refine goesL_ (some 22) rfl rfl Try.func44 (by kernel_rfl) rfl #[.int .u64 a1] rfl (by (try simp only [List.map_toArray, List.map_cons, List.map_nil]); first | done | rfl | (simp only [List.length_drop, List.length_take]; rfl)) ?_; (with_reducible refine (mezzanineref02_size.calls a1 t124 t125 _ A6.out).mono ?_); rintro e w' ⟨rfl, ⟨nd, rfl⟩⟩; refine ⟨_, rfl, ?_⟩))
  (try simp only [Act.put, List.setIfInBounds_toArray, List.set_cons_zero, List.set_cons_succ])
  go_cut [9, 10] (fun v9 v10 wc => ∃ (kq : Nat) (x9_6 : Int) (x10_6 : Bool), v9 = .int .u64 x9_6 ∧ v10 = .bool x10_6 ∧ Aside0 (mezzanineref02_high.j0 kq a1 a3 x9_6 x10_6 t124 t125 = some r) ∧ Aside0 (kq ≤ k) ∧ Aside0 (Below w.heap.size w wc))
  case first =>
    have H := HC7.out
    clear HC7
    by_cases c8 : a2 = true
    · subst c8
      have H1 : (mezzanineref02_high.j0 k a1 a3 t122 t123 t124 t125) = some r := by rw [if_pos rfl] at H; exact H
      clear H
      have H := H1
      clear H1
      have H' := Aside0.mk H
      clear H
      go_wp2
      go_meet
      case rel => exact ⟨_, (t122), (t123), (by first | rfl | (simp; done) | (simp [*]; done)), (by first | rfl | (simp; done) | (simp [*]; done)), H', ⟨by first | omega | exact Nat.le_refl _⟩, ⟨by repeat (first | (with_reducible first | exact HB.out | apply below_alloc | apply pw_below_drewN | apply below_drew1) | exact HB.out)⟩⟩
    · replace c8 := Bool.eq_false_iff.mpr c8
      subst c8
      have H1 : (mezzanineref02_high.j0 k a1 a3 a0 false t124 t125) = some r := by rw [if_neg (show ¬ (false = true) by decide)] at H; exact H
      clear H
      have H := H1
      clear H1
      have H' := Aside0.mk H
      clear H
      go_wp2
      go_meet
      case rel => exact ⟨_, (a0), (false), (by first | rfl | (simp; done) | (simp [*]; done)), (by first | rfl | (simp; done) | (simp [*]; done)), H', ⟨by first | omega | exact Nat.le_refl _⟩, ⟨by repeat (first | (with_reducible first | exact HB.out | apply below_alloc | apply pw_below_drewN | apply below_drew1) | exact HB.out)⟩⟩
  case rest =>
    clear HC7
    try clear p2
    try clear c3
    try clear c4
    try clear c8
    obtain ⟨kq, x9_6, x10_6, rfl, rfl, HA, HJ6, HB⟩ := hcut
    cases kq with
    | zero => exact absurd HA.out (by simp [mezzanineref02_high.j0])
    | succ kj6 =>
      have H := HA.out
      clear HA
      simp only [mezzanineref02_high.j0] at H
      have HC9 := Aside0.mk H
      clear H
      go_upto_if 29 with (fail)
      go_cut [11, 12] (fun v11 v12 wc => ∃ (kq : Nat) (x11_8 : Int) (x12_8 : Bool), v11 = .int .u64 x11_8 ∧ v12 = .bool x12_8 ∧ Aside0 (mezzanineref02_high.j1 kq x9_6 x10_6 x11_8 x12_8 = some r) ∧ Aside0 (kq ≤ kj6) ∧ Aside0 (Below w.heap.size w wc))
      case first =>
        have H := HC9.out
        clear HC9
        by_cases c10 : a3 = true
        · subst c10
          have H1 : (mezzanineref02_high.j1 kj6 x9_6 x10_6 t124 t125) = some r := by rw [if_pos rfl] at H; exact H
          clear H
          have H := H1
          clear H1
          have H' := Aside0.mk H
          clear H
          go_wp2
          go_meet
          case rel => exact ⟨_, (t124), (t125), (by first | rfl | (simp; done) | (simp [*]; done)), (by first | rfl | (simp; done) | (simp [*]; done)), H', ⟨by have := HJ6.out; first | omega | exact Nat.le_refl _⟩, ⟨by repeat (first | (with_reducible first | exact HB.out | apply below_alloc | apply pw_below_drewN | apply below_drew1) | exact HB.out)⟩⟩
        · replace c10 := Bool.eq_false_iff.mpr c10
          subst c10
          have H1 : (mezzanineref02_high.j1 kj6 x9_6 x10_6 a1 false) = some r := by rw [if_neg (show ¬ (false = true) by decide)] at H; exact H
          clear H
          have H := H1
          clear H1
          have H' := Aside0.mk H
          clear H
          go_wp2
          go_meet
          case rel => exact ⟨_, (a1), (false), (by first | rfl | (simp; done) | (simp [*]; done)), (by first | rfl | (simp; done) | (simp [*]; done)), H', ⟨by have := HJ6.out; first | omega | exact Nat.le_refl _⟩, ⟨by repeat (first | (with_reducible first | exact HB.out | apply below_alloc | apply pw_below_drewN | apply below_drew1) | exact HB.out)⟩⟩
      case rest =>
        clear HC9
        try clear c1
        try clear p2
        try clear c3
        try clear c4
        try clear c8
        try clear c10
        try clear p2
        obtain ⟨kq, x11_8, x12_8, rfl, rfl, HA, HJ8, HB⟩ := hcut
        cases kq with
        | zero => exact absurd HA.out (by simp [mezzanineref02_high.j1])
        | succ kj8 =>
          have H := HA.out
          clear HA
          simp only [mezzanineref02_high.j1] at H
          replace H := Option.bind_eq_some_iff.mp H
          obtain ⟨⟨t126, t127⟩, A110, H⟩ := H
          replace H : (if (x10_6 != x12_8) = true then ((mezzanineref02_turned.f t126 t127).bind fun bt128 => (some bt128.1)) else (some t126)) = some r := H
          have A11 := Aside0.mk A110
          clear A110
          by_cases c12 : (x10_6 != x12_8) = true
          · rw [if_pos c12] at H
            have c12b0 : (x10_6 != x12_8) = true := c12
            (try (have c12b1 : decide (x10_6 = x12_8) = false := by simpa using c12))
            (try (have c12b2 : (x10_6 == x12_8) = false := by simpa using c12))
            (try (have c12b3 : ¬ (x10_6 = x12_8) := by simpa using c12))
            clear c12
            replace H := Option.bind_eq_some_iff.mp H
            obtain ⟨⟨t128, t129⟩, A130, H⟩ := H
            replace H : (some t128) = some r := H
            have A13 := Aside0.mk A130
            clear A130
            obtain rfl := Option.some.inj H
            go_wp2_with (first | ((with_reducible refine gate_callee (f := 46) rfl ?_); refine goesL_ (some 34) rfl rfl Try.func46 (by kernel_rfl) rfl #[.int .u64 x9_6, .int .u64 x11_8] rfl (by (try simp only [List.map_toArray, List.map_cons, List.map_nil]); first | done | rfl | (simp only [List.length_drop, List.length_take]; rfl)) ?_; (with_reducible refine (mezzanineref02_product.calls x9_6 x11_8 t126 t127 _ A11.out).mono ?_); rintro e w14 ⟨rfl, hb⟩; refine ⟨_, rfl, ?_⟩; have n0_ := Aside0.mk (below_step (by repeat (first | (with_reducible first | exact HB.out | apply below_alloc | apply pw_below_drewN | apply below_drew1) | exact HB.out)) hb); clear HB; have HB := n0_; clear n0_; (try clear hb); (try clear hb2); (try clear hk); (try clear hi)) | ((with_reducible refine gate_callee (f := 47) rfl ?_); refine goesL_ (some 43) rfl rfl Try.func47 (by kernel_rfl) rfl #[.int .u64 t126, .int .u64 t127] rfl (by (try simp only [List.map_toArray, List.map_cons, List.map_nil]); first | done | rfl | (simp only [List.length_drop, List.length_take]; rfl)) ?_; (with_reducible refine (mezzanineref02_turned.calls t126 t127 t128 t129 _ A13.out).mono ?_); rintro e w' ⟨rfl, ⟨nd, rfl⟩⟩; refine ⟨_, rfl, ?_⟩))
            go_ret
            exact ⟨by first | rfl | (simp [errW_none, errW_some] <;> rfl) | (simp [*, errW_none, errW_some] <;> rfl), by repeat (first | (with_reducible first | exact HB.out | apply below_alloc | apply pw_below_drewN | apply below_drew1) | exact HB.out)⟩
          · rw [if_neg c12] at H
            have c12b0 : (x10_6 != x12_8) = false := by simpa using c12
            (try (have c12b1 : decide (x10_6 = x12_8) = true := by simpa using c12))
            (try (have c12b2 : (x10_6 == x12_8) = true := by simpa using c12))
            clear c12
            obtain rfl := Option.some.inj H
            go_wp2_with (first | ((with_reducible refine gate_callee (f := 46) rfl ?_); refine goesL_ (some 34) rfl rfl Try.func46 (by kernel_rfl) rfl #[.int .u64 x9_6, .int .u64 x11_8] rfl (by (try simp only [List.map_toArray, List.map_cons, List.map_nil]); first | done | rfl | (simp only [List.length_drop, List.length_take]; rfl)) ?_; (with_reducible refine (mezzanineref02_product.calls x9_6 x11_8 t126 t127 _ A11.out).mono ?_); rintro e w15 ⟨rfl, hb⟩; refine ⟨_, rfl, ?_⟩; have n0_ := Aside0.mk (below_step (by repeat (first | (with_reducible first | exact HB.out | apply below_alloc | apply pw_below_drewN | apply below_drew1) | exact HB.out)) hb); clear HB; have HB := n0_; clear n0_; (try clear hb); (try clear hb2); (try clear hk); (try clear hi)))
            go_ret
            exact ⟨by first | rfl | (simp [errW_none, errW_some] <;> rfl) | (simp [*, errW_none, errW_some] <;> rfl), by repeat (first | (with_reducible first | exact HB.out | apply below_alloc | apply pw_below_drewN | apply below_drew1) | exact HB.out)⟩

end Go.Proofs.Ytdfldddcaeokpaa.Q
