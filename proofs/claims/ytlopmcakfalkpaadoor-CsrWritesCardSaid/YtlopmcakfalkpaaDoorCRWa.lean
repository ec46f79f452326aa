/- The hart behind writing a register, by the document. (By a program of this session.) -/
import Derived.Test.YtlopmcakfalkpaaDoorCWakes
import Derived.Test.YtlopmcakfalkpaaDoorBv
import Derived.Test.YtlopmcakfalkpaaDoorQx3
import Derived.Test.YtlopmcakfalkpaaDoorQx6
import Derived.Test.YtlopmcakfalkpaaDoorQx1
set_option linter.unusedSimpArgs false
set_option linter.unusedVariables false
namespace Go.Proofs.YtlopmcakfalkpaaDoor.Hx
open Go.Proofs.YtlopmcakfalkpaaDoor.Bv Go.RowKit Go.Proofs.YtlopmcakfalkpaaDoor.Q Go.Proofs.YtlopmcakfalkpaaDoorW.PrintWords Go.Proofs.YtlopmcakfalkpaaDoorW.PrintLast Go.Proofs.YtlopmcakfalkpaaDoorW.PrintMore Go.Proofs.YtlopmcakfalkpaaDoor.Rg

theorem u64w {a : Int} (h0 : 0 ≤ a) (h1 : a < 18446744073709551616) : IntKind.u64.wrap a = a := by rw [wrap_u64, U_ofInt h0 h1]
theorem bsm {α β : Type} (a : α) (f : α → Option β) : (some a).bind f = f a := by cases h : f a <;> simp [h]
theorem rmeant_c (h : Ht) (no : Int) (w : World) : Calls Tryd.prog 29 #[.agg h.cs, .int .i64 no] w fun e w' => e = .returned (.int .i64 (meantV h.v no)) ∧ Below w.heap.size w w' := by
  rw [h.cs_lit]
  refine mezzanineref12_Meant.calls (h.x 0) (h.x 1) (h.x 2) (h.x 3) (h.x 4) (h.x 5) (h.x 6) (h.x 7) (h.x 8) (h.x 9) (h.x 10) (h.x 11) (h.x 12) (h.x 13) (h.x 14) (h.x 15) (h.x 16) (h.x 17) (h.x 18) (h.x 19) (h.x 20) (h.x 21) (h.x 22) (h.x 23) (h.x 24) (h.x 25) (h.x 26) (h.x 27) (h.x 28) (h.x 29) (h.x 30) (h.x 31) (h.x 32) (h.x 33) h.v h.wt h.hl (h.x 37) (h.x 38) (h.x 39) (h.x 40) (h.x 41) (h.x 42) (h.x 43) (h.x 44) (h.x 45) (h.x 46) (h.x 47) (h.x 48) (h.x 49) (h.x 50) (h.x 51) (h.x 52) (h.x 53) (h.x 54) (h.x 55) (h.x 56) (h.x 57) (h.x 58) (h.x 59) (h.x 60) (h.x 61) (h.x 62) (h.x 63) (h.x 64) (h.x 65) (h.x 66) (h.x 67) (h.x 68) (h.x 69) (h.x 70) (h.x 71) (h.x 72) (h.x 73) (h.x 74) (h.x 75) (h.x 76) no _ w ?_
  unfold mezzanineref12_Meant.f meantV
  cases h.v
  · rfl
  · rw [if_pos rfl, if_pos rfl]
    repeat' split
    all_goals first | rfl | omega
theorem bitf (a n : Int) (hn : 0 ≤ n) : mezzanineref12_bit.f a n = some (Go.bits .and .u64 (shr .u64 a n) 1 == 1) := by unfold mezzanineref12_bit.f; rw [if_pos hn]

theorem rng (op : BinOp) (a b : Int) : 0 ≤ Go.bits op .u64 a b ∧ Go.bits op .u64 a b < 18446744073709551616 := by
  rw [bits_u64]; exact U_range _
theorem putV_U (a m v : BitVec 64) : putV (U a) (U m) (U v) = U ((a &&& ~~~ m) ||| (v &&& m)) := by
  unfold putV
  rw [andNot_u64, and_u64, or_u64, ofInt_U, ofInt_U, ofInt_U, ofInt_U, ofInt_U]
theorem and_c (a : BitVec 64) (c : Int) : Go.bits .and .u64 (U a) c = U (a &&& BitVec.ofInt 64 c) := by rw [and_u64, ofInt_U]


theorem bitPut (x : BitVec 64) (n : Nat) : (Go.bits .and .u64 (shr .u64 (U x) (n : Int)) 1 == 1) = x.getLsbD n := by
  rw [shr_u64, show ((n : Int)).toNat = n by simp, and_c]
  have e : (x >>> n) &&& BitVec.ofInt 64 1 = if x.getLsbD n = true then 1#64 else 0#64 := by
    show (x >>> n) &&& 1#64 = _
    apply BitVec.eq_of_getLsbD_eq; intro i hi
    rw [BitVec.getLsbD_and, BitVec.getLsbD_ushiftRight, BitVec.getLsbD_one]
    by_cases h : i = 0
    · subst h; cases x.getLsbD n <;> simp
    · cases x.getLsbD n <;> simp [BitVec.getLsbD_one, h] <;> omega
  rw [e]
  cases x.getLsbD n <;> rfl
theorem shlPut (j : Nat) : shl .u64 1 (j : Int) = U (1#64 <<< j) := by
  have h := shl_u64 1#64 (j : Int)
  rw [show U 1#64 = 1 from rfl] at h
  rw [h, show ((j : Int)).toNat = j by simp]
theorem onePut (b i : Nat) (hb : b < 64) : (1#64 <<< b).getLsbD i = decide (i = b) := by
  rw [BitVec.getLsbD_shiftLeft]
  by_cases h : i = b
  · subst h; simp [hb]
  · by_cases h2 : i < b
    · simp [h, h2]
    · have : i - b ≠ 0 := by omega
      simp [h, h2, this]
theorem put_l (M V : BitVec 64) : ∀ (d j : Nat) (o : BitVec 64), d + j = 64 → ∃ r : BitVec 64, mezzanineref12_Put.l0 (d + 1) (U M) (U V) (U o) (j : Int) = some (U r) ∧ ∀ i, i < 64 → r.getLsbD i = (if i < j then o.getLsbD i else if M.getLsbD i = true then V.getLsbD i else o.getLsbD i)
  | 0, j, o, h => by
    refine ⟨o, ?_, fun i hi => by rw [if_pos (by omega)]⟩
    rw [mezzanineref12_Put.l0, if_neg (by omega)]
  | d + 1, j, o, h => by
    have hj : (j : Int) < 64 := by omega
    have hj0 : (0 : Int) ≤ (j : Int) := by omega
    have hbit : ∀ x : BitVec 64, mezzanineref12_bit.f (U x) (j : Int) = some (x.getLsbD j) := fun x => by unfold mezzanineref12_bit.f; rw [if_pos hj0, bitPut]
    have hw : IntKind.u64.wrap ((j : Int) + 1) = ((j + 1 : Nat) : Int) := by
      have := u64w (a := ((j + 1 : Nat) : Int)) (by omega) (by omega)
      rw [← this]; congr 1
    rw [mezzanineref12_Put.l0, if_pos hj, hbit, bsm, hw]
    have next := fun o' => put_l M V d (j + 1) o' (by omega)
    cases hM : M.getLsbD j
    · rw [if_neg (show ¬ (false = true) by decide)]
      obtain ⟨r, e, hr⟩ := next o
      refine ⟨r, e, fun i hi => ?_⟩
      rw [hr i hi]
      by_cases h1 : i < j
      · rw [if_pos h1, if_pos (by omega)]
      · rw [if_neg h1]
        by_cases h2 : i = j
        · subst h2; rw [if_pos (by omega), hM, if_neg (show ¬ (false = true) by decide)]
        · rw [if_neg (by omega)]
    · rw [if_pos rfl, if_pos hj0, hbit, bsm]
      cases hV : V.getLsbD j
      · rw [if_neg (show ¬ (false = true) by decide), shlPut, andNot_u64, ofInt_U, ofInt_U]
        obtain ⟨r, e, hr⟩ := next (o &&& ~~~ (1#64 <<< j))
        refine ⟨r, e, fun i hi => ?_⟩
        rw [hr i hi, BitVec.getLsbD_and, BitVec.getLsbD_not, onePut j i (by omega)]
        by_cases h1 : i < j
        · rw [if_pos h1, if_pos (by omega), decide_eq_false (show ¬ i = j by omega)]; simp [hi]
        · rw [if_neg h1]
          by_cases h2 : i = j
          · subst h2; rw [if_pos (by omega), hM, if_pos rfl, hV, decide_eq_true rfl]; simp
          · rw [if_neg (by omega), decide_eq_false h2]; simp [hi]
      · rw [if_pos rfl, shlPut, andNot_u64, ofInt_U, ofInt_U, or_u64, ofInt_U, ofInt_U]
        obtain ⟨r, e, hr⟩ := next ((o &&& ~~~ (1#64 <<< j)) ||| (1#64 <<< j))
        refine ⟨r, e, fun i hi => ?_⟩
        rw [hr i hi, BitVec.getLsbD_or, BitVec.getLsbD_and, BitVec.getLsbD_not, onePut j i (by omega)]
        by_cases h1 : i < j
        · rw [if_pos h1, if_pos (by omega), decide_eq_false (show ¬ i = j by omega)]; simp [hi]
        · rw [if_neg h1]
          by_cases h2 : i = j
          · subst h2; rw [if_pos (by omega), hM, if_pos rfl, hV, decide_eq_true rfl]; simp
          · rw [if_neg (by omega), decide_eq_false h2]; simp [hi]
theorem rput_f {a m v : Int} (ha : 0 ≤ a ∧ a < 18446744073709551616) (hm : 0 ≤ m ∧ m < 18446744073709551616) (hv : 0 ≤ v ∧ v < 18446744073709551616) : mezzanineref12_Put.f 65 a m v = some (putV a m v) := by
  obtain ⟨x, rfl⟩ := U_of ha.1 ha.2
  obtain ⟨y, rfl⟩ := U_of hm.1 hm.2
  obtain ⟨z, rfl⟩ := U_of hv.1 hv.2
  obtain ⟨r, e, hr⟩ := put_l y z 64 0 x rfl
  have e2 : mezzanineref12_Put.f 65 (U x) (U y) (U z) = mezzanineref12_Put.l0 (64 + 1) (U y) (U z) (U x) ((0 : Nat) : Int) := rfl
  rw [e2, e, putV_U]
  congr 2
  apply BitVec.eq_of_getLsbD_eq; intro i hi
  rw [hr i hi, if_neg (by omega), BitVec.getLsbD_or, BitVec.getLsbD_and, BitVec.getLsbD_and, BitVec.getLsbD_not]
  cases y.getLsbD i <;> cases x.getLsbD i <;> cases z.getLsbD i <;> simp [hi]
theorem rput_c {a m v : Int} (ha : 0 ≤ a ∧ a < 18446744073709551616) (hm : 0 ≤ m ∧ m < 18446744073709551616) (hv : 0 ≤ v ∧ v < 18446744073709551616) (w : World) : Calls Tryd.prog 35 #[.int .u64 a, .int .u64 m, .int .u64 v] w fun e w' => e = .returned (.int .u64 (putV a m v)) ∧ Drawn0 w w' := mezzanineref12_Put.calls 65 a m v _ w (rput_f ha hm hv)
theorem rmode_c (v : Int) (w : World) : Calls Tryd.prog 37 #[.int .u64 v] w fun e w' => e = .returned (.bool (modeV v)) ∧ Drawn0 w w' := mezzanineref12_mode.calls v (modeV v) w (mode_f v)
theorem and_sw (a b : Int) : Go.bits .and .u64 a b = Go.bits .and .u64 b a := by rw [and_u64, and_u64, BitVec.and_comm]
theorem rbit_c (a n : Int) (hn : 0 ≤ n) (w : World) : Calls Tryd.prog 26 #[.int .u64 a, .int .u64 n] w fun e w' => e = .returned (.bool (Go.bits .and .u64 (shr .u64 a n) 1 == 1)) ∧ Drawn0 w w' := mezzanineref12_bit.calls a n _ w (bitf a n hn)
theorem mpp_v {v : Int} (hv : 0 ≤ v ∧ v < 18446744073709551616) : (Go.bits .and .u64 (v / 2048) 3 == 2) = (if (Go.bits .and .u64 (shr .u64 v 12) 1 == 1) = true then (!(Go.bits .and .u64 (shr .u64 v 11) 1 == 1)) else false) := by
  obtain ⟨x, rfl⟩ := U_of hv.1 hv.2
  have e12 := bitPut x 12; have e11 := bitPut x 11
  rw [show (((12 : Nat) : Int)) = 12 from rfl] at e12
  rw [show (((11 : Nat) : Int)) = 11 from rfl] at e11
  rw [e12, e11]
  have h2 := U_div_pow x 11
  rw [show (2 : Int) ^ 11 = 2048 from rfl] at h2
  rw [h2, and_c]
  have e : (x >>> 11) &&& BitVec.ofInt 64 3 = (if x.getLsbD 12 = true then 2#64 else 0#64) ||| (if x.getLsbD 11 = true then 1#64 else 0#64) := by
    show (x >>> 11) &&& 3#64 = _
    have z : ∀ i, i < 64 → i ≠ 0 → i ≠ 1 → (3#64).getLsbD i = false ∧ (2#64).getLsbD i = false ∧ (1#64).getLsbD i = false := by decide
    apply BitVec.eq_of_getLsbD_eq; intro i hi
    rw [BitVec.getLsbD_and, BitVec.getLsbD_ushiftRight, BitVec.getLsbD_or]
    by_cases h0 : i = 0
    · subst h0; cases x.getLsbD 12 <;> cases x.getLsbD 11 <;> decide
    · by_cases h1 : i = 1
      · subst h1; cases x.getLsbD 12 <;> cases x.getLsbD 11 <;> decide
      · rw [(z i hi h0 h1).1, Bool.and_false]
        cases x.getLsbD 12 <;> cases x.getLsbD 11 <;> simp [(z i hi h0 h1).2.1, (z i hi h0 h1).2.2]
  rw [e]
  cases x.getLsbD 12 <;> cases x.getLsbD 11 <;> decide

theorem putV_all (a : Int) {v : Int} (hv : 0 ≤ v ∧ v < 18446744073709551616) : putV a 18446744073709551615 v = v := by
  obtain ⟨x, rfl⟩ := U_of hv.1 hv.2
  unfold putV
  rw [andNot_u64, and_u64, or_u64, ofInt_U, ofInt_U, ofInt_U, show BitVec.ofInt 64 18446744073709551615 = BitVec.allOnes 64 by decide]
  congr 1
  apply BitVec.eq_of_getLsbD_eq; intro i hi
  simp only [BitVec.getLsbD_and, BitVec.getLsbD_or, BitVec.getLsbD_not, BitVec.getLsbD_allOnes, hi, decide_true, Bool.not_true, Bool.and_false, Bool.false_or, Bool.and_true, Bool.true_and]
theorem wm_768 (f : Ht) (v : Int) : writeM f 768 v = f.set 38 (putV (f.x 38) (if (Go.bits .and .u64 (v / 2048) 3 == 2) = true then Go.bits .andNot .u64 824641984938 6144 else 824641984938) v) := by kernel_rfl
theorem wm_770 (f : Ht) (v : Int) : writeM f 770 v = f.set 39 (putV (f.x 39) 15775743 v) := by kernel_rfl
theorem wm_771 (f : Ht) (v : Int) : writeM f 771 v = f.set 40 (putV (f.x 40) 546 v) := by kernel_rfl
theorem wm_772 (f : Ht) (v : Int) : writeM f 772 v = f.set 41 (putV (f.x 41) 7918 v) := by kernel_rfl
theorem wm_773 (f : Ht) (v : Int) : writeM f 773 v = f.set 43 (putV (f.x 43) 18446744073709551613 v) := by kernel_rfl
theorem wm_774 (f : Ht) (v : Int) : writeM f 774 v = f.set 44 (putV (f.x 44) 7 v) := by kernel_rfl
theorem wm_832 (f : Ht) (v : Int) : writeM f 832 v = f.set 45 (putV (f.x 45) 18446744073709551615 v) := by kernel_rfl
theorem wm_833 (f : Ht) (v : Int) : writeM f 833 v = f.set 46 (putV (f.x 46) 18446744073709551612 v) := by kernel_rfl
theorem wm_834 (f : Ht) (v : Int) : writeM f 834 v = f.set 47 (putV (f.x 47) 18446744073709551615 v) := by kernel_rfl
theorem wm_835 (f : Ht) (v : Int) : writeM f 835 v = f.set 48 (putV (f.x 48) 18446744073709551615 v) := by kernel_rfl
theorem wm_843 (f : Ht) (v : Int) : writeM f 843 v = f.set 49 (putV (f.x 49) 18446744073709551615 v) := by kernel_rfl
theorem wm_842 (f : Ht) (v : Int) : writeM f 842 v = f.set 50 (putV (f.x 50) 18446744073709551615 v) := by kernel_rfl
theorem wm_2816 (f : Ht) (v : Int) : writeM f 2816 v = f.set 75 (putV (f.x 75) 18446744073709551615 v) := by kernel_rfl
theorem wm_2818 (f : Ht) (v : Int) : writeM f 2818 v = f.set 76 (putV (f.x 76) 18446744073709551615 v) := by kernel_rfl
theorem wm_261 (f : Ht) (v : Int) : writeM f 261 v = f.set 51 (putV (f.x 51) 18446744073709551613 v) := by kernel_rfl
theorem wm_262 (f : Ht) (v : Int) : writeM f 262 v = f.set 52 (putV (f.x 52) 7 v) := by kernel_rfl
theorem wm_320 (f : Ht) (v : Int) : writeM f 320 v = f.set 53 (putV (f.x 53) 18446744073709551615 v) := by kernel_rfl
theorem wm_321 (f : Ht) (v : Int) : writeM f 321 v = f.set 54 (putV (f.x 54) 18446744073709551612 v) := by kernel_rfl
theorem wm_322 (f : Ht) (v : Int) : writeM f 322 v = f.set 55 (putV (f.x 55) 18446744073709551615 v) := by kernel_rfl
theorem wm_323 (f : Ht) (v : Int) : writeM f 323 v = f.set 56 (putV (f.x 56) 18446744073709551615 v) := by kernel_rfl
theorem wm_384 (f : Ht) (v : Int) : writeM f 384 v = if modeV v = true then f.set 57 (putV (f.x 57) 18446744073709551615 v) else f := by kernel_rfl
theorem wm_512 (f : Ht) (v : Int) : writeM f 512 v = f.set 68 (putV (f.x 68) 786722 v) := by kernel_rfl
theorem wm_517 (f : Ht) (v : Int) : writeM f 517 v = f.set 69 (putV (f.x 69) 18446744073709551613 v) := by kernel_rfl
theorem wm_576 (f : Ht) (v : Int) : writeM f 576 v = f.set 70 (putV (f.x 70) 18446744073709551615 v) := by kernel_rfl
theorem wm_577 (f : Ht) (v : Int) : writeM f 577 v = f.set 71 (putV (f.x 71) 18446744073709551612 v) := by kernel_rfl
theorem wm_578 (f : Ht) (v : Int) : writeM f 578 v = f.set 72 (putV (f.x 72) 18446744073709551615 v) := by kernel_rfl
theorem wm_579 (f : Ht) (v : Int) : writeM f 579 v = f.set 73 (putV (f.x 73) 18446744073709551615 v) := by kernel_rfl
theorem wm_640 (f : Ht) (v : Int) : writeM f 640 v = if modeV v = true then f.set 74 (putV (f.x 74) 18446744073709551615 v) else f := by kernel_rfl
theorem wm_1536 (f : Ht) (v : Int) : writeM f 1536 v = f.set 58 (putV (f.x 58) 7345088 v) := by kernel_rfl
theorem wm_1538 (f : Ht) (v : Int) : writeM f 1538 v = f.set 59 (putV (f.x 59) 45567 v) := by kernel_rfl
theorem wm_1539 (f : Ht) (v : Int) : writeM f 1539 v = f.set 60 (putV (f.x 60) 1092 v) := by kernel_rfl
theorem wm_1605 (f : Ht) (v : Int) : writeM f 1605 v = f.set 61 (putV (f.x 61) 1092 v) := by kernel_rfl
theorem wm_1543 (f : Ht) (v : Int) : writeM f 1543 v = f.set 63 (putV (f.x 63) 2 v) := by kernel_rfl
theorem wm_1542 (f : Ht) (v : Int) : writeM f 1542 v = f.set 62 (putV (f.x 62) 7 v) := by kernel_rfl
theorem wm_1603 (f : Ht) (v : Int) : writeM f 1603 v = f.set 64 (putV (f.x 64) 18446744073709551615 v) := by kernel_rfl
theorem wm_1610 (f : Ht) (v : Int) : writeM f 1610 v = f.set 65 (putV (f.x 65) 18446744073709551615 v) := by kernel_rfl
theorem wm_1664 (f : Ht) (v : Int) : writeM f 1664 v = if modeV v = true then f.set 66 (putV (f.x 66) 17582052945254416380 v) else f := by kernel_rfl
theorem wm_1541 (f : Ht) (v : Int) : writeM f 1541 v = f.set 67 (putV (f.x 67) 18446744073709551615 v) := by kernel_rfl
theorem wm_256 (f : Ht) (v : Int) : writeM f 256 v = f.set 38 (putV (f.x 38) 786722 v) := by kernel_rfl
theorem wm_836 (f : Ht) (v : Int) : writeM f 836 v = (f.set 42 (putV (f.x 42) 546 v)).set 61 (putV (f.x 61) 4 v) := by kernel_rfl
theorem wm_324 (f : Ht) (v : Int) : writeM f 324 v = f.set 42 (putV (f.x 42) (Go.bits .and .u64 (f.x 40) 2) v) := by kernel_rfl
theorem wm_260 (f : Ht) (v : Int) : writeM f 260 v = f.set 41 (putV (f.x 41) (Go.bits .and .u64 (f.x 40) 546) v) := by kernel_rfl
theorem wm_1604 (f : Ht) (v : Int) : writeM f 1604 v = f.set 61 (putV (f.x 61) 4 v) := by kernel_rfl
theorem wm_1540 (f : Ht) (v : Int) : writeM f 1540 v = f.set 41 (putV (f.x 41) 5188 v) := by kernel_rfl
theorem wm_580 (f : Ht) (v : Int) : writeM f 580 v = f.set 61 (putV (f.x 61) (Go.bits .and .u64 (f.x 60) 4) (shl1 v)) := by kernel_rfl
theorem wm_516 (f : Ht) (v : Int) : writeM f 516 v = f.set 41 (putV (f.x 41) (Go.bits .and .u64 (f.x 60) 1092) (shl1 v)) := by kernel_rfl
theorem write_cases (m : Int) : m = 768 ∨ m = 770 ∨ m = 771 ∨ m = 772 ∨ m = 773 ∨ m = 774 ∨ m = 832 ∨ m = 833 ∨ m = 834 ∨ m = 835 ∨ m = 843 ∨ m = 842 ∨ m = 2816 ∨ m = 2818 ∨ m = 261 ∨ m = 262 ∨ m = 320 ∨ m = 321 ∨ m = 322 ∨ m = 323 ∨ m = 384 ∨ m = 512 ∨ m = 517 ∨ m = 576 ∨ m = 577 ∨ m = 578 ∨ m = 579 ∨ m = 640 ∨ m = 1536 ∨ m = 1538 ∨ m = 1539 ∨ m = 1605 ∨ m = 1543 ∨ m = 1542 ∨ m = 1603 ∨ m = 1610 ∨ m = 1664 ∨ m = 1541 ∨ m = 256 ∨ m = 836 ∨ m = 324 ∨ m = 260 ∨ m = 1604 ∨ m = 1540 ∨ m = 580 ∨ m = 516 ∨ (∀ f v, writeM f m v = f) := by
  by_cases g_768 : m = 768
  · simp [g_768]
  by_cases g_770 : m = 770
  · simp [g_770]
  by_cases g_771 : m = 771
  · simp [g_771]
  by_cases g_772 : m = 772
  · simp [g_772]
  by_cases g_773 : m = 773
  · simp [g_773]
  by_cases g_774 : m = 774
  · simp [g_774]
  by_cases g_832 : m = 832
  · simp [g_832]
  by_cases g_833 : m = 833
  · simp [g_833]
  by_cases g_834 : m = 834
  · simp [g_834]
  by_cases g_835 : m = 835
  · simp [g_835]
  by_cases g_843 : m = 843
  · simp [g_843]
  by_cases g_842 : m = 842
  · simp [g_842]
  by_cases g_2816 : m = 2816
  · simp [g_2816]
  by_cases g_2818 : m = 2818
  · simp [g_2818]
  by_cases g_261 : m = 261
  · simp [g_261]
  by_cases g_262 : m = 262
  · simp [g_262]
  by_cases g_320 : m = 320
  · simp [g_320]
  by_cases g_321 : m = 321
  · simp [g_321]
  by_cases g_322 : m = 322
  · simp [g_322]
  by_cases g_323 : m = 323
  · simp [g_323]
  by_cases g_384 : m = 384
  · simp [g_384]
  by_cases g_512 : m = 512
  · simp [g_512]
  by_cases g_517 : m = 517
  · simp [g_517]
  by_cases g_576 : m = 576
  · simp [g_576]
  by_cases g_577 : m = 577
  · simp [g_577]
  by_cases g_578 : m = 578
  · simp [g_578]
  by_cases g_579 : m = 579
  · simp [g_579]
  by_cases g_640 : m = 640
  · simp [g_640]
  by_cases g_1536 : m = 1536
  · simp [g_1536]
  by_cases g_1538 : m = 1538
  · simp [g_1538]
  by_cases g_1539 : m = 1539
  · simp [g_1539]
  by_cases g_1605 : m = 1605
  · simp [g_1605]
  by_cases g_1543 : m = 1543
  · simp [g_1543]
  by_cases g_1542 : m = 1542
  · simp [g_1542]
  by_cases g_1603 : m = 1603
  · simp [g_1603]
  by_cases g_1610 : m = 1610
  · simp [g_1610]
  by_cases g_1664 : m = 1664
  · simp [g_1664]
  by_cases g_1541 : m = 1541
  · simp [g_1541]
  by_cases g_256 : m = 256
  · simp [g_256]
  by_cases g_836 : m = 836
  · simp [g_836]
  by_cases g_324 : m = 324
  · simp [g_324]
  by_cases g_260 : m = 260
  · simp [g_260]
  by_cases g_1604 : m = 1604
  · simp [g_1604]
  by_cases g_1540 : m = 1540
  · simp [g_1540]
  by_cases g_580 : m = 580
  · simp [g_580]
  by_cases g_516 : m = 516
  · simp [g_516]
  have hr : ∀ f v, writeM f m v = f := by
    intro f v
    have z_mOff : mOff m = none := by unfold mOff; rw [if_neg g_768, if_neg g_770, if_neg g_771, if_neg g_772, if_neg g_773, if_neg g_774, if_neg g_832, if_neg g_833, if_neg g_834, if_neg g_835, if_neg g_843, if_neg g_842, if_neg g_2816, if_neg g_2818]
    have z_superOff : superOff m = none := by unfold superOff; rw [if_neg g_261, if_neg g_262, if_neg g_320, if_neg g_321, if_neg g_322, if_neg g_323, if_neg g_384, if_neg g_512, if_neg g_517, if_neg g_576, if_neg g_577, if_neg g_578, if_neg g_579, if_neg g_640]
    have z_hypOff : hypOff m = none := by unfold hypOff; rw [if_neg g_1536, if_neg g_1538, if_neg g_1539, if_neg g_1605, if_neg g_1543, if_neg g_1542, if_neg g_1603, if_neg g_1610, if_neg g_1664, if_neg g_1541]
    have ho : fieldOff m = none := by unfold fieldOff; rw [z_mOff]; simp only; rw [z_superOff]; simp only; exact z_hypOff
    have ht : writeT f m v = f := by unfold writeT; rw [if_neg g_256, if_neg g_836, if_neg g_324, if_neg g_260, if_neg g_1604, if_neg g_1540, if_neg g_580, if_neg g_516]
    unfold writeM; rw [ho]; simp only [ht, ite_self]
  simp only [hr, g_768, g_770, g_771, g_772, g_773, g_774, g_832, g_833, g_834, g_835, g_843, g_842, g_2816, g_2818, g_261, g_262, g_320, g_321, g_322, g_323, g_384, g_512, g_517, g_576, g_577, g_578, g_579, g_640, g_1536, g_1538, g_1539, g_1605, g_1543, g_1542, g_1603, g_1610, g_1664, g_1541, g_256, g_836, g_324, g_260, g_1604, g_1540, g_580, g_516, false_or, implies_true]
theorem shl1_rng (v : Int) : 0 ≤ shl1 v ∧ shl1 v < 18446744073709551616 := by unfold shl1; rw [wrap_u64]; exact U_range _
theorem shl2_rng (v : Int) : 0 ≤ IntKind.u64.wrap (2 * v) ∧ IntKind.u64.wrap (2 * v) < 18446744073709551616 := by rw [wrap_u64]; exact U_range _
theorem shl2_eq (v : Int) : IntKind.u64.wrap (2 * v) = shl1 v := by unfold shl1; rw [Int.mul_comm]

set_option maxHeartbeats 16000000 in
set_option maxRecDepth 100000 in
theorem but_v (w : World) : Calls Tryd.prog 36 #[.int .u64 864691128455135235] w fun e w' => e = .returned (.int .u64 17582052945254416380) ∧ Drawn0 w w' := by
  go_enter Tryd.func36, Tryd.ntmps36
  go_wp2
  go_ret
  exact ⟨by first | rfl | decide +kernel, Drawn0.refl _⟩
set_option maxHeartbeats 16000000 in
set_option maxRecDepth 100000 in
theorem but_2 (w : World) : Calls Tryd.prog 36 #[.int .u64 2] w fun e w' => e = .returned (.int .u64 18446744073709551613) ∧ Drawn0 w w' := by
  go_enter Tryd.func36, Tryd.ntmps36
  go_wp2
  go_ret
  exact ⟨by first | rfl | decide +kernel, Drawn0.refl _⟩
set_option maxHeartbeats 16000000 in
set_option maxRecDepth 100000 in
theorem but_3 (w : World) : Calls Tryd.prog 36 #[.int .u64 3] w fun e w' => e = .returned (.int .u64 18446744073709551612) ∧ Drawn0 w w' := by
  go_enter Tryd.func36, Tryd.ntmps36
  go_wp2
  go_ret
  exact ⟨by first | rfl | decide +kernel, Drawn0.refl _⟩
set_option maxHeartbeats 16000000 in
set_option maxRecDepth 100000 in
theorem rw_256 (h : Ht) (hw : h.wf) (la lb lc ld : Bool) (lg lt : Int) (no v : Int) (hv : 0 ≤ v ∧ v < 18446744073709551616) (w : World) (hM : meantV h.v no = 256) : Calls Tryd.prog 20 #[.agg h.cs, .agg #[.bool la, .bool lb, .bool lc, .bool ld, .int .u64 lg, .int .u64 lt], .int .i64 no, .int .u64 v] w fun e w' => e = .returned (.agg (writeV h no v).cs) ∧ Below w.heap.size w w' := by
  have HM := Lib.hid (rmeant_c h no)
  have HPUT := Lib.hid (fun (a m : Int) (ha : 0 ≤ a ∧ a < 18446744073709551616) (hm : 0 ≤ m ∧ m < 18446744073709551616) => rput_c ha hm hv)
  have HPUT2 := Lib.hid (fun (a m : Int) (ha : 0 ≤ a ∧ a < 18446744073709551616) (hm : 0 ≤ m ∧ m < 18446744073709551616) => rput_c ha hm (shl2_rng v))
  have HWF := Lib.hid hw.1; have HV := Lib.hid hv
  obtain ⟨z, hz⟩ : ∃ z, writeV h no v = z := ⟨_, rfl⟩
  rw [hz]
  unfold writeV at hz
  clear hw hv
  rw [hM] at HM hz
  clear hM
  have hz1 : h.set 38 (putV (h.x 38) 786722 v) = z := (wm_256 h v).symm.trans hz
  have HZ := Lib.hid hz1
  clear hz hz1
  have hu25 := Tryd.underlying25; have hu27 := Tryd.underlying27
  go_enter Tryd.func20, Tryd.ntmps20
  go_upto_region 1 with (first | ((with_reducible refine gate_dst (N := 4) rfl ?_); refine box_event ?hg (N := 4) ?hd (cs := h.cs) (t := 25) ?hr ?_; (case hd => rfl); (case hg => rfl); (case hr => first | (go_simp; done) | (go_simp; rfl)); intro ga hg w_1 H1 hb; have hB_2 := Lib.hid (below_step (Below.refl w.heap.size w) hb); have G_ga := Lib.hid (show w.heap.size ≤ ga by rw [hg]; exact ((Below.refl w.heap.size w)).size); have K_ga := Lib.hid (show Hb w_1 ga h from H1); clear hg hb H1) | ((with_reducible refine gate_dst (N := 5) rfl ?_); refine box_event ?hg (N := 5) ?hd (cs := #[.bool la, .bool lb, .bool lc, .bool ld, .int .u64 lg, .int .u64 lt]) (t := 27) ?hr ?_; (case hd => rfl); (case hg => rfl); (case hr => first | (go_simp; done) | (go_simp; rfl)); intro gt hg w_3 H1 hb; have hB_4 := Lib.hid (below_step hB_2.out hb); have G_gt := Lib.hid (show w.heap.size ≤ gt by rw [hg]; exact (hB_2.out).size); have N_ga_gt := Lib.hid (show ga ≠ gt by rw [hg]; exact Nat.ne_of_lt (K_ga.out.lt)); replace K_ga := Lib.hid (K_ga.out.below hb); have K_gt := Lib.hid (show w_3.heap[gt]? = some (.cells #[.bool la, .bool lb, .bool lc, .bool ld, .int .u64 lg, .int .u64 lt] 27 (0, 0)) from H1); clear hg hb H1 hB_2) | ((with_reducible refine gate_dst (N := 8) rfl ?_); refine box_event ?hg (N := 8) ?hd (cs := Ht.zero.cs) (t := 25) ?hr ?_; (case hd => rfl); (case hg => rfl); (case hr => first | (go_simp; done) | (go_simp; rfl)); intro gr hg w_5 H1 hb; have hB_6 := Lib.hid (below_step hB_4.out hb); have G_gr := Lib.hid (show w.heap.size ≤ gr by rw [hg]; exact (hB_4.out).size); have N_ga_gr := Lib.hid (show ga ≠ gr by rw [hg]; exact Nat.ne_of_lt (K_ga.out.lt)); have N_gt_gr := Lib.hid (show gt ≠ gr by rw [hg]; exact Nat.ne_of_lt (blk_lt K_gt.out)); replace K_ga := Lib.hid (K_ga.out.below hb); replace K_gt := Lib.hid (blk_below K_gt.out hb); have K_gr := Lib.hid (show Hb w_5 gr Ht.zero from H1); clear hg hb H1 hB_4; clear hu25 hu27))
  go_wp2_with (first | ((with_reducible refine gate_dst (N := 9) rfl ?_); (first | (refine gate_guard (by kernel_rfl) ?_) | skip); refine Kd.event_run rfl (v := .agg (h).cs) (w1 := w_5) ?hb ?_; (case hb => exact exec_load_hart rfl rfl K_ga.out)))
  refine (HM.out _).mono ?_
  rintro e_7 w_8 ⟨rfl, hb⟩
  have hB_9 := Lib.hid (below_step hB_6.out hb)
  replace K_ga := Lib.hid (K_ga.out.below hb)
  replace K_gr := Lib.hid (K_gr.out.below hb)
  clear hb hB_6
  have c_ga_38 := K_ga.out.u 38 rfl; have f_ga_38 := K_ga.out.fr 38
  go_wp2_with fail
  refine (HPUT.out (h.x 38) 786722 (HWF.out 38) ⟨by decide, by decide⟩ _).mono ?_
  rintro e3 w3 ⟨rfl, n_, e3⟩
  clear c_ga_38 f_ga_38
  replace K_ga := Lib.hid (Hb.of e3.symm (K_ga.out.drewN n_))
  replace K_gr := Lib.hid (Hb.of e3.symm (K_gr.out.drewN n_))
  have hB_10 := Lib.hid (Below_of e3.symm (pw_below_drewN hB_9.out n_))
  clear e3 hB_9
  have c_ga_38 := K_ga.out.u 38 rfl; have f_ga_38 := K_ga.out.fr 38
  go_upto_region 100 with (fail)
  refine wp_region_list ?_
  refine load_hart (h := _) rfl (.tmp 4) rfl ga rfl (by repeat (with_reducible first | exact K_ga.out | apply Hb.put | apply Hb.putP | apply Hb.putV | apply Hb.putW | apply Hb.putH | apply Hb.far N_ga_gr.out | apply Hb.drewN | apply Hb.drew)) ?_
  refine store_hart rfl (.tmp 8) (.tmp 324) rfl gr _ rfl rfl Ht.zero (by repeat (with_reducible first | exact K_gr.out | apply Hb.put | apply Hb.putP | apply Hb.putV | apply Hb.putW | apply Hb.putH | apply Hb.far (Ne.symm N_ga_gr.out) | apply Hb.drewN | apply Hb.drew)) ?_
  go_wp2
  refine bodyPost_ret (results_cell_row rfl _ _ gr 25 _ (0, 0) _ rfl (Hb.putAll _ (by repeat (with_reducible first | exact K_gr.out | apply Hb.put | apply Hb.putP | apply Hb.putV | apply Hb.putW | apply Hb.putH | apply Hb.far (Ne.symm N_ga_gr.out) | apply Hb.drewN | apply Hb.drew))) Tryd.underlying25 rfl (by rw [Ht.size]; exact hartSize)) rfl ?_
  exact ⟨by first | (rw [← HZ.out]; done) | (rw [← HZ.out]; rfl), setCells_below G_gr.out _ _ _ (by repeat (first | (with_reducible first | exact hB_10.out | apply pw_below_drewN | apply below_drew1 | refine below_set ?_ G_ga.out | refine below_set ?_ G_gr.out) | exact hB_10.out))⟩
set_option maxHeartbeats 16000000 in
set_option maxRecDepth 100000 in
theorem rw_260 (h : Ht) (hw : h.wf) (la lb lc ld : Bool) (lg lt : Int) (no v : Int) (hv : 0 ≤ v ∧ v < 18446744073709551616) (w : World) (hM : meantV h.v no = 260) : Calls Tryd.prog 20 #[.agg h.cs, .agg #[.bool la, .bool lb, .bool lc, .bool ld, .int .u64 lg, .int .u64 lt], .int .i64 no, .int .u64 v] w fun e w' => e = .returned (.agg (writeV h no v).cs) ∧ Below w.heap.size w w' := by
  have HM := Lib.hid (rmeant_c h no)
  have HPUT := Lib.hid (fun (a m : Int) (ha : 0 ≤ a ∧ a < 18446744073709551616) (hm : 0 ≤ m ∧ m < 18446744073709551616) => rput_c ha hm hv)
  have HPUT2 := Lib.hid (fun (a m : Int) (ha : 0 ≤ a ∧ a < 18446744073709551616) (hm : 0 ≤ m ∧ m < 18446744073709551616) => rput_c ha hm (shl2_rng v))
  have HWF := Lib.hid hw.1; have HV := Lib.hid hv
  obtain ⟨z, hz⟩ : ∃ z, writeV h no v = z := ⟨_, rfl⟩
  rw [hz]
  unfold writeV at hz
  clear hw hv
  rw [hM] at HM hz
  clear hM
  have hz1 : h.set 41 (putV (h.x 41) (Go.bits .and .u64 546 (h.x 40)) v) = z := by rw [and_sw]; exact (wm_260 h v).symm.trans hz
  have HZ := Lib.hid hz1
  clear hz hz1
  have hu25 := Tryd.underlying25; have hu27 := Tryd.underlying27
  go_enter Tryd.func20, Tryd.ntmps20
  go_upto_region 1 with (first | ((with_reducible refine gate_dst (N := 4) rfl ?_); refine box_event ?hg (N := 4) ?hd (cs := h.cs) (t := 25) ?hr ?_; (case hd => rfl); (case hg => rfl); (case hr => first | (go_simp; done) | (go_simp; rfl)); intro ga hg w_1 H1 hb; have hB_2 := Lib.hid (below_step (Below.refl w.heap.size w) hb); have G_ga := Lib.hid (show w.heap.size ≤ ga by rw [hg]; exact ((Below.refl w.heap.size w)).size); have K_ga := Lib.hid (show Hb w_1 ga h from H1); clear hg hb H1) | ((with_reducible refine gate_dst (N := 5) rfl ?_); refine box_event ?hg (N := 5) ?hd (cs := #[.bool la, .bool lb, .bool lc, .bool ld, .int .u64 lg, .int .u64 lt]) (t := 27) ?hr ?_; (case hd => rfl); (case hg => rfl); (case hr => first | (go_simp; done) | (go_simp; rfl)); intro gt hg w_3 H1 hb; have hB_4 := Lib.hid (below_step hB_2.out hb); have G_gt := Lib.hid (show w.heap.size ≤ gt by rw [hg]; exact (hB_2.out).size); have N_ga_gt := Lib.hid (show ga ≠ gt by rw [hg]; exact Nat.ne_of_lt (K_ga.out.lt)); replace K_ga := Lib.hid (K_ga.out.below hb); have K_gt := Lib.hid (show w_3.heap[gt]? = some (.cells #[.bool la, .bool lb, .bool lc, .bool ld, .int .u64 lg, .int .u64 lt] 27 (0, 0)) from H1); clear hg hb H1 hB_2) | ((with_reducible refine gate_dst (N := 8) rfl ?_); refine box_event ?hg (N := 8) ?hd (cs := Ht.zero.cs) (t := 25) ?hr ?_; (case hd => rfl); (case hg => rfl); (case hr => first | (go_simp; done) | (go_simp; rfl)); intro gr hg w_5 H1 hb; have hB_6 := Lib.hid (below_step hB_4.out hb); have G_gr := Lib.hid (show w.heap.size ≤ gr by rw [hg]; exact (hB_4.out).size); have N_ga_gr := Lib.hid (show ga ≠ gr by rw [hg]; exact Nat.ne_of_lt (K_ga.out.lt)); have N_gt_gr := Lib.hid (show gt ≠ gr by rw [hg]; exact Nat.ne_of_lt (blk_lt K_gt.out)); replace K_ga := Lib.hid (K_ga.out.below hb); replace K_gt := Lib.hid (blk_below K_gt.out hb); have K_gr := Lib.hid (show Hb w_5 gr Ht.zero from H1); clear hg hb H1 hB_4; clear hu25 hu27))
  go_wp2_with (first | ((with_reducible refine gate_dst (N := 9) rfl ?_); (first | (refine gate_guard (by kernel_rfl) ?_) | skip); refine Kd.event_run rfl (v := .agg (h).cs) (w1 := w_5) ?hb ?_; (case hb => exact exec_load_hart rfl rfl K_ga.out)))
  refine (HM.out _).mono ?_
  rintro e_7 w_8 ⟨rfl, hb⟩
  have hB_9 := Lib.hid (below_step hB_6.out hb)
  replace K_ga := Lib.hid (K_ga.out.below hb)
  replace K_gr := Lib.hid (K_gr.out.below hb)
  clear hb hB_6
  have c_ga_41 := K_ga.out.u 41 rfl; have f_ga_41 := K_ga.out.fr 41
  have c_ga_40 := K_ga.out.u 40 rfl; have f_ga_40 := K_ga.out.fr 40
  go_wp2_with fail
  refine (HPUT.out (h.x 41) (Go.bits .and .u64 546 (h.x 40)) (HWF.out 41) (rng _ _ _) _).mono ?_
  rintro e3 w3 ⟨rfl, n_, e3⟩
  clear c_ga_41 f_ga_41 c_ga_40 f_ga_40
  replace K_ga := Lib.hid (Hb.of e3.symm (K_ga.out.drewN n_))
  replace K_gr := Lib.hid (Hb.of e3.symm (K_gr.out.drewN n_))
  have hB_10 := Lib.hid (Below_of e3.symm (pw_below_drewN hB_9.out n_))
  clear e3 hB_9
  have c_ga_41 := K_ga.out.u 41 rfl; have f_ga_41 := K_ga.out.fr 41
  go_upto_region 100 with (fail)
  refine wp_region_list ?_
  refine load_hart (h := _) rfl (.tmp 4) rfl ga rfl (by repeat (with_reducible first | exact K_ga.out | apply Hb.put | apply Hb.putP | apply Hb.putV | apply Hb.putW | apply Hb.putH | apply Hb.far N_ga_gr.out | apply Hb.drewN | apply Hb.drew)) ?_
  refine store_hart rfl (.tmp 8) (.tmp 324) rfl gr _ rfl rfl Ht.zero (by repeat (with_reducible first | exact K_gr.out | apply Hb.put | apply Hb.putP | apply Hb.putV | apply Hb.putW | apply Hb.putH | apply Hb.far (Ne.symm N_ga_gr.out) | apply Hb.drewN | apply Hb.drew)) ?_
  go_wp2
  refine bodyPost_ret (results_cell_row rfl _ _ gr 25 _ (0, 0) _ rfl (Hb.putAll _ (by repeat (with_reducible first | exact K_gr.out | apply Hb.put | apply Hb.putP | apply Hb.putV | apply Hb.putW | apply Hb.putH | apply Hb.far (Ne.symm N_ga_gr.out) | apply Hb.drewN | apply Hb.drew))) Tryd.underlying25 rfl (by rw [Ht.size]; exact hartSize)) rfl ?_
  exact ⟨by first | (rw [← HZ.out]; done) | (rw [← HZ.out]; rfl), setCells_below G_gr.out _ _ _ (by repeat (first | (with_reducible first | exact hB_10.out | apply pw_below_drewN | apply below_drew1 | refine below_set ?_ G_ga.out | refine below_set ?_ G_gr.out) | exact hB_10.out))⟩
set_option maxHeartbeats 16000000 in
set_option maxRecDepth 100000 in
theorem rw_261 (h : Ht) (hw : h.wf) (la lb lc ld : Bool) (lg lt : Int) (no v : Int) (hv : 0 ≤ v ∧ v < 18446744073709551616) (w : World) (hM : meantV h.v no = 261) : Calls Tryd.prog 20 #[.agg h.cs, .agg #[.bool la, .bool lb, .bool lc, .bool ld, .int .u64 lg, .int .u64 lt], .int .i64 no, .int .u64 v] w fun e w' => e = .returned (.agg (writeV h no v).cs) ∧ Below w.heap.size w w' := by
  have HM := Lib.hid (rmeant_c h no)
  have HPUT := Lib.hid (fun (a m : Int) (ha : 0 ≤ a ∧ a < 18446744073709551616) (hm : 0 ≤ m ∧ m < 18446744073709551616) => rput_c ha hm hv)
  have HPUT2 := Lib.hid (fun (a m : Int) (ha : 0 ≤ a ∧ a < 18446744073709551616) (hm : 0 ≤ m ∧ m < 18446744073709551616) => rput_c ha hm (shl2_rng v))
  have HWF := Lib.hid hw.1; have HV := Lib.hid hv
  obtain ⟨z, hz⟩ : ∃ z, writeV h no v = z := ⟨_, rfl⟩
  rw [hz]
  unfold writeV at hz
  clear hw hv
  rw [hM] at HM hz
  clear hM
  have hz1 : h.set 51 (putV (h.x 51) 18446744073709551613 v) = z := (wm_261 h v).symm.trans hz
  have HZ := Lib.hid hz1
  clear hz hz1
  have hu25 := Tryd.underlying25; have hu27 := Tryd.underlying27
  go_enter Tryd.func20, Tryd.ntmps20
  go_upto_region 1 with (first | ((with_reducible refine gate_dst (N := 4) rfl ?_); refine box_event ?hg (N := 4) ?hd (cs := h.cs) (t := 25) ?hr ?_; (case hd => rfl); (case hg => rfl); (case hr => first | (go_simp; done) | (go_simp; rfl)); intro ga hg w_1 H1 hb; have hB_2 := Lib.hid (below_step (Below.refl w.heap.size w) hb); have G_ga := Lib.hid (show w.heap.size ≤ ga by rw [hg]; exact ((Below.refl w.heap.size w)).size); have K_ga := Lib.hid (show Hb w_1 ga h from H1); clear hg hb H1) | ((with_reducible refine gate_dst (N := 5) rfl ?_); refine box_event ?hg (N := 5) ?hd (cs := #[.bool la, .bool lb, .bool lc, .bool ld, .int .u64 lg, .int .u64 lt]) (t := 27) ?hr ?_; (case hd => rfl); (case hg => rfl); (case hr => first | (go_simp; done) | (go_simp; rfl)); intro gt hg w_3 H1 hb; have hB_4 := Lib.hid (below_step hB_2.out hb); have G_gt := Lib.hid (show w.heap.size ≤ gt by rw [hg]; exact (hB_2.out).size); have N_ga_gt := Lib.hid (show ga ≠ gt by rw [hg]; exact Nat.ne_of_lt (K_ga.out.lt)); replace K_ga := Lib.hid (K_ga.out.below hb); have K_gt := Lib.hid (show w_3.heap[gt]? = some (.cells #[.bool la, .bool lb, .bool lc, .bool ld, .int .u64 lg, .int .u64 lt] 27 (0, 0)) from H1); clear hg hb H1 hB_2) | ((with_reducible refine gate_dst (N := 8) rfl ?_); refine box_event ?hg (N := 8) ?hd (cs := Ht.zero.cs) (t := 25) ?hr ?_; (case hd => rfl); (case hg => rfl); (case hr => first | (go_simp; done) | (go_simp; rfl)); intro gr hg w_5 H1 hb; have hB_6 := Lib.hid (below_step hB_4.out hb); have G_gr := Lib.hid (show w.heap.size ≤ gr by rw [hg]; exact (hB_4.out).size); have N_ga_gr := Lib.hid (show ga ≠ gr by rw [hg]; exact Nat.ne_of_lt (K_ga.out.lt)); have N_gt_gr := Lib.hid (show gt ≠ gr by rw [hg]; exact Nat.ne_of_lt (blk_lt K_gt.out)); replace K_ga := Lib.hid (K_ga.out.below hb); replace K_gt := Lib.hid (blk_below K_gt.out hb); have K_gr := Lib.hid (show Hb w_5 gr Ht.zero from H1); clear hg hb H1 hB_4; clear hu25 hu27))
  go_wp2_with (first | ((with_reducible refine gate_dst (N := 9) rfl ?_); (first | (refine gate_guard (by kernel_rfl) ?_) | skip); refine Kd.event_run rfl (v := .agg (h).cs) (w1 := w_5) ?hb ?_; (case hb => exact exec_load_hart rfl rfl K_ga.out)))
  refine (HM.out _).mono ?_
  rintro e_7 w_8 ⟨rfl, hb⟩
  have hB_9 := Lib.hid (below_step hB_6.out hb)
  replace K_ga := Lib.hid (K_ga.out.below hb)
  replace K_gr := Lib.hid (K_gr.out.below hb)
  clear hb hB_6
  have c_ga_51 := K_ga.out.u 51 rfl; have f_ga_51 := K_ga.out.fr 51
  go_upto_region 7 with (fail)
  refine start_ (n := 7) (S := fun w' => w'.cell? ⟨ga, 51, none⟩ = some (.int .u64 (h.x 51))) (ds := [6]) #[false, false, false, false, false, false, false] (by kernel_rfl) rfl rfl ((show World.cell? _ ⟨ga, 51, none⟩ = some (.int .u64 (h.x 51)) by first | (go_simp; done) | (go_simp; rfl))) (fun hHeld => ?_)
  have HH0 := Lib.hid hHeld
  clear hHeld
  refine world_any ga (by repeat (with_reducible first | exact K_ga.out | apply Hb.put | apply Hb.putP | apply Hb.putV | apply Hb.putW | apply Hb.putH | apply Hb.far N_ga_gr.out | apply Hb.drewN | apply Hb.drew)) (fun w' => Below w.heap.size w w' ∧ Hb w' gr Ht.zero ∧ (w'.cell? ⟨ga, 51, none⟩ = some (.int .u64 (h.x 51)))) ⟨(by repeat (first | (with_reducible first | exact hB_9.out | apply pw_below_drewN | apply below_drew1 | refine below_set ?_ G_ga.out | refine below_set ?_ G_gr.out) | exact hB_9.out)), (by repeat (with_reducible first | exact K_gr.out | apply Hb.put | apply Hb.putP | apply Hb.putV | apply Hb.putW | apply Hb.putH | apply Hb.far (Ne.symm N_ga_gr.out) | apply Hb.drewN | apply Hb.drew)), HH0.out⟩ ?_
  clear HH0
  clear c_ga_51 f_ga_51
  clear K_ga K_gr hB_9
  rintro w_10 q_ ⟨b_, q_gr, hHeld⟩
  have K_ga := Lib.hid q_; have hB_11 := Lib.hid b_; have K_gr := Lib.hid q_gr
  clear q_ b_ q_gr
  refine pure_ (i := 0) (N := some 31) (v := ?_) (a' := ?_) #[true, false, false, false, false, false, false] rfl rfl (by kernel_rfl) (fun _ _ _ h => h) (Or.inl ⟨by rfl, ?_⟩) ?_ ?_
  rotate_left
  · intro w'
    go_simp
    with_reducible rfl
  rotate_left
  · simp only [Act.put, List.setIfInBounds_toArray, List.set_cons_zero, List.set_cons_succ, i64_w, i32_w]
    rfl
  refine pure_ (i := 3) (N := some 34) (v := ?_) (a' := ?_) #[true, false, false, true, false, false, false] rfl rfl (by kernel_rfl) (fun _ _ _ h => h) (Or.inl ⟨by rfl, ?_⟩) ?_ ?_
  rotate_left
  · intro w'
    go_simp
    with_reducible rfl
  rotate_left
  · simp only [Act.put, List.setIfInBounds_toArray, List.set_cons_zero, List.set_cons_succ, i64_w, i32_w]
    rfl
  refine take_ (i := 1) (N := some 32) (v := ?_) (a' := ?_) #[true, true, false, true, false, false, false] rfl rfl (by kernel_rfl) (fun _ _ _ h => h) (Or.inl ⟨by rfl, ?_⟩) hHeld ?_ ?_
  rotate_left
  · intro w' s0
    go_simp
    with_reducible rfl
  rotate_left
  · simp only [Act.put, List.setIfInBounds_toArray, List.set_cons_zero, List.set_cons_succ, i64_w, i32_w]
    rfl
  have HH := Lib.hid hHeld
  clear hHeld
  refine one_ (i := 2) (N := some 33) #[true, true, true, true, false, false, false] rfl rfl (by kernel_rfl) (by decide) (fun K hK => ?_)
  refine goes_ Tryd.func36 (by kernel_rfl) rfl #[.int .u64 2] (by rfl) rfl rfl (by simp only [List.map_toArray, List.map_cons, List.map_nil]; rfl) ?_
  with_reducible refine (but_2 _).mono ?_
  rintro e_ w_ ⟨rfl, ⟨n_, rfl⟩⟩
  refine ⟨_, rfl, ?_⟩
  have q_ := Lib.hid (Hb.drewN n_ K_ga.out)
  have hB_13 := Lib.hid (pw_below_drewN hB_11.out n_)
  have q_gr := Lib.hid (Hb.drewN n_ K_gr.out)
  have s_0 := (cell_drewN n_ HH.out)
  clear HH K_ga K_gr hB_11
  generalize World.drewN w_10 n_ = w_12 at q_ hB_13 q_gr s_0 ⊢
  have K_ga := q_; clear q_
  have K_gr := q_gr; clear q_gr
  refine hK.out _ _ (s_0) (fun hHeld => ?_)
  have HH := Lib.hid hHeld
  clear hHeld s_0
  clear hK K
  refine norm_ (a' := ?_) ?_ ?_
  rotate_left
  · show Act.put _ (some 33) _ = _
    simp only [Act.put, List.setIfInBounds_toArray, List.set_cons_zero, List.set_cons_succ, i64_w, i32_w]
    rfl
  refine one_ (i := 4) (N := some 35) #[true, true, true, true, true, false, false] rfl rfl (by kernel_rfl) (by decide) (fun K hK => ?_)
  refine goes_ Tryd.func35 (by kernel_rfl) rfl #[.int .u64 (h.x 51), .int .u64 18446744073709551613, .int .u64 v] (by rfl) rfl rfl (by simp only [List.map_toArray, List.map_cons, List.map_nil]; rfl) ?_
  with_reducible refine (HPUT.out (h.x 51) 18446744073709551613 (HWF.out 51) ⟨by decide, by decide⟩ _).mono ?_
  rintro e_ w_ ⟨rfl, ⟨n_, rfl⟩⟩
  refine ⟨_, rfl, ?_⟩
  have q_ := Lib.hid (Hb.drewN n_ K_ga.out)
  have hB_15 := Lib.hid (pw_below_drewN hB_13.out n_)
  have q_gr := Lib.hid (Hb.drewN n_ K_gr.out)
  have s_0 := (cell_drewN n_ HH.out)
  clear HH K_ga K_gr hB_13
  generalize World.drewN w_12 n_ = w_14 at q_ hB_15 q_gr s_0 ⊢
  have K_ga := q_; clear q_
  have K_gr := q_gr; clear q_gr
  refine hK.out _ _ (s_0) (fun hHeld => ?_)
  have HH := Lib.hid hHeld
  clear hHeld s_0
  clear hK K
  refine norm_ (a' := ?_) ?_ ?_
  rotate_left
  · show Act.put _ (some 35) _ = _
    simp only [Act.put, List.setIfInBounds_toArray, List.set_cons_zero, List.set_cons_succ, i64_w, i32_w]
    rfl
  refine pure_ (i := 5) (N := some 36) (v := ?_) (a' := ?_) #[true, true, true, true, true, true, false] rfl rfl (by kernel_rfl) (fun _ _ _ h => h) (Or.inl ⟨by rfl, ?_⟩) ?_ ?_
  rotate_left
  · intro w'
    go_simp
    with_reducible rfl
  rotate_left
  · simp only [Act.put, List.setIfInBounds_toArray, List.set_cons_zero, List.set_cons_succ, i64_w, i32_w]
    rfl
  refine last_ (i := 6) (N := none) #[true, true, true, true, true, true, true] rfl rfl (by kernel_rfl) (by decide) (fun K hK => ?_)
  refine skipH (h := _) (v := .int .u64 (putV (h.x 51) 18446744073709551613 v)) (by rfl) rfl rfl rfl rfl (by kernel_rfl) rfl rfl K_ga.out (by decide) ?_
  have q_ := Lib.hid (Hb.put 51 ((putV (h.x 51) 18446744073709551613 v)) K_ga.out)
  have hB_17 := Lib.hid (below_set (j := 51) (v := (.int .u64 (putV (h.x 51) 18446744073709551613 v))) hB_15.out G_ga.out)
  have q_gr := Lib.hid (Hb.far (j := 51) (u := (.int .u64 (putV (h.x 51) 18446744073709551613 v))) (Ne.symm N_ga_gr.out) K_gr.out)
  clear HH K_ga K_gr hB_15
  generalize World.setCell w_14 ⟨ga, 51, none⟩ (.int .u64 (putV (h.x 51) 18446744073709551613 v)) = w_16 at q_ hB_17 q_gr ⊢
  have K_ga := q_; clear q_
  have K_gr := q_gr; clear q_gr
  refine hK.out _ _ ?_
  clear hK K
  refine done_ (by kernel_rfl) ?_
  try clear HH
  go_upto_region 100 with (fail)
  refine wp_region_list ?_
  refine load_hart (h := _) rfl (.tmp 4) rfl ga rfl (by repeat (with_reducible first | exact K_ga.out | apply Hb.put | apply Hb.putP | apply Hb.putV | apply Hb.putW | apply Hb.putH | apply Hb.far N_ga_gr.out | apply Hb.drewN | apply Hb.drew)) ?_
  refine store_hart rfl (.tmp 8) (.tmp 324) rfl gr _ rfl rfl Ht.zero (by repeat (with_reducible first | exact K_gr.out | apply Hb.put | apply Hb.putP | apply Hb.putV | apply Hb.putW | apply Hb.putH | apply Hb.far (Ne.symm N_ga_gr.out) | apply Hb.drewN | apply Hb.drew)) ?_
  go_wp2
  refine bodyPost_ret (results_cell_row rfl _ _ gr 25 _ (0, 0) _ rfl (Hb.putAll _ (by repeat (with_reducible first | exact K_gr.out | apply Hb.put | apply Hb.putP | apply Hb.putV | apply Hb.putW | apply Hb.putH | apply Hb.far (Ne.symm N_ga_gr.out) | apply Hb.drewN | apply Hb.drew))) Tryd.underlying25 rfl (by rw [Ht.size]; exact hartSize)) rfl ?_
  exact ⟨by first | (rw [← HZ.out]; done) | (rw [← HZ.out]; rfl), setCells_below G_gr.out _ _ _ (by repeat (first | (with_reducible first | exact hB_17.out | apply pw_below_drewN | apply below_drew1 | refine below_set ?_ G_ga.out | refine below_set ?_ G_gr.out) | exact hB_17.out))⟩
set_option maxHeartbeats 16000000 in
set_option maxRecDepth 100000 in
theorem rw_262 (h : Ht) (hw : h.wf) (la lb lc ld : Bool) (lg lt : Int) (no v : Int) (hv : 0 ≤ v ∧ v < 18446744073709551616) (w : World) (hM : meantV h.v no = 262) : Calls Tryd.prog 20 #[.agg h.cs, .agg #[.bool la, .bool lb, .bool lc, .bool ld, .int .u64 lg, .int .u64 lt], .int .i64 no, .int .u64 v] w fun e w' => e = .returned (.agg (writeV h no v).cs) ∧ Below w.heap.size w w' := by
  have HM := Lib.hid (rmeant_c h no)
  have HPUT := Lib.hid (fun (a m : Int) (ha : 0 ≤ a ∧ a < 18446744073709551616) (hm : 0 ≤ m ∧ m < 18446744073709551616) => rput_c ha hm hv)
  have HPUT2 := Lib.hid (fun (a m : Int) (ha : 0 ≤ a ∧ a < 18446744073709551616) (hm : 0 ≤ m ∧ m < 18446744073709551616) => rput_c ha hm (shl2_rng v))
  have HWF := Lib.hid hw.1; have HV := Lib.hid hv
  obtain ⟨z, hz⟩ : ∃ z, writeV h no v = z := ⟨_, rfl⟩
  rw [hz]
  unfold writeV at hz
  clear hw hv
  rw [hM] at HM hz
  clear hM
  have hz1 : h.set 52 (putV (h.x 52) 7 v) = z := (wm_262 h v).symm.trans hz
  have HZ := Lib.hid hz1
  clear hz hz1
  have hu25 := Tryd.underlying25; have hu27 := Tryd.underlying27
  go_enter Tryd.func20, Tryd.ntmps20
  go_upto_region 1 with (first | ((with_reducible refine gate_dst (N := 4) rfl ?_); refine box_event ?hg (N := 4) ?hd (cs := h.cs) (t := 25) ?hr ?_; (case hd => rfl); (case hg => rfl); (case hr => first | (go_simp; done) | (go_simp; rfl)); intro ga hg w_1 H1 hb; have hB_2 := Lib.hid (below_step (Below.refl w.heap.size w) hb); have G_ga := Lib.hid (show w.heap.size ≤ ga by rw [hg]; exact ((Below.refl w.heap.size w)).size); have K_ga := Lib.hid (show Hb w_1 ga h from H1); clear hg hb H1) | ((with_reducible refine gate_dst (N := 5) rfl ?_); refine box_event ?hg (N := 5) ?hd (cs := #[.bool la, .bool lb, .bool lc, .bool ld, .int .u64 lg, .int .u64 lt]) (t := 27) ?hr ?_; (case hd => rfl); (case hg => rfl); (case hr => first | (go_simp; done) | (go_simp; rfl)); intro gt hg w_3 H1 hb; have hB_4 := Lib.hid (below_step hB_2.out hb); have G_gt := Lib.hid (show w.heap.size ≤ gt by rw [hg]; exact (hB_2.out).size); have N_ga_gt := Lib.hid (show ga ≠ gt by rw [hg]; exact Nat.ne_of_lt (K_ga.out.lt)); replace K_ga := Lib.hid (K_ga.out.below hb); have K_gt := Lib.hid (show w_3.heap[gt]? = some (.cells #[.bool la, .bool lb, .bool lc, .bool ld, .int .u64 lg, .int .u64 lt] 27 (0, 0)) from H1); clear hg hb H1 hB_2) | ((with_reducible refine gate_dst (N := 8) rfl ?_); refine box_event ?hg (N := 8) ?hd (cs := Ht.zero.cs) (t := 25) ?hr ?_; (case hd => rfl); (case hg => rfl); (case hr => first | (go_simp; done) | (go_simp; rfl)); intro gr hg w_5 H1 hb; have hB_6 := Lib.hid (below_step hB_4.out hb); have G_gr := Lib.hid (show w.heap.size ≤ gr by rw [hg]; exact (hB_4.out).size); have N_ga_gr := Lib.hid (show ga ≠ gr by rw [hg]; exact Nat.ne_of_lt (K_ga.out.lt)); have N_gt_gr := Lib.hid (show gt ≠ gr by rw [hg]; exact Nat.ne_of_lt (blk_lt K_gt.out)); replace K_ga := Lib.hid (K_ga.out.below hb); replace K_gt := Lib.hid (blk_below K_gt.out hb); have K_gr := Lib.hid (show Hb w_5 gr Ht.zero from H1); clear hg hb H1 hB_4; clear hu25 hu27))
  go_wp2_with (first | ((with_reducible refine gate_dst (N := 9) rfl ?_); (first | (refine gate_guard (by kernel_rfl) ?_) | skip); refine Kd.event_run rfl (v := .agg (h).cs) (w1 := w_5) ?hb ?_; (case hb => exact exec_load_hart rfl rfl K_ga.out)))
  refine (HM.out _).mono ?_
  rintro e_7 w_8 ⟨rfl, hb⟩
  have hB_9 := Lib.hid (below_step hB_6.out hb)
  replace K_ga := Lib.hid (K_ga.out.below hb)
  replace K_gr := Lib.hid (K_gr.out.below hb)
  clear hb hB_6
  have c_ga_52 := K_ga.out.u 52 rfl; have f_ga_52 := K_ga.out.fr 52
  go_wp2_with fail
  refine (HPUT.out (h.x 52) 7 (HWF.out 52) ⟨by decide, by decide⟩ _).mono ?_
  rintro e3 w3 ⟨rfl, n_, e3⟩
  clear c_ga_52 f_ga_52
  replace K_ga := Lib.hid (Hb.of e3.symm (K_ga.out.drewN n_))
  replace K_gr := Lib.hid (Hb.of e3.symm (K_gr.out.drewN n_))
  have hB_10 := Lib.hid (Below_of e3.symm (pw_below_drewN hB_9.out n_))
  clear e3 hB_9
  have c_ga_52 := K_ga.out.u 52 rfl; have f_ga_52 := K_ga.out.fr 52
  go_upto_region 100 with (fail)
  refine wp_region_list ?_
  refine load_hart (h := _) rfl (.tmp 4) rfl ga rfl (by repeat (with_reducible first | exact K_ga.out | apply Hb.put | apply Hb.putP | apply Hb.putV | apply Hb.putW | apply Hb.putH | apply Hb.far N_ga_gr.out | apply Hb.drewN | apply Hb.drew)) ?_
  refine store_hart rfl (.tmp 8) (.tmp 324) rfl gr _ rfl rfl Ht.zero (by repeat (with_reducible first | exact K_gr.out | apply Hb.put | apply Hb.putP | apply Hb.putV | apply Hb.putW | apply Hb.putH | apply Hb.far (Ne.symm N_ga_gr.out) | apply Hb.drewN | apply Hb.drew)) ?_
  go_wp2
  refine bodyPost_ret (results_cell_row rfl _ _ gr 25 _ (0, 0) _ rfl (Hb.putAll _ (by repeat (with_reducible first | exact K_gr.out | apply Hb.put | apply Hb.putP | apply Hb.putV | apply Hb.putW | apply Hb.putH | apply Hb.far (Ne.symm N_ga_gr.out) | apply Hb.drewN | apply Hb.drew))) Tryd.underlying25 rfl (by rw [Ht.size]; exact hartSize)) rfl ?_
  exact ⟨by first | (rw [← HZ.out]; done) | (rw [← HZ.out]; rfl), setCells_below G_gr.out _ _ _ (by repeat (first | (with_reducible first | exact hB_10.out | apply pw_below_drewN | apply below_drew1 | refine below_set ?_ G_ga.out | refine below_set ?_ G_gr.out) | exact hB_10.out))⟩
set_option maxHeartbeats 16000000 in
set_option maxRecDepth 100000 in
theorem rw_320 (h : Ht) (hw : h.wf) (la lb lc ld : Bool) (lg lt : Int) (no v : Int) (hv : 0 ≤ v ∧ v < 18446744073709551616) (w : World) (hM : meantV h.v no = 320) : Calls Tryd.prog 20 #[.agg h.cs, .agg #[.bool la, .bool lb, .bool lc, .bool ld, .int .u64 lg, .int .u64 lt], .int .i64 no, .int .u64 v] w fun e w' => e = .returned (.agg (writeV h no v).cs) ∧ Below w.heap.size w w' := by
  have HM := Lib.hid (rmeant_c h no)
  have HPUT := Lib.hid (fun (a m : Int) (ha : 0 ≤ a ∧ a < 18446744073709551616) (hm : 0 ≤ m ∧ m < 18446744073709551616) => rput_c ha hm hv)
  have HPUT2 := Lib.hid (fun (a m : Int) (ha : 0 ≤ a ∧ a < 18446744073709551616) (hm : 0 ≤ m ∧ m < 18446744073709551616) => rput_c ha hm (shl2_rng v))
  have HWF := Lib.hid hw.1; have HV := Lib.hid hv
  obtain ⟨z, hz⟩ : ∃ z, writeV h no v = z := ⟨_, rfl⟩
  rw [hz]
  unfold writeV at hz
  clear hw hv
  rw [hM] at HM hz
  clear hM
  have hz1 : h.set 53 v = z := by rw [← putV_all (h.x 53) HV.out]; exact (wm_320 h v).symm.trans hz
  have HZ := Lib.hid hz1
  clear hz hz1
  have hu25 := Tryd.underlying25; have hu27 := Tryd.underlying27
  go_enter Tryd.func20, Tryd.ntmps20
  go_upto_region 1 with (first | ((with_reducible refine gate_dst (N := 4) rfl ?_); refine box_event ?hg (N := 4) ?hd (cs := h.cs) (t := 25) ?hr ?_; (case hd => rfl); (case hg => rfl); (case hr => first | (go_simp; done) | (go_simp; rfl)); intro ga hg w_1 H1 hb; have hB_2 := Lib.hid (below_step (Below.refl w.heap.size w) hb); have G_ga := Lib.hid (show w.heap.size ≤ ga by rw [hg]; exact ((Below.refl w.heap.size w)).size); have K_ga := Lib.hid (show Hb w_1 ga h from H1); clear hg hb H1) | ((with_reducible refine gate_dst (N := 5) rfl ?_); refine box_event ?hg (N := 5) ?hd (cs := #[.bool la, .bool lb, .bool lc, .bool ld, .int .u64 lg, .int .u64 lt]) (t := 27) ?hr ?_; (case hd => rfl); (case hg => rfl); (case hr => first | (go_simp; done) | (go_simp; rfl)); intro gt hg w_3 H1 hb; have hB_4 := Lib.hid (below_step hB_2.out hb); have G_gt := Lib.hid (show w.heap.size ≤ gt by rw [hg]; exact (hB_2.out).size); have N_ga_gt := Lib.hid (show ga ≠ gt by rw [hg]; exact Nat.ne_of_lt (K_ga.out.lt)); replace K_ga := Lib.hid (K_ga.out.below hb); have K_gt := Lib.hid (show w_3.heap[gt]? = some (.cells #[.bool la, .bool lb, .bool lc, .bool ld, .int .u64 lg, .int .u64 lt] 27 (0, 0)) from H1); clear hg hb H1 hB_2) | ((with_reducible refine gate_dst (N := 8) rfl ?_); refine box_event ?hg (N := 8) ?hd (cs := Ht.zero.cs) (t := 25) ?hr ?_; (case hd => rfl); (case hg => rfl); (case hr => first | (go_simp; done) | (go_simp; rfl)); intro gr hg w_5 H1 hb; have hB_6 := Lib.hid (below_step hB_4.out hb); have G_gr := Lib.hid (show w.heap.size ≤ gr by rw [hg]; exact (hB_4.out).size); have N_ga_gr := Lib.hid (show ga ≠ gr by rw [hg]; exact Nat.ne_of_lt (K_ga.out.lt)); have N_gt_gr := Lib.hid (show gt ≠ gr by rw [hg]; exact Nat.ne_of_lt (blk_lt K_gt.out)); replace K_ga := Lib.hid (K_ga.out.below hb); replace K_gt := Lib.hid (blk_below K_gt.out hb); have K_gr := Lib.hid (show Hb w_5 gr Ht.zero from H1); clear hg hb H1 hB_4; clear hu25 hu27))
  go_wp2_with (first | ((with_reducible refine gate_dst (N := 9) rfl ?_); (first | (refine gate_guard (by kernel_rfl) ?_) | skip); refine Kd.event_run rfl (v := .agg (h).cs) (w1 := w_5) ?hb ?_; (case hb => exact exec_load_hart rfl rfl K_ga.out)))
  refine (HM.out _).mono ?_
  rintro e_7 w_8 ⟨rfl, hb⟩
  have hB_9 := Lib.hid (below_step hB_6.out hb)
  replace K_ga := Lib.hid (K_ga.out.below hb)
  replace K_gr := Lib.hid (K_gr.out.below hb)
  clear hb hB_6
  have c_ga_53 := K_ga.out.u 53 rfl; have f_ga_53 := K_ga.out.fr 53
  go_upto_region 100 with (fail)
  refine wp_region_list ?_
  refine load_hart (h := _) rfl (.tmp 4) rfl ga rfl (by repeat (with_reducible first | exact K_ga.out | apply Hb.put | apply Hb.putP | apply Hb.putV | apply Hb.putW | apply Hb.putH | apply Hb.far N_ga_gr.out | apply Hb.drewN | apply Hb.drew)) ?_
  refine store_hart rfl (.tmp 8) (.tmp 324) rfl gr _ rfl rfl Ht.zero (by repeat (with_reducible first | exact K_gr.out | apply Hb.put | apply Hb.putP | apply Hb.putV | apply Hb.putW | apply Hb.putH | apply Hb.far (Ne.symm N_ga_gr.out) | apply Hb.drewN | apply Hb.drew)) ?_
  go_wp2
  refine bodyPost_ret (results_cell_row rfl _ _ gr 25 _ (0, 0) _ rfl (Hb.putAll _ (by repeat (with_reducible first | exact K_gr.out | apply Hb.put | apply Hb.putP | apply Hb.putV | apply Hb.putW | apply Hb.putH | apply Hb.far (Ne.symm N_ga_gr.out) | apply Hb.drewN | apply Hb.drew))) Tryd.underlying25 rfl (by rw [Ht.size]; exact hartSize)) rfl ?_
  exact ⟨by first | (rw [← HZ.out]; done) | (rw [← HZ.out]; rfl), setCells_below G_gr.out _ _ _ (by repeat (first | (with_reducible first | exact hB_9.out | apply pw_below_drewN | apply below_drew1 | refine below_set ?_ G_ga.out | refine below_set ?_ G_gr.out) | exact hB_9.out))⟩
set_option maxHeartbeats 16000000 in
set_option maxRecDepth 100000 in
theorem rw_321 (h : Ht) (hw : h.wf) (la lb lc ld : Bool) (lg lt : Int) (no v : Int) (hv : 0 ≤ v ∧ v < 18446744073709551616) (w : World) (hM : meantV h.v no = 321) : Calls Tryd.prog 20 #[.agg h.cs, .agg #[.bool la, .bool lb, .bool lc, .bool ld, .int .u64 lg, .int .u64 lt], .int .i64 no, .int .u64 v] w fun e w' => e = .returned (.agg (writeV h no v).cs) ∧ Below w.heap.size w w' := by
  have HM := Lib.hid (rmeant_c h no)
  have HPUT := Lib.hid (fun (a m : Int) (ha : 0 ≤ a ∧ a < 18446744073709551616) (hm : 0 ≤ m ∧ m < 18446744073709551616) => rput_c ha hm hv)
  have HPUT2 := Lib.hid (fun (a m : Int) (ha : 0 ≤ a ∧ a < 18446744073709551616) (hm : 0 ≤ m ∧ m < 18446744073709551616) => rput_c ha hm (shl2_rng v))
  have HWF := Lib.hid hw.1; have HV := Lib.hid hv
  obtain ⟨z, hz⟩ : ∃ z, writeV h no v = z := ⟨_, rfl⟩
  rw [hz]
  unfold writeV at hz
  clear hw hv
  rw [hM] at HM hz
  clear hM
  have hz1 : h.set 54 (putV (h.x 54) 18446744073709551612 v) = z := (wm_321 h v).symm.trans hz
  have HZ := Lib.hid hz1
  clear hz hz1
  have hu25 := Tryd.underlying25; have hu27 := Tryd.underlying27
  go_enter Tryd.func20, Tryd.ntmps20
  go_upto_region 1 with (first | ((with_reducible refine gate_dst (N := 4) rfl ?_); refine box_event ?hg (N := 4) ?hd (cs := h.cs) (t := 25) ?hr ?_; (case hd => rfl); (case hg => rfl); (case hr => first | (go_simp; done) | (go_simp; rfl)); intro ga hg w_1 H1 hb; have hB_2 := Lib.hid (below_step (Below.refl w.heap.size w) hb); have G_ga := Lib.hid (show w.heap.size ≤ ga by rw [hg]; exact ((Below.refl w.heap.size w)).size); have K_ga := Lib.hid (show Hb w_1 ga h from H1); clear hg hb H1) | ((with_reducible refine gate_dst (N := 5) rfl ?_); refine box_event ?hg (N := 5) ?hd (cs := #[.bool la, .bool lb, .bool lc, .bool ld, .int .u64 lg, .int .u64 lt]) (t := 27) ?hr ?_; (case hd => rfl); (case hg => rfl); (case hr => first | (go_simp; done) | (go_simp; rfl)); intro gt hg w_3 H1 hb; have hB_4 := Lib.hid (below_step hB_2.out hb); have G_gt := Lib.hid (show w.heap.size ≤ gt by rw [hg]; exact (hB_2.out).size); have N_ga_gt := Lib.hid (show ga ≠ gt by rw [hg]; exact Nat.ne_of_lt (K_ga.out.lt)); replace K_ga := Lib.hid (K_ga.out.below hb); have K_gt := Lib.hid (show w_3.heap[gt]? = some (.cells #[.bool la, .bool lb, .bool lc, .bool ld, .int .u64 lg, .int .u64 lt] 27 (0, 0)) from H1); clear hg hb H1 hB_2) | ((with_reducible refine gate_dst (N := 8) rfl ?_); refine box_event ?hg (N := 8) ?hd (cs := Ht.zero.cs) (t := 25) ?hr ?_; (case hd => rfl); (case hg => rfl); (case hr => first | (go_simp; done) | (go_simp; rfl)); intro gr hg w_5 H1 hb; have hB_6 := Lib.hid (below_step hB_4.out hb); have G_gr := Lib.hid (show w.heap.size ≤ gr by rw [hg]; exact (hB_4.out).size); have N_ga_gr := Lib.hid (show ga ≠ gr by rw [hg]; exact Nat.ne_of_lt (K_ga.out.lt)); have N_gt_gr := Lib.hid (show gt ≠ gr by rw [hg]; exact Nat.ne_of_lt (blk_lt K_gt.out)); replace K_ga := Lib.hid (K_ga.out.below hb); replace K_gt := Lib.hid (blk_below K_gt.out hb); have K_gr := Lib.hid (show Hb w_5 gr Ht.zero from H1); clear hg hb H1 hB_4; clear hu25 hu27))
  go_wp2_with (first | ((with_reducible refine gate_dst (N := 9) rfl ?_); (first | (refine gate_guard (by kernel_rfl) ?_) | skip); refine Kd.event_run rfl (v := .agg (h).cs) (w1 := w_5) ?hb ?_; (case hb => exact exec_load_hart rfl rfl K_ga.out)))
  refine (HM.out _).mono ?_
  rintro e_7 w_8 ⟨rfl, hb⟩
  have hB_9 := Lib.hid (below_step hB_6.out hb)
  replace K_ga := Lib.hid (K_ga.out.below hb)
  replace K_gr := Lib.hid (K_gr.out.below hb)
  clear hb hB_6
  have c_ga_54 := K_ga.out.u 54 rfl; have f_ga_54 := K_ga.out.fr 54
  go_upto_region 13 with (fail)
  refine start_ (n := 7) (S := fun w' => w'.cell? ⟨ga, 54, none⟩ = some (.int .u64 (h.x 54))) (ds := [6]) #[false, false, false, false, false, false, false] (by kernel_rfl) rfl rfl ((show World.cell? _ ⟨ga, 54, none⟩ = some (.int .u64 (h.x 54)) by first | (go_simp; done) | (go_simp; rfl))) (fun hHeld => ?_)
  have HH0 := Lib.hid hHeld
  clear hHeld
  refine world_any ga (by repeat (with_reducible first | exact K_ga.out | apply Hb.put | apply Hb.putP | apply Hb.putV | apply Hb.putW | apply Hb.putH | apply Hb.far N_ga_gr.out | apply Hb.drewN | apply Hb.drew)) (fun w' => Below w.heap.size w w' ∧ Hb w' gr Ht.zero ∧ (w'.cell? ⟨ga, 54, none⟩ = some (.int .u64 (h.x 54)))) ⟨(by repeat (first | (with_reducible first | exact hB_9.out | apply pw_below_drewN | apply below_drew1 | refine below_set ?_ G_ga.out | refine below_set ?_ G_gr.out) | exact hB_9.out)), (by repeat (with_reducible first | exact K_gr.out | apply Hb.put | apply Hb.putP | apply Hb.putV | apply Hb.putW | apply Hb.putH | apply Hb.far (Ne.symm N_ga_gr.out) | apply Hb.drewN | apply Hb.drew)), HH0.out⟩ ?_
  clear HH0
  clear c_ga_54 f_ga_54
  clear K_ga K_gr hB_9
  rintro w_10 q_ ⟨b_, q_gr, hHeld⟩
  have K_ga := Lib.hid q_; have hB_11 := Lib.hid b_; have K_gr := Lib.hid q_gr
  clear q_ b_ q_gr
  refine pure_ (i := 0) (N := some 50) (v := ?_) (a' := ?_) #[true, false, false, false, false, false, false] rfl rfl (by kernel_rfl) (fun _ _ _ h => h) (Or.inl ⟨by rfl, ?_⟩) ?_ ?_
  rotate_left
  · intro w'
    go_simp
    with_reducible rfl
  rotate_left
  · simp only [Act.put, List.setIfInBounds_toArray, List.set_cons_zero, List.set_cons_succ, i64_w, i32_w]
    rfl
  refine pure_ (i := 3) (N := some 53) (v := ?_) (a' := ?_) #[true, false, false, true, false, false, false] rfl rfl (by kernel_rfl) (fun _ _ _ h => h) (Or.inl ⟨by rfl, ?_⟩) ?_ ?_
  rotate_left
  · intro w'
    go_simp
    with_reducible rfl
  rotate_left
  · simp only [Act.put, List.setIfInBounds_toArray, List.set_cons_zero, List.set_cons_succ, i64_w, i32_w]
    rfl
  refine take_ (i := 1) (N := some 51) (v := ?_) (a' := ?_) #[true, true, false, true, false, false, false] rfl rfl (by kernel_rfl) (fun _ _ _ h => h) (Or.inl ⟨by rfl, ?_⟩) hHeld ?_ ?_
  rotate_left
  · intro w' s0
    go_simp
    with_reducible rfl
  rotate_left
  · simp only [Act.put, List.setIfInBounds_toArray, List.set_cons_zero, List.set_cons_succ, i64_w, i32_w]
    rfl
  have HH := Lib.hid hHeld
  clear hHeld
  refine one_ (i := 2) (N := some 52) #[true, true, true, true, false, false, false] rfl rfl (by kernel_rfl) (by decide) (fun K hK => ?_)
  refine goes_ Tryd.func36 (by kernel_rfl) rfl #[.int .u64 3] (by rfl) rfl rfl (by simp only [List.map_toArray, List.map_cons, List.map_nil]; rfl) ?_
  with_reducible refine (but_3 _).mono ?_
  rintro e_ w_ ⟨rfl, ⟨n_, rfl⟩⟩
  refine ⟨_, rfl, ?_⟩
  have q_ := Lib.hid (Hb.drewN n_ K_ga.out)
  have hB_13 := Lib.hid (pw_below_drewN hB_11.out n_)
  have q_gr := Lib.hid (Hb.drewN n_ K_gr.out)
  have s_0 := (cell_drewN n_ HH.out)
  clear HH K_ga K_gr hB_11
  generalize World.drewN w_10 n_ = w_12 at q_ hB_13 q_gr s_0 ⊢
  have K_ga := q_; clear q_
  have K_gr := q_gr; clear q_gr
  refine hK.out _ _ (s_0) (fun hHeld => ?_)
  have HH := Lib.hid hHeld
  clear hHeld s_0
  clear hK K
  refine norm_ (a' := ?_) ?_ ?_
  rotate_left
  · show Act.put _ (some 52) _ = _
    simp only [Act.put, List.setIfInBounds_toArray, List.set_cons_zero, List.set_cons_succ, i64_w, i32_w]
    rfl
  refine one_ (i := 4) (N := some 54) #[true, true, true, true, true, false, false] rfl rfl (by kernel_rfl) (by decide) (fun K hK => ?_)
  refine goes_ Tryd.func35 (by kernel_rfl) rfl #[.int .u64 (h.x 54), .int .u64 18446744073709551612, .int .u64 v] (by rfl) rfl rfl (by simp only [List.map_toArray, List.map_cons, List.map_nil]; rfl) ?_
  with_reducible refine (HPUT.out (h.x 54) 18446744073709551612 (HWF.out 54) ⟨by decide, by decide⟩ _).mono ?_
  rintro e_ w_ ⟨rfl, ⟨n_, rfl⟩⟩
  refine ⟨_, rfl, ?_⟩
  have q_ := Lib.hid (Hb.drewN n_ K_ga.out)
  have hB_15 := Lib.hid (pw_below_drewN hB_13.out n_)
  have q_gr := Lib.hid (Hb.drewN n_ K_gr.out)
  have s_0 := (cell_drewN n_ HH.out)
  clear HH K_ga K_gr hB_13
  generalize World.drewN w_12 n_ = w_14 at q_ hB_15 q_gr s_0 ⊢
  have K_ga := q_; clear q_
  have K_gr := q_gr; clear q_gr
  refine hK.out _ _ (s_0) (fun hHeld => ?_)
  have HH := Lib.hid hHeld
  clear hHeld s_0
  clear hK K
  refine norm_ (a' := ?_) ?_ ?_
  rotate_left
  · show Act.put _ (some 54) _ = _
    simp only [Act.put, List.setIfInBounds_toArray, List.set_cons_zero, List.set_cons_succ, i64_w, i32_w]
    rfl
  refine pure_ (i := 5) (N := some 55) (v := ?_) (a' := ?_) #[true, true, true, true, true, true, false] rfl rfl (by kernel_rfl) (fun _ _ _ h => h) (Or.inl ⟨by rfl, ?_⟩) ?_ ?_
  rotate_left
  · intro w'
    go_simp
    with_reducible rfl
  rotate_left
  · simp only [Act.put, List.setIfInBounds_toArray, List.set_cons_zero, List.set_cons_succ, i64_w, i32_w]
    rfl
  refine last_ (i := 6) (N := none) #[true, true, true, true, true, true, true] rfl rfl (by kernel_rfl) (by decide) (fun K hK => ?_)
  refine skipH (h := _) (v := .int .u64 (putV (h.x 54) 18446744073709551612 v)) (by rfl) rfl rfl rfl rfl (by kernel_rfl) rfl rfl K_ga.out (by decide) ?_
  have q_ := Lib.hid (Hb.put 54 ((putV (h.x 54) 18446744073709551612 v)) K_ga.out)
  have hB_17 := Lib.hid (below_set (j := 54) (v := (.int .u64 (putV (h.x 54) 18446744073709551612 v))) hB_15.out G_ga.out)
  have q_gr := Lib.hid (Hb.far (j := 54) (u := (.int .u64 (putV (h.x 54) 18446744073709551612 v))) (Ne.symm N_ga_gr.out) K_gr.out)
  clear HH K_ga K_gr hB_15
  generalize World.setCell w_14 ⟨ga, 54, none⟩ (.int .u64 (putV (h.x 54) 18446744073709551612 v)) = w_16 at q_ hB_17 q_gr ⊢
  have K_ga := q_; clear q_
  have K_gr := q_gr; clear q_gr
  refine hK.out _ _ ?_
  clear hK K
  refine done_ (by kernel_rfl) ?_
  try clear HH
  go_upto_region 100 with (fail)
  refine wp_region_list ?_
  refine load_hart (h := _) rfl (.tmp 4) rfl ga rfl (by repeat (with_reducible first | exact K_ga.out | apply Hb.put | apply Hb.putP | apply Hb.putV | apply Hb.putW | apply Hb.putH | apply Hb.far N_ga_gr.out | apply Hb.drewN | apply Hb.drew)) ?_
  refine store_hart rfl (.tmp 8) (.tmp 324) rfl gr _ rfl rfl Ht.zero (by repeat (with_reducible first | exact K_gr.out | apply Hb.put | apply Hb.putP | apply Hb.putV | apply Hb.putW | apply Hb.putH | apply Hb.far (Ne.symm N_ga_gr.out) | apply Hb.drewN | apply Hb.drew)) ?_
  go_wp2
  refine bodyPost_ret (results_cell_row rfl _ _ gr 25 _ (0, 0) _ rfl (Hb.putAll _ (by repeat (with_reducible first | exact K_gr.out | apply Hb.put | apply Hb.putP | apply Hb.putV | apply Hb.putW | apply Hb.putH | apply Hb.far (Ne.symm N_ga_gr.out) | apply Hb.drewN | apply Hb.drew))) Tryd.underlying25 rfl (by rw [Ht.size]; exact hartSize)) rfl ?_
  exact ⟨by first | (rw [← HZ.out]; done) | (rw [← HZ.out]; rfl), setCells_below G_gr.out _ _ _ (by repeat (first | (with_reducible first | exact hB_17.out | apply pw_below_drewN | apply below_drew1 | refine below_set ?_ G_ga.out | refine below_set ?_ G_gr.out) | exact hB_17.out))⟩
set_option maxHeartbeats 16000000 in
set_option maxRecDepth 100000 in
theorem rw_322 (h : Ht) (hw : h.wf) (la lb lc ld : Bool) (lg lt : Int) (no v : Int) (hv : 0 ≤ v ∧ v < 18446744073709551616) (w : World) (hM : meantV h.v no = 322) : Calls Tryd.prog 20 #[.agg h.cs, .agg #[.bool la, .bool lb, .bool lc, .bool ld, .int .u64 lg, .int .u64 lt], .int .i64 no, .int .u64 v] w fun e w' => e = .returned (.agg (writeV h no v).cs) ∧ Below w.heap.size w w' := by
  have HM := Lib.hid (rmeant_c h no)
  have HPUT := Lib.hid (fun (a m : Int) (ha : 0 ≤ a ∧ a < 18446744073709551616) (hm : 0 ≤ m ∧ m < 18446744073709551616) => rput_c ha hm hv)
  have HPUT2 := Lib.hid (fun (a m : Int) (ha : 0 ≤ a ∧ a < 18446744073709551616) (hm : 0 ≤ m ∧ m < 18446744073709551616) => rput_c ha hm (shl2_rng v))
  have HWF := Lib.hid hw.1; have HV := Lib.hid hv
  obtain ⟨z, hz⟩ : ∃ z, writeV h no v = z := ⟨_, rfl⟩
  rw [hz]
  unfold writeV at hz
  clear hw hv
  rw [hM] at HM hz
  clear hM
  have hz1 : h.set 55 v = z := by rw [← putV_all (h.x 55) HV.out]; exact (wm_322 h v).symm.trans hz
  have HZ := Lib.hid hz1
  clear hz hz1
  have hu25 := Tryd.underlying25; have hu27 := Tryd.underlying27
  go_enter Tryd.func20, Tryd.ntmps20
  go_upto_region 1 with (first | ((with_reducible refine gate_dst (N := 4) rfl ?_); refine box_event ?hg (N := 4) ?hd (cs := h.cs) (t := 25) ?hr ?_; (case hd => rfl); (case hg => rfl); (case hr => first | (go_simp; done) | (go_simp; rfl)); intro ga hg w_1 H1 hb; have hB_2 := Lib.hid (below_step (Below.refl w.heap.size w) hb); have G_ga := Lib.hid (show w.heap.size ≤ ga by rw [hg]; exact ((Below.refl w.heap.size w)).size); have K_ga := Lib.hid (show Hb w_1 ga h from H1); clear hg hb H1) | ((with_reducible refine gate_dst (N := 5) rfl ?_); refine box_event ?hg (N := 5) ?hd (cs := #[.bool la, .bool lb, .bool lc, .bool ld, .int .u64 lg, .int .u64 lt]) (t := 27) ?hr ?_; (case hd => rfl); (case hg => rfl); (case hr => first | (go_simp; done) | (go_simp; rfl)); intro gt hg w_3 H1 hb; have hB_4 := Lib.hid (below_step hB_2.out hb); have G_gt := Lib.hid (show w.heap.size ≤ gt by rw [hg]; exact (hB_2.out).size); have N_ga_gt := Lib.hid (show ga ≠ gt by rw [hg]; exact Nat.ne_of_lt (K_ga.out.lt)); replace K_ga := Lib.hid (K_ga.out.below hb); have K_gt := Lib.hid (show w_3.heap[gt]? = some (.cells #[.bool la, .bool lb, .bool lc, .bool ld, .int .u64 lg, .int .u64 lt] 27 (0, 0)) from H1); clear hg hb H1 hB_2) | ((with_reducible refine gate_dst (N := 8) rfl ?_); refine box_event ?hg (N := 8) ?hd (cs := Ht.zero.cs) (t := 25) ?hr ?_; (case hd => rfl); (case hg => rfl); (case hr => first | (go_simp; done) | (go_simp; rfl)); intro gr hg w_5 H1 hb; have hB_6 := Lib.hid (below_step hB_4.out hb); have G_gr := Lib.hid (show w.heap.size ≤ gr by rw [hg]; exact (hB_4.out).size); have N_ga_gr := Lib.hid (show ga ≠ gr by rw [hg]; exact Nat.ne_of_lt (K_ga.out.lt)); have N_gt_gr := Lib.hid (show gt ≠ gr by rw [hg]; exact Nat.ne_of_lt (blk_lt K_gt.out)); replace K_ga := Lib.hid (K_ga.out.below hb); replace K_gt := Lib.hid (blk_below K_gt.out hb); have K_gr := Lib.hid (show Hb w_5 gr Ht.zero from H1); clear hg hb H1 hB_4; clear hu25 hu27))
  go_wp2_with (first | ((with_reducible refine gate_dst (N := 9) rfl ?_); (first | (refine gate_guard (by kernel_rfl) ?_) | skip); refine Kd.event_run rfl (v := .agg (h).cs) (w1 := w_5) ?hb ?_; (case hb => exact exec_load_hart rfl rfl K_ga.out)))
  refine (HM.out _).mono ?_
  rintro e_7 w_8 ⟨rfl, hb⟩
  have hB_9 := Lib.hid (below_step hB_6.out hb)
  replace K_ga := Lib.hid (K_ga.out.below hb)
  replace K_gr := Lib.hid (K_gr.out.below hb)
  clear hb hB_6
  have c_ga_55 := K_ga.out.u 55 rfl; have f_ga_55 := K_ga.out.fr 55
  go_upto_region 100 with (fail)
  refine wp_region_list ?_
  refine load_hart (h := _) rfl (.tmp 4) rfl ga rfl (by repeat (with_reducible first | exact K_ga.out | apply Hb.put | apply Hb.putP | apply Hb.putV | apply Hb.putW | apply Hb.putH | apply Hb.far N_ga_gr.out | apply Hb.drewN | apply Hb.drew)) ?_
  refine store_hart rfl (.tmp 8) (.tmp 324) rfl gr _ rfl rfl Ht.zero (by repeat (with_reducible first | exact K_gr.out | apply Hb.put | apply Hb.putP | apply Hb.putV | apply Hb.putW | apply Hb.putH | apply Hb.far (Ne.symm N_ga_gr.out) | apply Hb.drewN | apply Hb.drew)) ?_
  go_wp2
  refine bodyPost_ret (results_cell_row rfl _ _ gr 25 _ (0, 0) _ rfl (Hb.putAll _ (by repeat (with_reducible first | exact K_gr.out | apply Hb.put | apply Hb.putP | apply Hb.putV | apply Hb.putW | apply Hb.putH | apply Hb.far (Ne.symm N_ga_gr.out) | apply Hb.drewN | apply Hb.drew))) Tryd.underlying25 rfl (by rw [Ht.size]; exact hartSize)) rfl ?_
  exact ⟨by first | (rw [← HZ.out]; done) | (rw [← HZ.out]; rfl), setCells_below G_gr.out _ _ _ (by repeat (first | (with_reducible first | exact hB_9.out | apply pw_below_drewN | apply below_drew1 | refine below_set ?_ G_ga.out | refine below_set ?_ G_gr.out) | exact hB_9.out))⟩
set_option maxHeartbeats 16000000 in
set_option maxRecDepth 100000 in
theorem rw_323 (h : Ht) (hw : h.wf) (la lb lc ld : Bool) (lg lt : Int) (no v : Int) (hv : 0 ≤ v ∧ v < 18446744073709551616) (w : World) (hM : meantV h.v no = 323) : Calls Tryd.prog 20 #[.agg h.cs, .agg #[.bool la, .bool lb, .bool lc, .bool ld, .int .u64 lg, .int .u64 lt], .int .i64 no, .int .u64 v] w fun e w' => e = .returned (.agg (writeV h no v).cs) ∧ Below w.heap.size w w' := by
  have HM := Lib.hid (rmeant_c h no)
  have HPUT := Lib.hid (fun (a m : Int) (ha : 0 ≤ a ∧ a < 18446744073709551616) (hm : 0 ≤ m ∧ m < 18446744073709551616) => rput_c ha hm hv)
  have HPUT2 := Lib.hid (fun (a m : Int) (ha : 0 ≤ a ∧ a < 18446744073709551616) (hm : 0 ≤ m ∧ m < 18446744073709551616) => rput_c ha hm (shl2_rng v))
  have HWF := Lib.hid hw.1; have HV := Lib.hid hv
  obtain ⟨z, hz⟩ : ∃ z, writeV h no v = z := ⟨_, rfl⟩
  rw [hz]
  unfold writeV at hz
  clear hw hv
  rw [hM] at HM hz
  clear hM
  have hz1 : h.set 56 v = z := by rw [← putV_all (h.x 56) HV.out]; exact (wm_323 h v).symm.trans hz
  have HZ := Lib.hid hz1
  clear hz hz1
  have hu25 := Tryd.underlying25; have hu27 := Tryd.underlying27
  go_enter Tryd.func20, Tryd.ntmps20
  go_upto_region 1 with (first | ((with_reducible refine gate_dst (N := 4) rfl ?_); refine box_event ?hg (N := 4) ?hd (cs := h.cs) (t := 25) ?hr ?_; (case hd => rfl); (case hg => rfl); (case hr => first | (go_simp; done) | (go_simp; rfl)); intro ga hg w_1 H1 hb; have hB_2 := Lib.hid (below_step (Below.refl w.heap.size w) hb); have G_ga := Lib.hid (show w.heap.size ≤ ga by rw [hg]; exact ((Below.refl w.heap.size w)).size); have K_ga := Lib.hid (show Hb w_1 ga h from H1); clear hg hb H1) | ((with_reducible refine gate_dst (N := 5) rfl ?_); refine box_event ?hg (N := 5) ?hd (cs := #[.bool la, .bool lb, .bool lc, .bool ld, .int .u64 lg, .int .u64 lt]) (t := 27) ?hr ?_; (case hd => rfl); (case hg => rfl); (case hr => first | (go_simp; done) | (go_simp; rfl)); intro gt hg w_3 H1 hb; have hB_4 := Lib.hid (below_step hB_2.out hb); have G_gt := Lib.hid (show w.heap.size ≤ gt by rw [hg]; exact (hB_2.out).size); have N_ga_gt := Lib.hid (show ga ≠ gt by rw [hg]; exact Nat.ne_of_lt (K_ga.out.lt)); replace K_ga := Lib.hid (K_ga.out.below hb); have K_gt := Lib.hid (show w_3.heap[gt]? = some (.cells #[.bool la, .bool lb, .bool lc, .bool ld, .int .u64 lg, .int .u64 lt] 27 (0, 0)) from H1); clear hg hb H1 hB_2) | ((with_reducible refine gate_dst (N := 8) rfl ?_); refine box_event ?hg (N := 8) ?hd (cs := Ht.zero.cs) (t := 25) ?hr ?_; (case hd => rfl); (case hg => rfl); (case hr => first | (go_simp; done) | (go_simp; rfl)); intro gr hg w_5 H1 hb; have hB_6 := Lib.hid (below_step hB_4.out hb); have G_gr := Lib.hid (show w.heap.size ≤ gr by rw [hg]; exact (hB_4.out).size); have N_ga_gr := Lib.hid (show ga ≠ gr by rw [hg]; exact Nat.ne_of_lt (K_ga.out.lt)); have N_gt_gr := Lib.hid (show gt ≠ gr by rw [hg]; exact Nat.ne_of_lt (blk_lt K_gt.out)); replace K_ga := Lib.hid (K_ga.out.below hb); replace K_gt := Lib.hid (blk_below K_gt.out hb); have K_gr := Lib.hid (show Hb w_5 gr Ht.zero from H1); clear hg hb H1 hB_4; clear hu25 hu27))
  go_wp2_with (first | ((with_reducible refine gate_dst (N := 9) rfl ?_); (first | (refine gate_guard (by kernel_rfl) ?_) | skip); refine Kd.event_run rfl (v := .agg (h).cs) (w1 := w_5) ?hb ?_; (case hb => exact exec_load_hart rfl rfl K_ga.out)))
  refine (HM.out _).mono ?_
  rintro e_7 w_8 ⟨rfl, hb⟩
  have hB_9 := Lib.hid (below_step hB_6.out hb)
  replace K_ga := Lib.hid (K_ga.out.below hb)
  replace K_gr := Lib.hid (K_gr.out.below hb)
  clear hb hB_6
  have c_ga_56 := K_ga.out.u 56 rfl; have f_ga_56 := K_ga.out.fr 56
  go_upto_region 100 with (fail)
  refine wp_region_list ?_
  refine load_hart (h := _) rfl (.tmp 4) rfl ga rfl (by repeat (with_reducible first | exact K_ga.out | apply Hb.put | apply Hb.putP | apply Hb.putV | apply Hb.putW | apply Hb.putH | apply Hb.far N_ga_gr.out | apply Hb.drewN | apply Hb.drew)) ?_
  refine store_hart rfl (.tmp 8) (.tmp 324) rfl gr _ rfl rfl Ht.zero (by repeat (with_reducible first | exact K_gr.out | apply Hb.put | apply Hb.putP | apply Hb.putV | apply Hb.putW | apply Hb.putH | apply Hb.far (Ne.symm N_ga_gr.out) | apply Hb.drewN | apply Hb.drew)) ?_
  go_wp2
  refine bodyPost_ret (results_cell_row rfl _ _ gr 25 _ (0, 0) _ rfl (Hb.putAll _ (by repeat (with_reducible first | exact K_gr.out | apply Hb.put | apply Hb.putP | apply Hb.putV | apply Hb.putW | apply Hb.putH | apply Hb.far (Ne.symm N_ga_gr.out) | apply Hb.drewN | apply Hb.drew))) Tryd.underlying25 rfl (by rw [Ht.size]; exact hartSize)) rfl ?_
  exact ⟨by first | (rw [← HZ.out]; done) | (rw [← HZ.out]; rfl), setCells_below G_gr.out _ _ _ (by repeat (first | (with_reducible first | exact hB_9.out | apply pw_below_drewN | apply below_drew1 | refine below_set ?_ G_ga.out | refine below_set ?_ G_gr.out) | exact hB_9.out))⟩
set_option maxHeartbeats 16000000 in
set_option maxRecDepth 100000 in
theorem rw_324 (h : Ht) (hw : h.wf) (la lb lc ld : Bool) (lg lt : Int) (no v : Int) (hv : 0 ≤ v ∧ v < 18446744073709551616) (w : World) (hM : meantV h.v no = 324) : Calls Tryd.prog 20 #[.agg h.cs, .agg #[.bool la, .bool lb, .bool lc, .bool ld, .int .u64 lg, .int .u64 lt], .int .i64 no, .int .u64 v] w fun e w' => e = .returned (.agg (writeV h no v).cs) ∧ Below w.heap.size w w' := by
  have HM := Lib.hid (rmeant_c h no)
  have HPUT := Lib.hid (fun (a m : Int) (ha : 0 ≤ a ∧ a < 18446744073709551616) (hm : 0 ≤ m ∧ m < 18446744073709551616) => rput_c ha hm hv)
  have HPUT2 := Lib.hid (fun (a m : Int) (ha : 0 ≤ a ∧ a < 18446744073709551616) (hm : 0 ≤ m ∧ m < 18446744073709551616) => rput_c ha hm (shl2_rng v))
  have HWF := Lib.hid hw.1; have HV := Lib.hid hv
  obtain ⟨z, hz⟩ : ∃ z, writeV h no v = z := ⟨_, rfl⟩
  rw [hz]
  unfold writeV at hz
  clear hw hv
  rw [hM] at HM hz
  clear hM
  have hz1 : h.set 42 (putV (h.x 42) (Go.bits .and .u64 2 (h.x 40)) v) = z := by rw [and_sw]; exact (wm_324 h v).symm.trans hz
  have HZ := Lib.hid hz1
  clear hz hz1
  have hu25 := Tryd.underlying25; have hu27 := Tryd.underlying27
  go_enter Tryd.func20, Tryd.ntmps20
  go_upto_region 1 with (first | ((with_reducible refine gate_dst (N := 4) rfl ?_); refine box_event ?hg (N := 4) ?hd (cs := h.cs) (t := 25) ?hr ?_; (case hd => rfl); (case hg => rfl); (case hr => first | (go_simp; done) | (go_simp; rfl)); intro ga hg w_1 H1 hb; have hB_2 := Lib.hid (below_step (Below.refl w.heap.size w) hb); have G_ga := Lib.hid (show w.heap.size ≤ ga by rw [hg]; exact ((Below.refl w.heap.size w)).size); have K_ga := Lib.hid (show Hb w_1 ga h from H1); clear hg hb H1) | ((with_reducible refine gate_dst (N := 5) rfl ?_); refine box_event ?hg (N := 5) ?hd (cs := #[.bool la, .bool lb, .bool lc, .bool ld, .int .u64 lg, .int .u64 lt]) (t := 27) ?hr ?_; (case hd => rfl); (case hg => rfl); (case hr => first | (go_simp; done) | (go_simp; rfl)); intro gt hg w_3 H1 hb; have hB_4 := Lib.hid (below_step hB_2.out hb); have G_gt := Lib.hid (show w.heap.size ≤ gt by rw [hg]; exact (hB_2.out).size); have N_ga_gt := Lib.hid (show ga ≠ gt by rw [hg]; exact Nat.ne_of_lt (K_ga.out.lt)); replace K_ga := Lib.hid (K_ga.out.below hb); have K_gt := Lib.hid (show w_3.heap[gt]? = some (.cells #[.bool la, .bool lb, .bool lc, .bool ld, .int .u64 lg, .int .u64 lt] 27 (0, 0)) from H1); clear hg hb H1 hB_2) | ((with_reducible refine gate_dst (N := 8) rfl ?_); refine box_event ?hg (N := 8) ?hd (cs := Ht.zero.cs) (t := 25) ?hr ?_; (case hd => rfl); (case hg => rfl); (case hr => first | (go_simp; done) | (go_simp; rfl)); intro gr hg w_5 H1 hb; have hB_6 := Lib.hid (below_step hB_4.out hb); have G_gr := Lib.hid (show w.heap.size ≤ gr by rw [hg]; exact (hB_4.out).size); have N_ga_gr := Lib.hid (show ga ≠ gr by rw [hg]; exact Nat.ne_of_lt (K_ga.out.lt)); have N_gt_gr := Lib.hid (show gt ≠ gr by rw [hg]; exact Nat.ne_of_lt (blk_lt K_gt.out)); replace K_ga := Lib.hid (K_ga.out.below hb); replace K_gt := Lib.hid (blk_below K_gt.out hb); have K_gr := Lib.hid (show Hb w_5 gr Ht.zero from H1); clear hg hb H1 hB_4; clear hu25 hu27))
  go_wp2_with (first | ((with_reducible refine gate_dst (N := 9) rfl ?_); (first | (refine gate_guard (by kernel_rfl) ?_) | skip); refine Kd.event_run rfl (v := .agg (h).cs) (w1 := w_5) ?hb ?_; (case hb => exact exec_load_hart rfl rfl K_ga.out)))
  refine (HM.out _).mono ?_
  rintro e_7 w_8 ⟨rfl, hb⟩
  have hB_9 := Lib.hid (below_step hB_6.out hb)
  replace K_ga := Lib.hid (K_ga.out.below hb)
  replace K_gr := Lib.hid (K_gr.out.below hb)
  clear hb hB_6
  have c_ga_42 := K_ga.out.u 42 rfl; have f_ga_42 := K_ga.out.fr 42
  have c_ga_40 := K_ga.out.u 40 rfl; have f_ga_40 := K_ga.out.fr 40
  go_wp2_with fail
  refine (HPUT.out (h.x 42) (Go.bits .and .u64 2 (h.x 40)) (HWF.out 42) (rng _ _ _) _).mono ?_
  rintro e3 w3 ⟨rfl, n_, e3⟩
  clear c_ga_42 f_ga_42 c_ga_40 f_ga_40
  replace K_ga := Lib.hid (Hb.of e3.symm (K_ga.out.drewN n_))
  replace K_gr := Lib.hid (Hb.of e3.symm (K_gr.out.drewN n_))
  have hB_10 := Lib.hid (Below_of e3.symm (pw_below_drewN hB_9.out n_))
  clear e3 hB_9
  have c_ga_42 := K_ga.out.u 42 rfl; have f_ga_42 := K_ga.out.fr 42
  go_upto_region 100 with (fail)
  refine wp_region_list ?_
  refine load_hart (h := _) rfl (.tmp 4) rfl ga rfl (by repeat (with_reducible first | exact K_ga.out | apply Hb.put | apply Hb.putP | apply Hb.putV | apply Hb.putW | apply Hb.putH | apply Hb.far N_ga_gr.out | apply Hb.drewN | apply Hb.drew)) ?_
  refine store_hart rfl (.tmp 8) (.tmp 324) rfl gr _ rfl rfl Ht.zero (by repeat (with_reducible first | exact K_gr.out | apply Hb.put | apply Hb.putP | apply Hb.putV | apply Hb.putW | apply Hb.putH | apply Hb.far (Ne.symm N_ga_gr.out) | apply Hb.drewN | apply Hb.drew)) ?_
  go_wp2
  refine bodyPost_ret (results_cell_row rfl _ _ gr 25 _ (0, 0) _ rfl (Hb.putAll _ (by repeat (with_reducible first | exact K_gr.out | apply Hb.put | apply Hb.putP | apply Hb.putV | apply Hb.putW | apply Hb.putH | apply Hb.far (Ne.symm N_ga_gr.out) | apply Hb.drewN | apply Hb.drew))) Tryd.underlying25 rfl (by rw [Ht.size]; exact hartSize)) rfl ?_
  exact ⟨by first | (rw [← HZ.out]; done) | (rw [← HZ.out]; rfl), setCells_below G_gr.out _ _ _ (by repeat (first | (with_reducible first | exact hB_10.out | apply pw_below_drewN | apply below_drew1 | refine below_set ?_ G_ga.out | refine below_set ?_ G_gr.out) | exact hB_10.out))⟩
set_option maxHeartbeats 16000000 in
set_option maxRecDepth 100000 in
theorem rw_384 (h : Ht) (hw : h.wf) (la lb lc ld : Bool) (lg lt : Int) (no v : Int) (hv : 0 ≤ v ∧ v < 18446744073709551616) (w : World) (hM : meantV h.v no = 384) : Calls Tryd.prog 20 #[.agg h.cs, .agg #[.bool la, .bool lb, .bool lc, .bool ld, .int .u64 lg, .int .u64 lt], .int .i64 no, .int .u64 v] w fun e w' => e = .returned (.agg (writeV h no v).cs) ∧ Below w.heap.size w w' := by
  have HM := Lib.hid (rmeant_c h no)
  have HPUT := Lib.hid (fun (a m : Int) (ha : 0 ≤ a ∧ a < 18446744073709551616) (hm : 0 ≤ m ∧ m < 18446744073709551616) => rput_c ha hm hv)
  have HPUT2 := Lib.hid (fun (a m : Int) (ha : 0 ≤ a ∧ a < 18446744073709551616) (hm : 0 ≤ m ∧ m < 18446744073709551616) => rput_c ha hm (shl2_rng v))
  have HWF := Lib.hid hw.1; have HV := Lib.hid hv
  obtain ⟨z, hz⟩ : ∃ z, writeV h no v = z := ⟨_, rfl⟩
  rw [hz]
  unfold writeV at hz
  clear hw hv
  rw [hM] at HM hz
  clear hM
  rw [wm_384] at hz
  have hmo := rmode_c v
  cases hmv : modeV v
  · rw [hmv] at hmo hz
    have HMO := Lib.hid hmo
    have hz1 : h = z := hz
    have HZ := Lib.hid hz1
    clear hz hz1
    clear hmo hmv
    have hu25 := Tryd.underlying25; have hu27 := Tryd.underlying27
    go_enter Tryd.func20, Tryd.ntmps20
    go_upto_region 1 with (first | ((with_reducible refine gate_dst (N := 4) rfl ?_); refine box_event ?hg (N := 4) ?hd (cs := h.cs) (t := 25) ?hr ?_; (case hd => rfl); (case hg => rfl); (case hr => first | (go_simp; done) | (go_simp; rfl)); intro ga hg w_1 H1 hb; have hB_2 := Lib.hid (below_step (Below.refl w.heap.size w) hb); have G_ga := Lib.hid (show w.heap.size ≤ ga by rw [hg]; exact ((Below.refl w.heap.size w)).size); have K_ga := Lib.hid (show Hb w_1 ga h from H1); clear hg hb H1) | ((with_reducible refine gate_dst (N := 5) rfl ?_); refine box_event ?hg (N := 5) ?hd (cs := #[.bool la, .bool lb, .bool lc, .bool ld, .int .u64 lg, .int .u64 lt]) (t := 27) ?hr ?_; (case hd => rfl); (case hg => rfl); (case hr => first | (go_simp; done) | (go_simp; rfl)); intro gt hg w_3 H1 hb; have hB_4 := Lib.hid (below_step hB_2.out hb); have G_gt := Lib.hid (show w.heap.size ≤ gt by rw [hg]; exact (hB_2.out).size); have N_ga_gt := Lib.hid (show ga ≠ gt by rw [hg]; exact Nat.ne_of_lt (K_ga.out.lt)); replace K_ga := Lib.hid (K_ga.out.below hb); have K_gt := Lib.hid (show w_3.heap[gt]? = some (.cells #[.bool la, .bool lb, .bool lc, .bool ld, .int .u64 lg, .int .u64 lt] 27 (0, 0)) from H1); clear hg hb H1 hB_2) | ((with_reducible refine gate_dst (N := 8) rfl ?_); refine box_event ?hg (N := 8) ?hd (cs := Ht.zero.cs) (t := 25) ?hr ?_; (case hd => rfl); (case hg => rfl); (case hr => first | (go_simp; done) | (go_simp; rfl)); intro gr hg w_5 H1 hb; have hB_6 := Lib.hid (below_step hB_4.out hb); have G_gr := Lib.hid (show w.heap.size ≤ gr by rw [hg]; exact (hB_4.out).size); have N_ga_gr := Lib.hid (show ga ≠ gr by rw [hg]; exact Nat.ne_of_lt (K_ga.out.lt)); have N_gt_gr := Lib.hid (show gt ≠ gr by rw [hg]; exact Nat.ne_of_lt (blk_lt K_gt.out)); replace K_ga := Lib.hid (K_ga.out.below hb); replace K_gt := Lib.hid (blk_below K_gt.out hb); have K_gr := Lib.hid (show Hb w_5 gr Ht.zero from H1); clear hg hb H1 hB_4; clear hu25 hu27))
    go_wp2_with (first | ((with_reducible refine gate_dst (N := 9) rfl ?_); (first | (refine gate_guard (by kernel_rfl) ?_) | skip); refine Kd.event_run rfl (v := .agg (h).cs) (w1 := w_5) ?hb ?_; (case hb => exact exec_load_hart rfl rfl K_ga.out)))
    refine (HM.out _).mono ?_
    rintro e_7 w_8 ⟨rfl, hb⟩
    have hB_9 := Lib.hid (below_step hB_6.out hb)
    replace K_ga := Lib.hid (K_ga.out.below hb)
    replace K_gr := Lib.hid (K_gr.out.below hb)
    clear hb hB_6
    have c_ga_57 := K_ga.out.u 57 rfl; have f_ga_57 := K_ga.out.fr 57
    go_wp2_with fail
    refine (HMO.out _).mono ?_
    rintro e3 w3 ⟨rfl, n_, e3⟩
    clear c_ga_57 f_ga_57
    replace K_ga := Lib.hid (Hb.of e3.symm (K_ga.out.drewN n_))
    replace K_gr := Lib.hid (Hb.of e3.symm (K_gr.out.drewN n_))
    have hB_10 := Lib.hid (Below_of e3.symm (pw_below_drewN hB_9.out n_))
    clear e3 hB_9
    have c_ga_57 := K_ga.out.u 57 rfl; have f_ga_57 := K_ga.out.fr 57
    go_upto_region 100 with (fail)
    refine wp_region_list ?_
    refine load_hart (h := _) rfl (.tmp 4) rfl ga rfl (by repeat (with_reducible first | exact K_ga.out | apply Hb.put | apply Hb.putP | apply Hb.putV | apply Hb.putW | apply Hb.putH | apply Hb.far N_ga_gr.out | apply Hb.drewN | apply Hb.drew)) ?_
    refine store_hart rfl (.tmp 8) (.tmp 324) rfl gr _ rfl rfl Ht.zero (by repeat (with_reducible first | exact K_gr.out | apply Hb.put | apply Hb.putP | apply Hb.putV | apply Hb.putW | apply Hb.putH | apply Hb.far (Ne.symm N_ga_gr.out) | apply Hb.drewN | apply Hb.drew)) ?_
    go_wp2
    refine bodyPost_ret (results_cell_row rfl _ _ gr 25 _ (0, 0) _ rfl (Hb.putAll _ (by repeat (with_reducible first | exact K_gr.out | apply Hb.put | apply Hb.putP | apply Hb.putV | apply Hb.putW | apply Hb.putH | apply Hb.far (Ne.symm N_ga_gr.out) | apply Hb.drewN | apply Hb.drew))) Tryd.underlying25 rfl (by rw [Ht.size]; exact hartSize)) rfl ?_
    exact ⟨by first | (rw [← HZ.out]; done) | (rw [← HZ.out]; rfl), setCells_below G_gr.out _ _ _ (by repeat (first | (with_reducible first | exact hB_10.out | apply pw_below_drewN | apply below_drew1 | refine below_set ?_ G_ga.out | refine below_set ?_ G_gr.out) | exact hB_10.out))⟩
  · rw [hmv] at hmo hz
    have HMO := Lib.hid hmo
    have hz1 : h.set 57 v = z := by rw [← putV_all (h.x 57) HV.out]; exact hz
    have HZ := Lib.hid hz1
    clear hz hz1
    clear hmo hmv
    have hu25 := Tryd.underlying25; have hu27 := Tryd.underlying27
    go_enter Tryd.func20, Tryd.ntmps20
    go_upto_region 1 with (first | ((with_reducible refine gate_dst (N := 4) rfl ?_); refine box_event ?hg (N := 4) ?hd (cs := h.cs) (t := 25) ?hr ?_; (case hd => rfl); (case hg => rfl); (case hr => first | (go_simp; done) | (go_simp; rfl)); intro ga hg w_1 H1 hb; have hB_2 := Lib.hid (below_step (Below.refl w.heap.size w) hb); have G_ga := Lib.hid (show w.heap.size ≤ ga by rw [hg]; exact ((Below.refl w.heap.size w)).size); have K_ga := Lib.hid (show Hb w_1 ga h from H1); clear hg hb H1) | ((with_reducible refine gate_dst (N := 5) rfl ?_); refine box_event ?hg (N := 5) ?hd (cs := #[.bool la, .bool lb, .bool lc, .bool ld, .int .u64 lg, .int .u64 lt]) (t := 27) ?hr ?_; (case hd => rfl); (case hg => rfl); (case hr => first | (go_simp; done) | (go_simp; rfl)); intro gt hg w_3 H1 hb; have hB_4 := Lib.hid (below_step hB_2.out hb); have G_gt := Lib.hid (show w.heap.size ≤ gt by rw [hg]; exact (hB_2.out).size); have N_ga_gt := Lib.hid (show ga ≠ gt by rw [hg]; exact Nat.ne_of_lt (K_ga.out.lt)); replace K_ga := Lib.hid (K_ga.out.below hb); have K_gt := Lib.hid (show w_3.heap[gt]? = some (.cells #[.bool la, .bool lb, .bool lc, .bool ld, .int .u64 lg, .int .u64 lt] 27 (0, 0)) from H1); clear hg hb H1 hB_2) | ((with_reducible refine gate_dst (N := 8) rfl ?_); refine box_event ?hg (N := 8) ?hd (cs := Ht.zero.cs) (t := 25) ?hr ?_; (case hd => rfl); (case hg => rfl); (case hr => first | (go_simp; done) | (go_simp; rfl)); intro gr hg w_5 H1 hb; have hB_6 := Lib.hid (below_step hB_4.out hb); have G_gr := Lib.hid (show w.heap.size ≤ gr by rw [hg]; exact (hB_4.out).size); have N_ga_gr := Lib.hid (show ga ≠ gr by rw [hg]; exact Nat.ne_of_lt (K_ga.out.lt)); have N_gt_gr := Lib.hid (show gt ≠ gr by rw [hg]; exact Nat.ne_of_lt (blk_lt K_gt.out)); replace K_ga := Lib.hid (K_ga.out.below hb); replace K_gt := Lib.hid (blk_below K_gt.out hb); have K_gr := Lib.hid (show Hb w_5 gr Ht.zero from H1); clear hg hb H1 hB_4; clear hu25 hu27))
    go_wp2_with (first | ((with_reducible refine gate_dst (N := 9) rfl ?_); (first | (refine gate_guard (by kernel_rfl) ?_) | skip); refine Kd.event_run rfl (v := .agg (h).cs) (w1 := w_5) ?hb ?_; (case hb => exact exec_load_hart rfl rfl K_ga.out)))
    refine (HM.out _).mono ?_
    rintro e_7 w_8 ⟨rfl, hb⟩
    have hB_9 := Lib.hid (below_step hB_6.out hb)
    replace K_ga := Lib.hid (K_ga.out.below hb)
    replace K_gr := Lib.hid (K_gr.out.below hb)
    clear hb hB_6
    have c_ga_57 := K_ga.out.u 57 rfl; have f_ga_57 := K_ga.out.fr 57
    go_wp2_with fail
    refine (HMO.out _).mono ?_
    rintro e3 w3 ⟨rfl, n_, e3⟩
    clear c_ga_57 f_ga_57
    replace K_ga := Lib.hid (Hb.of e3.symm (K_ga.out.drewN n_))
    replace K_gr := Lib.hid (Hb.of e3.symm (K_gr.out.drewN n_))
    have hB_10 := Lib.hid (Below_of e3.symm (pw_below_drewN hB_9.out n_))
    clear e3 hB_9
    have c_ga_57 := K_ga.out.u 57 rfl; have f_ga_57 := K_ga.out.fr 57
    go_upto_region 100 with (fail)
    refine wp_region_list ?_
    refine load_hart (h := _) rfl (.tmp 4) rfl ga rfl (by repeat (with_reducible first | exact K_ga.out | apply Hb.put | apply Hb.putP | apply Hb.putV | apply Hb.putW | apply Hb.putH | apply Hb.far N_ga_gr.out | apply Hb.drewN | apply Hb.drew)) ?_
    refine store_hart rfl (.tmp 8) (.tmp 324) rfl gr _ rfl rfl Ht.zero (by repeat (with_reducible first | exact K_gr.out | apply Hb.put | apply Hb.putP | apply Hb.putV | apply Hb.putW | apply Hb.putH | apply Hb.far (Ne.symm N_ga_gr.out) | apply Hb.drewN | apply Hb.drew)) ?_
    go_wp2
    refine bodyPost_ret (results_cell_row rfl _ _ gr 25 _ (0, 0) _ rfl (Hb.putAll _ (by repeat (with_reducible first | exact K_gr.out | apply Hb.put | apply Hb.putP | apply Hb.putV | apply Hb.putW | apply Hb.putH | apply Hb.far (Ne.symm N_ga_gr.out) | apply Hb.drewN | apply Hb.drew))) Tryd.underlying25 rfl (by rw [Ht.size]; exact hartSize)) rfl ?_
    exact ⟨by first | (rw [← HZ.out]; done) | (rw [← HZ.out]; rfl), setCells_below G_gr.out _ _ _ (by repeat (first | (with_reducible first | exact hB_10.out | apply pw_below_drewN | apply below_drew1 | refine below_set ?_ G_ga.out | refine below_set ?_ G_gr.out) | exact hB_10.out))⟩
set_option maxHeartbeats 16000000 in
set_option maxRecDepth 100000 in
theorem rw_512 (h : Ht) (hw : h.wf) (la lb lc ld : Bool) (lg lt : Int) (no v : Int) (hv : 0 ≤ v ∧ v < 18446744073709551616) (w : World) (hM : meantV h.v no = 512) : Calls Tryd.prog 20 #[.agg h.cs, .agg #[.bool la, .bool lb, .bool lc, .bool ld, .int .u64 lg, .int .u64 lt], .int .i64 no, .int .u64 v] w fun e w' => e = .returned (.agg (writeV h no v).cs) ∧ Below w.heap.size w w' := by
  have HM := Lib.hid (rmeant_c h no)
  have HPUT := Lib.hid (fun (a m : Int) (ha : 0 ≤ a ∧ a < 18446744073709551616) (hm : 0 ≤ m ∧ m < 18446744073709551616) => rput_c ha hm hv)
  have HPUT2 := Lib.hid (fun (a m : Int) (ha : 0 ≤ a ∧ a < 18446744073709551616) (hm : 0 ≤ m ∧ m < 18446744073709551616) => rput_c ha hm (shl2_rng v))
  have HWF := Lib.hid hw.1; have HV := Lib.hid hv
  obtain ⟨z, hz⟩ : ∃ z, writeV h no v = z := ⟨_, rfl⟩
  rw [hz]
  unfold writeV at hz
  clear hw hv
  rw [hM] at HM hz
  clear hM
  have hz1 : h.set 68 (putV (h.x 68) 786722 v) = z := (wm_512 h v).symm.trans hz
  have HZ := Lib.hid hz1
  clear hz hz1
  have hu25 := Tryd.underlying25; have hu27 := Tryd.underlying27
  go_enter Tryd.func20, Tryd.ntmps20
  go_upto_region 1 with (first | ((with_reducible refine gate_dst (N := 4) rfl ?_); refine box_event ?hg (N := 4) ?hd (cs := h.cs) (t := 25) ?hr ?_; (case hd => rfl); (case hg => rfl); (case hr => first | (go_simp; done) | (go_simp; rfl)); intro ga hg w_1 H1 hb; have hB_2 := Lib.hid (below_step (Below.refl w.heap.size w) hb); have G_ga := Lib.hid (show w.heap.size ≤ ga by rw [hg]; exact ((Below.refl w.heap.size w)).size); have K_ga := Lib.hid (show Hb w_1 ga h from H1); clear hg hb H1) | ((with_reducible refine gate_dst (N := 5) rfl ?_); refine box_event ?hg (N := 5) ?hd (cs := #[.bool la, .bool lb, .bool lc, .bool ld, .int .u64 lg, .int .u64 lt]) (t := 27) ?hr ?_; (case hd => rfl); (case hg => rfl); (case hr => first | (go_simp; done) | (go_simp; rfl)); intro gt hg w_3 H1 hb; have hB_4 := Lib.hid (below_step hB_2.out hb); have G_gt := Lib.hid (show w.heap.size ≤ gt by rw [hg]; exact (hB_2.out).size); have N_ga_gt := Lib.hid (show ga ≠ gt by rw [hg]; exact Nat.ne_of_lt (K_ga.out.lt)); replace K_ga := Lib.hid (K_ga.out.below hb); have K_gt := Lib.hid (show w_3.heap[gt]? = some (.cells #[.bool la, .bool lb, .bool lc, .bool ld, .int .u64 lg, .int .u64 lt] 27 (0, 0)) from H1); clear hg hb H1 hB_2) | ((with_reducible refine gate_dst (N := 8) rfl ?_); refine box_event ?hg (N := 8) ?hd (cs := Ht.zero.cs) (t := 25) ?hr ?_; (case hd => rfl); (case hg => rfl); (case hr => first | (go_simp; done) | (go_simp; rfl)); intro gr hg w_5 H1 hb; have hB_6 := Lib.hid (below_step hB_4.out hb); have G_gr := Lib.hid (show w.heap.size ≤ gr by rw [hg]; exact (hB_4.out).size); have N_ga_gr := Lib.hid (show ga ≠ gr by rw [hg]; exact Nat.ne_of_lt (K_ga.out.lt)); have N_gt_gr := Lib.hid (show gt ≠ gr by rw [hg]; exact Nat.ne_of_lt (blk_lt K_gt.out)); replace K_ga := Lib.hid (K_ga.out.below hb); replace K_gt := Lib.hid (blk_below K_gt.out hb); have K_gr := Lib.hid (show Hb w_5 gr Ht.zero from H1); clear hg hb H1 hB_4; clear hu25 hu27))
  go_wp2_with (first | ((with_reducible refine gate_dst (N := 9) rfl ?_); (first | (refine gate_guard (by kernel_rfl) ?_) | skip); refine Kd.event_run rfl (v := .agg (h).cs) (w1 := w_5) ?hb ?_; (case hb => exact exec_load_hart rfl rfl K_ga.out)))
  refine (HM.out _).mono ?_
  rintro e_7 w_8 ⟨rfl, hb⟩
  have hB_9 := Lib.hid (below_step hB_6.out hb)
  replace K_ga := Lib.hid (K_ga.out.below hb)
  replace K_gr := Lib.hid (K_gr.out.below hb)
  clear hb hB_6
  have c_ga_68 := K_ga.out.u 68 rfl; have f_ga_68 := K_ga.out.fr 68
  go_wp2_with fail
  refine (HPUT.out (h.x 68) 786722 (HWF.out 68) ⟨by decide, by decide⟩ _).mono ?_
  rintro e3 w3 ⟨rfl, n_, e3⟩
  clear c_ga_68 f_ga_68
  replace K_ga := Lib.hid (Hb.of e3.symm (K_ga.out.drewN n_))
  replace K_gr := Lib.hid (Hb.of e3.symm (K_gr.out.drewN n_))
  have hB_10 := Lib.hid (Below_of e3.symm (pw_below_drewN hB_9.out n_))
  clear e3 hB_9
  have c_ga_68 := K_ga.out.u 68 rfl; have f_ga_68 := K_ga.out.fr 68
  go_upto_region 100 with (fail)
  refine wp_region_list ?_
  refine load_hart (h := _) rfl (.tmp 4) rfl ga rfl (by repeat (with_reducible first | exact K_ga.out | apply Hb.put | apply Hb.putP | apply Hb.putV | apply Hb.putW | apply Hb.putH | apply Hb.far N_ga_gr.out | apply Hb.drewN | apply Hb.drew)) ?_
  refine store_hart rfl (.tmp 8) (.tmp 324) rfl gr _ rfl rfl Ht.zero (by repeat (with_reducible first | exact K_gr.out | apply Hb.put | apply Hb.putP | apply Hb.putV | apply Hb.putW | apply Hb.putH | apply Hb.far (Ne.symm N_ga_gr.out) | apply Hb.drewN | apply Hb.drew)) ?_
  go_wp2
  refine bodyPost_ret (results_cell_row rfl _ _ gr 25 _ (0, 0) _ rfl (Hb.putAll _ (by repeat (with_reducible first | exact K_gr.out | apply Hb.put | apply Hb.putP | apply Hb.putV | apply Hb.putW | apply Hb.putH | apply Hb.far (Ne.symm N_ga_gr.out) | apply Hb.drewN | apply Hb.drew))) Tryd.underlying25 rfl (by rw [Ht.size]; exact hartSize)) rfl ?_
  exact ⟨by first | (rw [← HZ.out]; done) | (rw [← HZ.out]; rfl), setCells_below G_gr.out _ _ _ (by repeat (first | (with_reducible first | exact hB_10.out | apply pw_below_drewN | apply below_drew1 | refine below_set ?_ G_ga.out | refine below_set ?_ G_gr.out) | exact hB_10.out))⟩
set_option maxHeartbeats 16000000 in
set_option maxRecDepth 100000 in
theorem rw_516 (h : Ht) (hw : h.wf) (la lb lc ld : Bool) (lg lt : Int) (no v : Int) (hv : 0 ≤ v ∧ v < 18446744073709551616) (w : World) (hM : meantV h.v no = 516) : Calls Tryd.prog 20 #[.agg h.cs, .agg #[.bool la, .bool lb, .bool lc, .bool ld, .int .u64 lg, .int .u64 lt], .int .i64 no, .int .u64 v] w fun e w' => e = .returned (.agg (writeV h no v).cs) ∧ Below w.heap.size w w' := by
  have HM := Lib.hid (rmeant_c h no)
  have HPUT := Lib.hid (fun (a m : Int) (ha : 0 ≤ a ∧ a < 18446744073709551616) (hm : 0 ≤ m ∧ m < 18446744073709551616) => rput_c ha hm hv)
  have HPUT2 := Lib.hid (fun (a m : Int) (ha : 0 ≤ a ∧ a < 18446744073709551616) (hm : 0 ≤ m ∧ m < 18446744073709551616) => rput_c ha hm (shl2_rng v))
  have HWF := Lib.hid hw.1; have HV := Lib.hid hv
  obtain ⟨z, hz⟩ : ∃ z, writeV h no v = z := ⟨_, rfl⟩
  rw [hz]
  unfold writeV at hz
  clear hw hv
  rw [hM] at HM hz
  clear hM
  have hz1 : h.set 41 (putV (h.x 41) (Go.bits .and .u64 1092 (h.x 60)) (IntKind.u64.wrap (2 * v))) = z := by rw [and_sw, shl2_eq]; exact (wm_516 h v).symm.trans hz
  have HZ := Lib.hid hz1
  clear hz hz1
  have hu25 := Tryd.underlying25; have hu27 := Tryd.underlying27
  go_enter Tryd.func20, Tryd.ntmps20
  go_upto_region 1 with (first | ((with_reducible refine gate_dst (N := 4) rfl ?_); refine box_event ?hg (N := 4) ?hd (cs := h.cs) (t := 25) ?hr ?_; (case hd => rfl); (case hg => rfl); (case hr => first | (go_simp; done) | (go_simp; rfl)); intro ga hg w_1 H1 hb; have hB_2 := Lib.hid (below_step (Below.refl w.heap.size w) hb); have G_ga := Lib.hid (show w.heap.size ≤ ga by rw [hg]; exact ((Below.refl w.heap.size w)).size); have K_ga := Lib.hid (show Hb w_1 ga h from H1); clear hg hb H1) | ((with_reducible refine gate_dst (N := 5) rfl ?_); refine box_event ?hg (N := 5) ?hd (cs := #[.bool la, .bool lb, .bool lc, .bool ld, .int .u64 lg, .int .u64 lt]) (t := 27) ?hr ?_; (case hd => rfl); (case hg => rfl); (case hr => first | (go_simp; done) | (go_simp; rfl)); intro gt hg w_3 H1 hb; have hB_4 := Lib.hid (below_step hB_2.out hb); have G_gt := Lib.hid (show w.heap.size ≤ gt by rw [hg]; exact (hB_2.out).size); have N_ga_gt := Lib.hid (show ga ≠ gt by rw [hg]; exact Nat.ne_of_lt (K_ga.out.lt)); replace K_ga := Lib.hid (K_ga.out.below hb); have K_gt := Lib.hid (show w_3.heap[gt]? = some (.cells #[.bool la, .bool lb, .bool lc, .bool ld, .int .u64 lg, .int .u64 lt] 27 (0, 0)) from H1); clear hg hb H1 hB_2) | ((with_reducible refine gate_dst (N := 8) rfl ?_); refine box_event ?hg (N := 8) ?hd (cs := Ht.zero.cs) (t := 25) ?hr ?_; (case hd => rfl); (case hg => rfl); (case hr => first | (go_simp; done) | (go_simp; rfl)); intro gr hg w_5 H1 hb; have hB_6 := Lib.hid (below_step hB_4.out hb); have G_gr := Lib.hid (show w.heap.size ≤ gr by rw [hg]; exact (hB_4.out).size); have N_ga_gr := Lib.hid (show ga ≠ gr by rw [hg]; exact Nat.ne_of_lt (K_ga.out.lt)); have N_gt_gr := Lib.hid (show gt ≠ gr by rw [hg]; exact Nat.ne_of_lt (blk_lt K_gt.out)); replace K_ga := Lib.hid (K_ga.out.below hb); replace K_gt := Lib.hid (blk_below K_gt.out hb); have K_gr := Lib.hid (show Hb w_5 gr Ht.zero from H1); clear hg hb H1 hB_4; clear hu25 hu27))
  go_wp2_with (first | ((with_reducible refine gate_dst (N := 9) rfl ?_); (first | (refine gate_guard (by kernel_rfl) ?_) | skip); refine Kd.event_run rfl (v := .agg (h).cs) (w1 := w_5) ?hb ?_; (case hb => exact exec_load_hart rfl rfl K_ga.out)))
  refine (HM.out _).mono ?_
  rintro e_7 w_8 ⟨rfl, hb⟩
  have hB_9 := Lib.hid (below_step hB_6.out hb)
  replace K_ga := Lib.hid (K_ga.out.below hb)
  replace K_gr := Lib.hid (K_gr.out.below hb)
  clear hb hB_6
  have c_ga_41 := K_ga.out.u 41 rfl; have f_ga_41 := K_ga.out.fr 41
  have c_ga_60 := K_ga.out.u 60 rfl; have f_ga_60 := K_ga.out.fr 60
  go_wp2_with fail
  refine (HPUT2.out (h.x 41) (Go.bits .and .u64 1092 (h.x 60)) (HWF.out 41) (rng _ _ _) _).mono ?_
  rintro e3 w3 ⟨rfl, n_, e3⟩
  clear c_ga_41 f_ga_41 c_ga_60 f_ga_60
  replace K_ga := Lib.hid (Hb.of e3.symm (K_ga.out.drewN n_))
  replace K_gr := Lib.hid (Hb.of e3.symm (K_gr.out.drewN n_))
  have hB_10 := Lib.hid (Below_of e3.symm (pw_below_drewN hB_9.out n_))
  clear e3 hB_9
  have c_ga_41 := K_ga.out.u 41 rfl; have f_ga_41 := K_ga.out.fr 41
  go_upto_region 100 with (fail)
  refine wp_region_list ?_
  refine load_hart (h := _) rfl (.tmp 4) rfl ga rfl (by repeat (with_reducible first | exact K_ga.out | apply Hb.put | apply Hb.putP | apply Hb.putV | apply Hb.putW | apply Hb.putH | apply Hb.far N_ga_gr.out | apply Hb.drewN | apply Hb.drew)) ?_
  refine store_hart rfl (.tmp 8) (.tmp 324) rfl gr _ rfl rfl Ht.zero (by repeat (with_reducible first | exact K_gr.out | apply Hb.put | apply Hb.putP | apply Hb.putV | apply Hb.putW | apply Hb.putH | apply Hb.far (Ne.symm N_ga_gr.out) | apply Hb.drewN | apply Hb.drew)) ?_
  go_wp2
  refine bodyPost_ret (results_cell_row rfl _ _ gr 25 _ (0, 0) _ rfl (Hb.putAll _ (by repeat (with_reducible first | exact K_gr.out | apply Hb.put | apply Hb.putP | apply Hb.putV | apply Hb.putW | apply Hb.putH | apply Hb.far (Ne.symm N_ga_gr.out) | apply Hb.drewN | apply Hb.drew))) Tryd.underlying25 rfl (by rw [Ht.size]; exact hartSize)) rfl ?_
  exact ⟨by first | (rw [← HZ.out]; done) | (rw [← HZ.out]; rfl), setCells_below G_gr.out _ _ _ (by repeat (first | (with_reducible first | exact hB_10.out | apply pw_below_drewN | apply below_drew1 | refine below_set ?_ G_ga.out | refine below_set ?_ G_gr.out) | exact hB_10.out))⟩
set_option maxHeartbeats 16000000 in
set_option maxRecDepth 100000 in
theorem rw_517 (h : Ht) (hw : h.wf) (la lb lc ld : Bool) (lg lt : Int) (no v : Int) (hv : 0 ≤ v ∧ v < 18446744073709551616) (w : World) (hM : meantV h.v no = 517) : Calls Tryd.prog 20 #[.agg h.cs, .agg #[.bool la, .bool lb, .bool lc, .bool ld, .int .u64 lg, .int .u64 lt], .int .i64 no, .int .u64 v] w fun e w' => e = .returned (.agg (writeV h no v).cs) ∧ Below w.heap.size w w' := by
  have HM := Lib.hid (rmeant_c h no)
  have HPUT := Lib.hid (fun (a m : Int) (ha : 0 ≤ a ∧ a < 18446744073709551616) (hm : 0 ≤ m ∧ m < 18446744073709551616) => rput_c ha hm hv)
  have HPUT2 := Lib.hid (fun (a m : Int) (ha : 0 ≤ a ∧ a < 18446744073709551616) (hm : 0 ≤ m ∧ m < 18446744073709551616) => rput_c ha hm (shl2_rng v))
  have HWF := Lib.hid hw.1; have HV := Lib.hid hv
  obtain ⟨z, hz⟩ : ∃ z, writeV h no v = z := ⟨_, rfl⟩
  rw [hz]
  unfold writeV at hz
  clear hw hv
  rw [hM] at HM hz
  clear hM
  have hz1 : h.set 69 (putV (h.x 69) 18446744073709551613 v) = z := (wm_517 h v).symm.trans hz
  have HZ := Lib.hid hz1
  clear hz hz1
  have hu25 := Tryd.underlying25; have hu27 := Tryd.underlying27
  go_enter Tryd.func20, Tryd.ntmps20
  go_upto_region 1 with (first | ((with_reducible refine gate_dst (N := 4) rfl ?_); refine box_event ?hg (N := 4) ?hd (cs := h.cs) (t := 25) ?hr ?_; (case hd => rfl); (case hg => rfl); (case hr => first | (go_simp; done) | (go_simp; rfl)); intro ga hg w_1 H1 hb; have hB_2 := Lib.hid (below_step (Below.refl w.heap.size w) hb); have G_ga := Lib.hid (show w.heap.size ≤ ga by rw [hg]; exact ((Below.refl w.heap.size w)).size); have K_ga := Lib.hid (show Hb w_1 ga h from H1); clear hg hb H1) | ((with_reducible refine gate_dst (N := 5) rfl ?_); refine box_event ?hg (N := 5) ?hd (cs := #[.bool la, .bool lb, .bool lc, .bool ld, .int .u64 lg, .int .u64 lt]) (t := 27) ?hr ?_; (case hd => rfl); (case hg => rfl); (case hr => first | (go_simp; done) | (go_simp; rfl)); intro gt hg w_3 H1 hb; have hB_4 := Lib.hid (below_step hB_2.out hb); have G_gt := Lib.hid (show w.heap.size ≤ gt by rw [hg]; exact (hB_2.out).size); have N_ga_gt := Lib.hid (show ga ≠ gt by rw [hg]; exact Nat.ne_of_lt (K_ga.out.lt)); replace K_ga := Lib.hid (K_ga.out.below hb); have K_gt := Lib.hid (show w_3.heap[gt]? = some (.cells #[.bool la, .bool lb, .bool lc, .bool ld, .int .u64 lg, .int .u64 lt] 27 (0, 0)) from H1); clear hg hb H1 hB_2) | ((with_reducible refine gate_dst (N := 8) rfl ?_); refine box_event ?hg (N := 8) ?hd (cs := Ht.zero.cs) (t := 25) ?hr ?_; (case hd => rfl); (case hg => rfl); (case hr => first | (go_simp; done) | (go_simp; rfl)); intro gr hg w_5 H1 hb; have hB_6 := Lib.hid (below_step hB_4.out hb); have G_gr := Lib.hid (show w.heap.size ≤ gr by rw [hg]; exact (hB_4.out).size); have N_ga_gr := Lib.hid (show ga ≠ gr by rw [hg]; exact Nat.ne_of_lt (K_ga.out.lt)); have N_gt_gr := Lib.hid (show gt ≠ gr by rw [hg]; exact Nat.ne_of_lt (blk_lt K_gt.out)); replace K_ga := Lib.hid (K_ga.out.below hb); replace K_gt := Lib.hid (blk_below K_gt.out hb); have K_gr := Lib.hid (show Hb w_5 gr Ht.zero from H1); clear hg hb H1 hB_4; clear hu25 hu27))
  go_wp2_with (first | ((with_reducible refine gate_dst (N := 9) rfl ?_); (first | (refine gate_guard (by kernel_rfl) ?_) | skip); refine Kd.event_run rfl (v := .agg (h).cs) (w1 := w_5) ?hb ?_; (case hb => exact exec_load_hart rfl rfl K_ga.out)))
  refine (HM.out _).mono ?_
  rintro e_7 w_8 ⟨rfl, hb⟩
  have hB_9 := Lib.hid (below_step hB_6.out hb)
  replace K_ga := Lib.hid (K_ga.out.below hb)
  replace K_gr := Lib.hid (K_gr.out.below hb)
  clear hb hB_6
  have c_ga_69 := K_ga.out.u 69 rfl; have f_ga_69 := K_ga.out.fr 69
  go_upto_region 28 with (fail)
  refine start_ (n := 7) (S := fun w' => w'.cell? ⟨ga, 69, none⟩ = some (.int .u64 (h.x 69))) (ds := [6]) #[false, false, false, false, false, false, false] (by kernel_rfl) rfl rfl ((show World.cell? _ ⟨ga, 69, none⟩ = some (.int .u64 (h.x 69)) by first | (go_simp; done) | (go_simp; rfl))) (fun hHeld => ?_)
  have HH0 := Lib.hid hHeld
  clear hHeld
  refine world_any ga (by repeat (with_reducible first | exact K_ga.out | apply Hb.put | apply Hb.putP | apply Hb.putV | apply Hb.putW | apply Hb.putH | apply Hb.far N_ga_gr.out | apply Hb.drewN | apply Hb.drew)) (fun w' => Below w.heap.size w w' ∧ Hb w' gr Ht.zero ∧ (w'.cell? ⟨ga, 69, none⟩ = some (.int .u64 (h.x 69)))) ⟨(by repeat (first | (with_reducible first | exact hB_9.out | apply pw_below_drewN | apply below_drew1 | refine below_set ?_ G_ga.out | refine below_set ?_ G_gr.out) | exact hB_9.out)), (by repeat (with_reducible first | exact K_gr.out | apply Hb.put | apply Hb.putP | apply Hb.putV | apply Hb.putW | apply Hb.putH | apply Hb.far (Ne.symm N_ga_gr.out) | apply Hb.drewN | apply Hb.drew)), HH0.out⟩ ?_
  clear HH0
  clear c_ga_69 f_ga_69
  clear K_ga K_gr hB_9
  rintro w_10 q_ ⟨b_, q_gr, hHeld⟩
  have K_ga := Lib.hid q_; have hB_11 := Lib.hid b_; have K_gr := Lib.hid q_gr
  clear q_ b_ q_gr
  refine pure_ (i := 0) (N := some 100) (v := ?_) (a' := ?_) #[true, false, false, false, false, false, false] rfl rfl (by kernel_rfl) (fun _ _ _ h => h) (Or.inl ⟨by rfl, ?_⟩) ?_ ?_
  rotate_left
  · intro w'
    go_simp
    with_reducible rfl
  rotate_left
  · simp only [Act.put, List.setIfInBounds_toArray, List.set_cons_zero, List.set_cons_succ, i64_w, i32_w]
    rfl
  refine pure_ (i := 3) (N := some 103) (v := ?_) (a' := ?_) #[true, false, false, true, false, false, false] rfl rfl (by kernel_rfl) (fun _ _ _ h => h) (Or.inl ⟨by rfl, ?_⟩) ?_ ?_
  rotate_left
  · intro w'
    go_simp
    with_reducible rfl
  rotate_left
  · simp only [Act.put, List.setIfInBounds_toArray, List.set_cons_zero, List.set_cons_succ, i64_w, i32_w]
    rfl
  refine take_ (i := 1) (N := some 101) (v := ?_) (a' := ?_) #[true, true, false, true, false, false, false] rfl rfl (by kernel_rfl) (fun _ _ _ h => h) (Or.inl ⟨by rfl, ?_⟩) hHeld ?_ ?_
  rotate_left
  · intro w' s0
    go_simp
    with_reducible rfl
  rotate_left
  · simp only [Act.put, List.setIfInBounds_toArray, List.set_cons_zero, List.set_cons_succ, i64_w, i32_w]
    rfl
  have HH := Lib.hid hHeld
  clear hHeld
  refine one_ (i := 2) (N := some 102) #[true, true, true, true, false, false, false] rfl rfl (by kernel_rfl) (by decide) (fun K hK => ?_)
  refine goes_ Tryd.func36 (by kernel_rfl) rfl #[.int .u64 2] (by rfl) rfl rfl (by simp only [List.map_toArray, List.map_cons, List.map_nil]; rfl) ?_
  with_reducible refine (but_2 _).mono ?_
  rintro e_ w_ ⟨rfl, ⟨n_, rfl⟩⟩
  refine ⟨_, rfl, ?_⟩
  have q_ := Lib.hid (Hb.drewN n_ K_ga.out)
  have hB_13 := Lib.hid (pw_below_drewN hB_11.out n_)
  have q_gr := Lib.hid (Hb.drewN n_ K_gr.out)
  have s_0 := (cell_drewN n_ HH.out)
  clear HH K_ga K_gr hB_11
  generalize World.drewN w_10 n_ = w_12 at q_ hB_13 q_gr s_0 ⊢
  have K_ga := q_; clear q_
  have K_gr := q_gr; clear q_gr
  refine hK.out _ _ (s_0) (fun hHeld => ?_)
  have HH := Lib.hid hHeld
  clear hHeld s_0
  clear hK K
  refine norm_ (a' := ?_) ?_ ?_
  rotate_left
  · show Act.put _ (some 102) _ = _
    simp only [Act.put, List.setIfInBounds_toArray, List.set_cons_zero, List.set_cons_succ, i64_w, i32_w]
    rfl
  refine one_ (i := 4) (N := some 104) #[true, true, true, true, true, false, false] rfl rfl (by kernel_rfl) (by decide) (fun K hK => ?_)
  refine goes_ Tryd.func35 (by kernel_rfl) rfl #[.int .u64 (h.x 69), .int .u64 18446744073709551613, .int .u64 v] (by rfl) rfl rfl (by simp only [List.map_toArray, List.map_cons, List.map_nil]; rfl) ?_
  with_reducible refine (HPUT.out (h.x 69) 18446744073709551613 (HWF.out 69) ⟨by decide, by decide⟩ _).mono ?_
  rintro e_ w_ ⟨rfl, ⟨n_, rfl⟩⟩
  refine ⟨_, rfl, ?_⟩
  have q_ := Lib.hid (Hb.drewN n_ K_ga.out)
  have hB_15 := Lib.hid (pw_below_drewN hB_13.out n_)
  have q_gr := Lib.hid (Hb.drewN n_ K_gr.out)
  have s_0 := (cell_drewN n_ HH.out)
  clear HH K_ga K_gr hB_13
  generalize World.drewN w_12 n_ = w_14 at q_ hB_15 q_gr s_0 ⊢
  have K_ga := q_; clear q_
  have K_gr := q_gr; clear q_gr
  refine hK.out _ _ (s_0) (fun hHeld => ?_)
  have HH := Lib.hid hHeld
  clear hHeld s_0
  clear hK K
  refine norm_ (a' := ?_) ?_ ?_
  rotate_left
  · show Act.put _ (some 104) _ = _
    simp only [Act.put, List.setIfInBounds_toArray, List.set_cons_zero, List.set_cons_succ, i64_w, i32_w]
    rfl
  refine pure_ (i := 5) (N := some 105) (v := ?_) (a' := ?_) #[true, true, true, true, true, true, false] rfl rfl (by kernel_rfl) (fun _ _ _ h => h) (Or.inl ⟨by rfl, ?_⟩) ?_ ?_
  rotate_left
  · intro w'
    go_simp
    with_reducible rfl
  rotate_left
  · simp only [Act.put, List.setIfInBounds_toArray, List.set_cons_zero, List.set_cons_succ, i64_w, i32_w]
    rfl
  refine last_ (i := 6) (N := none) #[true, true, true, true, true, true, true] rfl rfl (by kernel_rfl) (by decide) (fun K hK => ?_)
  refine skipH (h := _) (v := .int .u64 (putV (h.x 69) 18446744073709551613 v)) (by rfl) rfl rfl rfl rfl (by kernel_rfl) rfl rfl K_ga.out (by decide) ?_
  have q_ := Lib.hid (Hb.put 69 ((putV (h.x 69) 18446744073709551613 v)) K_ga.out)
  have hB_17 := Lib.hid (below_set (j := 69) (v := (.int .u64 (putV (h.x 69) 18446744073709551613 v))) hB_15.out G_ga.out)
  have q_gr := Lib.hid (Hb.far (j := 69) (u := (.int .u64 (putV (h.x 69) 18446744073709551613 v))) (Ne.symm N_ga_gr.out) K_gr.out)
  clear HH K_ga K_gr hB_15
  generalize World.setCell w_14 ⟨ga, 69, none⟩ (.int .u64 (putV (h.x 69) 18446744073709551613 v)) = w_16 at q_ hB_17 q_gr ⊢
  have K_ga := q_; clear q_
  have K_gr := q_gr; clear q_gr
  refine hK.out _ _ ?_
  clear hK K
  refine done_ (by kernel_rfl) ?_
  try clear HH
  go_upto_region 100 with (fail)
  refine wp_region_list ?_
  refine load_hart (h := _) rfl (.tmp 4) rfl ga rfl (by repeat (with_reducible first | exact K_ga.out | apply Hb.put | apply Hb.putP | apply Hb.putV | apply Hb.putW | apply Hb.putH | apply Hb.far N_ga_gr.out | apply Hb.drewN | apply Hb.drew)) ?_
  refine store_hart rfl (.tmp 8) (.tmp 324) rfl gr _ rfl rfl Ht.zero (by repeat (with_reducible first | exact K_gr.out | apply Hb.put | apply Hb.putP | apply Hb.putV | apply Hb.putW | apply Hb.putH | apply Hb.far (Ne.symm N_ga_gr.out) | apply Hb.drewN | apply Hb.drew)) ?_
  go_wp2
  refine bodyPost_ret (results_cell_row rfl _ _ gr 25 _ (0, 0) _ rfl (Hb.putAll _ (by repeat (with_reducible first | exact K_gr.out | apply Hb.put | apply Hb.putP | apply Hb.putV | apply Hb.putW | apply Hb.putH | apply Hb.far (Ne.symm N_ga_gr.out) | apply Hb.drewN | apply Hb.drew))) Tryd.underlying25 rfl (by rw [Ht.size]; exact hartSize)) rfl ?_
  exact ⟨by first | (rw [← HZ.out]; done) | (rw [← HZ.out]; rfl), setCells_below G_gr.out _ _ _ (by repeat (first | (with_reducible first | exact hB_17.out | apply pw_below_drewN | apply below_drew1 | refine below_set ?_ G_ga.out | refine below_set ?_ G_gr.out) | exact hB_17.out))⟩
set_option maxHeartbeats 16000000 in
set_option maxRecDepth 100000 in
theorem rw_576 (h : Ht) (hw : h.wf) (la lb lc ld : Bool) (lg lt : Int) (no v : Int) (hv : 0 ≤ v ∧ v < 18446744073709551616) (w : World) (hM : meantV h.v no = 576) : Calls Tryd.prog 20 #[.agg h.cs, .agg #[.bool la, .bool lb, .bool lc, .bool ld, .int .u64 lg, .int .u64 lt], .int .i64 no, .int .u64 v] w fun e w' => e = .returned (.agg (writeV h no v).cs) ∧ Below w.heap.size w w' := by
  have HM := Lib.hid (rmeant_c h no)
  have HPUT := Lib.hid (fun (a m : Int) (ha : 0 ≤ a ∧ a < 18446744073709551616) (hm : 0 ≤ m ∧ m < 18446744073709551616) => rput_c ha hm hv)
  have HPUT2 := Lib.hid (fun (a m : Int) (ha : 0 ≤ a ∧ a < 18446744073709551616) (hm : 0 ≤ m ∧ m < 18446744073709551616) => rput_c ha hm (shl2_rng v))
  have HWF := Lib.hid hw.1; have HV := Lib.hid hv
  obtain ⟨z, hz⟩ : ∃ z, writeV h no v = z := ⟨_, rfl⟩
  rw [hz]
  unfold writeV at hz
  clear hw hv
  rw [hM] at HM hz
  clear hM
  have hz1 : h.set 70 v = z := by rw [← putV_all (h.x 70) HV.out]; exact (wm_576 h v).symm.trans hz
  have HZ := Lib.hid hz1
  clear hz hz1
  have hu25 := Tryd.underlying25; have hu27 := Tryd.underlying27
  go_enter Tryd.func20, Tryd.ntmps20
  go_upto_region 1 with (first | ((with_reducible refine gate_dst (N := 4) rfl ?_); refine box_event ?hg (N := 4) ?hd (cs := h.cs) (t := 25) ?hr ?_; (case hd => rfl); (case hg => rfl); (case hr => first | (go_simp; done) | (go_simp; rfl)); intro ga hg w_1 H1 hb; have hB_2 := Lib.hid (below_step (Below.refl w.heap.size w) hb); have G_ga := Lib.hid (show w.heap.size ≤ ga by rw [hg]; exact ((Below.refl w.heap.size w)).size); have K_ga := Lib.hid (show Hb w_1 ga h from H1); clear hg hb H1) | ((with_reducible refine gate_dst (N := 5) rfl ?_); refine box_event ?hg (N := 5) ?hd (cs := #[.bool la, .bool lb, .bool lc, .bool ld, .int .u64 lg, .int .u64 lt]) (t := 27) ?hr ?_; (case hd => rfl); (case hg => rfl); (case hr => first | (go_simp; done) | (go_simp; rfl)); intro gt hg w_3 H1 hb; have hB_4 := Lib.hid (below_step hB_2.out hb); have G_gt := Lib.hid (show w.heap.size ≤ gt by rw [hg]; exact (hB_2.out).size); have N_ga_gt := Lib.hid (show ga ≠ gt by rw [hg]; exact Nat.ne_of_lt (K_ga.out.lt)); replace K_ga := Lib.hid (K_ga.out.below hb); have K_gt := Lib.hid (show w_3.heap[gt]? = some (.cells #[.bool la, .bool lb, .bool lc, .bool ld, .int .u64 lg, .int .u64 lt] 27 (0, 0)) from H1); clear hg hb H1 hB_2) | ((with_reducible refine gate_dst (N := 8) rfl ?_); refine box_event ?hg (N := 8) ?hd (cs := Ht.zero.cs) (t := 25) ?hr ?_; (case hd => rfl); (case hg => rfl); (case hr => first | (go_simp; done) | (go_simp; rfl)); intro gr hg w_5 H1 hb; have hB_6 := Lib.hid (below_step hB_4.out hb); have G_gr := Lib.hid (show w.heap.size ≤ gr by rw [hg]; exact (hB_4.out).size); have N_ga_gr := Lib.hid (show ga ≠ gr by rw [hg]; exact Nat.ne_of_lt (K_ga.out.lt)); have N_gt_gr := Lib.hid (show gt ≠ gr by rw [hg]; exact Nat.ne_of_lt (blk_lt K_gt.out)); replace K_ga := Lib.hid (K_ga.out.below hb); replace K_gt := Lib.hid (blk_below K_gt.out hb); have K_gr := Lib.hid (show Hb w_5 gr Ht.zero from H1); clear hg hb H1 hB_4; clear hu25 hu27))
  go_wp2_with (first | ((with_reducible refine gate_dst (N := 9) rfl ?_); (first | (refine gate_guard (by kernel_rfl) ?_) | skip); refine Kd.event_run rfl (v := .agg (h).cs) (w1 := w_5) ?hb ?_; (case hb => exact exec_load_hart rfl rfl K_ga.out)))
  refine (HM.out _).mono ?_
  rintro e_7 w_8 ⟨rfl, hb⟩
  have hB_9 := Lib.hid (below_step hB_6.out hb)
  replace K_ga := Lib.hid (K_ga.out.below hb)
  replace K_gr := Lib.hid (K_gr.out.below hb)
  clear hb hB_6
  have c_ga_70 := K_ga.out.u 70 rfl; have f_ga_70 := K_ga.out.fr 70
  go_upto_region 100 with (fail)
  refine wp_region_list ?_
  refine load_hart (h := _) rfl (.tmp 4) rfl ga rfl (by repeat (with_reducible first | exact K_ga.out | apply Hb.put | apply Hb.putP | apply Hb.putV | apply Hb.putW | apply Hb.putH | apply Hb.far N_ga_gr.out | apply Hb.drewN | apply Hb.drew)) ?_
  refine store_hart rfl (.tmp 8) (.tmp 324) rfl gr _ rfl rfl Ht.zero (by repeat (with_reducible first | exact K_gr.out | apply Hb.put | apply Hb.putP | apply Hb.putV | apply Hb.putW | apply Hb.putH | apply Hb.far (Ne.symm N_ga_gr.out) | apply Hb.drewN | apply Hb.drew)) ?_
  go_wp2
  refine bodyPost_ret (results_cell_row rfl _ _ gr 25 _ (0, 0) _ rfl (Hb.putAll _ (by repeat (with_reducible first | exact K_gr.out | apply Hb.put | apply Hb.putP | apply Hb.putV | apply Hb.putW | apply Hb.putH | apply Hb.far (Ne.symm N_ga_gr.out) | apply Hb.drewN | apply Hb.drew))) Tryd.underlying25 rfl (by rw [Ht.size]; exact hartSize)) rfl ?_
  exact ⟨by first | (rw [← HZ.out]; done) | (rw [← HZ.out]; rfl), setCells_below G_gr.out _ _ _ (by repeat (first | (with_reducible first | exact hB_9.out | apply pw_below_drewN | apply below_drew1 | refine below_set ?_ G_ga.out | refine below_set ?_ G_gr.out) | exact hB_9.out))⟩
set_option maxHeartbeats 16000000 in
set_option maxRecDepth 100000 in
theorem rw_577 (h : Ht) (hw : h.wf) (la lb lc ld : Bool) (lg lt : Int) (no v : Int) (hv : 0 ≤ v ∧ v < 18446744073709551616) (w : World) (hM : meantV h.v no = 577) : Calls Tryd.prog 20 #[.agg h.cs, .agg #[.bool la, .bool lb, .bool lc, .bool ld, .int .u64 lg, .int .u64 lt], .int .i64 no, .int .u64 v] w fun e w' => e = .returned (.agg (writeV h no v).cs) ∧ Below w.heap.size w w' := by
  have HM := Lib.hid (rmeant_c h no)
  have HPUT := Lib.hid (fun (a m : Int) (ha : 0 ≤ a ∧ a < 18446744073709551616) (hm : 0 ≤ m ∧ m < 18446744073709551616) => rput_c ha hm hv)
  have HPUT2 := Lib.hid (fun (a m : Int) (ha : 0 ≤ a ∧ a < 18446744073709551616) (hm : 0 ≤ m ∧ m < 18446744073709551616) => rput_c ha hm (shl2_rng v))
  have HWF := Lib.hid hw.1; have HV := Lib.hid hv
  obtain ⟨z, hz⟩ : ∃ z, writeV h no v = z := ⟨_, rfl⟩
  rw [hz]
  unfold writeV at hz
  clear hw hv
  rw [hM] at HM hz
  clear hM
  have hz1 : h.set 71 (putV (h.x 71) 18446744073709551612 v) = z := (wm_577 h v).symm.trans hz
  have HZ := Lib.hid hz1
  clear hz hz1
  have hu25 := Tryd.underlying25; have hu27 := Tryd.underlying27
  go_enter Tryd.func20, Tryd.ntmps20
  go_upto_region 1 with (first | ((with_reducible refine gate_dst (N := 4) rfl ?_); refine box_event ?hg (N := 4) ?hd (cs := h.cs) (t := 25) ?hr ?_; (case hd => rfl); (case hg => rfl); (case hr => first | (go_simp; done) | (go_simp; rfl)); intro ga hg w_1 H1 hb; have hB_2 := Lib.hid (below_step (Below.refl w.heap.size w) hb); have G_ga := Lib.hid (show w.heap.size ≤ ga by rw [hg]; exact ((Below.refl w.heap.size w)).size); have K_ga := Lib.hid (show Hb w_1 ga h from H1); clear hg hb H1) | ((with_reducible refine gate_dst (N := 5) rfl ?_); refine box_event ?hg (N := 5) ?hd (cs := #[.bool la, .bool lb, .bool lc, .bool ld, .int .u64 lg, .int .u64 lt]) (t := 27) ?hr ?_; (case hd => rfl); (case hg => rfl); (case hr => first | (go_simp; done) | (go_simp; rfl)); intro gt hg w_3 H1 hb; have hB_4 := Lib.hid (below_step hB_2.out hb); have G_gt := Lib.hid (show w.heap.size ≤ gt by rw [hg]; exact (hB_2.out).size); have N_ga_gt := Lib.hid (show ga ≠ gt by rw [hg]; exact Nat.ne_of_lt (K_ga.out.lt)); replace K_ga := Lib.hid (K_ga.out.below hb); have K_gt := Lib.hid (show w_3.heap[gt]? = some (.cells #[.bool la, .bool lb, .bool lc, .bool ld, .int .u64 lg, .int .u64 lt] 27 (0, 0)) from H1); clear hg hb H1 hB_2) | ((with_reducible refine gate_dst (N := 8) rfl ?_); refine box_event ?hg (N := 8) ?hd (cs := Ht.zero.cs) (t := 25) ?hr ?_; (case hd => rfl); (case hg => rfl); (case hr => first | (go_simp; done) | (go_simp; rfl)); intro gr hg w_5 H1 hb; have hB_6 := Lib.hid (below_step hB_4.out hb); have G_gr := Lib.hid (show w.heap.size ≤ gr by rw [hg]; exact (hB_4.out).size); have N_ga_gr := Lib.hid (show ga ≠ gr by rw [hg]; exact Nat.ne_of_lt (K_ga.out.lt)); have N_gt_gr := Lib.hid (show gt ≠ gr by rw [hg]; exact Nat.ne_of_lt (blk_lt K_gt.out)); replace K_ga := Lib.hid (K_ga.out.below hb); replace K_gt := Lib.hid (blk_below K_gt.out hb); have K_gr := Lib.hid (show Hb w_5 gr Ht.zero from H1); clear hg hb H1 hB_4; clear hu25 hu27))
  go_wp2_with (first | ((with_reducible refine gate_dst (N := 9) rfl ?_); (first | (refine gate_guard (by kernel_rfl) ?_) | skip); refine Kd.event_run rfl (v := .agg (h).cs) (w1 := w_5) ?hb ?_; (case hb => exact exec_load_hart rfl rfl K_ga.out)))
  refine (HM.out _).mono ?_
  rintro e_7 w_8 ⟨rfl, hb⟩
  have hB_9 := Lib.hid (below_step hB_6.out hb)
  replace K_ga := Lib.hid (K_ga.out.below hb)
  replace K_gr := Lib.hid (K_gr.out.below hb)
  clear hb hB_6
  have c_ga_71 := K_ga.out.u 71 rfl; have f_ga_71 := K_ga.out.fr 71
  go_upto_region 32 with (fail)
  refine start_ (n := 7) (S := fun w' => w'.cell? ⟨ga, 71, none⟩ = some (.int .u64 (h.x 71))) (ds := [6]) #[false, false, false, false, false, false, false] (by kernel_rfl) rfl rfl ((show World.cell? _ ⟨ga, 71, none⟩ = some (.int .u64 (h.x 71)) by first | (go_simp; done) | (go_simp; rfl))) (fun hHeld => ?_)
  have HH0 := Lib.hid hHeld
  clear hHeld
  refine world_any ga (by repeat (with_reducible first | exact K_ga.out | apply Hb.put | apply Hb.putP | apply Hb.putV | apply Hb.putW | apply Hb.putH | apply Hb.far N_ga_gr.out | apply Hb.drewN | apply Hb.drew)) (fun w' => Below w.heap.size w w' ∧ Hb w' gr Ht.zero ∧ (w'.cell? ⟨ga, 71, none⟩ = some (.int .u64 (h.x 71)))) ⟨(by repeat (first | (with_reducible first | exact hB_9.out | apply pw_below_drewN | apply below_drew1 | refine below_set ?_ G_ga.out | refine below_set ?_ G_gr.out) | exact hB_9.out)), (by repeat (with_reducible first | exact K_gr.out | apply Hb.put | apply Hb.putP | apply Hb.putV | apply Hb.putW | apply Hb.putH | apply Hb.far (Ne.symm N_ga_gr.out) | apply Hb.drewN | apply Hb.drew)), HH0.out⟩ ?_
  clear HH0
  clear c_ga_71 f_ga_71
  clear K_ga K_gr hB_9
  rintro w_10 q_ ⟨b_, q_gr, hHeld⟩
  have K_ga := Lib.hid q_; have hB_11 := Lib.hid b_; have K_gr := Lib.hid q_gr
  clear q_ b_ q_gr
  refine pure_ (i := 0) (N := some 112) (v := ?_) (a' := ?_) #[true, false, false, false, false, false, false] rfl rfl (by kernel_rfl) (fun _ _ _ h => h) (Or.inl ⟨by rfl, ?_⟩) ?_ ?_
  rotate_left
  · intro w'
    go_simp
    with_reducible rfl
  rotate_left
  · simp only [Act.put, List.setIfInBounds_toArray, List.set_cons_zero, List.set_cons_succ, i64_w, i32_w]
    rfl
  refine pure_ (i := 3) (N := some 115) (v := ?_) (a' := ?_) #[true, false, false, true, false, false, false] rfl rfl (by kernel_rfl) (fun _ _ _ h => h) (Or.inl ⟨by rfl, ?_⟩) ?_ ?_
  rotate_left
  · intro w'
    go_simp
    with_reducible rfl
  rotate_left
  · simp only [Act.put, List.setIfInBounds_toArray, List.set_cons_zero, List.set_cons_succ, i64_w, i32_w]
    rfl
  refine take_ (i := 1) (N := some 113) (v := ?_) (a' := ?_) #[true, true, false, true, false, false, false] rfl rfl (by kernel_rfl) (fun _ _ _ h => h) (Or.inl ⟨by rfl, ?_⟩) hHeld ?_ ?_
  rotate_left
  · intro w' s0
    go_simp
    with_reducible rfl
  rotate_left
  · simp only [Act.put, List.setIfInBounds_toArray, List.set_cons_zero, List.set_cons_succ, i64_w, i32_w]
    rfl
  have HH := Lib.hid hHeld
  clear hHeld
  refine one_ (i := 2) (N := some 114) #[true, true, true, true, false, false, false] rfl rfl (by kernel_rfl) (by decide) (fun K hK => ?_)
  refine goes_ Tryd.func36 (by kernel_rfl) rfl #[.int .u64 3] (by rfl) rfl rfl (by simp only [List.map_toArray, List.map_cons, List.map_nil]; rfl) ?_
  with_reducible refine (but_3 _).mono ?_
  rintro e_ w_ ⟨rfl, ⟨n_, rfl⟩⟩
  refine ⟨_, rfl, ?_⟩
  have q_ := Lib.hid (Hb.drewN n_ K_ga.out)
  have hB_13 := Lib.hid (pw_below_drewN hB_11.out n_)
  have q_gr := Lib.hid (Hb.drewN n_ K_gr.out)
  have s_0 := (cell_drewN n_ HH.out)
  clear HH K_ga K_gr hB_11
  generalize World.drewN w_10 n_ = w_12 at q_ hB_13 q_gr s_0 ⊢
  have K_ga := q_; clear q_
  have K_gr := q_gr; clear q_gr
  refine hK.out _ _ (s_0) (fun hHeld => ?_)
  have HH := Lib.hid hHeld
  clear hHeld s_0
  clear hK K
  refine norm_ (a' := ?_) ?_ ?_
  rotate_left
  · show Act.put _ (some 114) _ = _
    simp only [Act.put, List.setIfInBounds_toArray, List.set_cons_zero, List.set_cons_succ, i64_w, i32_w]
    rfl
  refine one_ (i := 4) (N := some 116) #[true, true, true, true, true, false, false] rfl rfl (by kernel_rfl) (by decide) (fun K hK => ?_)
  refine goes_ Tryd.func35 (by kernel_rfl) rfl #[.int .u64 (h.x 71), .int .u64 18446744073709551612, .int .u64 v] (by rfl) rfl rfl (by simp only [List.map_toArray, List.map_cons, List.map_nil]; rfl) ?_
  with_reducible refine (HPUT.out (h.x 71) 18446744073709551612 (HWF.out 71) ⟨by decide, by decide⟩ _).mono ?_
  rintro e_ w_ ⟨rfl, ⟨n_, rfl⟩⟩
  refine ⟨_, rfl, ?_⟩
  have q_ := Lib.hid (Hb.drewN n_ K_ga.out)
  have hB_15 := Lib.hid (pw_below_drewN hB_13.out n_)
  have q_gr := Lib.hid (Hb.drewN n_ K_gr.out)
  have s_0 := (cell_drewN n_ HH.out)
  clear HH K_ga K_gr hB_13
  generalize World.drewN w_12 n_ = w_14 at q_ hB_15 q_gr s_0 ⊢
  have K_ga := q_; clear q_
  have K_gr := q_gr; clear q_gr
  refine hK.out _ _ (s_0) (fun hHeld => ?_)
  have HH := Lib.hid hHeld
  clear hHeld s_0
  clear hK K
  refine norm_ (a' := ?_) ?_ ?_
  rotate_left
  · show Act.put _ (some 116) _ = _
    simp only [Act.put, List.setIfInBounds_toArray, List.set_cons_zero, List.set_cons_succ, i64_w, i32_w]
    rfl
  refine pure_ (i := 5) (N := some 117) (v := ?_) (a' := ?_) #[true, true, true, true, true, true, false] rfl rfl (by kernel_rfl) (fun _ _ _ h => h) (Or.inl ⟨by rfl, ?_⟩) ?_ ?_
  rotate_left
  · intro w'
    go_simp
    with_reducible rfl
  rotate_left
  · simp only [Act.put, List.setIfInBounds_toArray, List.set_cons_zero, List.set_cons_succ, i64_w, i32_w]
    rfl
  refine last_ (i := 6) (N := none) #[true, true, true, true, true, true, true] rfl rfl (by kernel_rfl) (by decide) (fun K hK => ?_)
  refine skipH (h := _) (v := .int .u64 (putV (h.x 71) 18446744073709551612 v)) (by rfl) rfl rfl rfl rfl (by kernel_rfl) rfl rfl K_ga.out (by decide) ?_
  have q_ := Lib.hid (Hb.put 71 ((putV (h.x 71) 18446744073709551612 v)) K_ga.out)
  have hB_17 := Lib.hid (below_set (j := 71) (v := (.int .u64 (putV (h.x 71) 18446744073709551612 v))) hB_15.out G_ga.out)
  have q_gr := Lib.hid (Hb.far (j := 71) (u := (.int .u64 (putV (h.x 71) 18446744073709551612 v))) (Ne.symm N_ga_gr.out) K_gr.out)
  clear HH K_ga K_gr hB_15
  generalize World.setCell w_14 ⟨ga, 71, none⟩ (.int .u64 (putV (h.x 71) 18446744073709551612 v)) = w_16 at q_ hB_17 q_gr ⊢
  have K_ga := q_; clear q_
  have K_gr := q_gr; clear q_gr
  refine hK.out _ _ ?_
  clear hK K
  refine done_ (by kernel_rfl) ?_
  try clear HH
  go_upto_region 100 with (fail)
  refine wp_region_list ?_
  refine load_hart (h := _) rfl (.tmp 4) rfl ga rfl (by repeat (with_reducible first | exact K_ga.out | apply Hb.put | apply Hb.putP | apply Hb.putV | apply Hb.putW | apply Hb.putH | apply Hb.far N_ga_gr.out | apply Hb.drewN | apply Hb.drew)) ?_
  refine store_hart rfl (.tmp 8) (.tmp 324) rfl gr _ rfl rfl Ht.zero (by repeat (with_reducible first | exact K_gr.out | apply Hb.put | apply Hb.putP | apply Hb.putV | apply Hb.putW | apply Hb.putH | apply Hb.far (Ne.symm N_ga_gr.out) | apply Hb.drewN | apply Hb.drew)) ?_
  go_wp2
  refine bodyPost_ret (results_cell_row rfl _ _ gr 25 _ (0, 0) _ rfl (Hb.putAll _ (by repeat (with_reducible first | exact K_gr.out | apply Hb.put | apply Hb.putP | apply Hb.putV | apply Hb.putW | apply Hb.putH | apply Hb.far (Ne.symm N_ga_gr.out) | apply Hb.drewN | apply Hb.drew))) Tryd.underlying25 rfl (by rw [Ht.size]; exact hartSize)) rfl ?_
  exact ⟨by first | (rw [← HZ.out]; done) | (rw [← HZ.out]; rfl), setCells_below G_gr.out _ _ _ (by repeat (first | (with_reducible first | exact hB_17.out | apply pw_below_drewN | apply below_drew1 | refine below_set ?_ G_ga.out | refine below_set ?_ G_gr.out) | exact hB_17.out))⟩
set_option maxHeartbeats 16000000 in
set_option maxRecDepth 100000 in
theorem rw_578 (h : Ht) (hw : h.wf) (la lb lc ld : Bool) (lg lt : Int) (no v : Int) (hv : 0 ≤ v ∧ v < 18446744073709551616) (w : World) (hM : meantV h.v no = 578) : Calls Tryd.prog 20 #[.agg h.cs, .agg #[.bool la, .bool lb, .bool lc, .bool ld, .int .u64 lg, .int .u64 lt], .int .i64 no, .int .u64 v] w fun e w' => e = .returned (.agg (writeV h no v).cs) ∧ Below w.heap.size w w' := by
  have HM := Lib.hid (rmeant_c h no)
  have HPUT := Lib.hid (fun (a m : Int) (ha : 0 ≤ a ∧ a < 18446744073709551616) (hm : 0 ≤ m ∧ m < 18446744073709551616) => rput_c ha hm hv)
  have HPUT2 := Lib.hid (fun (a m : Int) (ha : 0 ≤ a ∧ a < 18446744073709551616) (hm : 0 ≤ m ∧ m < 18446744073709551616) => rput_c ha hm (shl2_rng v))
  have HWF := Lib.hid hw.1; have HV := Lib.hid hv
  obtain ⟨z, hz⟩ : ∃ z, writeV h no v = z := ⟨_, rfl⟩
  rw [hz]
  unfold writeV at hz
  clear hw hv
  rw [hM] at HM hz
  clear hM
  have hz1 : h.set 72 v = z := by rw [← putV_all (h.x 72) HV.out]; exact (wm_578 h v).symm.trans hz
  have HZ := Lib.hid hz1
  clear hz hz1
  have hu25 := Tryd.underlying25; have hu27 := Tryd.underlying27
  go_enter Tryd.func20, Tryd.ntmps20
  go_upto_region 1 with (first | ((with_reducible refine gate_dst (N := 4) rfl ?_); refine box_event ?hg (N := 4) ?hd (cs := h.cs) (t := 25) ?hr ?_; (case hd => rfl); (case hg => rfl); (case hr => first | (go_simp; done) | (go_simp; rfl)); intro ga hg w_1 H1 hb; have hB_2 := Lib.hid (below_step (Below.refl w.heap.size w) hb); have G_ga := Lib.hid (show w.heap.size ≤ ga by rw [hg]; exact ((Below.refl w.heap.size w)).size); have K_ga := Lib.hid (show Hb w_1 ga h from H1); clear hg hb H1) | ((with_reducible refine gate_dst (N := 5) rfl ?_); refine box_event ?hg (N := 5) ?hd (cs := #[.bool la, .bool lb, .bool lc, .bool ld, .int .u64 lg, .int .u64 lt]) (t := 27) ?hr ?_; (case hd => rfl); (case hg => rfl); (case hr => first | (go_simp; done) | (go_simp; rfl)); intro gt hg w_3 H1 hb; have hB_4 := Lib.hid (below_step hB_2.out hb); have G_gt := Lib.hid (show w.heap.size ≤ gt by rw [hg]; exact (hB_2.out).size); have N_ga_gt := Lib.hid (show ga ≠ gt by rw [hg]; exact Nat.ne_of_lt (K_ga.out.lt)); replace K_ga := Lib.hid (K_ga.out.below hb); have K_gt := Lib.hid (show w_3.heap[gt]? = some (.cells #[.bool la, .bool lb, .bool lc, .bool ld, .int .u64 lg, .int .u64 lt] 27 (0, 0)) from H1); clear hg hb H1 hB_2) | ((with_reducible refine gate_dst (N := 8) rfl ?_); refine box_event ?hg (N := 8) ?hd (cs := Ht.zero.cs) (t := 25) ?hr ?_; (case hd => rfl); (case hg => rfl); (case hr => first | (go_simp; done) | (go_simp; rfl)); intro gr hg w_5 H1 hb; have hB_6 := Lib.hid (below_step hB_4.out hb); have G_gr := Lib.hid (show w.heap.size ≤ gr by rw [hg]; exact (hB_4.out).size); have N_ga_gr := Lib.hid (show ga ≠ gr by rw [hg]; exact Nat.ne_of_lt (K_ga.out.lt)); have N_gt_gr := Lib.hid (show gt ≠ gr by rw [hg]; exact Nat.ne_of_lt (blk_lt K_gt.out)); replace K_ga := Lib.hid (K_ga.out.below hb); replace K_gt := Lib.hid (blk_below K_gt.out hb); have K_gr := Lib.hid (show Hb w_5 gr Ht.zero from H1); clear hg hb H1 hB_4; clear hu25 hu27))
  go_wp2_with (first | ((with_reducible refine gate_dst (N := 9) rfl ?_); (first | (refine gate_guard (by kernel_rfl) ?_) | skip); refine Kd.event_run rfl (v := .agg (h).cs) (w1 := w_5) ?hb ?_; (case hb => exact exec_load_hart rfl rfl K_ga.out)))
  refine (HM.out _).mono ?_
  rintro e_7 w_8 ⟨rfl, hb⟩
  have hB_9 := Lib.hid (below_step hB_6.out hb)
  replace K_ga := Lib.hid (K_ga.out.below hb)
  replace K_gr := Lib.hid (K_gr.out.below hb)
  clear hb hB_6
  have c_ga_72 := K_ga.out.u 72 rfl; have f_ga_72 := K_ga.out.fr 72
  go_upto_region 100 with (fail)
  refine wp_region_list ?_
  refine load_hart (h := _) rfl (.tmp 4) rfl ga rfl (by repeat (with_reducible first | exact K_ga.out | apply Hb.put | apply Hb.putP | apply Hb.putV | apply Hb.putW | apply Hb.putH | apply Hb.far N_ga_gr.out | apply Hb.drewN | apply Hb.drew)) ?_
  refine store_hart rfl (.tmp 8) (.tmp 324) rfl gr _ rfl rfl Ht.zero (by repeat (with_reducible first | exact K_gr.out | apply Hb.put | apply Hb.putP | apply Hb.putV | apply Hb.putW | apply Hb.putH | apply Hb.far (Ne.symm N_ga_gr.out) | apply Hb.drewN | apply Hb.drew)) ?_
  go_wp2
  refine bodyPost_ret (results_cell_row rfl _ _ gr 25 _ (0, 0) _ rfl (Hb.putAll _ (by repeat (with_reducible first | exact K_gr.out | apply Hb.put | apply Hb.putP | apply Hb.putV | apply Hb.putW | apply Hb.putH | apply Hb.far (Ne.symm N_ga_gr.out) | apply Hb.drewN | apply Hb.drew))) Tryd.underlying25 rfl (by rw [Ht.size]; exact hartSize)) rfl ?_
  exact ⟨by first | (rw [← HZ.out]; done) | (rw [← HZ.out]; rfl), setCells_below G_gr.out _ _ _ (by repeat (first | (with_reducible first | exact hB_9.out | apply pw_below_drewN | apply below_drew1 | refine below_set ?_ G_ga.out | refine below_set ?_ G_gr.out) | exact hB_9.out))⟩
set_option maxHeartbeats 16000000 in
set_option maxRecDepth 100000 in
theorem rw_579 (h : Ht) (hw : h.wf) (la lb lc ld : Bool) (lg lt : Int) (no v : Int) (hv : 0 ≤ v ∧ v < 18446744073709551616) (w : World) (hM : meantV h.v no = 579) : Calls Tryd.prog 20 #[.agg h.cs, .agg #[.bool la, .bool lb, .bool lc, .bool ld, .int .u64 lg, .int .u64 lt], .int .i64 no, .int .u64 v] w fun e w' => e = .returned (.agg (writeV h no v).cs) ∧ Below w.heap.size w w' := by
  have HM := Lib.hid (rmeant_c h no)
  have HPUT := Lib.hid (fun (a m : Int) (ha : 0 ≤ a ∧ a < 18446744073709551616) (hm : 0 ≤ m ∧ m < 18446744073709551616) => rput_c ha hm hv)
  have HPUT2 := Lib.hid (fun (a m : Int) (ha : 0 ≤ a ∧ a < 18446744073709551616) (hm : 0 ≤ m ∧ m < 18446744073709551616) => rput_c ha hm (shl2_rng v))
  have HWF := Lib.hid hw.1; have HV := Lib.hid hv
  obtain ⟨z, hz⟩ : ∃ z, writeV h no v = z := ⟨_, rfl⟩
  rw [hz]
  unfold writeV at hz
  clear hw hv
  rw [hM] at HM hz
  clear hM
  have hz1 : h.set 73 v = z := by rw [← putV_all (h.x 73) HV.out]; exact (wm_579 h v).symm.trans hz
  have HZ := Lib.hid hz1
  clear hz hz1
  have hu25 := Tryd.underlying25; have hu27 := Tryd.underlying27
  go_enter Tryd.func20, Tryd.ntmps20
  go_upto_region 1 with (first | ((with_reducible refine gate_dst (N := 4) rfl ?_); refine box_event ?hg (N := 4) ?hd (cs := h.cs) (t := 25) ?hr ?_; (case hd => rfl); (case hg => rfl); (case hr => first | (go_simp; done) | (go_simp; rfl)); intro ga hg w_1 H1 hb; have hB_2 := Lib.hid (below_step (Below.refl w.heap.size w) hb); have G_ga := Lib.hid (show w.heap.size ≤ ga by rw [hg]; exact ((Below.refl w.heap.size w)).size); have K_ga := Lib.hid (show Hb w_1 ga h from H1); clear hg hb H1) | ((with_reducible refine gate_dst (N := 5) rfl ?_); refine box_event ?hg (N := 5) ?hd (cs := #[.bool la, .bool lb, .bool lc, .bool ld, .int .u64 lg, .int .u64 lt]) (t := 27) ?hr ?_; (case hd => rfl); (case hg => rfl); (case hr => first | (go_simp; done) | (go_simp; rfl)); intro gt hg w_3 H1 hb; have hB_4 := Lib.hid (below_step hB_2.out hb); have G_gt := Lib.hid (show w.heap.size ≤ gt by rw [hg]; exact (hB_2.out).size); have N_ga_gt := Lib.hid (show ga ≠ gt by rw [hg]; exact Nat.ne_of_lt (K_ga.out.lt)); replace K_ga := Lib.hid (K_ga.out.below hb); have K_gt := Lib.hid (show w_3.heap[gt]? = some (.cells #[.bool la, .bool lb, .bool lc, .bool ld, .int .u64 lg, .int .u64 lt] 27 (0, 0)) from H1); clear hg hb H1 hB_2) | ((with_reducible refine gate_dst (N := 8) rfl ?_); refine box_event ?hg (N := 8) ?hd (cs := Ht.zero.cs) (t := 25) ?hr ?_; (case hd => rfl); (case hg => rfl); (case hr => first | (go_simp; done) | (go_simp; rfl)); intro gr hg w_5 H1 hb; have hB_6 := Lib.hid (below_step hB_4.out hb); have G_gr := Lib.hid (show w.heap.size ≤ gr by rw [hg]; exact (hB_4.out).size); have N_ga_gr := Lib.hid (show ga ≠ gr by rw [hg]; exact Nat.ne_of_lt (K_ga.out.lt)); have N_gt_gr := Lib.hid (show gt ≠ gr by rw [hg]; exact Nat.ne_of_lt (blk_lt K_gt.out)); replace K_ga := Lib.hid (K_ga.out.below hb); replace K_gt := Lib.hid (blk_below K_gt.out hb); have K_gr := Lib.hid (show Hb w_5 gr Ht.zero from H1); clear hg hb H1 hB_4; clear hu25 hu27))
  go_wp2_with (first | ((with_reducible refine gate_dst (N := 9) rfl ?_); (first | (refine gate_guard (by kernel_rfl) ?_) | skip); refine Kd.event_run rfl (v := .agg (h).cs) (w1 := w_5) ?hb ?_; (case hb => exact exec_load_hart rfl rfl K_ga.out)))
  refine (HM.out _).mono ?_
  rintro e_7 w_8 ⟨rfl, hb⟩
  have hB_9 := Lib.hid (below_step hB_6.out hb)
  replace K_ga := Lib.hid (K_ga.out.below hb)
  replace K_gr := Lib.hid (K_gr.out.below hb)
  clear hb hB_6
  have c_ga_73 := K_ga.out.u 73 rfl; have f_ga_73 := K_ga.out.fr 73
  go_upto_region 100 with (fail)
  refine wp_region_list ?_
  refine load_hart (h := _) rfl (.tmp 4) rfl ga rfl (by repeat (with_reducible first | exact K_ga.out | apply Hb.put | apply Hb.putP | apply Hb.putV | apply Hb.putW | apply Hb.putH | apply Hb.far N_ga_gr.out | apply Hb.drewN | apply Hb.drew)) ?_
  refine store_hart rfl (.tmp 8) (.tmp 324) rfl gr _ rfl rfl Ht.zero (by repeat (with_reducible first | exact K_gr.out | apply Hb.put | apply Hb.putP | apply Hb.putV | apply Hb.putW | apply Hb.putH | apply Hb.far (Ne.symm N_ga_gr.out) | apply Hb.drewN | apply Hb.drew)) ?_
  go_wp2
  refine bodyPost_ret (results_cell_row rfl _ _ gr 25 _ (0, 0) _ rfl (Hb.putAll _ (by repeat (with_reducible first | exact K_gr.out | apply Hb.put | apply Hb.putP | apply Hb.putV | apply Hb.putW | apply Hb.putH | apply Hb.far (Ne.symm N_ga_gr.out) | apply Hb.drewN | apply Hb.drew))) Tryd.underlying25 rfl (by rw [Ht.size]; exact hartSize)) rfl ?_
  exact ⟨by first | (rw [← HZ.out]; done) | (rw [← HZ.out]; rfl), setCells_below G_gr.out _ _ _ (by repeat (first | (with_reducible first | exact hB_9.out | apply pw_below_drewN | apply below_drew1 | refine below_set ?_ G_ga.out | refine below_set ?_ G_gr.out) | exact hB_9.out))⟩
set_option maxHeartbeats 16000000 in
set_option maxRecDepth 100000 in
theorem rw_580 (h : Ht) (hw : h.wf) (la lb lc ld : Bool) (lg lt : Int) (no v : Int) (hv : 0 ≤ v ∧ v < 18446744073709551616) (w : World) (hM : meantV h.v no = 580) : Calls Tryd.prog 20 #[.agg h.cs, .agg #[.bool la, .bool lb, .bool lc, .bool ld, .int .u64 lg, .int .u64 lt], .int .i64 no, .int .u64 v] w fun e w' => e = .returned (.agg (writeV h no v).cs) ∧ Below w.heap.size w w' := by
  have HM := Lib.hid (rmeant_c h no)
  have HPUT := Lib.hid (fun (a m : Int) (ha : 0 ≤ a ∧ a < 18446744073709551616) (hm : 0 ≤ m ∧ m < 18446744073709551616) => rput_c ha hm hv)
  have HPUT2 := Lib.hid (fun (a m : Int) (ha : 0 ≤ a ∧ a < 18446744073709551616) (hm : 0 ≤ m ∧ m < 18446744073709551616) => rput_c ha hm (shl2_rng v))
  have HWF := Lib.hid hw.1; have HV := Lib.hid hv
  obtain ⟨z, hz⟩ : ∃ z, writeV h no v = z := ⟨_, rfl⟩
  rw [hz]
  unfold writeV at hz
  clear hw hv
  rw [hM] at HM hz
  clear hM
  have hz1 : h.set 61 (putV (h.x 61) (Go.bits .and .u64 4 (h.x 60)) (IntKind.u64.wrap (2 * v))) = z := by rw [and_sw, shl2_eq]; exact (wm_580 h v).symm.trans hz
  have HZ := Lib.hid hz1
  clear hz hz1
  have hu25 := Tryd.underlying25; have hu27 := Tryd.underlying27
  go_enter Tryd.func20, Tryd.ntmps20
  go_upto_region 1 with (first | ((with_reducible refine gate_dst (N := 4) rfl ?_); refine box_event ?hg (N := 4) ?hd (cs := h.cs) (t := 25) ?hr ?_; (case hd => rfl); (case hg => rfl); (case hr => first | (go_simp; done) | (go_simp; rfl)); intro ga hg w_1 H1 hb; have hB_2 := Lib.hid (below_step (Below.refl w.heap.size w) hb); have G_ga := Lib.hid (show w.heap.size ≤ ga by rw [hg]; exact ((Below.refl w.heap.size w)).size); have K_ga := Lib.hid (show Hb w_1 ga h from H1); clear hg hb H1) | ((with_reducible refine gate_dst (N := 5) rfl ?_); refine box_event ?hg (N := 5) ?hd (cs := #[.bool la, .bool lb, .bool lc, .bool ld, .int .u64 lg, .int .u64 lt]) (t := 27) ?hr ?_; (case hd => rfl); (case hg => rfl); (case hr => first | (go_simp; done) | (go_simp; rfl)); intro gt hg w_3 H1 hb; have hB_4 := Lib.hid (below_step hB_2.out hb); have G_gt := Lib.hid (show w.heap.size ≤ gt by rw [hg]; exact (hB_2.out).size); have N_ga_gt := Lib.hid (show ga ≠ gt by rw [hg]; exact Nat.ne_of_lt (K_ga.out.lt)); replace K_ga := Lib.hid (K_ga.out.below hb); have K_gt := Lib.hid (show w_3.heap[gt]? = some (.cells #[.bool la, .bool lb, .bool lc, .bool ld, .int .u64 lg, .int .u64 lt] 27 (0, 0)) from H1); clear hg hb H1 hB_2) | ((with_reducible refine gate_dst (N := 8) rfl ?_); refine box_event ?hg (N := 8) ?hd (cs := Ht.zero.cs) (t := 25) ?hr ?_; (case hd => rfl); (case hg => rfl); (case hr => first | (go_simp; done) | (go_simp; rfl)); intro gr hg w_5 H1 hb; have hB_6 := Lib.hid (below_step hB_4.out hb); have G_gr := Lib.hid (show w.heap.size ≤ gr by rw [hg]; exact (hB_4.out).size); have N_ga_gr := Lib.hid (show ga ≠ gr by rw [hg]; exact Nat.ne_of_lt (K_ga.out.lt)); have N_gt_gr := Lib.hid (show gt ≠ gr by rw [hg]; exact Nat.ne_of_lt (blk_lt K_gt.out)); replace K_ga := Lib.hid (K_ga.out.below hb); replace K_gt := Lib.hid (blk_below K_gt.out hb); have K_gr := Lib.hid (show Hb w_5 gr Ht.zero from H1); clear hg hb H1 hB_4; clear hu25 hu27))
  go_wp2_with (first | ((with_reducible refine gate_dst (N := 9) rfl ?_); (first | (refine gate_guard (by kernel_rfl) ?_) | skip); refine Kd.event_run rfl (v := .agg (h).cs) (w1 := w_5) ?hb ?_; (case hb => exact exec_load_hart rfl rfl K_ga.out)))
  refine (HM.out _).mono ?_
  rintro e_7 w_8 ⟨rfl, hb⟩
  have hB_9 := Lib.hid (below_step hB_6.out hb)
  replace K_ga := Lib.hid (K_ga.out.below hb)
  replace K_gr := Lib.hid (K_gr.out.below hb)
  clear hb hB_6
  have c_ga_61 := K_ga.out.u 61 rfl; have f_ga_61 := K_ga.out.fr 61
  have c_ga_60 := K_ga.out.u 60 rfl; have f_ga_60 := K_ga.out.fr 60
  go_wp2_with fail
  refine (HPUT2.out (h.x 61) (Go.bits .and .u64 4 (h.x 60)) (HWF.out 61) (rng _ _ _) _).mono ?_
  rintro e3 w3 ⟨rfl, n_, e3⟩
  clear c_ga_61 f_ga_61 c_ga_60 f_ga_60
  replace K_ga := Lib.hid (Hb.of e3.symm (K_ga.out.drewN n_))
  replace K_gr := Lib.hid (Hb.of e3.symm (K_gr.out.drewN n_))
  have hB_10 := Lib.hid (Below_of e3.symm (pw_below_drewN hB_9.out n_))
  clear e3 hB_9
  have c_ga_61 := K_ga.out.u 61 rfl; have f_ga_61 := K_ga.out.fr 61
  go_upto_region 100 with (fail)
  refine wp_region_list ?_
  refine load_hart (h := _) rfl (.tmp 4) rfl ga rfl (by repeat (with_reducible first | exact K_ga.out | apply Hb.put | apply Hb.putP | apply Hb.putV | apply Hb.putW | apply Hb.putH | apply Hb.far N_ga_gr.out | apply Hb.drewN | apply Hb.drew)) ?_
  refine store_hart rfl (.tmp 8) (.tmp 324) rfl gr _ rfl rfl Ht.zero (by repeat (with_reducible first | exact K_gr.out | apply Hb.put | apply Hb.putP | apply Hb.putV | apply Hb.putW | apply Hb.putH | apply Hb.far (Ne.symm N_ga_gr.out) | apply Hb.drewN | apply Hb.drew)) ?_
  go_wp2
  refine bodyPost_ret (results_cell_row rfl _ _ gr 25 _ (0, 0) _ rfl (Hb.putAll _ (by repeat (with_reducible first | exact K_gr.out | apply Hb.put | apply Hb.putP | apply Hb.putV | apply Hb.putW | apply Hb.putH | apply Hb.far (Ne.symm N_ga_gr.out) | apply Hb.drewN | apply Hb.drew))) Tryd.underlying25 rfl (by rw [Ht.size]; exact hartSize)) rfl ?_
  exact ⟨by first | (rw [← HZ.out]; done) | (rw [← HZ.out]; rfl), setCells_below G_gr.out _ _ _ (by repeat (first | (with_reducible first | exact hB_10.out | apply pw_below_drewN | apply below_drew1 | refine below_set ?_ G_ga.out | refine below_set ?_ G_gr.out) | exact hB_10.out))⟩
set_option maxHeartbeats 16000000 in
set_option maxRecDepth 100000 in
theorem rw_640 (h : Ht) (hw : h.wf) (la lb lc ld : Bool) (lg lt : Int) (no v : Int) (hv : 0 ≤ v ∧ v < 18446744073709551616) (w : World) (hM : meantV h.v no = 640) : Calls Tryd.prog 20 #[.agg h.cs, .agg #[.bool la, .bool lb, .bool lc, .bool ld, .int .u64 lg, .int .u64 lt], .int .i64 no, .int .u64 v] w fun e w' => e = .returned (.agg (writeV h no v).cs) ∧ Below w.heap.size w w' := by
  have HM := Lib.hid (rmeant_c h no)
  have HPUT := Lib.hid (fun (a m : Int) (ha : 0 ≤ a ∧ a < 18446744073709551616) (hm : 0 ≤ m ∧ m < 18446744073709551616) => rput_c ha hm hv)
  have HPUT2 := Lib.hid (fun (a m : Int) (ha : 0 ≤ a ∧ a < 18446744073709551616) (hm : 0 ≤ m ∧ m < 18446744073709551616) => rput_c ha hm (shl2_rng v))
  have HWF := Lib.hid hw.1; have HV := Lib.hid hv
  obtain ⟨z, hz⟩ : ∃ z, writeV h no v = z := ⟨_, rfl⟩
  rw [hz]
  unfold writeV at hz
  clear hw hv
  rw [hM] at HM hz
  clear hM
  rw [wm_640] at hz
  have hmo := rmode_c v
  cases hmv : modeV v
  · rw [hmv] at hmo hz
    have HMO := Lib.hid hmo
    have hz1 : h = z := hz
    have HZ := Lib.hid hz1
    clear hz hz1
    clear hmo hmv
    have hu25 := Tryd.underlying25; have hu27 := Tryd.underlying27
    go_enter Tryd.func20, Tryd.ntmps20
    go_upto_region 1 with (first | ((with_reducible refine gate_dst (N := 4) rfl ?_); refine box_event ?hg (N := 4) ?hd (cs := h.cs) (t := 25) ?hr ?_; (case hd => rfl); (case hg => rfl); (case hr => first | (go_simp; done) | (go_simp; rfl)); intro ga hg w_1 H1 hb; have hB_2 := Lib.hid (below_step (Below.refl w.heap.size w) hb); have G_ga := Lib.hid (show w.heap.size ≤ ga by rw [hg]; exact ((Below.refl w.heap.size w)).size); have K_ga := Lib.hid (show Hb w_1 ga h from H1); clear hg hb H1) | ((with_reducible refine gate_dst (N := 5) rfl ?_); refine box_event ?hg (N := 5) ?hd (cs := #[.bool la, .bool lb, .bool lc, .bool ld, .int .u64 lg, .int .u64 lt]) (t := 27) ?hr ?_; (case hd => rfl); (case hg => rfl); (case hr => first | (go_simp; done) | (go_simp; rfl)); intro gt hg w_3 H1 hb; have hB_4 := Lib.hid (below_step hB_2.out hb); have G_gt := Lib.hid (show w.heap.size ≤ gt by rw [hg]; exact (hB_2.out).size); have N_ga_gt := Lib.hid (show ga ≠ gt by rw [hg]; exact Nat.ne_of_lt (K_ga.out.lt)); replace K_ga := Lib.hid (K_ga.out.below hb); have K_gt := Lib.hid (show w_3.heap[gt]? = some (.cells #[.bool la, .bool lb, .bool lc, .bool ld, .int .u64 lg, .int .u64 lt] 27 (0, 0)) from H1); clear hg hb H1 hB_2) | ((with_reducible refine gate_dst (N := 8) rfl ?_); refine box_event ?hg (N := 8) ?hd (cs := Ht.zero.cs) (t := 25) ?hr ?_; (case hd => rfl); (case hg => rfl); (case hr => first | (go_simp; done) | (go_simp; rfl)); intro gr hg w_5 H1 hb; have hB_6 := Lib.hid (below_step hB_4.out hb); have G_gr := Lib.hid (show w.heap.size ≤ gr by rw [hg]; exact (hB_4.out).size); have N_ga_gr := Lib.hid (show ga ≠ gr by rw [hg]; exact Nat.ne_of_lt (K_ga.out.lt)); have N_gt_gr := Lib.hid (show gt ≠ gr by rw [hg]; exact Nat.ne_of_lt (blk_lt K_gt.out)); replace K_ga := Lib.hid (K_ga.out.below hb); replace K_gt := Lib.hid (blk_below K_gt.out hb); have K_gr := Lib.hid (show Hb w_5 gr Ht.zero from H1); clear hg hb H1 hB_4; clear hu25 hu27))
    go_wp2_with (first | ((with_reducible refine gate_dst (N := 9) rfl ?_); (first | (refine gate_guard (by kernel_rfl) ?_) | skip); refine Kd.event_run rfl (v := .agg (h).cs) (w1 := w_5) ?hb ?_; (case hb => exact exec_load_hart rfl rfl K_ga.out)))
    refine (HM.out _).mono ?_
    rintro e_7 w_8 ⟨rfl, hb⟩
    have hB_9 := Lib.hid (below_step hB_6.out hb)
    replace K_ga := Lib.hid (K_ga.out.below hb)
    replace K_gr := Lib.hid (K_gr.out.below hb)
    clear hb hB_6
    have c_ga_74 := K_ga.out.u 74 rfl; have f_ga_74 := K_ga.out.fr 74
    go_wp2_with fail
    refine (HMO.out _).mono ?_
    rintro e3 w3 ⟨rfl, n_, e3⟩
    clear c_ga_74 f_ga_74
    replace K_ga := Lib.hid (Hb.of e3.symm (K_ga.out.drewN n_))
    replace K_gr := Lib.hid (Hb.of e3.symm (K_gr.out.drewN n_))
    have hB_10 := Lib.hid (Below_of e3.symm (pw_below_drewN hB_9.out n_))
    clear e3 hB_9
    have c_ga_74 := K_ga.out.u 74 rfl; have f_ga_74 := K_ga.out.fr 74
    go_upto_region 100 with (fail)
    refine wp_region_list ?_
    refine load_hart (h := _) rfl (.tmp 4) rfl ga rfl (by repeat (with_reducible first | exact K_ga.out | apply Hb.put | apply Hb.putP | apply Hb.putV | apply Hb.putW | apply Hb.putH | apply Hb.far N_ga_gr.out | apply Hb.drewN | apply Hb.drew)) ?_
    refine store_hart rfl (.tmp 8) (.tmp 324) rfl gr _ rfl rfl Ht.zero (by repeat (with_reducible first | exact K_gr.out | apply Hb.put | apply Hb.putP | apply Hb.putV | apply Hb.putW | apply Hb.putH | apply Hb.far (Ne.symm N_ga_gr.out) | apply Hb.drewN | apply Hb.drew)) ?_
    go_wp2
    refine bodyPost_ret (results_cell_row rfl _ _ gr 25 _ (0, 0) _ rfl (Hb.putAll _ (by repeat (with_reducible first | exact K_gr.out | apply Hb.put | apply Hb.putP | apply Hb.putV | apply Hb.putW | apply Hb.putH | apply Hb.far (Ne.symm N_ga_gr.out) | apply Hb.drewN | apply Hb.drew))) Tryd.underlying25 rfl (by rw [Ht.size]; exact hartSize)) rfl ?_
    exact ⟨by first | (rw [← HZ.out]; done) | (rw [← HZ.out]; rfl), setCells_below G_gr.out _ _ _ (by repeat (first | (with_reducible first | exact hB_10.out | apply pw_below_drewN | apply below_drew1 | refine below_set ?_ G_ga.out | refine below_set ?_ G_gr.out) | exact hB_10.out))⟩
  · rw [hmv] at hmo hz
    have HMO := Lib.hid hmo
    have hz1 : h.set 74 v = z := by rw [← putV_all (h.x 74) HV.out]; exact hz
    have HZ := Lib.hid hz1
    clear hz hz1
    clear hmo hmv
    have hu25 := Tryd.underlying25; have hu27 := Tryd.underlying27
    go_enter Tryd.func20, Tryd.ntmps20
    go_upto_region 1 with (first | ((with_reducible refine gate_dst (N := 4) rfl ?_); refine box_event ?hg (N := 4) ?hd (cs := h.cs) (t := 25) ?hr ?_; (case hd => rfl); (case hg => rfl); (case hr => first | (go_simp; done) | (go_simp; rfl)); intro ga hg w_1 H1 hb; have hB_2 := Lib.hid (below_step (Below.refl w.heap.size w) hb); have G_ga := Lib.hid (show w.heap.size ≤ ga by rw [hg]; exact ((Below.refl w.heap.size w)).size); have K_ga := Lib.hid (show Hb w_1 ga h from H1); clear hg hb H1) | ((with_reducible refine gate_dst (N := 5) rfl ?_); refine box_event ?hg (N := 5) ?hd (cs := #[.bool la, .bool lb, .bool lc, .bool ld, .int .u64 lg, .int .u64 lt]) (t := 27) ?hr ?_; (case hd => rfl); (case hg => rfl); (case hr => first | (go_simp; done) | (go_simp; rfl)); intro gt hg w_3 H1 hb; have hB_4 := Lib.hid (below_step hB_2.out hb); have G_gt := Lib.hid (show w.heap.size ≤ gt by rw [hg]; exact (hB_2.out).size); have N_ga_gt := Lib.hid (show ga ≠ gt by rw [hg]; exact Nat.ne_of_lt (K_ga.out.lt)); replace K_ga := Lib.hid (K_ga.out.below hb); have K_gt := Lib.hid (show w_3.heap[gt]? = some (.cells #[.bool la, .bool lb, .bool lc, .bool ld, .int .u64 lg, .int .u64 lt] 27 (0, 0)) from H1); clear hg hb H1 hB_2) | ((with_reducible refine gate_dst (N := 8) rfl ?_); refine box_event ?hg (N := 8) ?hd (cs := Ht.zero.cs) (t := 25) ?hr ?_; (case hd => rfl); (case hg => rfl); (case hr => first | (go_simp; done) | (go_simp; rfl)); intro gr hg w_5 H1 hb; have hB_6 := Lib.hid (below_step hB_4.out hb); have G_gr := Lib.hid (show w.heap.size ≤ gr by rw [hg]; exact (hB_4.out).size); have N_ga_gr := Lib.hid (show ga ≠ gr by rw [hg]; exact Nat.ne_of_lt (K_ga.out.lt)); have N_gt_gr := Lib.hid (show gt ≠ gr by rw [hg]; exact Nat.ne_of_lt (blk_lt K_gt.out)); replace K_ga := Lib.hid (K_ga.out.below hb); replace K_gt := Lib.hid (blk_below K_gt.out hb); have K_gr := Lib.hid (show Hb w_5 gr Ht.zero from H1); clear hg hb H1 hB_4; clear hu25 hu27))
    go_wp2_with (first | ((with_reducible refine gate_dst (N := 9) rfl ?_); (first | (refine gate_guard (by kernel_rfl) ?_) | skip); refine Kd.event_run rfl (v := .agg (h).cs) (w1 := w_5) ?hb ?_; (case hb => exact exec_load_hart rfl rfl K_ga.out)))
    refine (HM.out _).mono ?_
    rintro e_7 w_8 ⟨rfl, hb⟩
    have hB_9 := Lib.hid (below_step hB_6.out hb)
    replace K_ga := Lib.hid (K_ga.out.below hb)
    replace K_gr := Lib.hid (K_gr.out.below hb)
    clear hb hB_6
    have c_ga_74 := K_ga.out.u 74 rfl; have f_ga_74 := K_ga.out.fr 74
    go_wp2_with fail
    refine (HMO.out _).mono ?_
    rintro e3 w3 ⟨rfl, n_, e3⟩
    clear c_ga_74 f_ga_74
    replace K_ga := Lib.hid (Hb.of e3.symm (K_ga.out.drewN n_))
    replace K_gr := Lib.hid (Hb.of e3.symm (K_gr.out.drewN n_))
    have hB_10 := Lib.hid (Below_of e3.symm (pw_below_drewN hB_9.out n_))
    clear e3 hB_9
    have c_ga_74 := K_ga.out.u 74 rfl; have f_ga_74 := K_ga.out.fr 74
    go_upto_region 100 with (fail)
    refine wp_region_list ?_
    refine load_hart (h := _) rfl (.tmp 4) rfl ga rfl (by repeat (with_reducible first | exact K_ga.out | apply Hb.put | apply Hb.putP | apply Hb.putV | apply Hb.putW | apply Hb.putH | apply Hb.far N_ga_gr.out | apply Hb.drewN | apply Hb.drew)) ?_
    refine store_hart rfl (.tmp 8) (.tmp 324) rfl gr _ rfl rfl Ht.zero (by repeat (with_reducible first | exact K_gr.out | apply Hb.put | apply Hb.putP | apply Hb.putV | apply Hb.putW | apply Hb.putH | apply Hb.far (Ne.symm N_ga_gr.out) | apply Hb.drewN | apply Hb.drew)) ?_
    go_wp2
    refine bodyPost_ret (results_cell_row rfl _ _ gr 25 _ (0, 0) _ rfl (Hb.putAll _ (by repeat (with_reducible first | exact K_gr.out | apply Hb.put | apply Hb.putP | apply Hb.putV | apply Hb.putW | apply Hb.putH | apply Hb.far (Ne.symm N_ga_gr.out) | apply Hb.drewN | apply Hb.drew))) Tryd.underlying25 rfl (by rw [Ht.size]; exact hartSize)) rfl ?_
    exact ⟨by first | (rw [← HZ.out]; done) | (rw [← HZ.out]; rfl), setCells_below G_gr.out _ _ _ (by repeat (first | (with_reducible first | exact hB_10.out | apply pw_below_drewN | apply below_drew1 | refine below_set ?_ G_ga.out | refine below_set ?_ G_gr.out) | exact hB_10.out))⟩
set_option maxHeartbeats 16000000 in
set_option maxRecDepth 100000 in
theorem rw_768 (h : Ht) (hw : h.wf) (la lb lc ld : Bool) (lg lt : Int) (no v : Int) (hv : 0 ≤ v ∧ v < 18446744073709551616) (w : World) (hM : meantV h.v no = 768) : Calls Tryd.prog 20 #[.agg h.cs, .agg #[.bool la, .bool lb, .bool lc, .bool ld, .int .u64 lg, .int .u64 lt], .int .i64 no, .int .u64 v] w fun e w' => e = .returned (.agg (writeV h no v).cs) ∧ Below w.heap.size w w' := by
  have HM := Lib.hid (rmeant_c h no)
  have HPUT := Lib.hid (fun (a m : Int) (ha : 0 ≤ a ∧ a < 18446744073709551616) (hm : 0 ≤ m ∧ m < 18446744073709551616) => rput_c ha hm hv)
  have HPUT2 := Lib.hid (fun (a m : Int) (ha : 0 ≤ a ∧ a < 18446744073709551616) (hm : 0 ≤ m ∧ m < 18446744073709551616) => rput_c ha hm (shl2_rng v))
  have HWF := Lib.hid hw.1; have HV := Lib.hid hv
  obtain ⟨z, hz⟩ : ∃ z, writeV h no v = z := ⟨_, rfl⟩
  rw [hz]
  unfold writeV at hz
  clear hw hv
  rw [hM] at HM hz
  clear hM
  have hcond := mpp_v HV.out
  rw [wm_768] at hz
  rw [hcond] at hz
  have hb12 := rbit_c v 12 (by decide); have hb11 := rbit_c v 11 (by decide)
  generalize (Go.bits .and .u64 (shr .u64 v 12) 1 == 1) = b12 at hz hb12
  generalize (Go.bits .and .u64 (shr .u64 v 11) 1 == 1) = b11 at hz hb11
  clear hcond
  have HB12 := Lib.hid hb12; have HB11 := Lib.hid hb11
  clear hb12 hb11
  cases b12
  · skip
    have hz1 : h.set 38 (putV (h.x 38) 824641984938 v) = z := hz
    have HZ := Lib.hid hz1
    clear hz hz1
    have hu25 := Tryd.underlying25; have hu27 := Tryd.underlying27
    go_enter Tryd.func20, Tryd.ntmps20
    go_upto_region 1 with (first | ((with_reducible refine gate_dst (N := 4) rfl ?_); refine box_event ?hg (N := 4) ?hd (cs := h.cs) (t := 25) ?hr ?_; (case hd => rfl); (case hg => rfl); (case hr => first | (go_simp; done) | (go_simp; rfl)); intro ga hg w_1 H1 hb; have hB_2 := Lib.hid (below_step (Below.refl w.heap.size w) hb); have G_ga := Lib.hid (show w.heap.size ≤ ga by rw [hg]; exact ((Below.refl w.heap.size w)).size); have K_ga := Lib.hid (show Hb w_1 ga h from H1); clear hg hb H1) | ((with_reducible refine gate_dst (N := 5) rfl ?_); refine box_event ?hg (N := 5) ?hd (cs := #[.bool la, .bool lb, .bool lc, .bool ld, .int .u64 lg, .int .u64 lt]) (t := 27) ?hr ?_; (case hd => rfl); (case hg => rfl); (case hr => first | (go_simp; done) | (go_simp; rfl)); intro gt hg w_3 H1 hb; have hB_4 := Lib.hid (below_step hB_2.out hb); have G_gt := Lib.hid (show w.heap.size ≤ gt by rw [hg]; exact (hB_2.out).size); have N_ga_gt := Lib.hid (show ga ≠ gt by rw [hg]; exact Nat.ne_of_lt (K_ga.out.lt)); replace K_ga := Lib.hid (K_ga.out.below hb); have K_gt := Lib.hid (show w_3.heap[gt]? = some (.cells #[.bool la, .bool lb, .bool lc, .bool ld, .int .u64 lg, .int .u64 lt] 27 (0, 0)) from H1); clear hg hb H1 hB_2) | ((with_reducible refine gate_dst (N := 8) rfl ?_); refine box_event ?hg (N := 8) ?hd (cs := Ht.zero.cs) (t := 25) ?hr ?_; (case hd => rfl); (case hg => rfl); (case hr => first | (go_simp; done) | (go_simp; rfl)); intro gr hg w_5 H1 hb; have hB_6 := Lib.hid (below_step hB_4.out hb); have G_gr := Lib.hid (show w.heap.size ≤ gr by rw [hg]; exact (hB_4.out).size); have N_ga_gr := Lib.hid (show ga ≠ gr by rw [hg]; exact Nat.ne_of_lt (K_ga.out.lt)); have N_gt_gr := Lib.hid (show gt ≠ gr by rw [hg]; exact Nat.ne_of_lt (blk_lt K_gt.out)); replace K_ga := Lib.hid (K_ga.out.below hb); replace K_gt := Lib.hid (blk_below K_gt.out hb); have K_gr := Lib.hid (show Hb w_5 gr Ht.zero from H1); clear hg hb H1 hB_4; clear hu25 hu27))
    go_wp2_with (first | ((with_reducible refine gate_dst (N := 9) rfl ?_); (first | (refine gate_guard (by kernel_rfl) ?_) | skip); refine Kd.event_run rfl (v := .agg (h).cs) (w1 := w_5) ?hb ?_; (case hb => exact exec_load_hart rfl rfl K_ga.out)))
    refine (HM.out _).mono ?_
    rintro e_7 w_8 ⟨rfl, hb⟩
    have hB_9 := Lib.hid (below_step hB_6.out hb)
    replace K_ga := Lib.hid (K_ga.out.below hb)
    replace K_gr := Lib.hid (K_gr.out.below hb)
    clear hb hB_6
    have c_ga_38 := K_ga.out.u 38 rfl; have f_ga_38 := K_ga.out.fr 38
    go_wp2_with fail
    refine (HB12.out _).mono ?_
    rintro e3 w3 ⟨rfl, n_, e3⟩
    clear c_ga_38 f_ga_38
    replace K_ga := Lib.hid (Hb.of e3.symm (K_ga.out.drewN n_))
    replace K_gr := Lib.hid (Hb.of e3.symm (K_gr.out.drewN n_))
    have hB_10 := Lib.hid (Below_of e3.symm (pw_below_drewN hB_9.out n_))
    clear e3 hB_9
    have c_ga_38 := K_ga.out.u 38 rfl; have f_ga_38 := K_ga.out.fr 38
    go_wp2_with fail
    refine (HPUT.out (h.x 38) 824641984938 (HWF.out 38) ⟨by decide, by decide⟩ _).mono ?_
    rintro e5 w5 ⟨rfl, n_, e5⟩
    clear c_ga_38 f_ga_38
    replace K_ga := Lib.hid (Hb.of e5.symm (K_ga.out.drewN n_))
    replace K_gr := Lib.hid (Hb.of e5.symm (K_gr.out.drewN n_))
    have hB_11 := Lib.hid (Below_of e5.symm (pw_below_drewN hB_10.out n_))
    clear e5 hB_10
    have c_ga_38 := K_ga.out.u 38 rfl; have f_ga_38 := K_ga.out.fr 38
    go_upto_region 100 with (fail)
    refine wp_region_list ?_
    refine load_hart (h := _) rfl (.tmp 4) rfl ga rfl (by repeat (with_reducible first | exact K_ga.out | apply Hb.put | apply Hb.putP | apply Hb.putV | apply Hb.putW | apply Hb.putH | apply Hb.far N_ga_gr.out | apply Hb.drewN | apply Hb.drew)) ?_
    refine store_hart rfl (.tmp 8) (.tmp 324) rfl gr _ rfl rfl Ht.zero (by repeat (with_reducible first | exact K_gr.out | apply Hb.put | apply Hb.putP | apply Hb.putV | apply Hb.putW | apply Hb.putH | apply Hb.far (Ne.symm N_ga_gr.out) | apply Hb.drewN | apply Hb.drew)) ?_
    go_wp2
    refine bodyPost_ret (results_cell_row rfl _ _ gr 25 _ (0, 0) _ rfl (Hb.putAll _ (by repeat (with_reducible first | exact K_gr.out | apply Hb.put | apply Hb.putP | apply Hb.putV | apply Hb.putW | apply Hb.putH | apply Hb.far (Ne.symm N_ga_gr.out) | apply Hb.drewN | apply Hb.drew))) Tryd.underlying25 rfl (by rw [Ht.size]; exact hartSize)) rfl ?_
    exact ⟨by first | (rw [← HZ.out]; done) | (rw [← HZ.out]; rfl), setCells_below G_gr.out _ _ _ (by repeat (first | (with_reducible first | exact hB_11.out | apply pw_below_drewN | apply below_drew1 | refine below_set ?_ G_ga.out | refine below_set ?_ G_gr.out) | exact hB_11.out))⟩
  · cases b11
    · skip
      have hz1 : h.set 38 (putV (h.x 38) 824641978794 v) = z := hz
      have HZ := Lib.hid hz1
      clear hz hz1
      have hu25 := Tryd.underlying25; have hu27 := Tryd.underlying27
      go_enter Tryd.func20, Tryd.ntmps20
      go_upto_region 1 with (first | ((with_reducible refine gate_dst (N := 4) rfl ?_); refine box_event ?hg (N := 4) ?hd (cs := h.cs) (t := 25) ?hr ?_; (case hd => rfl); (case hg => rfl); (case hr => first | (go_simp; done) | (go_simp; rfl)); intro ga hg w_1 H1 hb; have hB_2 := Lib.hid (below_step (Below.refl w.heap.size w) hb); have G_ga := Lib.hid (show w.heap.size ≤ ga by rw [hg]; exact ((Below.refl w.heap.size w)).size); have K_ga := Lib.hid (show Hb w_1 ga h from H1); clear hg hb H1) | ((with_reducible refine gate_dst (N := 5) rfl ?_); refine box_event ?hg (N := 5) ?hd (cs := #[.bool la, .bool lb, .bool lc, .bool ld, .int .u64 lg, .int .u64 lt]) (t := 27) ?hr ?_; (case hd => rfl); (case hg => rfl); (case hr => first | (go_simp; done) | (go_simp; rfl)); intro gt hg w_3 H1 hb; have hB_4 := Lib.hid (below_step hB_2.out hb); have G_gt := Lib.hid (show w.heap.size ≤ gt by rw [hg]; exact (hB_2.out).size); have N_ga_gt := Lib.hid (show ga ≠ gt by rw [hg]; exact Nat.ne_of_lt (K_ga.out.lt)); replace K_ga := Lib.hid (K_ga.out.below hb); have K_gt := Lib.hid (show w_3.heap[gt]? = some (.cells #[.bool la, .bool lb, .bool lc, .bool ld, .int .u64 lg, .int .u64 lt] 27 (0, 0)) from H1); clear hg hb H1 hB_2) | ((with_reducible refine gate_dst (N := 8) rfl ?_); refine box_event ?hg (N := 8) ?hd (cs := Ht.zero.cs) (t := 25) ?hr ?_; (case hd => rfl); (case hg => rfl); (case hr => first | (go_simp; done) | (go_simp; rfl)); intro gr hg w_5 H1 hb; have hB_6 := Lib.hid (below_step hB_4.out hb); have G_gr := Lib.hid (show w.heap.size ≤ gr by rw [hg]; exact (hB_4.out).size); have N_ga_gr := Lib.hid (show ga ≠ gr by rw [hg]; exact Nat.ne_of_lt (K_ga.out.lt)); have N_gt_gr := Lib.hid (show gt ≠ gr by rw [hg]; exact Nat.ne_of_lt (blk_lt K_gt.out)); replace K_ga := Lib.hid (K_ga.out.below hb); replace K_gt := Lib.hid (blk_below K_gt.out hb); have K_gr := Lib.hid (show Hb w_5 gr Ht.zero from H1); clear hg hb H1 hB_4; clear hu25 hu27))
      go_wp2_with (first | ((with_reducible refine gate_dst (N := 9) rfl ?_); (first | (refine gate_guard (by kernel_rfl) ?_) | skip); refine Kd.event_run rfl (v := .agg (h).cs) (w1 := w_5) ?hb ?_; (case hb => exact exec_load_hart rfl rfl K_ga.out)))
      refine (HM.out _).mono ?_
      rintro e_7 w_8 ⟨rfl, hb⟩
      have hB_9 := Lib.hid (below_step hB_6.out hb)
      replace K_ga := Lib.hid (K_ga.out.below hb)
      replace K_gr := Lib.hid (K_gr.out.below hb)
      clear hb hB_6
      have c_ga_38 := K_ga.out.u 38 rfl; have f_ga_38 := K_ga.out.fr 38
      go_wp2_with fail
      refine (HB12.out _).mono ?_
      rintro e3 w3 ⟨rfl, n_, e3⟩
      clear c_ga_38 f_ga_38
      replace K_ga := Lib.hid (Hb.of e3.symm (K_ga.out.drewN n_))
      replace K_gr := Lib.hid (Hb.of e3.symm (K_gr.out.drewN n_))
      have hB_10 := Lib.hid (Below_of e3.symm (pw_below_drewN hB_9.out n_))
      clear e3 hB_9
      have c_ga_38 := K_ga.out.u 38 rfl; have f_ga_38 := K_ga.out.fr 38
      go_wp2_with fail
      refine (HB11.out _).mono ?_
      rintro e4 w4 ⟨rfl, n_, e4⟩
      clear c_ga_38 f_ga_38
      replace K_ga := Lib.hid (Hb.of e4.symm (K_ga.out.drewN n_))
      replace K_gr := Lib.hid (Hb.of e4.symm (K_gr.out.drewN n_))
      have hB_11 := Lib.hid (Below_of e4.symm (pw_below_drewN hB_10.out n_))
      clear e4 hB_10
      have c_ga_38 := K_ga.out.u 38 rfl; have f_ga_38 := K_ga.out.fr 38
      go_wp2_with fail
      refine (HPUT.out (h.x 38) 824641978794 (HWF.out 38) ⟨by decide, by decide⟩ _).mono ?_
      rintro e5 w5 ⟨rfl, n_, e5⟩
      clear c_ga_38 f_ga_38
      replace K_ga := Lib.hid (Hb.of e5.symm (K_ga.out.drewN n_))
      replace K_gr := Lib.hid (Hb.of e5.symm (K_gr.out.drewN n_))
      have hB_12 := Lib.hid (Below_of e5.symm (pw_below_drewN hB_11.out n_))
      clear e5 hB_11
      have c_ga_38 := K_ga.out.u 38 rfl; have f_ga_38 := K_ga.out.fr 38
      go_upto_region 100 with (fail)
      refine wp_region_list ?_
      refine load_hart (h := _) rfl (.tmp 4) rfl ga rfl (by repeat (with_reducible first | exact K_ga.out | apply Hb.put | apply Hb.putP | apply Hb.putV | apply Hb.putW | apply Hb.putH | apply Hb.far N_ga_gr.out | apply Hb.drewN | apply Hb.drew)) ?_
      refine store_hart rfl (.tmp 8) (.tmp 324) rfl gr _ rfl rfl Ht.zero (by repeat (with_reducible first | exact K_gr.out | apply Hb.put | apply Hb.putP | apply Hb.putV | apply Hb.putW | apply Hb.putH | apply Hb.far (Ne.symm N_ga_gr.out) | apply Hb.drewN | apply Hb.drew)) ?_
      go_wp2
      refine bodyPost_ret (results_cell_row rfl _ _ gr 25 _ (0, 0) _ rfl (Hb.putAll _ (by repeat (with_reducible first | exact K_gr.out | apply Hb.put | apply Hb.putP | apply Hb.putV | apply Hb.putW | apply Hb.putH | apply Hb.far (Ne.symm N_ga_gr.out) | apply Hb.drewN | apply Hb.drew))) Tryd.underlying25 rfl (by rw [Ht.size]; exact hartSize)) rfl ?_
      exact ⟨by first | (rw [← HZ.out]; done) | (rw [← HZ.out]; rfl), setCells_below G_gr.out _ _ _ (by repeat (first | (with_reducible first | exact hB_12.out | apply pw_below_drewN | apply below_drew1 | refine below_set ?_ G_ga.out | refine below_set ?_ G_gr.out) | exact hB_12.out))⟩
    · skip
      have hz1 : h.set 38 (putV (h.x 38) 824641984938 v) = z := hz
      have HZ := Lib.hid hz1
      clear hz hz1
      have hu25 := Tryd.underlying25; have hu27 := Tryd.underlying27
      go_enter Tryd.func20, Tryd.ntmps20
      go_upto_region 1 with (first | ((with_reducible refine gate_dst (N := 4) rfl ?_); refine box_event ?hg (N := 4) ?hd (cs := h.cs) (t := 25) ?hr ?_; (case hd => rfl); (case hg => rfl); (case hr => first | (go_simp; done) | (go_simp; rfl)); intro ga hg w_1 H1 hb; have hB_2 := Lib.hid (below_step (Below.refl w.heap.size w) hb); have G_ga := Lib.hid (show w.heap.size ≤ ga by rw [hg]; exact ((Below.refl w.heap.size w)).size); have K_ga := Lib.hid (show Hb w_1 ga h from H1); clear hg hb H1) | ((with_reducible refine gate_dst (N := 5) rfl ?_); refine box_event ?hg (N := 5) ?hd (cs := #[.bool la, .bool lb, .bool lc, .bool ld, .int .u64 lg, .int .u64 lt]) (t := 27) ?hr ?_; (case hd => rfl); (case hg => rfl); (case hr => first | (go_simp; done) | (go_simp; rfl)); intro gt hg w_3 H1 hb; have hB_4 := Lib.hid (below_step hB_2.out hb); have G_gt := Lib.hid (show w.heap.size ≤ gt by rw [hg]; exact (hB_2.out).size); have N_ga_gt := Lib.hid (show ga ≠ gt by rw [hg]; exact Nat.ne_of_lt (K_ga.out.lt)); replace K_ga := Lib.hid (K_ga.out.below hb); have K_gt := Lib.hid (show w_3.heap[gt]? = some (.cells #[.bool la, .bool lb, .bool lc, .bool ld, .int .u64 lg, .int .u64 lt] 27 (0, 0)) from H1); clear hg hb H1 hB_2) | ((with_reducible refine gate_dst (N := 8) rfl ?_); refine box_event ?hg (N := 8) ?hd (cs := Ht.zero.cs) (t := 25) ?hr ?_; (case hd => rfl); (case hg => rfl); (case hr => first | (go_simp; done) | (go_simp; rfl)); intro gr hg w_5 H1 hb; have hB_6 := Lib.hid (below_step hB_4.out hb); have G_gr := Lib.hid (show w.heap.size ≤ gr by rw [hg]; exact (hB_4.out).size); have N_ga_gr := Lib.hid (show ga ≠ gr by rw [hg]; exact Nat.ne_of_lt (K_ga.out.lt)); have N_gt_gr := Lib.hid (show gt ≠ gr by rw [hg]; exact Nat.ne_of_lt (blk_lt K_gt.out)); replace K_ga := Lib.hid (K_ga.out.below hb); replace K_gt := Lib.hid (blk_below K_gt.out hb); have K_gr := Lib.hid (show Hb w_5 gr Ht.zero from H1); clear hg hb H1 hB_4; clear hu25 hu27))
      go_wp2_with (first | ((with_reducible refine gate_dst (N := 9) rfl ?_); (first | (refine gate_guard (by kernel_rfl) ?_) | skip); refine Kd.event_run rfl (v := .agg (h).cs) (w1 := w_5) ?hb ?_; (case hb => exact exec_load_hart rfl rfl K_ga.out)))
      refine (HM.out _).mono ?_
      rintro e_7 w_8 ⟨rfl, hb⟩
      have hB_9 := Lib.hid (below_step hB_6.out hb)
      replace K_ga := Lib.hid (K_ga.out.below hb)
      replace K_gr := Lib.hid (K_gr.out.below hb)
      clear hb hB_6
      have c_ga_38 := K_ga.out.u 38 rfl; have f_ga_38 := K_ga.out.fr 38
      go_wp2_with fail
      refine (HB12.out _).mono ?_
      rintro e3 w3 ⟨rfl, n_, e3⟩
      clear c_ga_38 f_ga_38
      replace K_ga := Lib.hid (Hb.of e3.symm (K_ga.out.drewN n_))
      replace K_gr := Lib.hid (Hb.of e3.symm (K_gr.out.drewN n_))
      have hB_10 := Lib.hid (Below_of e3.symm (pw_below_drewN hB_9.out n_))
      clear e3 hB_9
      have c_ga_38 := K_ga.out.u 38 rfl; have f_ga_38 := K_ga.out.fr 38
      go_wp2_with fail
      refine (HB11.out _).mono ?_
      rintro e4 w4 ⟨rfl, n_, e4⟩
      clear c_ga_38 f_ga_38
      replace K_ga := Lib.hid (Hb.of e4.symm (K_ga.out.drewN n_))
      replace K_gr := Lib.hid (Hb.of e4.symm (K_gr.out.drewN n_))
      have hB_11 := Lib.hid (Below_of e4.symm (pw_below_drewN hB_10.out n_))
      clear e4 hB_10
      have c_ga_38 := K_ga.out.u 38 rfl; have f_ga_38 := K_ga.out.fr 38
      go_wp2_with fail
      refine (HPUT.out (h.x 38) 824641984938 (HWF.out 38) ⟨by decide, by decide⟩ _).mono ?_
      rintro e5 w5 ⟨rfl, n_, e5⟩
      clear c_ga_38 f_ga_38
      replace K_ga := Lib.hid (Hb.of e5.symm (K_ga.out.drewN n_))
      replace K_gr := Lib.hid (Hb.of e5.symm (K_gr.out.drewN n_))
      have hB_12 := Lib.hid (Below_of e5.symm (pw_below_drewN hB_11.out n_))
      clear e5 hB_11
      have c_ga_38 := K_ga.out.u 38 rfl; have f_ga_38 := K_ga.out.fr 38
      go_upto_region 100 with (fail)
      refine wp_region_list ?_
      refine load_hart (h := _) rfl (.tmp 4) rfl ga rfl (by repeat (with_reducible first | exact K_ga.out | apply Hb.put | apply Hb.putP | apply Hb.putV | apply Hb.putW | apply Hb.putH | apply Hb.far N_ga_gr.out | apply Hb.drewN | apply Hb.drew)) ?_
      refine store_hart rfl (.tmp 8) (.tmp 324) rfl gr _ rfl rfl Ht.zero (by repeat (with_reducible first | exact K_gr.out | apply Hb.put | apply Hb.putP | apply Hb.putV | apply Hb.putW | apply Hb.putH | apply Hb.far (Ne.symm N_ga_gr.out) | apply Hb.drewN | apply Hb.drew)) ?_
      go_wp2
      refine bodyPost_ret (results_cell_row rfl _ _ gr 25 _ (0, 0) _ rfl (Hb.putAll _ (by repeat (with_reducible first | exact K_gr.out | apply Hb.put | apply Hb.putP | apply Hb.putV | apply Hb.putW | apply Hb.putH | apply Hb.far (Ne.symm N_ga_gr.out) | apply Hb.drewN | apply Hb.drew))) Tryd.underlying25 rfl (by rw [Ht.size]; exact hartSize)) rfl ?_
      exact ⟨by first | (rw [← HZ.out]; done) | (rw [← HZ.out]; rfl), setCells_below G_gr.out _ _ _ (by repeat (first | (with_reducible first | exact hB_12.out | apply pw_below_drewN | apply below_drew1 | refine below_set ?_ G_ga.out | refine below_set ?_ G_gr.out) | exact hB_12.out))⟩
set_option maxHeartbeats 16000000 in
set_option maxRecDepth 100000 in
theorem rw_770 (h : Ht) (hw : h.wf) (la lb lc ld : Bool) (lg lt : Int) (no v : Int) (hv : 0 ≤ v ∧ v < 18446744073709551616) (w : World) (hM : meantV h.v no = 770) : Calls Tryd.prog 20 #[.agg h.cs, .agg #[.bool la, .bool lb, .bool lc, .bool ld, .int .u64 lg, .int .u64 lt], .int .i64 no, .int .u64 v] w fun e w' => e = .returned (.agg (writeV h no v).cs) ∧ Below w.heap.size w w' := by
  have HM := Lib.hid (rmeant_c h no)
  have HPUT := Lib.hid (fun (a m : Int) (ha : 0 ≤ a ∧ a < 18446744073709551616) (hm : 0 ≤ m ∧ m < 18446744073709551616) => rput_c ha hm hv)
  have HPUT2 := Lib.hid (fun (a m : Int) (ha : 0 ≤ a ∧ a < 18446744073709551616) (hm : 0 ≤ m ∧ m < 18446744073709551616) => rput_c ha hm (shl2_rng v))
  have HWF := Lib.hid hw.1; have HV := Lib.hid hv
  obtain ⟨z, hz⟩ : ∃ z, writeV h no v = z := ⟨_, rfl⟩
  rw [hz]
  unfold writeV at hz
  clear hw hv
  rw [hM] at HM hz
  clear hM
  have hz1 : h.set 39 (putV (h.x 39) 15775743 v) = z := (wm_770 h v).symm.trans hz
  have HZ := Lib.hid hz1
  clear hz hz1
  have hu25 := Tryd.underlying25; have hu27 := Tryd.underlying27
  go_enter Tryd.func20, Tryd.ntmps20
  go_upto_region 1 with (first | ((with_reducible refine gate_dst (N := 4) rfl ?_); refine box_event ?hg (N := 4) ?hd (cs := h.cs) (t := 25) ?hr ?_; (case hd => rfl); (case hg => rfl); (case hr => first | (go_simp; done) | (go_simp; rfl)); intro ga hg w_1 H1 hb; have hB_2 := Lib.hid (below_step (Below.refl w.heap.size w) hb); have G_ga := Lib.hid (show w.heap.size ≤ ga by rw [hg]; exact ((Below.refl w.heap.size w)).size); have K_ga := Lib.hid (show Hb w_1 ga h from H1); clear hg hb H1) | ((with_reducible refine gate_dst (N := 5) rfl ?_); refine box_event ?hg (N := 5) ?hd (cs := #[.bool la, .bool lb, .bool lc, .bool ld, .int .u64 lg, .int .u64 lt]) (t := 27) ?hr ?_; (case hd => rfl); (case hg => rfl); (case hr => first | (go_simp; done) | (go_simp; rfl)); intro gt hg w_3 H1 hb; have hB_4 := Lib.hid (below_step hB_2.out hb); have G_gt := Lib.hid (show w.heap.size ≤ gt by rw [hg]; exact (hB_2.out).size); have N_ga_gt := Lib.hid (show ga ≠ gt by rw [hg]; exact Nat.ne_of_lt (K_ga.out.lt)); replace K_ga := Lib.hid (K_ga.out.below hb); have K_gt := Lib.hid (show w_3.heap[gt]? = some (.cells #[.bool la, .bool lb, .bool lc, .bool ld, .int .u64 lg, .int .u64 lt] 27 (0, 0)) from H1); clear hg hb H1 hB_2) | ((with_reducible refine gate_dst (N := 8) rfl ?_); refine box_event ?hg (N := 8) ?hd (cs := Ht.zero.cs) (t := 25) ?hr ?_; (case hd => rfl); (case hg => rfl); (case hr => first | (go_simp; done) | (go_simp; rfl)); intro gr hg w_5 H1 hb; have hB_6 := Lib.hid (below_step hB_4.out hb); have G_gr := Lib.hid (show w.heap.size ≤ gr by rw [hg]; exact (hB_4.out).size); have N_ga_gr := Lib.hid (show ga ≠ gr by rw [hg]; exact Nat.ne_of_lt (K_ga.out.lt)); have N_gt_gr := Lib.hid (show gt ≠ gr by rw [hg]; exact Nat.ne_of_lt (blk_lt K_gt.out)); replace K_ga := Lib.hid (K_ga.out.below hb); replace K_gt := Lib.hid (blk_below K_gt.out hb); have K_gr := Lib.hid (show Hb w_5 gr Ht.zero from H1); clear hg hb H1 hB_4; clear hu25 hu27))
  go_wp2_with (first | ((with_reducible refine gate_dst (N := 9) rfl ?_); (first | (refine gate_guard (by kernel_rfl) ?_) | skip); refine Kd.event_run rfl (v := .agg (h).cs) (w1 := w_5) ?hb ?_; (case hb => exact exec_load_hart rfl rfl K_ga.out)))
  refine (HM.out _).mono ?_
  rintro e_7 w_8 ⟨rfl, hb⟩
  have hB_9 := Lib.hid (below_step hB_6.out hb)
  replace K_ga := Lib.hid (K_ga.out.below hb)
  replace K_gr := Lib.hid (K_gr.out.below hb)
  clear hb hB_6
  have c_ga_39 := K_ga.out.u 39 rfl; have f_ga_39 := K_ga.out.fr 39
  go_wp2_with fail
  refine (HPUT.out (h.x 39) 15775743 (HWF.out 39) ⟨by decide, by decide⟩ _).mono ?_
  rintro e3 w3 ⟨rfl, n_, e3⟩
  clear c_ga_39 f_ga_39
  replace K_ga := Lib.hid (Hb.of e3.symm (K_ga.out.drewN n_))
  replace K_gr := Lib.hid (Hb.of e3.symm (K_gr.out.drewN n_))
  have hB_10 := Lib.hid (Below_of e3.symm (pw_below_drewN hB_9.out n_))
  clear e3 hB_9
  have c_ga_39 := K_ga.out.u 39 rfl; have f_ga_39 := K_ga.out.fr 39
  go_upto_region 100 with (fail)
  refine wp_region_list ?_
  refine load_hart (h := _) rfl (.tmp 4) rfl ga rfl (by repeat (with_reducible first | exact K_ga.out | apply Hb.put | apply Hb.putP | apply Hb.putV | apply Hb.putW | apply Hb.putH | apply Hb.far N_ga_gr.out | apply Hb.drewN | apply Hb.drew)) ?_
  refine store_hart rfl (.tmp 8) (.tmp 324) rfl gr _ rfl rfl Ht.zero (by repeat (with_reducible first | exact K_gr.out | apply Hb.put | apply Hb.putP | apply Hb.putV | apply Hb.putW | apply Hb.putH | apply Hb.far (Ne.symm N_ga_gr.out) | apply Hb.drewN | apply Hb.drew)) ?_
  go_wp2
  refine bodyPost_ret (results_cell_row rfl _ _ gr 25 _ (0, 0) _ rfl (Hb.putAll _ (by repeat (with_reducible first | exact K_gr.out | apply Hb.put | apply Hb.putP | apply Hb.putV | apply Hb.putW | apply Hb.putH | apply Hb.far (Ne.symm N_ga_gr.out) | apply Hb.drewN | apply Hb.drew))) Tryd.underlying25 rfl (by rw [Ht.size]; exact hartSize)) rfl ?_
  exact ⟨by first | (rw [← HZ.out]; done) | (rw [← HZ.out]; rfl), setCells_below G_gr.out _ _ _ (by repeat (first | (with_reducible first | exact hB_10.out | apply pw_below_drewN | apply below_drew1 | refine below_set ?_ G_ga.out | refine below_set ?_ G_gr.out) | exact hB_10.out))⟩
set_option maxHeartbeats 16000000 in
set_option maxRecDepth 100000 in
theorem rw_771 (h : Ht) (hw : h.wf) (la lb lc ld : Bool) (lg lt : Int) (no v : Int) (hv : 0 ≤ v ∧ v < 18446744073709551616) (w : World) (hM : meantV h.v no = 771) : Calls Tryd.prog 20 #[.agg h.cs, .agg #[.bool la, .bool lb, .bool lc, .bool ld, .int .u64 lg, .int .u64 lt], .int .i64 no, .int .u64 v] w fun e w' => e = .returned (.agg (writeV h no v).cs) ∧ Below w.heap.size w w' := by
  have HM := Lib.hid (rmeant_c h no)
  have HPUT := Lib.hid (fun (a m : Int) (ha : 0 ≤ a ∧ a < 18446744073709551616) (hm : 0 ≤ m ∧ m < 18446744073709551616) => rput_c ha hm hv)
  have HPUT2 := Lib.hid (fun (a m : Int) (ha : 0 ≤ a ∧ a < 18446744073709551616) (hm : 0 ≤ m ∧ m < 18446744073709551616) => rput_c ha hm (shl2_rng v))
  have HWF := Lib.hid hw.1; have HV := Lib.hid hv
  obtain ⟨z, hz⟩ : ∃ z, writeV h no v = z := ⟨_, rfl⟩
  rw [hz]
  unfold writeV at hz
  clear hw hv
  rw [hM] at HM hz
  clear hM
  have hz1 : h.set 40 (putV (h.x 40) 546 v) = z := (wm_771 h v).symm.trans hz
  have HZ := Lib.hid hz1
  clear hz hz1
  have hu25 := Tryd.underlying25; have hu27 := Tryd.underlying27
  go_enter Tryd.func20, Tryd.ntmps20
  go_upto_region 1 with (first | ((with_reducible refine gate_dst (N := 4) rfl ?_); refine box_event ?hg (N := 4) ?hd (cs := h.cs) (t := 25) ?hr ?_; (case hd => rfl); (case hg => rfl); (case hr => first | (go_simp; done) | (go_simp; rfl)); intro ga hg w_1 H1 hb; have hB_2 := Lib.hid (below_step (Below.refl w.heap.size w) hb); have G_ga := Lib.hid (show w.heap.size ≤ ga by rw [hg]; exact ((Below.refl w.heap.size w)).size); have K_ga := Lib.hid (show Hb w_1 ga h from H1); clear hg hb H1) | ((with_reducible refine gate_dst (N := 5) rfl ?_); refine box_event ?hg (N := 5) ?hd (cs := #[.bool la, .bool lb, .bool lc, .bool ld, .int .u64 lg, .int .u64 lt]) (t := 27) ?hr ?_; (case hd => rfl); (case hg => rfl); (case hr => first | (go_simp; done) | (go_simp; rfl)); intro gt hg w_3 H1 hb; have hB_4 := Lib.hid (below_step hB_2.out hb); have G_gt := Lib.hid (show w.heap.size ≤ gt by rw [hg]; exact (hB_2.out).size); have N_ga_gt := Lib.hid (show ga ≠ gt by rw [hg]; exact Nat.ne_of_lt (K_ga.out.lt)); replace K_ga := Lib.hid (K_ga.out.below hb); have K_gt := Lib.hid (show w_3.heap[gt]? = some (.cells #[.bool la, .bool lb, .bool lc, .bool ld, .int .u64 lg, .int .u64 lt] 27 (0, 0)) from H1); clear hg hb H1 hB_2) | ((with_reducible refine gate_dst (N := 8) rfl ?_); refine box_event ?hg (N := 8) ?hd (cs := Ht.zero.cs) (t := 25) ?hr ?_; (case hd => rfl); (case hg => rfl); (case hr => first | (go_simp; done) | (go_simp; rfl)); intro gr hg w_5 H1 hb; have hB_6 := Lib.hid (below_step hB_4.out hb); have G_gr := Lib.hid (show w.heap.size ≤ gr by rw [hg]; exact (hB_4.out).size); have N_ga_gr := Lib.hid (show ga ≠ gr by rw [hg]; exact Nat.ne_of_lt (K_ga.out.lt)); have N_gt_gr := Lib.hid (show gt ≠ gr by rw [hg]; exact Nat.ne_of_lt (blk_lt K_gt.out)); replace K_ga := Lib.hid (K_ga.out.below hb); replace K_gt := Lib.hid (blk_below K_gt.out hb); have K_gr := Lib.hid (show Hb w_5 gr Ht.zero from H1); clear hg hb H1 hB_4; clear hu25 hu27))
  go_wp2_with (first | ((with_reducible refine gate_dst (N := 9) rfl ?_); (first | (refine gate_guard (by kernel_rfl) ?_) | skip); refine Kd.event_run rfl (v := .agg (h).cs) (w1 := w_5) ?hb ?_; (case hb => exact exec_load_hart rfl rfl K_ga.out)))
  refine (HM.out _).mono ?_
  rintro e_7 w_8 ⟨rfl, hb⟩
  have hB_9 := Lib.hid (below_step hB_6.out hb)
  replace K_ga := Lib.hid (K_ga.out.below hb)
  replace K_gr := Lib.hid (K_gr.out.below hb)
  clear hb hB_6
  have c_ga_40 := K_ga.out.u 40 rfl; have f_ga_40 := K_ga.out.fr 40
  go_wp2_with fail
  refine (HPUT.out (h.x 40) 546 (HWF.out 40) ⟨by decide, by decide⟩ _).mono ?_
  rintro e3 w3 ⟨rfl, n_, e3⟩
  clear c_ga_40 f_ga_40
  replace K_ga := Lib.hid (Hb.of e3.symm (K_ga.out.drewN n_))
  replace K_gr := Lib.hid (Hb.of e3.symm (K_gr.out.drewN n_))
  have hB_10 := Lib.hid (Below_of e3.symm (pw_below_drewN hB_9.out n_))
  clear e3 hB_9
  have c_ga_40 := K_ga.out.u 40 rfl; have f_ga_40 := K_ga.out.fr 40
  go_upto_region 100 with (fail)
  refine wp_region_list ?_
  refine load_hart (h := _) rfl (.tmp 4) rfl ga rfl (by repeat (with_reducible first | exact K_ga.out | apply Hb.put | apply Hb.putP | apply Hb.putV | apply Hb.putW | apply Hb.putH | apply Hb.far N_ga_gr.out | apply Hb.drewN | apply Hb.drew)) ?_
  refine store_hart rfl (.tmp 8) (.tmp 324) rfl gr _ rfl rfl Ht.zero (by repeat (with_reducible first | exact K_gr.out | apply Hb.put | apply Hb.putP | apply Hb.putV | apply Hb.putW | apply Hb.putH | apply Hb.far (Ne.symm N_ga_gr.out) | apply Hb.drewN | apply Hb.drew)) ?_
  go_wp2
  refine bodyPost_ret (results_cell_row rfl _ _ gr 25 _ (0, 0) _ rfl (Hb.putAll _ (by repeat (with_reducible first | exact K_gr.out | apply Hb.put | apply Hb.putP | apply Hb.putV | apply Hb.putW | apply Hb.putH | apply Hb.far (Ne.symm N_ga_gr.out) | apply Hb.drewN | apply Hb.drew))) Tryd.underlying25 rfl (by rw [Ht.size]; exact hartSize)) rfl ?_
  exact ⟨by first | (rw [← HZ.out]; done) | (rw [← HZ.out]; rfl), setCells_below G_gr.out _ _ _ (by repeat (first | (with_reducible first | exact hB_10.out | apply pw_below_drewN | apply below_drew1 | refine below_set ?_ G_ga.out | refine below_set ?_ G_gr.out) | exact hB_10.out))⟩
set_option maxHeartbeats 16000000 in
set_option maxRecDepth 100000 in
theorem rw_772 (h : Ht) (hw : h.wf) (la lb lc ld : Bool) (lg lt : Int) (no v : Int) (hv : 0 ≤ v ∧ v < 18446744073709551616) (w : World) (hM : meantV h.v no = 772) : Calls Tryd.prog 20 #[.agg h.cs, .agg #[.bool la, .bool lb, .bool lc, .bool ld, .int .u64 lg, .int .u64 lt], .int .i64 no, .int .u64 v] w fun e w' => e = .returned (.agg (writeV h no v).cs) ∧ Below w.heap.size w w' := by
  have HM := Lib.hid (rmeant_c h no)
  have HPUT := Lib.hid (fun (a m : Int) (ha : 0 ≤ a ∧ a < 18446744073709551616) (hm : 0 ≤ m ∧ m < 18446744073709551616) => rput_c ha hm hv)
  have HPUT2 := Lib.hid (fun (a m : Int) (ha : 0 ≤ a ∧ a < 18446744073709551616) (hm : 0 ≤ m ∧ m < 18446744073709551616) => rput_c ha hm (shl2_rng v))
  have HWF := Lib.hid hw.1; have HV := Lib.hid hv
  obtain ⟨z, hz⟩ : ∃ z, writeV h no v = z := ⟨_, rfl⟩
  rw [hz]
  unfold writeV at hz
  clear hw hv
  rw [hM] at HM hz
  clear hM
  have hz1 : h.set 41 (putV (h.x 41) 7918 v) = z := (wm_772 h v).symm.trans hz
  have HZ := Lib.hid hz1
  clear hz hz1
  have hu25 := Tryd.underlying25; have hu27 := Tryd.underlying27
  go_enter Tryd.func20, Tryd.ntmps20
  go_upto_region 1 with (first | ((with_reducible refine gate_dst (N := 4) rfl ?_); refine box_event ?hg (N := 4) ?hd (cs := h.cs) (t := 25) ?hr ?_; (case hd => rfl); (case hg => rfl); (case hr => first | (go_simp; done) | (go_simp; rfl)); intro ga hg w_1 H1 hb; have hB_2 := Lib.hid (below_step (Below.refl w.heap.size w) hb); have G_ga := Lib.hid (show w.heap.size ≤ ga by rw [hg]; exact ((Below.refl w.heap.size w)).size); have K_ga := Lib.hid (show Hb w_1 ga h from H1); clear hg hb H1) | ((with_reducible refine gate_dst (N := 5) rfl ?_); refine box_event ?hg (N := 5) ?hd (cs := #[.bool la, .bool lb, .bool lc, .bool ld, .int .u64 lg, .int .u64 lt]) (t := 27) ?hr ?_; (case hd => rfl); (case hg => rfl); (case hr => first | (go_simp; done) | (go_simp; rfl)); intro gt hg w_3 H1 hb; have hB_4 := Lib.hid (below_step hB_2.out hb); have G_gt := Lib.hid (show w.heap.size ≤ gt by rw [hg]; exact (hB_2.out).size); have N_ga_gt := Lib.hid (show ga ≠ gt by rw [hg]; exact Nat.ne_of_lt (K_ga.out.lt)); replace K_ga := Lib.hid (K_ga.out.below hb); have K_gt := Lib.hid (show w_3.heap[gt]? = some (.cells #[.bool la, .bool lb, .bool lc, .bool ld, .int .u64 lg, .int .u64 lt] 27 (0, 0)) from H1); clear hg hb H1 hB_2) | ((with_reducible refine gate_dst (N := 8) rfl ?_); refine box_event ?hg (N := 8) ?hd (cs := Ht.zero.cs) (t := 25) ?hr ?_; (case hd => rfl); (case hg => rfl); (case hr => first | (go_simp; done) | (go_simp; rfl)); intro gr hg w_5 H1 hb; have hB_6 := Lib.hid (below_step hB_4.out hb); have G_gr := Lib.hid (show w.heap.size ≤ gr by rw [hg]; exact (hB_4.out).size); have N_ga_gr := Lib.hid (show ga ≠ gr by rw [hg]; exact Nat.ne_of_lt (K_ga.out.lt)); have N_gt_gr := Lib.hid (show gt ≠ gr by rw [hg]; exact Nat.ne_of_lt (blk_lt K_gt.out)); replace K_ga := Lib.hid (K_ga.out.below hb); replace K_gt := Lib.hid (blk_below K_gt.out hb); have K_gr := Lib.hid (show Hb w_5 gr Ht.zero from H1); clear hg hb H1 hB_4; clear hu25 hu27))
  go_wp2_with (first | ((with_reducible refine gate_dst (N := 9) rfl ?_); (first | (refine gate_guard (by kernel_rfl) ?_) | skip); refine Kd.event_run rfl (v := .agg (h).cs) (w1 := w_5) ?hb ?_; (case hb => exact exec_load_hart rfl rfl K_ga.out)))
  refine (HM.out _).mono ?_
  rintro e_7 w_8 ⟨rfl, hb⟩
  have hB_9 := Lib.hid (below_step hB_6.out hb)
  replace K_ga := Lib.hid (K_ga.out.below hb)
  replace K_gr := Lib.hid (K_gr.out.below hb)
  clear hb hB_6
  have c_ga_41 := K_ga.out.u 41 rfl; have f_ga_41 := K_ga.out.fr 41
  go_wp2_with fail
  refine (HPUT.out (h.x 41) 7918 (HWF.out 41) ⟨by decide, by decide⟩ _).mono ?_
  rintro e3 w3 ⟨rfl, n_, e3⟩
  clear c_ga_41 f_ga_41
  replace K_ga := Lib.hid (Hb.of e3.symm (K_ga.out.drewN n_))
  replace K_gr := Lib.hid (Hb.of e3.symm (K_gr.out.drewN n_))
  have hB_10 := Lib.hid (Below_of e3.symm (pw_below_drewN hB_9.out n_))
  clear e3 hB_9
  have c_ga_41 := K_ga.out.u 41 rfl; have f_ga_41 := K_ga.out.fr 41
  go_upto_region 100 with (fail)
  refine wp_region_list ?_
  refine load_hart (h := _) rfl (.tmp 4) rfl ga rfl (by repeat (with_reducible first | exact K_ga.out | apply Hb.put | apply Hb.putP | apply Hb.putV | apply Hb.putW | apply Hb.putH | apply Hb.far N_ga_gr.out | apply Hb.drewN | apply Hb.drew)) ?_
  refine store_hart rfl (.tmp 8) (.tmp 324) rfl gr _ rfl rfl Ht.zero (by repeat (with_reducible first | exact K_gr.out | apply Hb.put | apply Hb.putP | apply Hb.putV | apply Hb.putW | apply Hb.putH | apply Hb.far (Ne.symm N_ga_gr.out) | apply Hb.drewN | apply Hb.drew)) ?_
  go_wp2
  refine bodyPost_ret (results_cell_row rfl _ _ gr 25 _ (0, 0) _ rfl (Hb.putAll _ (by repeat (with_reducible first | exact K_gr.out | apply Hb.put | apply Hb.putP | apply Hb.putV | apply Hb.putW | apply Hb.putH | apply Hb.far (Ne.symm N_ga_gr.out) | apply Hb.drewN | apply Hb.drew))) Tryd.underlying25 rfl (by rw [Ht.size]; exact hartSize)) rfl ?_
  exact ⟨by first | (rw [← HZ.out]; done) | (rw [← HZ.out]; rfl), setCells_below G_gr.out _ _ _ (by repeat (first | (with_reducible first | exact hB_10.out | apply pw_below_drewN | apply below_drew1 | refine below_set ?_ G_ga.out | refine below_set ?_ G_gr.out) | exact hB_10.out))⟩
end Go.Proofs.YtlopmcakfalkpaaDoor.Hx
