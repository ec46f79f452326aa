/- The hart that took a trap is the document's: of any hart, any trap. -/
import Derived.Test.YtfehchhmghpfpaaHEqs
set_option linter.unusedSimpArgs false
set_option linter.unusedVariables false
namespace Go.Proofs.Ytfehchhmghpfpaa.Hx
open Go.RowKit Go.Proofs.Ytfehchhmghpfpaa.Q Go.Proofs.YtfehchhmghpfpaaW.PrintWords Go.Proofs.YtfehchhmghpfpaaW.PrintLast Go.Proofs.YtfehchhmghpfpaaW.PrintMore Go.Proofs.Ytfehchhmghpfpaa.Bv
theorem splitN_eq {c : Int} (c0 : 0 ≤ c) (c1 : c < 18446744073709551616) : splitN c = c % 9223372036854775808 := by
  obtain ⟨x, rfl⟩ := U_of c0 c1
  unfold splitN
  have h := U_mod_pow x 63 (by decide)
  rw [show (2 : Int) ^ 63 = 9223372036854775808 from rfl] at h
  rw [h, andNot_u64, ofInt_U, show BitVec.ofInt 64 9223372036854775808 = 9223372036854775808#64 from by decide, show ~~~ 9223372036854775808#64 = mk 63 from by decide +kernel]
theorem splitI_U (x : BitVec 64) : splitI (U x) = x.getLsbD 63 := by
  unfold splitI
  rw [and_u64, ofInt_U, show BitVec.ofInt 64 9223372036854775808 = 1#64 <<< 63 from by decide]
  have e : x &&& (1#64 <<< 63) = if x.getLsbD 63 = true then 1#64 <<< 63 else 0#64 := by
    apply BitVec.eq_of_getLsbD_eq; intro i hi
    rw [BitVec.getLsbD_and, one_bit 63 i (by decide)]
    by_cases h : i = 63
    · subst h; cases hx : x.getLsbD 63 <;> simp [hx]
    · cases x.getLsbD 63
      · simp [h]
      · rw [if_pos rfl, one_bit 63 i (by decide)]; simp [h]
  rw [e]
  cases x.getLsbD 63 <;> decide
theorem splitI_eq {c : Int} (c0 : 0 ≤ c) (c1 : c < 18446744073709551616) : splitI c = onV c 63 := by
  obtain ⟨x, rfl⟩ := U_of c0 c1
  rw [splitI_U, ov_63]
theorem splitI_ge {c : Int} (c0 : 0 ≤ c) (c1 : c < 18446744073709551616) : splitI c = decide (9223372036854775808 ≤ c) := by
  obtain ⟨x, rfl⟩ := U_of c0 c1
  rw [splitI_U]
  have h : x.getLsbD 63 = x.msb := by rw [BitVec.msb_eq_getLsbD_last]
  rw [h, BitVec.msb_eq_decide]
  unfold U
  apply decide_eq_decide.2
  constructor <;> intro h <;> omega
theorem toV_eq (h : Ht) {c : Int} (c0 : 0 ≤ c) (c1 : c < 18446744073709551616) : toV h c = rtoV h c := by
  unfold toV rtoV
  rw [splitN_eq c0 c1, splitI_eq c0 c1]
theorem toV_cases (h : Ht) (c : Int) : toV h c = 0 ∨ toV h c = 1 ∨ toV h c = 2 := by
  have h3 : ∀ (p q : Prop) [Decidable p] [Decidable q], (if p then (0 : Int) else if q then 2 else 1) = 0 ∨ (if p then (0 : Int) else if q then 2 else 1) = 1 ∨ (if p then (0 : Int) else if q then 2 else 1) = 2 := by
    intro p q _ _
    by_cases hp : p
    · rw [if_pos hp]; exact Or.inl rfl
    · rw [if_neg hp]
      by_cases hq : q
      · rw [if_pos hq]; exact Or.inr (Or.inr rfl)
      · rw [if_neg hq]; exact Or.inr (Or.inl rfl)
  exact h3 _ _
theorem and_one_U (x : BitVec 64) : (Go.bits .and .u64 (U x) 1 = 1) ↔ onV (U x) 0 = true := by
  unfold onV
  rw [shr_u64, show ((0 : Int)).toNat = 0 from rfl, BitVec.ushiftRight_zero]
  exact beq_iff_eq.symm
theorem and_not3 {t : Int} (t0 : 0 ≤ t) (t1 : t < 18446744073709551616) : Go.bits .andNot .u64 t 3 = t - t % 4 := by
  obtain ⟨x, rfl⟩ := U_of t0 t1
  rw [andNot_u64, ofInt_U, show BitVec.ofInt 64 3 = 3#64 from rfl]
  have e : x &&& ~~~ 3#64 = (x >>> 2) <<< 2 := by
    apply BitVec.eq_of_getLsbD_eq; intro i hi
    have h : ∀ i : Fin 64, (3#64).getLsbD i.val = (decide (i.val < 2)) := by decide
    have h3 := h ⟨i, hi⟩
    simp only at h3
    rw [BitVec.getLsbD_and, BitVec.getLsbD_not, h3, BitVec.getLsbD_shiftLeft, BitVec.getLsbD_ushiftRight]
    by_cases g : i < 2
    · simp [g]
    · rw [show 2 + (i - 2) = i by omega]; simp [g, hi]
  rw [e]
  unfold U
  rw [BitVec.toNat_shiftLeft, BitVec.toNat_ushiftRight, Nat.shiftLeft_eq, Nat.shiftRight_eq_div_pow]
  have := x.isLt
  omega
theorem placeV_eq {t c : Int} (t0 : 0 ≤ t) (t1 : t < 18446744073709551616) (c0 : 0 ≤ c) (c1 : c < 18446744073709551616) : placeV t c = rplaceV t c := by
  have hb := and_not3 t0 t1
  have h1 : (Go.bits .and .u64 t 1 = 1) ↔ onV t 0 = true := by obtain ⟨x, rfl⟩ := U_of t0 t1; exact and_one_U x
  have hw : IntKind.u64.wrap (t - t % 4) = t - t % 4 := by rw [IntKind.wrap_u64]; omega
  unfold placeV rplaceV
  rw [splitI_eq c0 c1, splitN_eq c0 c1, hb, Int.tmod_eq_emod_of_nonneg t0, Int.tmod_eq_emod_of_nonneg c0, hw]
  by_cases g : onV c 63 = true
  · rw [if_pos g, if_pos g]
    by_cases g1 : onV t 0 = true
    · rw [if_pos (h1.2 g1), if_pos g1]
    · rw [if_neg (fun q => g1 (h1.1 q)), if_neg g1]
  · rw [if_neg g, if_neg g]
theorem mpp_bits : ∀ p : Fin 256, IntKind.u64.wrap (IntKind.u64.wrap (Go.bits .and .u8 (p.val : Int) 3) * 2048) = (if (Go.bits .and .u8 (p.val : Int) 1 == 1) = true then 2048 else 0) + (if (Go.bits .and .u8 (p.val : Int) 2 == 2) = true then 4096 else 0) := by decide +kernel
theorem mpp_eq (x : BitVec 64) {p : Int} (p0 : 0 ≤ p) (p1 : p < 256) :
    Go.bits .or .u64 (Go.bits .andNot .u64 (U x) 6144) (IntKind.u64.wrap (IntKind.u64.wrap (Go.bits .and .u8 p 3) * 2048)) = U (bset (bset x 11 (Go.bits .and .u8 p 1 == 1)) 12 (Go.bits .and .u8 p 2 == 2)) := by
  have h := mpp_bits ⟨p.toNat, by omega⟩
  simp only [show ((p.toNat : Nat) : Int) = p by omega] at h
  rw [h]
  generalize (Go.bits .and .u8 p 1 == 1) = b1
  generalize (Go.bits .and .u8 p 2 == 2) = b2
  rw [or_u64, andNot_u64, ofInt_U, ofInt_U, show BitVec.ofInt 64 6144 = 6144#64 from rfl]
  apply bit_ext; intro i hi
  rw [bset_bit _ _ _ (by decide) _ hi, bset_bit _ _ _ (by decide) _ hi, BitVec.getLsbD_or, BitVec.getLsbD_and, BitVec.getLsbD_not]
  have hc : ∀ i : Fin 64, (6144#64).getLsbD i.val = (decide (i.val = 11) || decide (i.val = 12)) := by decide
  have hd : ∀ i : Fin 64, ∀ b1 b2 : Bool, (BitVec.ofInt 64 ((if b1 = true then 2048 else 0) + (if b2 = true then 4096 else 0))).getLsbD i.val = ((b1 && decide (i.val = 11)) || (b2 && decide (i.val = 12))) := by decide +kernel
  have h1 := hc ⟨i, hi⟩; have h2 := hd ⟨i, hi⟩ b1 b2
  simp only at h1 h2
  rw [h1, h2]
  by_cases g1 : i = 11
  · subst g1; cases b1 <;> cases b2 <;> simp
  · by_cases g2 : i = 12
    · subst g2; cases b1 <;> cases b2 <;> simp
    · simp [g1, g2, hi]
theorem statM (x : BitVec 64) (v tg : Bool) {p : Int} (p0 : 0 ≤ p) (p1 : p < 256) :
    setV (setV (Go.bits .or .u64 (Go.bits .andNot .u64 (setV (setV (U x) 7 (onV (U x) 3)) 3 false) 6144) (IntKind.u64.wrap (IntKind.u64.wrap (Go.bits .and .u8 p 3) * 2048))) 39 v) 38 tg
    = withV (withV (withV (withV (withV (withV (U x) 7 (onV (U x) 3)) 3 false) 11 (Go.bits .and .u8 p 1 == 1)) 12 (Go.bits .and .u8 p 2 == 2)) 39 v) 38 tg := by
  rw [sv_7, sv_3, mpp_eq _ p0 p1, sv_39, sv_38, wv_7, wv_3, wv_11, wv_12, wv_39, wv_38]
theorem statT (x : BitVec 64) (b : Bool) : takenV (U x) b = withV (withV (withV (U x) 5 (onV (U x) 1)) 1 false) 8 b := by
  unfold takenV
  rw [sv_5, sv_1, sv_8, wv_5, wv_1, wv_8]
theorem statH (x : BitVec 64) (v b tg : Bool) : setV (setV (if v = true then setV (U x) 8 b else U x) 7 v) 6 tg = withV (if v = true then withV (withV (U x) 7 v) 8 b else withV (U x) 7 v) 6 tg := by
  cases v
  · rw [if_neg (by decide), if_neg (by decide), sv_7, sv_6, wv_7, wv_6]
  · rw [if_pos rfl, if_pos rfl, sv_8, sv_7, sv_6, wv_7, wv_8, wv_6]
    apply bit_ext; intro i hi
    simp only [bset_bit _ _ _ (show 6 < 64 by decide) _ hi, bset_bit _ _ _ (show 7 < 64 by decide) _ hi, bset_bit _ _ _ (show 8 < 64 by decide) _ hi]
    by_cases g6 : i = 6
    · simp [g6]
    · by_cases g7 : i = 7
      · simp [g7]
      · by_cases g8 : i = 8 <;> simp [g6, g7, g8]
theorem guest_eq {c : Int} (c0 : 0 ≤ c) (c1 : c < 18446744073709551616) : guestCause c = rguestCause c := by
  unfold guestCause rguestCause
  rw [splitI_ge c0 c1, splitN_eq c0 c1]
  by_cases g : 9223372036854775808 ≤ c
  · rw [decide_eq_true g, if_pos rfl]
    have e : ∀ k : Int, 0 ≤ k → k < 100 → (c % 9223372036854775808 == k) = (c == 9223372036854775808 + k) := by
      intro k k0 k1
      rw [Bool.eq_iff_iff, beq_iff_eq, beq_iff_eq]
      omega
    rw [e 2 (by decide) (by decide), e 6 (by decide) (by decide), e 10 (by decide) (by decide)]
    rfl
  · rw [decide_eq_false g, if_neg (by decide)]
    have e : ∀ k : Int, 9223372036854775808 ≤ k → (c == k) = false := by
      intro k hk
      rw [beq_eq_false_iff_ne]; omega
    rw [e _ (by decide), e _ (by decide), e _ (by decide)]
    rfl
theorem enter_eq (h : Ht) (hw : h.wf) (ti : Bool) (tc tv tv2 tn : Int) (tg : Bool) (c0 : 0 ≤ tc) (c1 : tc < 18446744073709551616) : enter h ti tc tv tv2 tn tg = renter h ti tc tv tv2 tn tg := by
  unfold enter renter
  rw [← toV_eq h c0 c1]
  cases ti
  · rfl
  rw [if_pos rfl, if_pos rfl]
  simp only
  obtain ⟨s, hs⟩ := U_of (hw.1 38).1 (hw.1 38).2
  obtain ⟨v, hv⟩ := U_of (hw.1 68).1 (hw.1 68).2
  obtain ⟨t, ht⟩ := U_of (hw.1 58).1 (hw.1 58).2
  rcases toV_cases h tc with e | e | e
  · simp only [e, show ((0 : Int) == 0) = true from rfl, show ((1 : Int) == 0) = false from rfl, show ((1 : Int) == 1) = true from rfl, show ((2 : Int) == 0) = false from rfl, show ((2 : Int) == 1) = false from rfl, show ((2 : Int) == 2) = true from rfl, Bool.false_eq_true, if_false, if_true]
    unfold enterM renterM
    rw [placeV_eq (hw.1 43).1 (hw.1 43).2 c0 c1]
    have e2 := statM s h.v tg (hw.1 33).1 hw.2
    rw [← hs] at e2
    simp only
    rw [e2]
  · simp only [e, show ((0 : Int) == 0) = true from rfl, show ((1 : Int) == 0) = false from rfl, show ((1 : Int) == 1) = true from rfl, show ((2 : Int) == 0) = false from rfl, show ((2 : Int) == 1) = false from rfl, show ((2 : Int) == 2) = true from rfl, Bool.false_eq_true, if_false, if_true]
    unfold enterH renterH
    rw [placeV_eq (hw.1 51).1 (hw.1 51).2 c0 c1]
    have e2 := statT s (h.x 33 == 1); have e3 := statH t h.v (h.x 33 == 1) tg
    rw [← hs] at e2; rw [← ht] at e3
    simp only
    rw [e2, e3]
    generalize withV (if h.v = true then withV (withV (h.x 58) 7 h.v) 8 (h.x 33 == 1) else withV (h.x 58) 7 h.v) 6 tg = a58
    generalize withV (withV (withV (h.x 38) 5 (onV (h.x 38) 1)) 1 false) 8 (h.x 33 == 1) = a38
    generalize rplaceV (h.x 51) tc = a0
    generalize setV (h.x 58) 8 (h.x 33 == 1) = b58
    apply Ht.ext'
    · intro i
      by_cases g0 : i = 0
      · subst g0; cases h.v <;> rfl
      by_cases g33 : i = 33
      · subst g33; cases h.v <;> rfl
      by_cases g37 : i = 37
      · subst g37; cases h.v <;> rfl
      by_cases g38 : i = 38
      · subst g38; cases h.v <;> rfl
      by_cases g54 : i = 54
      · subst g54; cases h.v <;> rfl
      by_cases g55 : i = 55
      · subst g55; cases h.v <;> rfl
      by_cases g56 : i = 56
      · subst g56; cases h.v <;> rfl
      by_cases g58 : i = 58
      · subst g58; cases h.v <;> rfl
      by_cases g64 : i = 64
      · subst g64; cases h.v <;> rfl
      by_cases g65 : i = 65
      · subst g65; cases h.v <;> rfl
      cases h.v <;> simp [Ht.set, beqF g0, beqF g33, beqF g37, beqF g38, beqF g54, beqF g55, beqF g56, beqF g58, beqF g64, beqF g65]
    · cases h.v <;> rfl
    · cases h.v <;> rfl
    · cases h.v <;> rfl
  · simp only [e, show ((0 : Int) == 0) = true from rfl, show ((1 : Int) == 0) = false from rfl, show ((1 : Int) == 1) = true from rfl, show ((2 : Int) == 0) = false from rfl, show ((2 : Int) == 1) = false from rfl, show ((2 : Int) == 2) = true from rfl, Bool.false_eq_true, if_false, if_true]
    unfold enterG renterG
    have hg : 0 ≤ guestCause tc ∧ guestCause tc < 18446744073709551616 := by
      have hwr : ∀ a : Int, 0 ≤ IntKind.u64.wrap a ∧ IntKind.u64.wrap a < 18446744073709551616 := by intro a; rw [IntKind.wrap_u64]; omega
      unfold guestCause
      split
      · split
        · exact hwr _
        · split
          · exact hwr _
          · split
            · exact hwr _
            · exact ⟨c0, c1⟩
      · exact ⟨c0, c1⟩
    rw [placeV_eq (hw.1 69).1 (hw.1 69).2 hg.1 hg.2, guest_eq c0 c1]
    have e2 := statT v (h.x 33 == 1)
    rw [← hv] at e2
    simp only
    rw [e2]
    generalize withV (withV (withV (h.x 68) 5 (onV (h.x 68) 1)) 1 false) 8 (h.x 33 == 1) = a68
    generalize rplaceV (h.x 69) (rguestCause tc) = a0
    generalize rguestCause tc = a72
    apply Ht.ext'
    · intro i
      by_cases g0 : i = 0
      · subst g0; rfl
      by_cases g33 : i = 33
      · subst g33; rfl
      by_cases g37 : i = 37
      · subst g37; rfl
      by_cases g68 : i = 68
      · subst g68; rfl
      by_cases g71 : i = 71
      · subst g71; rfl
      by_cases g72 : i = 72
      · subst g72; rfl
      by_cases g73 : i = 73
      · subst g73; rfl
      simp [Ht.set, beqF g0, beqF g33, beqF g37, beqF g68, beqF g71, beqF g72, beqF g73]
    · rfl
    · rfl
    · rfl
end Go.Proofs.Ytfehchhmghpfpaa.Hx
