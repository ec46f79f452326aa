/- The program's and the document's harts of chapter 14 are the same: of whatever hart whose words are words. -/
import Derived.Test.YtfehchhmghpfpaaHBits
import Derived.Test.YtfehchhmghpfpaaHMret
import Derived.Test.YtfehchhmghpfpaaHRMret
import Derived.Test.YtfehchhmghpfpaaHSret
import Derived.Test.YtfehchhmghpfpaaHRSret
import Derived.Test.YtfehchhmghpfpaaHEnter
import Derived.Test.YtfehchhmghpfpaaHREnter
set_option linter.unusedSimpArgs false
set_option linter.unusedVariables false
namespace Go.Proofs.Ytfehchhmghpfpaa.Hx
open Go.RowKit Go.Proofs.Ytfehchhmghpfpaa.Q Go.Proofs.YtfehchhmghpfpaaW.PrintWords Go.Proofs.YtfehchhmghpfpaaW.PrintLast Go.Proofs.YtfehchhmghpfpaaW.PrintMore Go.Proofs.Ytfehchhmghpfpaa.Bv
theorem Ht.ext' {h k : Ht} (hx : ∀ i, h.x i = k.x i) (hv : h.v = k.v) (hw : h.wt = k.wt) (hl : h.hl = k.hl) : h = k := by
  obtain ⟨a, b, c, d⟩ := h; obtain ⟨a', b', c', d'⟩ := k
  simp only at hx hv hw hl
  obtain rfl : a = a' := funext hx
  subst hv hw hl; rfl
theorem mask6144 (x : BitVec 64) : x &&& ~~~ 6144#64 = bset (bset x 11 false) 12 false := by
  apply BitVec.eq_of_getLsbD_eq; intro i hi
  rw [bset_bit _ _ _ (by decide) _ hi, bset_bit _ _ _ (by decide) _ hi, BitVec.getLsbD_and, BitVec.getLsbD_not]
  have h : ∀ i : Fin 64, (6144#64).getLsbD i.val = (decide (i.val = 11) || decide (i.val = 12)) := by decide
  have := h ⟨i, hi⟩
  simp only at this
  rw [this]
  by_cases h1 : i = 11 <;> by_cases h2 : i = 12 <;> simp [h1, h2, hi]
theorem mretTo_eq (x : BitVec 64) : mretTo (U x) = (if x.getLsbD 11 = true then 1 else 0) + (if x.getLsbD 12 = true then 2 else 0) := by
  unfold mretTo
  have h0 := U_div_pow x 11
  rw [show (2 : Int) ^ 11 = 2048 from rfl] at h0
  rw [h0, and_u64, ofInt_U, show BitVec.ofInt 64 3 = 3#64 from rfl]
  have e : (x >>> 11) &&& 3#64 = BitVec.ofNat 64 ((if x.getLsbD 11 = true then 1 else 0) + (if x.getLsbD 12 = true then 2 else 0)) := by
    apply BitVec.eq_of_getLsbD_eq; intro i hi
    rw [BitVec.getLsbD_and, BitVec.getLsbD_ushiftRight]
    have h : ∀ i : Fin 64, (3#64).getLsbD i.val = (decide (i.val = 0) || decide (i.val = 1)) ∧ (0#64).getLsbD i.val = false ∧ (1#64).getLsbD i.val = decide (i.val = 0) ∧ (2#64).getLsbD i.val = decide (i.val = 1) := by decide
    obtain ⟨h3, hz, h1, h2⟩ := h ⟨i, hi⟩
    simp only at h3 hz h1 h2
    have key : (x.getLsbD (11 + i) && (decide (i = 0) || decide (i = 1))) = (if i = 0 then x.getLsbD 11 else if i = 1 then x.getLsbD 12 else false) := by
      by_cases g0 : i = 0
      · subst g0; exact Bool.and_true _
      · by_cases g1 : i = 1
        · subst g1; exact Bool.and_true _
        · rw [decide_eq_false g0, decide_eq_false g1, if_neg g0, if_neg g1]; exact Bool.and_false _
    rw [h3, key]
    clear key h0
    generalize x.getLsbD 11 = a
    generalize x.getLsbD 12 = b
    cases a <;> cases b <;> simp only [Bool.false_eq_true, if_false, if_true, Nat.add_zero, Nat.zero_add]
    · rw [hz]; by_cases g0 : i = 0 <;> by_cases g1 : i = 1 <;> simp [g0, g1]
    · rw [h2]; by_cases g0 : i = 0 <;> by_cases g1 : i = 1 <;> simp [g0, g1] <;> omega
    · rw [h1]; by_cases g0 : i = 0 <;> by_cases g1 : i = 1 <;> simp [g0, g1]
    · rw [show (1 + 2) = 3 from rfl, h3]; by_cases g0 : i = 0 <;> by_cases g1 : i = 1 <;> simp [g0, g1]
  rw [e]
  cases x.getLsbD 11 <;> cases x.getLsbD 12 <;> decide
theorem bit_ext (x y : BitVec 64) (h : ∀ i, i < 64 → x.getLsbD i = y.getLsbD i) : U x = U y := congrArg U (BitVec.eq_of_getLsbD_eq h)
theorem mretS_eq (x : BitVec 64) : mretS (U x) = rmretS (U x) := by
  unfold mretS rmretS
  rw [mretTo_eq, ov_7, ov_11, ov_12]
  simp only [sv_3, wv_3, sv_7, wv_7, andNot_u64, ofInt_U, show BitVec.ofInt 64 6144 = 6144#64 from rfl, mask6144, sv_39, wv_11, wv_12, wv_39, sv_17, wv_17]
  cases x.getLsbD 11 <;> cases x.getLsbD 12 <;> simp
theorem mret_eq (h : Ht) (hw : h.wf) : mret h = rmret h := by
  obtain ⟨s, hs⟩ := U_of (hw.1 38).1 (hw.1 38).2
  have e1 := mretS_eq s
  have e2 := mretTo_eq s
  have e3 := ov_11 s; have e4 := ov_12 s
  rw [← hs] at e1 e2 e3 e4
  unfold mret rmret
  rw [e1, e2, e3, e4]
  apply Ht.ext'
  · intro i
    by_cases h37 : i = 37
    · subst h37; rfl
    by_cases h38 : i = 38
    · subst h38; cases s.getLsbD 11 <;> cases s.getLsbD 12 <;> rfl
    by_cases h33 : i = 33
    · subst h33; cases s.getLsbD 11 <;> cases s.getLsbD 12 <;> rfl
    by_cases h0 : i = 0
    · subst h0; cases s.getLsbD 11 <;> cases s.getLsbD 12 <;> rfl
    cases s.getLsbD 11 <;> cases s.getLsbD 12 <;> simp [Ht.set, beqF h37, beqF h38, beqF h33, beqF h0]
  · cases s.getLsbD 11 <;> cases s.getLsbD 12 <;> cases onV (h.x 38) 39 <;> rfl
  · cases s.getLsbD 11 <;> cases s.getLsbD 12 <;> rfl
  · rfl
theorem sets_eq (x : BitVec 64) : givenS (U x) = withV (withV (withV (U x) 1 (onV (U x) 5)) 5 true) 8 false := by
  unfold givenS
  simp only [sv_1, wv_1, sv_5, wv_5, sv_8, wv_8]
theorem sret_eq (h : Ht) (hw : h.wf) : sret h = rsret h := by
  obtain ⟨s, hs⟩ := U_of (hw.1 38).1 (hw.1 38).2
  obtain ⟨v, hv⟩ := U_of (hw.1 68).1 (hw.1 68).2
  obtain ⟨t, ht⟩ := U_of (hw.1 58).1 (hw.1 58).2
  have e1 := sets_eq s; have e2 := sets_eq v
  have e3 : setV (h.x 38) 17 false = withV (h.x 38) 17 false := by rw [hs]; exact (sv_17 s false).trans (wv_17 s false).symm
  have e4 : setV (h.x 58) 7 false = withV (h.x 58) 7 false := by rw [ht]; exact (sv_7 t false).trans (wv_7 t false).symm
  have e5 : setV (givenS (h.x 38)) 17 false = withV (givenS (h.x 38)) 17 false := by
    rw [hs, e1]
    simp only [wv_1, wv_5, wv_8, wv_17, sv_17]
  rw [← hs] at e1
  rw [← hv] at e2
  unfold sret rsret
  rw [e3, e4, e5, e1, e2]
  unfold givenP
  cases h.v
  · simp only [Bool.false_eq_true, if_false]
    apply Ht.ext'
    · intro i
      by_cases h37 : i = 37
      · subst h37; cases onV (h.x 38) 8 <;> rfl
      by_cases h38 : i = 38
      · subst h38; cases onV (h.x 38) 8 <;> rfl
      by_cases h58 : i = 58
      · subst h58; cases onV (h.x 38) 8 <;> rfl
      by_cases h33 : i = 33
      · subst h33; cases onV (h.x 38) 8 <;> rfl
      by_cases h0 : i = 0
      · subst h0; cases onV (h.x 38) 8 <;> rfl
      cases onV (h.x 38) 8 <;> simp [Ht.set, beqF h37, beqF h38, beqF h58, beqF h33, beqF h0]
    · cases onV (h.x 38) 8 <;> rfl
    · cases onV (h.x 38) 8 <;> rfl
    · cases onV (h.x 38) 8 <;> rfl
  · simp only [if_true]
    apply Ht.ext'
    · intro i
      by_cases h37 : i = 37
      · subst h37; cases onV (h.x 68) 8 <;> rfl
      by_cases h38 : i = 38
      · subst h38; cases onV (h.x 68) 8 <;> rfl
      by_cases h68 : i = 68
      · subst h68; cases onV (h.x 68) 8 <;> rfl
      by_cases h33 : i = 33
      · subst h33; cases onV (h.x 68) 8 <;> rfl
      by_cases h0 : i = 0
      · subst h0; cases onV (h.x 68) 8 <;> rfl
      cases onV (h.x 68) 8 <;> simp [Ht.set, beqF h37, beqF h38, beqF h68, beqF h33, beqF h0]
    · cases onV (h.x 68) 8 <;> rfl
    · cases onV (h.x 68) 8 <;> rfl
    · cases onV (h.x 68) 8 <;> rfl
end Go.Proofs.Ytfehchhmghpfpaa.Hx
