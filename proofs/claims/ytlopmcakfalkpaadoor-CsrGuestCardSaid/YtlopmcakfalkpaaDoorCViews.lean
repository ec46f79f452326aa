/- What sstatus, sip, sie say are parts of what mstatus, mip, mie say; hip, hie, vsip, vsie too. -/
import Derived.Test.YtlopmcakfalkpaaDoorCSame
set_option linter.unusedSimpArgs false
set_option linter.unusedVariables false
namespace Go.Proofs.YtlopmcakfalkpaaDoor.Hx
open Go.Proofs.YtlopmcakfalkpaaDoor.Bv Go.RowKit Go.Proofs.YtlopmcakfalkpaaDoor.Q Go.Proofs.YtlopmcakfalkpaaDoorW.PrintWords Go.Proofs.YtlopmcakfalkpaaDoorW.PrintLast Go.Proofs.YtlopmcakfalkpaaDoorW.PrintMore Go.Proofs.YtlopmcakfalkpaaDoor.Rg
/-- A hart where no guest runs. -/
abbrev host (h : Ht) : Ht := { h with v := false }
theorem an0 (a b : BitVec 64) (h : ∀ i, i < 64 → a.getLsbD i = true → b.getLsbD i = true) : (Go.bits .andNot .u64 (U a) (U b) != 0) = false := by
  rw [andNot_u64, ofInt_U, ofInt_U]
  have e : a &&& ~~~ b = 0#64 := by
    apply BitVec.eq_of_getLsbD_eq; intro i hi
    have := h i hi
    simp only [BitVec.getLsbD_and, BitVec.getLsbD_not, hi, decide_true, Bool.true_and, BitVec.getLsbD_zero]
    revert this
    cases a.getLsbD i <;> cases b.getLsbD i <;> decide
  rw [e]; rfl
theorem an1 (a b : BitVec 64) (h : ∀ i, i < 64 → a.getLsbD i = true → b.getLsbD i = true) : (Go.bits .andNot .u64 (U a) (U b) == 0) = true := by
  have := an0 a b h
  rw [bne_eq_false_iff_eq] at this
  rw [this]; rfl
theorem sub_i {a b : BitVec 64} (h : a &&& b = a) (i : Nat) : a.getLsbD i = true → b.getLsbD i = true := by
  intro ha
  have := congrArg (BitVec.getLsbD · i) h
  simp only [BitVec.getLsbD_and] at this
  rw [ha] at this; simpa using this
theorem x38_33 (h : Ht) : ∃ q : BitVec 64, (fix h).x 38 = U q ∧ q &&& 8589934592#64 = 8589934592#64 := by
  rw [fix_38, and_u64, or_u64, ofInt_U]
  generalize BitVec.ofInt 64 (h.x 38) &&& BitVec.ofInt 64 824641984938 = a
  have hb := bit0 (a := 8589934592#64) (b := 6144#64) (by decide)
  have hc := sub_i (a := 8589934592#64) (b := 42949672960#64) (by decide)
  unfold mppV
  split
  · refine ⟨_, andNot_u64 _ _, ?_⟩
    rw [ofInt_U]
    show ((a ||| 42949672960#64) &&& ~~~ 6144#64) &&& 8589934592#64 = 8589934592#64
    apply BitVec.eq_of_getLsbD_eq; intro i hi; simp only [BitVec.getLsbD_and, BitVec.getLsbD_or, BitVec.getLsbD_not, BitVec.getLsbD_zero, hi, decide_true, Bool.true_and]
    have h1 := hb i; have h2 := hc i
    revert h1 h2
    cases a.getLsbD i <;> cases (42949672960#64).getLsbD i <;> cases (6144#64).getLsbD i <;> cases (8589934592#64).getLsbD i <;> decide
  · refine ⟨_, rfl, ?_⟩
    show (a ||| 42949672960#64) &&& 8589934592#64 = 8589934592#64
    apply BitVec.eq_of_getLsbD_eq; intro i hi; simp only [BitVec.getLsbD_and, BitVec.getLsbD_or, BitVec.getLsbD_not, BitVec.getLsbD_zero, hi, decide_true, Bool.true_and]
    have h2 := hc i
    revert h2
    cases a.getLsbD i <;> cases (42949672960#64).getLsbD i <;> cases (8589934592#64).getLsbD i <;> decide
/-- The parts. -/
structure Views (r : Int → Int) : Prop where
  a : (Go.bits .andNot .u64 (r 256) (r 768) != 0) = false
  b : (Go.bits .andNot .u64 (r 324) (r 836) != 0) = false
  c : (Go.bits .andNot .u64 (r 260) (r 772) != 0) = false
  d : (Go.bits .andNot .u64 (r 1604) (r 836) != 0) = false
  e : (Go.bits .andNot .u64 (r 1540) (r 772) != 0) = false
  f : (Go.bits .andNot .u64 (r 1605) (r 836) != 0) = false
  g : (Go.bits .andNot .u64 (IntKind.u64.wrap (r 580 * 2)) (r 1604) == 0) = true
  h : (Go.bits .andNot .u64 (IntKind.u64.wrap (r 516 * 2)) (r 1540) == 0) = true
theorem views_law (h0 : Ht) (hw : h0.wf) (la lb lc ld : Bool) (lg lt : Int) : Views (readV (host (fix h0)) la lb lc ld lg lt) := by
  obtain ⟨g, e38, hg⟩ := x38_33 h0
  obtain ⟨a, e42⟩ := f42 h0
  obtain ⟨b, e61⟩ := f61 h0
  have hw := wf_fix hw
  generalize fix h0 = f at *
  obtain ⟨c, e40⟩ := U_of (hw.1 40).1 (hw.1 40).2
  obtain ⟨d, e41⟩ := U_of (hw.1 41).1 (hw.1 41).2
  obtain ⟨e, e60⟩ := U_of (hw.1 60).1 (hw.1 60).2
  have r256 : readV (host f) la lb lc ld lg lt 256 = Go.bits .or .u64 (Go.bits .and .u64 (f.x 38) 786722) 8589934592 := rfl
  have r768 : readV (host f) la lb lc ld lg lt 768 = f.x 38 := rfl
  have r324 : readV (host f) la lb lc ld lg lt 324 = Go.bits .and .u64 (Go.bits .and .u64 (pendV f la lb lc ld lg lt) 546) (f.x 40) := rfl
  have r836 : readV (host f) la lb lc ld lg lt 836 = pendV f la lb lc ld lg lt := rfl
  have r260 : readV (host f) la lb lc ld lg lt 260 = Go.bits .and .u64 (Go.bits .and .u64 (f.x 41) 546) (f.x 40) := rfl
  have r772 : readV (host f) la lb lc ld lg lt 772 = f.x 41 := rfl
  have r1604 : readV (host f) la lb lc ld lg lt 1604 = Go.bits .and .u64 (pendV f la lb lc ld lg lt) 5188 := rfl
  have r1540 : readV (host f) la lb lc ld lg lt 1540 = Go.bits .and .u64 (f.x 41) 5188 := rfl
  have r1605 : readV (host f) la lb lc ld lg lt 1605 = f.x 61 := rfl
  have r580 : readV (host f) la lb lc ld lg lt 580 = Go.bits .and .u64 (Go.bits .and .u64 (pendV f la lb lc ld lg lt) 1092) (f.x 60) / 2 := rfl
  have r516 : readV (host f) la lb lc ld lg lt 516 = Go.bits .and .u64 (Go.bits .and .u64 (f.x 41) 1092) (f.x 60) / 2 := rfl
  obtain ⟨b4, b5, hp⟩ := pend_U f la lb lc ld lg lt _ _ e42 e61
  generalize hP : pendV f la lb lc ld lg lt = P at *
  have s1 : ∀ x, IntKind.u64.wrap (x / 2 * 2) = shl1 (x / 2) := fun _ => rfl
  have s4 := sub_i (a := 1092#64) (b := 5188#64) (by decide)
  refine ⟨?_, ?_, ?_, ?_, ?_, ?_, ?_, ?_⟩
  · rw [r256, r768, e38, and_c, or_c]
    refine an0 _ _ fun i hi => ?_
    show ((g &&& 786722#64) ||| 8589934592#64).getLsbD i = true → _
    have := congrArg (BitVec.getLsbD · i) hg
    simp only [BitVec.getLsbD_and, BitVec.getLsbD_or] at this ⊢
    revert this
    cases g.getLsbD i <;> cases (786722#64).getLsbD i <;> cases (8589934592#64).getLsbD i <;> decide
  · rw [r324, r836, hp, e40, and_c, and_UU]
    refine an0 _ _ fun i hi => ?_
    rw [BitVec.getLsbD_and, BitVec.getLsbD_and]
    generalize BitVec.getLsbD (_ ||| _) i = x
    cases x <;> simp
  · rw [r260, r772, e40, e41, and_c, and_UU]
    refine an0 _ _ fun i hi => ?_
    rw [BitVec.getLsbD_and, BitVec.getLsbD_and]
    cases d.getLsbD i <;> simp
  · rw [r1604, r836, hp, and_c]
    refine an0 _ _ fun i hi => ?_
    rw [BitVec.getLsbD_and]
    generalize BitVec.getLsbD (_ ||| _) i = x
    cases x <;> simp
  · rw [r1540, r772, e41, and_c]
    refine an0 _ _ fun i hi => ?_
    rw [BitVec.getLsbD_and]
    cases d.getLsbD i <;> simp
  · rw [r1605, r836, hp, e61]
    refine an0 _ _ fun i hi => ?_
    simp only [BitVec.getLsbD_or]
    intro h; rw [h]; simp
  · rw [r580, r1604, hp, e60, and_c _ 1092, and_c _ 5188, and_UU, s1, shl1_U]
    refine an1 _ _ fun i hi => ?_
    have h4 := s4 i
    rw [BitVec.getLsbD_shiftLeft, BitVec.getLsbD_ushiftRight]
    by_cases h0 : i = 0
    · subst h0; simp
    · rw [show 1 + (i - 1) = i by omega]
      show _ → (_ &&& 5188#64).getLsbD i = true
      rw [BitVec.getLsbD_and, BitVec.getLsbD_and, BitVec.getLsbD_and]
      generalize BitVec.getLsbD (_ ||| _) i = x
      show (_ && (x && (1092#64).getLsbD i && _)) = true → _
      intro hh
      simp only [Bool.and_eq_true] at hh
      rw [h4 hh.2.1.2, hh.2.1.1]; rfl
  · rw [r516, r1540, e41, e60, and_c _ 1092, and_c _ 5188, and_UU, s1, shl1_U]
    refine an1 _ _ fun i hi => ?_
    have h4 := s4 i
    rw [BitVec.getLsbD_shiftLeft, BitVec.getLsbD_ushiftRight]
    by_cases h0 : i = 0
    · subst h0; simp
    · rw [show 1 + (i - 1) = i by omega]
      show _ → (_ &&& 5188#64).getLsbD i = true
      rw [BitVec.getLsbD_and, BitVec.getLsbD_and, BitVec.getLsbD_and]
      show (_ && (d.getLsbD i && (1092#64).getLsbD i && _)) = true → _
      intro hh
      simp only [Bool.and_eq_true] at hh
      rw [h4 hh.2.1.2, hh.2.1.1]; rfl
end Go.Proofs.YtlopmcakfalkpaaDoor.Hx
