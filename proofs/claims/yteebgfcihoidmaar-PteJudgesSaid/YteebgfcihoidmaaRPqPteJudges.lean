/- What a walk does behind an entry is the document's answer. -/
import Derived.Test.YteebgfcihoidmaaRQx8
import Derived.Test.YteebgfcihoidmaaRQPte
set_option linter.unusedSimpArgs false
set_option linter.unusedVariables false
namespace Go.Proofs.YteebgfcihoidmaaR.Pure
open Go.RowKit Go.Proofs.YteebgfcihoidmaaR.Q Go.Proofs.YteebgfcihoidmaaRW.PrintWords Go.Proofs.YteebgfcihoidmaaRW.PrintLast Go.Proofs.YteebgfcihoidmaaRW.PrintMore Go.Proofs.YteebgfcihoidmaaR.Bv Go.Proofs.YteebgfcihoidmaaR.QF
theorem size_eq (level : Int) : mezzanineref15_size.f level = some ((2 ^ (9 * hd level) : Nat) : Int) := by
  unfold mezzanineref15_size.f hd
  by_cases h : level < 1
  · rw [if_pos h, if_pos h]; rfl
  · rw [if_neg h, if_neg h]
    by_cases h1 : level = 1
    · rw [if_pos h1, if_pos h1]; rfl
    · rw [if_neg h1, if_neg h1]; rfl
theorem rjudge_eq (x : BitVec 64) (k : Nat) (level kind : Int) (hk : 0 ≤ kind) (exec : Bool) (priv : Int) (v sum mxr vmxr : Bool) : mezzanineref15_Judge.f (k + 2) (U x) level kind exec priv v sum mxr vmxr = some (jd x level kind exec priv v sum mxr vmxr) := by
  unfold mezzanineref15_Judge.f jd
  rw [of_eq, bsm]; dsimp only
  rw [rok_eq, bsm, rleaf_eq, bsm, size_eq, bsm, rallowed_eq x k _ _ _ _ _ _ kind hk, bsm]
  have hp := Nat.two_pow_pos (9 * hd level)
  rw [if_neg (show ¬ (((2 ^ (9 * hd level) : Nat) : Int) = 0) by omega), Int.tmod_eq_emod_of_nonneg (by omega)]
  have e2 : (((pg x : Int)) % (((2 ^ (9 * hd level) : Nat) : Int)) = 0) = (pg x % 2 ^ (9 * hd level) = 0) := by rw [eq_iff_iff, ← Int.natCast_emod]; omega
  simp only [e2]
  by_cases h1 : okE x = true <;> by_cases h2 : lf x = true <;> by_cases h3 : pg x % 2 ^ (9 * hd level) = 0 <;> by_cases h4 : al x kind exec priv v sum mxr vmxr = true <;> simp [h1, h2, h3, h4] <;> split <;> rfl
theorem PteJudges : mezzaninelaw15_PteJudges.Pure := by
  intro e level kind exec priv v sum mxr vmxr he hl hk hp
  obtain ⟨x, rfl⟩ := U_wf he
  refine ⟨6, ?_⟩
  unfold mezzaninelaw15_PteJudges.f
  rw [pte_awake 1, bsm, if_pos rfl, judge_eq x 5, bsm, rjudge_eq x 4 level kind (u8_in hk).1, bsm]; simp
end Go.Proofs.YteebgfcihoidmaaR.Pure
