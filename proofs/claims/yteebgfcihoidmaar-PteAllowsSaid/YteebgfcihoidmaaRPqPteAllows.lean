/- What flags allow, and whether they are set, is the document's answer. -/
import Derived.Test.YteebgfcihoidmaaRQx9
import Derived.Test.YteebgfcihoidmaaRQPte
set_option linter.unusedSimpArgs false
set_option linter.unusedVariables false
namespace Go.Proofs.YteebgfcihoidmaaR.Pure
open Go.RowKit Go.Proofs.YteebgfcihoidmaaR.Q Go.Proofs.YteebgfcihoidmaaRW.PrintWords Go.Proofs.YteebgfcihoidmaaRW.PrintLast Go.Proofs.YteebgfcihoidmaaRW.PrintMore Go.Proofs.YteebgfcihoidmaaR.Bv Go.Proofs.YteebgfcihoidmaaR.QF
theorem kind_pos (n : Int) : 0 ≤ (Go.bits .and .i64 n 3) % 256 := by omega
theorem allows_loop (x : BitVec 64) (pag fr : Int) (kind : Int) (hk : 0 ≤ kind) (exec : Bool) (priv : Int) (v sum mxr vmxr : Bool) : ∀ (m : Nat) (i : Int), 0 ≤ i → i + m = 256 →
    mezzaninelaw15_PteAllows.l0 (m + 8) (U x) i kind exec priv v sum mxr vmxr (bitOf x 0) (bitOf x 1) (bitOf x 2) (bitOf x 3) (bitOf x 4) (bitOf x 5) (bitOf x 6) (bitOf x 7) pag fr = some true := by
  intro m; induction m with
  | zero =>
    intro i h0 h1
    rw [mezzaninelaw15_PteAllows.l0, if_neg (by omega), pte_awake 2, bsm, if_pos rfl, allowed_eq, bsm, rallowed_eq x 5 _ _ _ _ _ _ kind hk, bsm, if_pos (by simp), full_eq, bsm, rfull_eq, bsm]; simp
  | succ m ih =>
    intro i h0 h1
    rw [show m + 1 + 8 = (m + 8) + 1 by omega, mezzaninelaw15_PteAllows.l0, if_pos (by omega), allowed_eq, bsm, rallowed_eq x (m + 6) _ _ _ _ _ _ _ (kind_pos i), bsm, if_neg (by simp), full_eq, bsm, rfull_eq, bsm, if_neg (by simp),
      show wrap64 (i + 1) = i + 1 by unfold wrap64; omega]
    exact ih (i + 1) (by omega) (by omega)
theorem PteAllows : mezzaninelaw15_PteAllows.Pure := by
  intro e kind exec priv v sum mxr vmxr he hk hp
  obtain ⟨x, rfl⟩ := U_wf he
  refine ⟨264, ?_⟩
  unfold mezzaninelaw15_PteAllows.f
  rw [of_eq, bsm]
  exact allows_loop x _ _ kind (u8_in hk).1 exec priv v sum mxr vmxr 256 0 (by omega) (by omega)
end Go.Proofs.YteebgfcihoidmaaR.Pure
