/- The list of all registers is the document's. -/
import Derived.Test.YtbmmafebekehdaaDoorQx10
import Derived.Test.YtbmmafebekehdaaDoorQWakes11
set_option linter.unusedSimpArgs false
set_option linter.unusedVariables false
namespace Go.Proofs.YtbmmafebekehdaaDoor.Pure
open Go.RowKit Go.Proofs.YtbmmafebekehdaaDoor.Q Go.Proofs.YtbmmafebekehdaaDoorW.PrintWords Go.Proofs.YtbmmafebekehdaaDoorW.PrintLast Go.Proofs.YtbmmafebekehdaaDoorW.PrintMore Go.Proofs.YtbmmafebekehdaaDoor.Bv Go.Proofs.YtbmmafebekehdaaDoor.QN
/-- The numbers of the rows from i to 4096 on. -/
theorem alls_loop : ∀ m (i : Int) (j : Nat), 0 ≤ i → i ≤ 4096 → (4096 - i).toNat ≤ m → j ≤ 56 → (∀ q, q < j → rowNo q < i) → (∀ q, j ≤ q → q < 56 → i ≤ rowNo q) →
    mezzanineref11_All.l0 (m + 1) (rowNos.take j) i = some rowNos := by
  have hlen : rowNos.length = 56 := rfl
  intro m
  induction m with
  | zero =>
    intro i j h0 h1 h2 hj ha hb
    have hj56 : j = 56 := by
      apply Nat.le_antisymm hj; apply Nat.le_of_not_lt; intro h
      have a := hb j (by omega) h; have b := (rowNo_range j h).2; omega
    subst hj56
    rw [mezzanineref11_All.l0, if_neg (by omega)]; rfl
  | succ m ih =>
    intro i j h0 h1 h2 hj ha hb
    rw [mezzanineref11_All.l0]
    by_cases h : i < 4096
    · rw [if_pos h, rname_eq, bsm, show wrap64 (i + 1) = i + 1 by unfold wrap64; omega]
      by_cases hs : (nameOf i).toList = ([] : List UInt8)
      · rw [if_pos hs]
        refine ih (i + 1) j (by omega) (by omega) (by omega) hj (fun q hq => by have := ha q hq; omega) (fun q h3 h4 => ?_)
        have a := hb q h3 h4
        have b : rowNo q ≠ i := fun e => by
          rw [← e, nameOf_no h4, tl] at hs; exact full q h4 hs
        omega
      · obtain ⟨q, hq, e, _⟩ := nameOf_row hs rfl
        have hjq : j = q := by
          apply Nat.le_antisymm
          · apply Nat.le_of_not_lt; intro hlt; have := ha q hlt; omega
          · apply Nat.le_of_not_lt; intro hlt
            have a := hb j (by omega) (by omega)
            have b := rowNo_rise j (by omega)
            have c := rowNo_le (i := j + 1) (j := q) (by omega) hq
            omega
        subst hjq
        have ht : (rowNos.take j).length < 17592186044416 := by rw [List.length_take]; omega
        rw [if_neg hs, if_pos ht, ← e, csrno_All.step j hq]
        exact ih (rowNo j + 1) (j + 1) (by omega) (by omega) (by omega) (by omega) (fun q hq => by
          by_cases hqj : q = j
          · subst hqj; omega
          · have := ha q (by omega); omega) (fun q h3 h4 => by have a := rowNo_rise j (by omega); have c := rowNo_le (i := j + 1) (j := q) h3 h4; omega)
    · have hj56 : j = 56 := by
        apply Nat.le_antisymm hj; apply Nat.le_of_not_lt; intro h3
        have a := hb j (by omega) h3; have b := (rowNo_range j h3).2; omega
      subst hj56
      rw [if_neg h]; rfl
theorem alls_same (k : Nat) : ∀ m i : Nat, i ≤ 56 → 56 - i ≤ m → mezzaninelaw11_CsrnoAlls.l0 (m + 20) rowNos rowNos (i : Int) = some true := by
  have hlen : rowNos.length = 56 := rfl
  intro m
  induction m with
  | zero =>
    intro i h0 h1
    rw [show 0 + 20 = 19 + 1 from rfl, mezzaninelaw11_CsrnoAlls.l0, if_neg (by rw [hlen]; omega), csrno_wakes, bsm]
  | succ m ih =>
    intro i h0 h1
    rw [show m + 1 + 20 = (m + 20) + 1 by omega, mezzaninelaw11_CsrnoAlls.l0]
    by_cases h : i < 56
    · rw [if_pos (by rw [hlen]; omega), if_pos (by omega), if_pos (by rw [hlen]; omega), if_pos rfl, show wrap64 ((i : Int) + 1) = ((i + 1 : Nat) : Int) by unfold wrap64; omega]
      exact ih (i + 1) (by omega) (by omega)
    · rw [if_neg (by rw [hlen]; omega), csrno_wakes, bsm]
theorem CsrnoAlls : mezzaninelaw11_CsrnoAlls.Pure := by
  refine ⟨4200, ?_⟩
  unfold mezzaninelaw11_CsrnoAlls.f csrno_All.f mezzanineref11_All.f
  have h := alls_loop 4199 0 0 (by omega) (by omega) (by omega) (by omega) (fun q hq => by omega) (fun q h1 h2 => (rowNo_range q h2).1)
  rw [List.take_zero] at h
  rw [bsm, h, bsm, if_pos rfl]
  exact alls_same 0 4180 0 (by omega) (by omega)
end Go.Proofs.YtbmmafebekehdaaDoor.Pure
