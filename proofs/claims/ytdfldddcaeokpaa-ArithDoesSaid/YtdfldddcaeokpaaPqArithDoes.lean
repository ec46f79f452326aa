/- Do and the document's Do are one. -/
import Derived.Test.YtdfldddcaeokpaaQx11
import Derived.Test.YtdfldddcaeokpaaQRef
set_option linter.unusedSimpArgs false
set_option linter.unusedVariables false
namespace Go.Proofs.Ytdfldddcaeokpaa.Pure
open Go.RowKit Go.Proofs.Ytdfldddcaeokpaa.Q Go.Proofs.YtdfldddcaeokpaaW.PrintWords Go.Proofs.YtdfldddcaeokpaaW.PrintLast Go.Proofs.Ytdfldddcaeokpaa.Bv Go.Proofs.Ytdfldddcaeokpaa.QF
theorem does_eq (op : Int) (half : Bool) {a b : Int} (a0 : 0 ≤ a) (a1 : a < 18446744073709551616) (b0 : 0 ≤ b) (b1 : b < 18446744073709551616) :
    ∃ r, arith_Do.f op half a b = some r ∧ mezzanineref02_Do.f 2 op half a b = some r := by
  unfold arith_Do.f mezzanineref02_Do.f arith_Do.whole arith_Do.half arith_table_1.f
  rw [div_eq a0 a1 b0 b1, rdiv_eq a0 a1 b0 b1, rem_eq a0 a1 b0 b1, rrem_eq a0 a1 b0 b1, divu_eq a0 a1 b0, rdivu_eq a0 a1 b0, remu_eq a0, rremu_eq a0,
    mulh_eq a0 a1 b0 b1, rmulh_eq 0 a0 a1 b0 b1, mulhsu_eq a0 a1 b0 b1, rmulhsu_eq 0 a0 a1 b0 b1, mulhu_eq a0 a1 b0 b1, rmulhu_eq 0 a0 a1 b0 b1, mulw_eq, rmulw_eq a0 a1 b0 b1, rmul_eq a0 a1 b0 b1,
    divw_eq, rdivw_eq a0 a1 b0 b1, remw_eq, rremw_eq a0 a1 b0 b1, divuw_eq, rdivuw_eq a0 a1 b0 b1, remuw_eq, rremuw_eq a0 a1 b0 b1, IntKind.wrap_u64]
  simp only [Option.bind_some]
  by_cases h : op < 0
  · rw [if_pos h]; refine ⟨_, rfl, ?_⟩
    simp only [show op ≠ 0 by omega, show op ≠ 1 by omega, show op ≠ 2 by omega, show op ≠ 3 by omega, show op ≠ 4 by omega, show op ≠ 5 by omega, show op ≠ 6 by omega, show op ≠ 7 by omega, if_false]
    split <;> rfl
  by_cases h' : op > 7
  · rw [if_neg h, if_pos h']; refine ⟨_, rfl, ?_⟩
    simp only [show op ≠ 0 by omega, show op ≠ 1 by omega, show op ≠ 2 by omega, show op ≠ 3 by omega, show op ≠ 4 by omega, show op ≠ 5 by omega, show op ≠ 6 by omega, show op ≠ 7 by omega, if_false]
    split <;> rfl
  have h8 : op = 0 ∨ op = 1 ∨ op = 2 ∨ op = 3 ∨ op = 4 ∨ op = 5 ∨ op = 6 ∨ op = 7 := by omega
  rcases h8 with rfl | rfl | rfl | rfl | rfl | rfl | rfl | rfl <;> cases half <;> exact ⟨_, rfl, rfl⟩
theorem ArithDoes : mezzaninelaw02_ArithDoes.Pure := by
  intro op half a b hop ha hb
  obtain ⟨a0, a1⟩ := u64_in ha; obtain ⟨b0, b1⟩ := u64_in hb
  refine ⟨2, ?_⟩
  obtain ⟨r, e1, e2⟩ := does_eq op half a0 a1 b0 b1
  unfold mezzaninelaw02_ArithDoes.f
  rw [e1, e2, arith_awake]; simp
end Go.Proofs.Ytdfldddcaeokpaa.Pure
