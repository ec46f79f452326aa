/- An entry that is made has its page and flags, and nothing else; an address is put together of its three places and what is beneath. -/
import Derived.Test.YteebgfcihoidmaaRQx11
import Derived.Test.YteebgfcihoidmaaRQPte
set_option linter.unusedSimpArgs false
set_option linter.unusedVariables false
namespace Go.Proofs.YteebgfcihoidmaaR.Pure
open Go.RowKit Go.Proofs.YteebgfcihoidmaaR.Q Go.Proofs.YteebgfcihoidmaaRW.PrintWords Go.Proofs.YteebgfcihoidmaaRW.PrintLast Go.Proofs.YteebgfcihoidmaaRW.PrintMore Go.Proofs.YteebgfcihoidmaaR.Bv Go.Proofs.YteebgfcihoidmaaR.QF
theorem index_eq (a : Nat) (ha : a < 18446744073709551616) (level : Int) : pte_Index.f (a : Int) level = some ((a / 2 ^ (12 + 9 * hd level) % 512 : Nat) : Int) := by
  unfold pte_Index.f
  have hh := hd_cases level
  have h := field_nat (BitVec.ofNat 64 a) (12 + 9 * hd level) 9 (by decide)
  rw [U_nat, BitVec.toNat_ofNat, Nat.mod_eq_of_lt ha] at h
  rw [held_eq, bsm, show wrap64 (12 + wrap64 (9 * (hd level : Int))) = ((12 + 9 * hd level : Nat) : Int) by unfold wrap64; omega, show (9 : Int) = ((9 : Nat) : Int) from rfl, h, bsm]
theorem low768 (p f : Nat) (hf : f < 256) : (p * 1024 + f) &&& 768 = 0 := by
  apply Nat.eq_of_testBit_eq; intro i
  rw [Nat.testBit_and, Nat.zero_testBit]
  by_cases h : i < 10
  · have e : (p * 1024 + f).testBit i = f.testBit i := by
      have e1 : ((p * 1024 + f) % 2 ^ 10).testBit i = (p * 1024 + f).testBit i := by rw [Nat.testBit_mod_two_pow]; simp [h]
      rw [← e1, show (p * 1024 + f) % 2 ^ 10 = f by omega]
    have hd : ∀ v : Fin 256, v.val &&& 768 = 0 := by decide +kernel
    have h2 := congrArg (fun z => z.testBit i) (hd ⟨f, hf⟩)
    rw [e]; simpa using h2
  · rw [show (768 : Nat).testBit i = false from Nat.testBit_lt_two_pow (Nat.lt_of_lt_of_le (by decide : 768 < 2 ^ 10) (Nat.pow_le_pow_right (by decide) (by omega)))]; simp
theorem PteMade : mezzaninelaw15_PteMade.Pure := by
  intro p f a hp hf ha
  obtain ⟨p0, p1⟩ := u64_in hp; obtain ⟨f0, f1⟩ := u64_in hf; obtain ⟨a0, a1⟩ := u64_in ha
  obtain ⟨p, rfl⟩ := Int.eq_ofNat_of_zero_le p0
  obtain ⟨f, rfl⟩ := Int.eq_ofNat_of_zero_le f0
  obtain ⟨a, rfl⟩ := Int.eq_ofNat_of_zero_le a0
  refine ⟨6, ?_⟩
  unfold mezzaninelaw15_PteMade.f
  have he : p % 17592186044416 * 1024 + f % 256 < 18446744073709551616 := by omega
  have hpg : pte_Page.f ((p % 17592186044416 * 1024 + f % 256 : Nat) : Int) = some ((p % 17592186044416 : Nat) : Int) := by
    have h := page_eq (BitVec.ofNat 64 (p % 17592186044416 * 1024 + f % 256))
    unfold pg at h
    rw [U_nat, BitVec.toNat_ofNat, Nat.mod_eq_of_lt he, show (p % 17592186044416 * 1024 + f % 256) / 1024 % 17592186044416 = p % 17592186044416 by omega] at h
    exact h
  have hmk : pte_Make.f ((p % 17592186044416 : Nat) : Int) ((p % 17592186044416 * 1024 + f % 256 : Nat) : Int) = some ((p % 17592186044416 * 1024 + f % 256 : Nat) : Int) := by
    rw [make_nat _ _ (by omega) he, show (p % 17592186044416) % 17592186044416 * 1024 + (p % 17592186044416 * 1024 + f % 256) % 256 = p % 17592186044416 * 1024 + f % 256 by omega]
  rw [pte_awake 1, bsm, if_pos rfl, make_nat p f (by omega) (by omega), bsm, hpg, bsm,
    show (17592186044415 : Int) = ((17592186044415 : Nat) : Int) from rfl, mask_nat p 44 17592186044415 (by omega) (by decide) (by decide), show (2 : Nat) ^ 44 = 17592186044416 from rfl, if_pos rfl,
    show (255 : Int) = ((255 : Nat) : Int) from rfl, mask_nat _ 8 255 he (by decide) (by decide), mask_nat f 8 255 (by omega) (by decide) (by decide), show (2 : Nat) ^ 8 = 256 from rfl, if_pos (by omega), if_pos (by omega),
    show (768 : Int) = ((768 : Nat) : Int) from rfl, u64_and_nat _ _ he (by decide), low768 _ _ (by omega), if_pos (show ((0 : Nat) : Int) = 0 from rfl), bsm, hmk, bsm, mezzaninelaw15_PteMade.j0, if_neg (by simp),
    index_eq a (by omega), bsm, index_eq a (by omega), bsm, index_eq a (by omega), bsm, show (4095 : Int) = ((4095 : Nat) : Int) from rfl, mask_nat a 12 4095 (by omega) (by decide) (by decide),
    show (549755813887 : Int) = ((549755813887 : Nat) : Int) from rfl, mask_nat a 39 549755813887 (by omega) (by decide) (by decide)]
  rw [show hd 2 = 2 from rfl, show hd 1 = 1 from rfl, show hd 0 = 0 from rfl, show (2 : Nat) ^ (12 + 9 * 2) = 1073741824 from rfl, show (2 : Nat) ^ (12 + 9 * 1) = 2097152 from rfl, show (2 : Nat) ^ (12 + 9 * 0) = 4096 from rfl, show (2 : Nat) ^ 39 = 549755813888 from rfl]
  simp only [IntKind.wrap_u64]
  congr 1; rw [beq_iff_eq]; omega
end Go.Proofs.YteebgfcihoidmaaR.Pure
