/- An instruction of 32 bits looks at the lowest 32 bits alone, and its value is a word of 32 bits with its sign. -/
import Derived.Test.YtbfdehkejohjhaaQx16
import Derived.Test.YtbfdehkejohjhaaQAlu
set_option linter.unusedSimpArgs false
set_option linter.unusedVariables false
namespace Go.Proofs.Ytbfdehkejohjhaa.Pure
open Go.RowKit Go.Proofs.Ytbfdehkejohjhaa.Q Go.Proofs.YtbfdehkejohjhaaW.PrintWords Go.Proofs.YtbfdehkejohjhaaW.PrintLast Go.Proofs.YtbfdehkejohjhaaW.PrintMore Go.Proofs.Ytbfdehkejohjhaa.Bv Go.Proofs.Ytbfdehkejohjhaa.QF Go.Proofs.Ytbfdehkejohjhaa.QA
theorem ext_one {x y : Int} (h : x % 4294967296 = y % 4294967296) : ext x = ext y := ext_congr h
theorem wrap32_one {x y : Int} (h : x % 4294967296 = y % 4294967296) : wrap32 x = wrap32 y := by rw [← wrap32_mod x, h, wrap32_mod]
theorem mod32_one {x y : Int} (h : x % 4294967296 = y % 4294967296) : x % 32 = y % 32 := by omega
theorem add_one {x y u v : Int} (h : x % 4294967296 = y % 4294967296) (g : u % 4294967296 = v % 4294967296) : ext (x + u) = ext (y + v) := ext_congr (by omega)
theorem sub_one {x y u v : Int} (h : x % 4294967296 = y % 4294967296) (g : u % 4294967296 = v % 4294967296) : ext (x - u) = ext (y - v) := ext_congr (by omega)
theorem mul_one {x y u v : Int} (h : x % 4294967296 = y % 4294967296) (g : u % 4294967296 = v % 4294967296) : ext (x * u) = ext (y * v) := ext_congr (by rw [Int.mul_emod, h, g, ← Int.mul_emod])
theorem words_all {a a' b b' : Int} (ha : a % 4294967296 = a' % 4294967296) (hb : b % 4294967296 = b' % 4294967296) (op imm pc pc' : Int) (h : (31 ≤ op ∧ op ≤ 34) ∨ (45 ≤ op ∧ op ≤ 49) ∨ (58 ≤ op ∧ op ≤ 62)) :
    V op imm a b pc = V op imm a' b' pc' ∧ (V op imm a b pc).2 = true ∧ ∃ z, (V op imm a b pc).1 = ext z := by
  have hc : op = 31 ∨ op = 32 ∨ op = 33 ∨ op = 34 ∨ op = 45 ∨ op = 46 ∨ op = 47 ∨ op = 48 ∨ op = 49 ∨ op = 58 ∨ op = 59 ∨ op = 60 ∨ op = 61 ∨ op = 62 := by omega
  rcases hc with rfl | rfl | rfl | rfl | rfl | rfl | rfl | rfl | rfl | rfl | rfl | rfl | rfl | rfl
  · exact ⟨Prod.ext (add_one ha rfl) rfl, rfl, _, rfl⟩
  · exact ⟨Prod.ext (show ext (a % 4294967296 * 2 ^ (imm % 18446744073709551616 % 32).toNat) = ext (a' % 4294967296 * 2 ^ (imm % 18446744073709551616 % 32).toNat) by rw [ha]) rfl, rfl, _, rfl⟩
  · exact ⟨Prod.ext (show ext (a % 4294967296 / 2 ^ (imm % 18446744073709551616 % 32).toNat) = ext (a' % 4294967296 / 2 ^ (imm % 18446744073709551616 % 32).toNat) by rw [ha]) rfl, rfl, _, rfl⟩
  · exact ⟨Prod.ext (show ext (wrap32 a / 2 ^ (imm % 18446744073709551616 % 32).toNat) = ext (wrap32 a' / 2 ^ (imm % 18446744073709551616 % 32).toNat) by rw [wrap32_one ha]) rfl, rfl, _, rfl⟩
  · exact ⟨Prod.ext (add_one ha hb) rfl, rfl, _, rfl⟩
  · exact ⟨Prod.ext (sub_one ha hb) rfl, rfl, _, rfl⟩
  · exact ⟨Prod.ext (show ext (a % 4294967296 * 2 ^ (b % 32).toNat) = ext (a' % 4294967296 * 2 ^ (b' % 32).toNat) by rw [ha, mod32_one hb]) rfl, rfl, _, rfl⟩
  · exact ⟨Prod.ext (show ext (a % 4294967296 / 2 ^ (b % 32).toNat) = ext (a' % 4294967296 / 2 ^ (b' % 32).toNat) by rw [ha, mod32_one hb]) rfl, rfl, _, rfl⟩
  · exact ⟨Prod.ext (show ext (wrap32 a / 2 ^ (b % 32).toNat) = ext (wrap32 a' / 2 ^ (b' % 32).toNat) by rw [wrap32_one ha, mod32_one hb]) rfl, rfl, _, rfl⟩
  · exact ⟨Prod.ext (mul_one ha hb) rfl, rfl, _, rfl⟩
  · exact ⟨Prod.ext (show ext (dv (ext a) (ext b)) = ext (dv (ext a') (ext b')) by rw [ext_one ha, ext_one hb]) rfl, rfl, _, rfl⟩
  · exact ⟨Prod.ext (show ext (dvu (a % 4294967296) (b % 4294967296)) = ext (dvu (a' % 4294967296) (b' % 4294967296)) by rw [ha, hb]) rfl, rfl, _, rfl⟩
  · exact ⟨Prod.ext (show ext (rm (ext a) (ext b)) = ext (rm (ext a') (ext b')) by rw [ext_one ha, ext_one hb]) rfl, rfl, _, rfl⟩
  · exact ⟨Prod.ext (show ext (rmu (a % 4294967296) (b % 4294967296)) = ext (rmu (a' % 4294967296) (b' % 4294967296)) by rw [ha, hb]) rfl, rfl, _, rfl⟩
theorem join_word {a c : Int} (a0 : 0 ≤ a) (a1 : a < 18446744073709551616) (c0 : 0 ≤ c) : ∃ r, Go.bits .or .u64 (Go.bits .and .u64 a 4294967295) (IntKind.u64.wrap (c * 4294967296)) = r ∧ 0 ≤ r ∧ r < 18446744073709551616 ∧ a % 4294967296 = r % 4294967296 := by
  obtain ⟨n, rfl⟩ := Int.eq_ofNat_of_zero_le a0
  obtain ⟨m, rfl⟩ := Int.eq_ofNat_of_zero_le c0
  refine ⟨((m % 4294967296 * 4294967296 + n % 4294967296 : Nat) : Int), ?_, by omega, by omega, by omega⟩
  rw [show (4294967295 : Int) = ((2 ^ 32 - 1 : Nat) : Int) from rfl, u64_and_nat _ _ (by omega) (by decide), Nat.and_two_pow_sub_one_eq_mod, IntKind.wrap_u64,
    show ((m : Int) * 4294967296 % 18446744073709551616) = ((2 ^ 32 * (m % 4294967296) : Nat) : Int) by omega, u64_or_nat _ _ (by omega) (by omega), Nat.or_comm, ← Nat.two_pow_add_eq_or_of_lt (by omega)]
  omega
theorem words_j0 (k : Nat) (op r p q imm c : Int) (x y : Bool) {a b e d : Int} (pc : Int) (a0 : 0 ≤ a) (a1 : a < 18446744073709551616) (b0 : 0 ≤ b) (b1 : b < 18446744073709551616) (e0 : 0 ≤ e) (d0 : 0 ≤ d) (t : Bool)
    (h : t = true → (31 ≤ op ∧ op ≤ 34) ∨ (45 ≤ op ∧ op ≤ 49) ∨ (58 ≤ op ∧ op ≤ 62)) : mezzaninelaw21_AluWords.j0 (k + 7) a b e d pc t op r p q imm c x y = some true := by
  obtain ⟨a', ea, a0', a1', ga⟩ := join_word a0 a1 e0
  obtain ⟨b', eb, b0', b1', gb⟩ := join_word b0 b1 d0
  rw [mezzaninelaw21_AluWords.j0, alu_wakes k, bsm, ea, eb, alu_eq k op r p q imm c x y a0 a1 b0 b1, bsm, alu_eq k op r p q imm c x y a0' a1' b0' b1', bsm]
  cases t
  · rfl
  · obtain ⟨g1, g2, z, g3⟩ := words_all ga gb op imm pc (IntKind.u64.wrap (pc + e)) (h rfl)
    have g4 : IntKind.u64.wrap (wrap64 (wrap32 (ext z))) = ext z := by
      have := low32 (ext z); unfold alu_low.f at this; rw [ext_ext] at this; exact Option.some.inj this
    rw [← g1, if_pos rfl, g2, if_pos rfl, if_pos rfl, if_pos rfl, g3, g4, if_pos rfl]
theorem AluWords : mezzaninelaw21_AluWords.Pure := by
  intro op r p q imm c x y a b e d pc hop _ _ _ _ _ ha hb he hd hpc
  obtain ⟨a0, a1⟩ := u64_in ha; obtain ⟨b0, b1⟩ := u64_in hb; obtain ⟨e0, e1⟩ := u64_in he; obtain ⟨d0, d1⟩ := u64_in hd
  refine ⟨20, ?_⟩
  unfold mezzaninelaw21_AluWords.f
  have J (t : Bool) (h : t = true → (31 ≤ op ∧ op ≤ 34) ∨ (45 ≤ op ∧ op ≤ 49) ∨ (58 ≤ op ∧ op ≤ 62)) := words_j0 13 op r p q imm c x y pc a0 a1 b0 b1 e0 d0 t h
  have jf := J false (fun h => by cases h)
  by_cases h1 : op ≥ 31 ∧ op ≤ 34
  · rw [if_pos h1.1, if_pos h1.2, J true (fun _ => by omega)]
  by_cases h2 : op ≥ 45 ∧ op ≤ 49
  · rw [if_pos (show op ≥ 31 by omega), if_neg (show ¬op ≤ 34 by omega), if_pos h2.1, if_pos h2.2, J true (fun _ => by omega)]
  by_cases h3 : op ≥ 58
  · rw [if_pos (show op ≥ 31 by omega), if_neg (show ¬op ≤ 34 by omega), if_pos (show op ≥ 45 by omega), if_neg (show ¬op ≤ 49 by omega), if_pos h3, J _ (fun h => by have := of_decide_eq_true h; omega)]
  · rw [if_neg h3, jf]
    by_cases h4 : op ≥ 31
    · rw [if_pos h4, if_neg (by omega)]
      by_cases h5 : op ≥ 45
      · rw [if_pos h5, if_neg (by omega)]
      · rw [if_neg h5]
    · rw [if_neg h4, if_neg (by omega)]
end Go.Proofs.Ytbfdehkejohjhaa.Pure
