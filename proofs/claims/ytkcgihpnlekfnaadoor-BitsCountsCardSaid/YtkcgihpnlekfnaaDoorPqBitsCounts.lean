/- The numbers of a word's ones rise, make the word again, and each of them is a bit of it; the next multiple is one, not below, and less than a multiple more. -/
import Derived.Test.YtkcgihpnlekfnaaDoorQx3
import Derived.Test.YtkcgihpnlekfnaaDoorQOnes
set_option linter.unusedSimpArgs false
set_option linter.unusedVariables false
namespace Go.Proofs.YtkcgihpnlekfnaaDoor.Pure
open Go.RowKit Go.Proofs.YtkcgihpnlekfnaaDoor.Q Go.Proofs.YtkcgihpnlekfnaaDoorW.PrintWords Go.Proofs.YtkcgihpnlekfnaaDoorW.PrintLast Go.Proofs.YtkcgihpnlekfnaaDoorW.PrintMore Go.Proofs.YtkcgihpnlekfnaaDoor.Bv Go.Proofs.YtkcgihpnlekfnaaDoor.QO
theorem up_zero {a s : Int} (hs : ¬s = 0) (hm : a % s = 0) (a0 : 0 ≤ a) : bits_Up.f a s = some (a, true) := by
  unfold bits_Up.f; rw [if_neg hs, Int.tmod_eq_emod_of_nonneg a0, if_pos hm]
theorem counts_end (k : Nat) (l : List Int) {a s i : Int} (a0 : 0 ≤ a) (a1 : a < 18446744073709551616) (s0 : 0 ≤ s) (s1 : s < 18446744073709551616) (hi : ¬i < (l.length : Int)) : mezzaninelaw01_BitsCounts.l0 (k + 1) a s l i = some true := by
  rw [mezzaninelaw01_BitsCounts.l0, if_neg hi]
  by_cases hs : s = 0
  · have e : bits_Up.f a s = some (0, false) := by unfold bits_Up.f; rw [if_pos hs]
    rw [e, bsm, if_neg (by decide), if_pos rfl, if_pos hs]
  have hr0 := Int.emod_nonneg a hs
  have hr1 := Int.emod_lt_of_pos a (show 0 < s by omega)
  have hq := Int.emod_add_mul_ediv a s
  have hq0 : 0 ≤ a / s := Int.ediv_nonneg a0 s0
  by_cases hm : a % s = 0
  · rw [up_zero hs hm a0, bsm, if_pos rfl, up_zero hs hm a0, bsm, if_neg hs, Int.tmod_eq_emod_of_nonneg a0, if_pos hm, if_pos (show a ≥ a from Int.le_refl _), if_pos (by show IntKind.u64.wrap (a - a) < s; rw [IntKind.wrap_u64]; omega), if_pos rfl, beq_self_eq_true]
  · have e1 : IntKind.u64.wrap (s - a % s) = s - a % s := by rw [IntKind.wrap_u64]; omega
    have e2 : IntKind.u64.wrap (18446744073709551615 - a) = 18446744073709551615 - a := by rw [IntKind.wrap_u64]; omega
    have hsq : s * (a / s + 1) = s * (a / s) + s := by rw [Int.mul_add, Int.mul_one]
    by_cases hb : s - a % s > 18446744073709551615 - a
    · have e : bits_Up.f a s = some (0, false) := by unfold bits_Up.f; rw [if_neg hs, Int.tmod_eq_emod_of_nonneg a0, if_neg hm, e1, e2, if_pos hb]
      have hd : (18446744073709551615 : Int) / s = a / s := by
        have h1 := Int.emod_add_mul_ediv (18446744073709551615 : Int) s
        have h2 := Int.emod_nonneg (18446744073709551615 : Int) hs
        have h3 := Int.emod_lt_of_pos (18446744073709551615 : Int) (show 0 < s by omega)
        refine Int.le_antisymm ?_ (Int.ediv_le_ediv (by omega) (by omega))
        apply Int.le_of_lt_add_one
        apply Int.ediv_lt_of_lt_mul (by omega)
        rw [Int.mul_comm]; omega
      rw [e, bsm, if_neg (by decide), if_pos rfl, if_neg hs, Int.tmod_eq_emod_of_nonneg a0, if_neg hm, Int.tdiv_eq_ediv_of_nonneg a0, Int.tdiv_eq_ediv_of_nonneg (by decide), hd, beq_self_eq_true]
    · have e : bits_Up.f a s = some (a + (s - a % s), true) := by
        unfold bits_Up.f; rw [if_neg hs, Int.tmod_eq_emod_of_nonneg a0, if_neg hm, e1, e2, if_neg hb, IntKind.wrap_u64, Int.emod_eq_of_lt (by omega) (by omega)]
      have hu : (a + (s - a % s)) % s = 0 := by
        rw [show a + (s - a % s) = s * (a / s + 1) by omega, Int.mul_emod_right]
      have u0 : 0 ≤ a + (s - a % s) := by omega
      rw [e, bsm, if_pos rfl, up_zero hs hu u0, bsm, if_neg hs, Int.tmod_eq_emod_of_nonneg u0, if_pos hu, if_pos (by show a + (s - a % s) ≥ a; omega), if_pos (by show IntKind.u64.wrap (a + (s - a % s) - a) < s; rw [IntKind.wrap_u64]; omega), if_pos rfl, beq_self_eq_true]
theorem counts_loop (x : Nat) (hx : x < 18446744073709551616) {s : Int} (s0 : 0 ≤ s) (s1 : s < 18446744073709551616) : ∀ m i : Nat, i ≤ (ones x 64).length → (ones x 64).length - i ≤ m → mezzaninelaw01_BitsCounts.l0 (m + 1) (x : Int) s (ones x 64) (i : Int) = some true := by
  intro m
  have hlen := ones_len x 64
  induction m with
  | zero => intro i hi hm; exact counts_end 0 _ (by omega) (by omega) s0 s1 (by omega)
  | succ m ih =>
    intro i hi hm
    by_cases hlt : i < (ones x 64).length
    · obtain ⟨n, h1, h2, h3⟩ := ones_mem x 64 i hlt
      have e1 : wrap64 ((i : Int) + 1) = ((i + 1 : Nat) : Int) := by unfold wrap64; omega
      rw [mezzaninelaw01_BitsCounts.l0, if_pos (by omega), if_pos (by omega), rd_at hlt, h1, bit_eq x n hx h2, bsm, h3, if_pos rfl, e1, ih (i + 1) (by omega) (by omega)]
      by_cases hi0 : (i : Int) > 0
      · obtain ⟨j, rfl⟩ : ∃ j, i = j + 1 := ⟨i - 1, by omega⟩
        have e2 : wrap64 (((j + 1 : Nat) : Int) - 1) = (j : Int) := by unfold wrap64; omega
        have hr := ones_rise x 64 j hlt
        rw [if_pos hi0, e2, if_pos (by omega), if_pos (by omega), rd_at (show j < (ones x 64).length by omega), if_neg (by omega)]
      · rw [if_neg hi0]
    · exact counts_end (m + 1) _ (by omega) (by omega) s0 s1 (by omega)
theorem BitsCounts : mezzaninelaw01_BitsCounts.Pure := by
  intro w s hw hs
  obtain ⟨w0, w1⟩ := u64_in hw; obtain ⟨s0, s1⟩ := u64_in hs
  obtain ⟨x, rfl⟩ := Int.eq_ofNat_of_zero_le w0
  have hx : x < 18446744073709551616 := by omega
  have hlen := ones_len x 64
  refine ⟨100, ?_⟩
  unfold mezzaninelaw01_BitsCounts.f
  rw [bits_awake 95, bsm, if_pos rfl, ones_eq 35 x hx, bsm, of_eq 99 _ (by omega) (by omega), bsm, fold_ones x 64 (by omega), Nat.mod_eq_of_lt (by exact hx), if_pos rfl]
  exact counts_loop x hx s0 s1 99 0 (by omega) (by omega)
end Go.Proofs.YtkcgihpnlekfnaaDoor.Pure
