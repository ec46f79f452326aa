/- Where a trap goes: the program's and the document's answer, of a hart told compactly. -/
import Derived.Test.YtfehchhmghpfpaaHBase
import Derived.Test.YtfehchhmghpfpaaQx1
import Derived.Test.YtfehchhmghpfpaaQx2
set_option linter.unusedSimpArgs false
set_option linter.unusedVariables false
namespace Go.Proofs.Ytfehchhmghpfpaa.Hx
open Go.RowKit Go.Proofs.Ytfehchhmghpfpaa.Q Go.Proofs.YtfehchhmghpfpaaW.PrintWords Go.Proofs.YtfehchhmghpfpaaW.PrintLast Go.Proofs.YtfehchhmghpfpaaW.PrintMore Go.Proofs.Ytfehchhmghpfpaa.Rg Go.Proofs.Ytfehchhmghpfpaa.Bv
theorem splitN_nonneg {c : Int} (h0 : 0 ≤ c) (h1 : c < 18446744073709551616) : 0 ≤ splitN c := by
  obtain ⟨x, rfl⟩ := U_of h0 h1
  unfold splitN
  rw [andNot_u64]; exact (U_range _).1
/-- Where a trap goes: 0 to the machine, 1 to the host, 2 to the guest. -/
def toV (h : Ht) (c : Int) : Int :=
  if h.x 33 = 3 ∨ splitN c > 63 ∨ onV (if splitI c = true then h.x 40 else h.x 39) (splitN c) = false then 0
  else if h.v = true ∧ onV (if splitI c = true then h.x 60 else h.x 59) (splitN c) = true then 2 else 1
theorem j1_f (k : Nat) (n g : Int) (b : Bool) (h : Ht) (hn : b = false → 0 ≤ n ∧ n ≤ 63) : trap_To.j1 (k + 1) n g b (h.x 0) (h.x 1) (h.x 2) (h.x 3) (h.x 4) (h.x 5) (h.x 6) (h.x 7) (h.x 8) (h.x 9) (h.x 10) (h.x 11) (h.x 12) (h.x 13) (h.x 14) (h.x 15) (h.x 16) (h.x 17) (h.x 18) (h.x 19) (h.x 20) (h.x 21) (h.x 22) (h.x 23) (h.x 24) (h.x 25) (h.x 26) (h.x 27) (h.x 28) (h.x 29) (h.x 30) (h.x 31) (h.x 32) (h.x 33) h.v h.wt h.hl (h.x 37) (h.x 38) (h.x 39) (h.x 40) (h.x 41) (h.x 42) (h.x 43) (h.x 44) (h.x 45) (h.x 46) (h.x 47) (h.x 48) (h.x 49) (h.x 50) (h.x 51) (h.x 52) (h.x 53) (h.x 54) (h.x 55) (h.x 56) (h.x 57) (h.x 58) (h.x 59) (h.x 60) (h.x 61) (h.x 62) (h.x 63) (h.x 64) (h.x 65) (h.x 66) (h.x 67) (h.x 68) (h.x 69) (h.x 70) (h.x 71) (h.x 72) (h.x 73) (h.x 74) (h.x 75) (h.x 76) = some (if b = true then 0 else if h.v = true ∧ onV g n = true then 2 else 1) := by
  rw [trap_To.j1]
  cases b
  · obtain ⟨n0, n1⟩ := hn rfl
    have e : wrap64 n = n := by unfold wrap64; omega
    rw [if_neg (show ¬ (false = true) by decide), if_neg (show ¬ (false = true) by decide), e, on_f _ _ n0]
    cases h.v
    · rw [if_neg (show ¬ (false = true) by decide), if_neg (by simp)]
    · rw [if_pos rfl, bsm]
      cases onV g n <;> simp
  · rw [if_pos rfl, if_pos rfl]
theorem j0_f (k : Nat) (n m g : Int) (h : Ht) (hn : 0 ≤ n) : trap_To.j0 (k + 2) n m g (h.x 0) (h.x 1) (h.x 2) (h.x 3) (h.x 4) (h.x 5) (h.x 6) (h.x 7) (h.x 8) (h.x 9) (h.x 10) (h.x 11) (h.x 12) (h.x 13) (h.x 14) (h.x 15) (h.x 16) (h.x 17) (h.x 18) (h.x 19) (h.x 20) (h.x 21) (h.x 22) (h.x 23) (h.x 24) (h.x 25) (h.x 26) (h.x 27) (h.x 28) (h.x 29) (h.x 30) (h.x 31) (h.x 32) (h.x 33) h.v h.wt h.hl (h.x 37) (h.x 38) (h.x 39) (h.x 40) (h.x 41) (h.x 42) (h.x 43) (h.x 44) (h.x 45) (h.x 46) (h.x 47) (h.x 48) (h.x 49) (h.x 50) (h.x 51) (h.x 52) (h.x 53) (h.x 54) (h.x 55) (h.x 56) (h.x 57) (h.x 58) (h.x 59) (h.x 60) (h.x 61) (h.x 62) (h.x 63) (h.x 64) (h.x 65) (h.x 66) (h.x 67) (h.x 68) (h.x 69) (h.x 70) (h.x 71) (h.x 72) (h.x 73) (h.x 74) (h.x 75) (h.x 76) = some (if h.x 33 = 3 ∨ n > 63 ∨ onV m n = false then 0 else if h.v = true ∧ onV g n = true then 2 else 1) := by
  rw [trap_To.j0]
  by_cases h3 : h.x 33 = 3
  · rw [if_pos h3, j1_f _ _ _ _ _ (fun h => by cases h), if_pos rfl, if_pos (Or.inl h3)]
  · rw [if_neg h3]
    by_cases h63 : n > 63
    · rw [if_pos h63, j1_f _ _ _ _ _ (fun h => by cases h), if_pos rfl, if_pos (Or.inr (Or.inl h63))]
    · have e : wrap64 n = n := by unfold wrap64; omega
      rw [if_neg h63, e, on_f _ _ hn, bsm, j1_f _ _ _ _ _ (fun _ => ⟨hn, by omega⟩)]
      cases onV m n
      · rw [if_pos (show (!false) = true by decide), if_pos (Or.inr (Or.inr rfl))]
      · rw [if_neg (show ¬ ((!true) = true) by decide), if_neg (show ¬ (h.x 33 = 3 ∨ n > 63 ∨ true = false) from fun q => q.elim h3 (fun q => q.elim h63 (fun q => by cases q)))]
theorem to_f (h : Ht) (c : Int) (c0 : 0 ≤ c) (c1 : c < 18446744073709551616) : trap_To.f 2 (h.x 0) (h.x 1) (h.x 2) (h.x 3) (h.x 4) (h.x 5) (h.x 6) (h.x 7) (h.x 8) (h.x 9) (h.x 10) (h.x 11) (h.x 12) (h.x 13) (h.x 14) (h.x 15) (h.x 16) (h.x 17) (h.x 18) (h.x 19) (h.x 20) (h.x 21) (h.x 22) (h.x 23) (h.x 24) (h.x 25) (h.x 26) (h.x 27) (h.x 28) (h.x 29) (h.x 30) (h.x 31) (h.x 32) (h.x 33) h.v h.wt h.hl (h.x 37) (h.x 38) (h.x 39) (h.x 40) (h.x 41) (h.x 42) (h.x 43) (h.x 44) (h.x 45) (h.x 46) (h.x 47) (h.x 48) (h.x 49) (h.x 50) (h.x 51) (h.x 52) (h.x 53) (h.x 54) (h.x 55) (h.x 56) (h.x 57) (h.x 58) (h.x 59) (h.x 60) (h.x 61) (h.x 62) (h.x 63) (h.x 64) (h.x 65) (h.x 66) (h.x 67) (h.x 68) (h.x 69) (h.x 70) (h.x 71) (h.x 72) (h.x 73) (h.x 74) (h.x 75) (h.x 76) c = some (toV h c) := by
  unfold trap_To.f toV
  rw [split_f, bsm]
  cases splitI c
  · rw [if_neg (show ¬ (false = true) by decide), if_neg (show ¬ (false = true) by decide), if_neg (show ¬ (false = true) by decide)]
    exact j0_f 0 _ _ _ h (splitN_nonneg c0 c1)
  · rw [if_pos rfl, if_pos rfl, if_pos rfl]
    exact j0_f 0 _ _ _ h (splitN_nonneg c0 c1)
theorem to_c (h : Ht) (c : Int) (w : World) (c0 : 0 ≤ c) (c1 : c < 18446744073709551616) : Calls Try.prog 6 #[.agg h.cs, .int .u64 c] w fun e w' => e = .returned (.int .i64 (toV h c)) ∧ Below w.heap.size w w' := by
  rw [h.cs_lit]
  exact trap_To.calls 2 (h.x 0) (h.x 1) (h.x 2) (h.x 3) (h.x 4) (h.x 5) (h.x 6) (h.x 7) (h.x 8) (h.x 9) (h.x 10) (h.x 11) (h.x 12) (h.x 13) (h.x 14) (h.x 15) (h.x 16) (h.x 17) (h.x 18) (h.x 19) (h.x 20) (h.x 21) (h.x 22) (h.x 23) (h.x 24) (h.x 25) (h.x 26) (h.x 27) (h.x 28) (h.x 29) (h.x 30) (h.x 31) (h.x 32) (h.x 33) h.v h.wt h.hl (h.x 37) (h.x 38) (h.x 39) (h.x 40) (h.x 41) (h.x 42) (h.x 43) (h.x 44) (h.x 45) (h.x 46) (h.x 47) (h.x 48) (h.x 49) (h.x 50) (h.x 51) (h.x 52) (h.x 53) (h.x 54) (h.x 55) (h.x 56) (h.x 57) (h.x 58) (h.x 59) (h.x 60) (h.x 61) (h.x 62) (h.x 63) (h.x 64) (h.x 65) (h.x 66) (h.x 67) (h.x 68) (h.x 69) (h.x 70) (h.x 71) (h.x 72) (h.x 73) (h.x 74) (h.x 75) (h.x 76) c _ w (to_f h c c0 c1)
/-- The document's answer. -/
def rtoV (h : Ht) (c : Int) : Int :=
  if h.x 33 = 3 ∨ c % 9223372036854775808 > 63 ∨ onV (if onV c 63 = true then h.x 40 else h.x 39) (c % 9223372036854775808) = false then 0
  else if h.v = true ∧ onV (if onV c 63 = true then h.x 60 else h.x 59) (c % 9223372036854775808) = true then 2 else 1
theorem rto_f (h : Ht) (c : Int) (c0 : 0 ≤ c) : mezzanineref14_To.f (h.x 0) (h.x 1) (h.x 2) (h.x 3) (h.x 4) (h.x 5) (h.x 6) (h.x 7) (h.x 8) (h.x 9) (h.x 10) (h.x 11) (h.x 12) (h.x 13) (h.x 14) (h.x 15) (h.x 16) (h.x 17) (h.x 18) (h.x 19) (h.x 20) (h.x 21) (h.x 22) (h.x 23) (h.x 24) (h.x 25) (h.x 26) (h.x 27) (h.x 28) (h.x 29) (h.x 30) (h.x 31) (h.x 32) (h.x 33) h.v h.wt h.hl (h.x 37) (h.x 38) (h.x 39) (h.x 40) (h.x 41) (h.x 42) (h.x 43) (h.x 44) (h.x 45) (h.x 46) (h.x 47) (h.x 48) (h.x 49) (h.x 50) (h.x 51) (h.x 52) (h.x 53) (h.x 54) (h.x 55) (h.x 56) (h.x 57) (h.x 58) (h.x 59) (h.x 60) (h.x 61) (h.x 62) (h.x 63) (h.x 64) (h.x 65) (h.x 66) (h.x 67) (h.x 68) (h.x 69) (h.x 70) (h.x 71) (h.x 72) (h.x 73) (h.x 74) (h.x 75) (h.x 76) c = some (rtoV h c) := by
  unfold mezzanineref14_To.f rtoV
  rw [Int.tmod_eq_emod_of_nonneg c0]
  have hn : 0 ≤ c % 9223372036854775808 := by omega
  rw [bit_f _ _ (by decide), bsm, bit_f _ _ hn, bit_f _ _ hn, bit_f _ _ hn, bit_f _ _ hn]
  simp only [bsm]
  by_cases h3 : h.x 33 = 3
  · rw [if_pos h3, if_pos (Or.inl h3)]
  · rw [if_neg h3]
    by_cases h63 : c % 9223372036854775808 > 63
    · rw [if_pos h63, if_pos (Or.inr (Or.inl h63))]
    · rw [if_neg h63]
      cases onV c 63
      · simp only [Bool.false_eq_true, if_false]
        cases onV (h.x 39) (c % 9223372036854775808) <;> cases h.v <;> cases onV (h.x 59) (c % 9223372036854775808) <;> simp [h3, h63]
      · simp only [if_true]
        cases onV (h.x 40) (c % 9223372036854775808) <;> cases h.v <;> cases onV (h.x 60) (c % 9223372036854775808) <;> simp [h3, h63]
theorem rto_c (h : Ht) (c : Int) (w : World) (c0 : 0 ≤ c) : Calls Try.prog 7 #[.agg h.cs, .int .u64 c] w fun e w' => e = .returned (.int .i64 (rtoV h c)) ∧ Below w.heap.size w w' := by
  rw [h.cs_lit]
  exact mezzanineref14_To.calls (h.x 0) (h.x 1) (h.x 2) (h.x 3) (h.x 4) (h.x 5) (h.x 6) (h.x 7) (h.x 8) (h.x 9) (h.x 10) (h.x 11) (h.x 12) (h.x 13) (h.x 14) (h.x 15) (h.x 16) (h.x 17) (h.x 18) (h.x 19) (h.x 20) (h.x 21) (h.x 22) (h.x 23) (h.x 24) (h.x 25) (h.x 26) (h.x 27) (h.x 28) (h.x 29) (h.x 30) (h.x 31) (h.x 32) (h.x 33) h.v h.wt h.hl (h.x 37) (h.x 38) (h.x 39) (h.x 40) (h.x 41) (h.x 42) (h.x 43) (h.x 44) (h.x 45) (h.x 46) (h.x 47) (h.x 48) (h.x 49) (h.x 50) (h.x 51) (h.x 52) (h.x 53) (h.x 54) (h.x 55) (h.x 56) (h.x 57) (h.x 58) (h.x 59) (h.x 60) (h.x 61) (h.x 62) (h.x 63) (h.x 64) (h.x 65) (h.x 66) (h.x 67) (h.x 68) (h.x 69) (h.x 70) (h.x 71) (h.x 72) (h.x 73) (h.x 74) (h.x 75) (h.x 76) c _ w (rto_f h c c0)
end Go.Proofs.Ytfehchhmghpfpaa.Hx
