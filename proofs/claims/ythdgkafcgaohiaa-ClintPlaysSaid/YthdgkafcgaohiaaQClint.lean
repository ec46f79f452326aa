/- What a clint's and the document's reading and writing tell, in closed form. -/
import Derived.Test.YthdgkafcgaohiaaQx2
import Derived.Test.YthdgkafcgaohiaaQx6
import Derived.Test.YthdgkafcgaohiaaQx3
import Derived.Test.YthdgkafcgaohiaaQx7
import Derived.Test.YthdgkafcgaohiaaQFieldc
set_option linter.unusedSimpArgs false
set_option linter.unusedVariables false
namespace Go.Proofs.Ythdgkafcgaohiaa.QC
open Go.RowKit Go.Proofs.Ythdgkafcgaohiaa.Q Go.Proofs.YthdgkafcgaohiaaW.PrintWords Go.Proofs.YthdgkafcgaohiaaW.PrintLast Go.Proofs.YthdgkafcgaohiaaW.PrintMore Go.Proofs.Ythdgkafcgaohiaa.Bv Go.Proofs.Ythdgkafcgaohiaa.QF
theorem bsm {α β : Type} (a : α) (f : α → Option β) : (some a).bind f = f a := by cases h : f a <;> simp [h]
theorem nat_halves (x h l : Nat) (hx : x < 2 ^ 64) (hl : ∀ i, i < 32 → x.testBit i = l.testBit i) (hh : ∀ i, i < 32 → x.testBit (32 + i) = h.testBit i) : x = 2 ^ 32 * (h % 2 ^ 32) + l % 2 ^ 32 := by
  apply Nat.eq_of_testBit_eq
  intro i
  rw [Nat.testBit_two_pow_mul_add _ (Nat.mod_lt _ (by decide))]
  by_cases h1 : i < 32
  · rw [if_pos h1, Nat.testBit_mod_two_pow, hl i h1]; simp [h1]
  · rw [if_neg h1, Nat.testBit_mod_two_pow]
    by_cases h2 : i < 64
    · have := hh (i - 32) (by omega)
      rw [show 32 + (i - 32) = i by omega] at this
      rw [this]; simp [show i - 32 < 32 by omega]
    · rw [Nat.testBit_lt_two_pow (Nat.lt_of_lt_of_le hx (Nat.pow_le_pow_right (by decide) (by omega)))]
      simp [show ¬ i - 32 < 32 by omega]
theorem U_halves (x h l : BitVec 64) (hl : ∀ i, i < 32 → x.getLsbD i = l.getLsbD i) (hh : ∀ i, i < 32 → x.getLsbD (32 + i) = h.getLsbD i) : U x = U h % 4294967296 * 4294967296 + U l % 4294967296 := by
  have := nat_halves x.toNat h.toNat l.toNat x.isLt hl hh
  unfold U
  omega
theorem put_whole (c v : BitVec 64) : putB c 0 64 v = v := by
  apply BitVec.eq_of_getLsbD_eq; intro i hi
  rw [put_bit, if_pos (by refine ⟨by decide, hi, Nat.zero_le _, ?_⟩; show i - 0 < 64; omega)]; simp
theorem put_low (c v : BitVec 64) : U (putB c 0 32 v) = U c / 4294967296 * 4294967296 + U v % 4294967296 := by
  have h := U_halves (putB c 0 32 v) (c >>> 32) v (fun i hi => by rw [put_bit, if_pos (by refine ⟨by decide, by omega, Nat.zero_le _, ?_⟩; show i - 0 < 32; omega)]; simp)
    (fun i hi => by rw [put_bit, if_neg (by rintro ⟨_, _, _, h⟩; have : 32 + i - 0 < 32 := h; omega), BitVec.getLsbD_ushiftRight])
  rw [h]
  have e : U (c >>> 32) = U c / 4294967296 := by have := U_div_pow c 32; simpa using this.symm
  have := U_range c
  rw [e]; omega
theorem put_high (c v : BitVec 64) : U (putB c 32 32 v) = U v % 4294967296 * 4294967296 + U c % 4294967296 :=
  U_halves (putB c 32 32 v) v c (fun i hi => by rw [put_bit, if_neg (by rintro ⟨_, _, h, _⟩; have : 32 ≤ i := h; omega)])
    (fun i hi => by rw [put_bit, if_pos (by refine ⟨by decide, by omega, ?_, ?_⟩; · show 32 ≤ 32 + i; omega
                                            · show 32 + i - 32 < 32; omega)]; congr 1; show 32 + i - 32 = i; omega)
theorem field_whole (c : BitVec 64) : fieldB c 0 64 = c := by
  apply BitVec.eq_of_getLsbD_eq; intro i hi
  rw [field_bit]; simp [hi, show (i : Int) < 64 by omega]
theorem field_low (c : BitVec 64) : U (fieldB c 0 32) = U c % 4294967296 := by
  have h := U_halves (fieldB c 0 32) 0#64 c (fun i hi => by rw [field_bit]; simp [show i < 64 by omega, show (i : Int) < 32 by omega])
    (fun i hi => by rw [field_bit]; simp [show ¬ ((32 + i : Nat) : Int) < 32 by omega]; omega)
  rw [h]; show (0 : Int) % 4294967296 * 4294967296 + _ = _; omega
theorem field_high (c : BitVec 64) : U (fieldB c 32 32) = U c / 4294967296 := by
  have h := U_halves (fieldB c 32 32) 0#64 (c >>> 32) (fun i hi => by rw [field_bit, BitVec.getLsbD_ushiftRight]; simp [show i < 64 by omega, show (i : Int) < 32 by omega])
    (fun i hi => by rw [field_bit]; simp [show ¬ ((32 + i : Nat) : Int) < 32 by omega]; omega)
  have e : U (c >>> 32) = U c / 4294967296 := by have := U_div_pow c 32; simpa using this.symm
  have := U_range c
  rw [h, e]; show (0 : Int) % 4294967296 * 4294967296 + _ = _; omega
/-- Where an offset lies. -/
def pl (off nn : Int) : Int × Int × Bool :=
  if off = 0 ∧ nn = 4 then (0, 0, true) else if (off = 16384 ∨ off = 49144) ∧ (nn = 4 ∨ nn = 8) then (off, 0, true) else if off = 16388 ∧ nn = 4 then (16384, 32, true) else if off = 49148 ∧ nn = 4 then (49144, 32, true) else (0, 0, false)
theorem place_eq (off nn : Int) : clint_place.f 2 off nn = some (pl off nn) := by
  unfold clint_place.f pl
  rw [clint_place.j0, clint_place.j0]
  simp only [clint_place.j1]
  by_cases h0 : off = 0
  · subst h0; by_cases h4 : nn = 4 <;> simp [h4]
  by_cases h1 : off = 16384
  · subst h1; by_cases h4 : nn = 4 <;> by_cases h8 : nn = 8 <;> simp [h4, h8]
  by_cases h2 : off = 49144
  · subst h2; by_cases h4 : nn = 4 <;> by_cases h8 : nn = 8 <;> simp [h4, h8]
  by_cases h3 : off = 16388
  · subst h3; by_cases h4 : nn = 4 <;> simp [h4] <;> decide
  by_cases h5 : off = 49148
  · subst h5; by_cases h4 : nn = 4 <;> simp [h4] <;> decide
  simp [h0, h1, h2, h3, h5]
theorem and_one (v : Int) (h0 : 0 ≤ v) (h1 : v < 18446744073709551616) : Go.bits .and .u64 v 1 % 4294967296 = v % 2 := by
  obtain ⟨n, rfl⟩ := Int.eq_ofNat_of_zero_le h0
  rw [show (1 : Int) = ((2 ^ 1 - 1 : Nat) : Int) from rfl, u64_and_nat _ _ (by omega) (by decide), Nat.and_two_pow_sub_one_eq_mod]
  omega
theorem w8_4 : wrap64 32 = 32 := by decide +kernel
theorem w8_8 : wrap64 64 = 64 := by decide +kernel
theorem write_eq (s c n off nn v : Int) (r : Rng s c n) (v0 : 0 ≤ v) (v1 : v < 18446744073709551616) : clint_Clint_Write.f 2 s c n off nn v = some (cw s c n off nn v) := by
  obtain ⟨⟨s0, s1⟩, ⟨c0, c1⟩, n0, n1⟩ := r
  obtain ⟨C, rfl⟩ := U_of c0 c1
  obtain ⟨N, rfl⟩ := U_of n0 n1
  have ha := and_one v v0 v1
  obtain ⟨V, rfl⟩ := U_of v0 v1
  unfold clint_Clint_Write.f
  rw [place_eq, bsm]
  unfold cw pl
  by_cases h4 : nn = 4
  · subst h4
    by_cases h0 : off = 0
    · subst h0; simp [ha]
    by_cases h1 : off = 16384
    · subst h1; simp [put_eq, put_low, w8_4]
    by_cases h2 : off = 49144
    · subst h2; simp [put_eq, put_low, w8_4]
    by_cases h3 : off = 16388
    · subst h3; simp [put_eq, put_high, w8_4]
    by_cases h5 : off = 49148
    · subst h5; simp [put_eq, put_high, w8_4]
    simp [h0, h1, h2, h3, h5]
  by_cases h8 : nn = 8
  · subst h8
    by_cases h1 : off = 16384
    · subst h1; simp [put_eq, put_whole, w8_8]
    by_cases h2 : off = 49144
    · subst h2; simp [put_eq, put_whole, w8_8]
    simp [h1, h2]
  simp [h4, h8]
theorem rwrite_eq (s c n off nn v : Int) (r : Rng s c n) (v0 : 0 ≤ v) (v1 : v < 18446744073709551616) : mezzanineref04_Clint_Write.f s c n off nn v = some (cw s c n off nn v) := by
  obtain ⟨⟨s0, s1⟩, ⟨c0, c1⟩, n0, n1⟩ := r
  have lo : ∀ a b : Int, 0 ≤ a → a < 18446744073709551616 → 0 ≤ b → b < 18446744073709551616 → IntKind.u64.wrap (IntKind.u64.wrap (IntKind.u64.wrap (Int.tdiv a 4294967296) * 4294967296) + Int.tmod b 4294967296) = a / 4294967296 * 4294967296 + b % 4294967296 := by
    intro a b a0 a1 b0 b1
    rw [Int.tdiv_eq_ediv_of_nonneg a0, Int.tmod_eq_emod_of_nonneg b0, IntKind.wrap_u64, IntKind.wrap_u64, IntKind.wrap_u64]
    omega
  have hi : ∀ a b : Int, 0 ≤ a → a < 18446744073709551616 → 0 ≤ b → b < 18446744073709551616 → IntKind.u64.wrap (IntKind.u64.wrap (Int.tmod b 4294967296 * 4294967296) + Int.tmod a 4294967296) = b % 4294967296 * 4294967296 + a % 4294967296 := by
    intro a b a0 a1 b0 b1
    rw [Int.tmod_eq_emod_of_nonneg a0, Int.tmod_eq_emod_of_nonneg b0, IntKind.wrap_u64, IntKind.wrap_u64]
    omega
  unfold mezzanineref04_Clint_Write.f cw
  rw [lo c v c0 c1 v0 v1, hi c v c0 c1 v0 v1, lo n v n0 n1 v0 v1, hi n v n0 n1 v0 v1, Int.tmod_eq_emod_of_nonneg v0]
  simp only [apply_ite some]
theorem read_eq (s c n off nn : Int) (r : Rng s c n) : clint_Clint_Read.f 2 s c n off nn = some (cr s c n off nn) := by
  obtain ⟨⟨s0, s1⟩, ⟨c0, c1⟩, n0, n1⟩ := r
  have es : IntKind.u64.wrap s = s := by rw [IntKind.wrap_u64]; omega
  obtain ⟨C, rfl⟩ := U_of c0 c1
  obtain ⟨N, rfl⟩ := U_of n0 n1
  have s2 : s % 4294967296 = s := by omega
  obtain ⟨S, rfl⟩ := U_of s0 (by omega)
  unfold clint_Clint_Read.f
  rw [place_eq, bsm]
  unfold cr pl clint_Clint_Read.get
  rw [es]
  by_cases h4 : nn = 4
  · subst h4
    by_cases h0 : off = 0
    · subst h0; simp [field_eq, field_low, w8_4, s2]
    by_cases h1 : off = 16384
    · subst h1; simp [field_eq, field_low, w8_4]
    by_cases h2 : off = 49144
    · subst h2; simp [field_eq, field_low, w8_4]
    by_cases h3 : off = 16388
    · subst h3; simp [field_eq, field_high, w8_4]
    by_cases h5 : off = 49148
    · subst h5; simp [field_eq, field_high, w8_4]
    simp [h0, h1, h2, h3, h5]
  by_cases h8 : nn = 8
  · subst h8
    by_cases h1 : off = 16384
    · subst h1; simp [field_eq, field_whole, w8_8]
    by_cases h2 : off = 49144
    · subst h2; simp [field_eq, field_whole, w8_8]
    simp [h1, h2]
  simp [h4, h8]
theorem cw_rng (s c n off nn v : Int) (r : Rng s c n) (v0 : 0 ≤ v) (v1 : v < 18446744073709551616) : Rng (cw s c n off nn v).2.1 (cw s c n off nn v).2.2.1 (cw s c n off nn v).2.2.2 := by
  obtain ⟨⟨s0, s1⟩, ⟨c0, c1⟩, n0, n1⟩ := r
  unfold cw Rng
  split
  · split
    · exact ⟨⟨s0, s1⟩, ⟨v0, v1⟩, n0, n1⟩
    · split
      · exact ⟨⟨s0, s1⟩, ⟨c0, c1⟩, v0, v1⟩
      · exact ⟨⟨s0, s1⟩, ⟨c0, c1⟩, n0, n1⟩
  · split
    · split
      · refine ⟨?_, ⟨c0, c1⟩, n0, n1⟩; constructor <;> dsimp only <;> omega
      · split
        · refine ⟨⟨s0, s1⟩, ?_, n0, n1⟩; constructor <;> dsimp only <;> omega
        · split
          · refine ⟨⟨s0, s1⟩, ?_, n0, n1⟩; constructor <;> dsimp only <;> omega
          · split
            · refine ⟨⟨s0, s1⟩, ⟨c0, c1⟩, ?_⟩; constructor <;> dsimp only <;> omega
            · split
              · refine ⟨⟨s0, s1⟩, ⟨c0, c1⟩, ?_⟩; constructor <;> dsimp only <;> omega
              · exact ⟨⟨s0, s1⟩, ⟨c0, c1⟩, n0, n1⟩
    · exact ⟨⟨s0, s1⟩, ⟨c0, c1⟩, n0, n1⟩
end Go.Proofs.Ythdgkafcgaohiaa.QC
