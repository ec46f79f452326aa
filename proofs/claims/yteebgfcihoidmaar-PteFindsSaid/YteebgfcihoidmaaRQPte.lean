/- What the printed functions of package pte, and of its reference, tell, as whole numbers and bits. -/
import Derived.Test.YteebgfcihoidmaaRQx3
import Derived.Test.YteebgfcihoidmaaRQx2
import Derived.Test.YteebgfcihoidmaaRQx8
import Derived.Test.YteebgfcihoidmaaRQx1
import Derived.Test.YteebgfcihoidmaaRQx5
import Derived.Test.YteebgfcihoidmaaRQField
set_option linter.unusedSimpArgs false
set_option linter.unusedVariables false
namespace Go.Proofs.YteebgfcihoidmaaR.QF
open Go.RowKit Go.Proofs.YteebgfcihoidmaaR.Q Go.Proofs.YteebgfcihoidmaaRW.PrintWords Go.Proofs.YteebgfcihoidmaaRW.PrintLast Go.Proofs.YteebgfcihoidmaaRW.PrintMore Go.Proofs.YteebgfcihoidmaaR.Bv

theorem bsm {α β : Type} (a : α) (f : α → Option β) : (some a).bind f = f a := by cases h : (some a).bind f <;> simp_all
theorem pte_awake (k : Nat) : mezzaninelaw15_awake.f (k + 5) = some true := by kernel_rfl
theorem U_nat (x : BitVec 64) : U x = (x.toNat : Int) := rfl
/-! ### flags -/
theorem and_low (a m : Nat) (hm : m < 256) : a &&& m = (a % 256) &&& m := by
  apply Nat.eq_of_testBit_eq; intro i
  rw [Nat.testBit_and, Nat.testBit_and, show (256 : Nat) = 2 ^ 8 from rfl, Nat.testBit_mod_two_pow]
  by_cases h : i < 8
  · simp [h]
  · rw [Nat.testBit_lt_two_pow (x := m) (i := i) (Nat.lt_of_lt_of_le hm (by rw [show 256 = 2 ^ 8 from rfl]; exact Nat.pow_le_pow_right (by decide) (by omega)))]; simp
theorem bit_low (x : BitVec 64) (i : Nat) (h : i < 8) : bitOf x i = (x.toNat % 256).testBit i := by
  unfold bitOf; rw [← BitVec.testBit_toNat, show (256 : Nat) = 2 ^ 8 from rfl, Nat.testBit_mod_two_pow]; simp [h]
theorem and_lit (x : BitVec 64) (m : Nat) (hm : m < 256) : Go.bits .and .u64 (U x) (m : Int) = (((x.toNat % 256) &&& m : Nat) : Int) := by
  rw [U_nat, u64_and_nat _ _ x.isLt (by omega), and_low _ _ hm]
theorem small {P : Nat → Prop} (h : ∀ v : Fin 256, P v.val) (x : BitVec 64) : P (x.toNat % 256) := h ⟨x.toNat % 256, Nat.mod_lt _ (by decide)⟩
theorem f1 (x : BitVec 64) : (Go.bits .and .u64 (U x) 1 = 0) = (bitOf x 0 = false) := by
  rw [show (1 : Int) = ((1 : Nat) : Int) from rfl, and_lit x 1 (by decide), bit_low x 0 (by decide), eq_iff_iff]
  exact small (P := fun v => ((((v &&& 1 : Nat) : Int) = 0) ↔ v.testBit 0 = false)) (by decide +kernel) x
theorem f1' (x : BitVec 64) : (Go.bits .and .u64 (U x) 1 == 0) = !bitOf x 0 := by
  rw [show (1 : Int) = ((1 : Nat) : Int) from rfl, and_lit x 1 (by decide), bit_low x 0 (by decide)]
  exact small (P := fun v => ((((v &&& 1 : Nat) : Int) == 0) = !v.testBit 0)) (by decide +kernel) x
theorem f6 (x : BitVec 64) : (Go.bits .and .u64 (U x) 6 = 4) = (bitOf x 2 = true ∧ bitOf x 1 = false) := by
  rw [show (6 : Int) = ((6 : Nat) : Int) from rfl, and_lit x 6 (by decide), bit_low x 2 (by decide), bit_low x 1 (by decide), eq_iff_iff]
  exact small (P := fun v => ((((v &&& 6 : Nat) : Int) = 4) ↔ (v.testBit 2 = true ∧ v.testBit 1 = false))) (by decide +kernel) x
theorem f6' (x : BitVec 64) : (Go.bits .and .u64 (U x) 6 == 4) = (bitOf x 2 && !bitOf x 1) := by
  rw [show (6 : Int) = ((6 : Nat) : Int) from rfl, and_lit x 6 (by decide), bit_low x 2 (by decide), bit_low x 1 (by decide)]
  exact small (P := fun v => ((((v &&& 6 : Nat) : Int) == 4) = (v.testBit 2 && !v.testBit 1))) (by decide +kernel) x
theorem f10 (x : BitVec 64) : (Go.bits .and .u64 (U x) 10 != 0) = (bitOf x 1 || bitOf x 3) := by
  rw [show (10 : Int) = ((10 : Nat) : Int) from rfl, and_lit x 10 (by decide), bit_low x 1 (by decide), bit_low x 3 (by decide)]
  exact small (P := fun v => ((((v &&& 10 : Nat) : Int) != 0) = (v.testBit 1 || v.testBit 3))) (by decide +kernel) x
theorem f208 (x : BitVec 64) : (Go.bits .and .u64 (U x) 208 == 0) = (!bitOf x 4 && !bitOf x 6 && !bitOf x 7) := by
  rw [show (208 : Int) = ((208 : Nat) : Int) from rfl, and_lit x 208 (by decide), bit_low x 4 (by decide), bit_low x 6 (by decide), bit_low x 7 (by decide)]
  exact small (P := fun v => ((((v &&& 208 : Nat) : Int) == 0) = (!v.testBit 4 && !v.testBit 6 && !v.testBit 7))) (by decide +kernel) x
theorem one (x : BitVec 64) (i : Nat) (hi : i < 8) : (Go.bits .and .u64 (U x) ((2 ^ i : Nat) : Int) = 0) = (bitOf x i = false) := by
  have hp : 2 ^ i < 256 := by rw [show 256 = 2 ^ 8 from rfl]; exact Nat.pow_lt_pow_right (by decide) hi
  have h : ∀ i : Fin 8, ∀ v : Fin 256, ((((v.val &&& 2 ^ i.val : Nat) : Int) = 0) ↔ v.val.testBit i.val = false) := by decide +kernel
  rw [and_lit x _ hp, bit_low x i hi, eq_iff_iff]
  exact h ⟨i, hi⟩ ⟨x.toNat % 256, Nat.mod_lt _ (by decide)⟩
theorem one' (x : BitVec 64) (i : Nat) (hi : i < 8) : (Go.bits .and .u64 (U x) ((2 ^ i : Nat) : Int) != 0) = bitOf x i := by
  have h := one x i hi
  cases hb : bitOf x i
  · rw [hb] at h; have h2 := h.mpr rfl; rw [h2]; rfl
  · rw [hb] at h; rw [bne_iff_ne]; intro h2; have := h.mp h2; cases this
theorem t2 (x : BitVec 64) : (Go.bits .and .u64 (U x) 2 = 0) = (bitOf x 1 = false) := one x 1 (by decide)
theorem t8 (x : BitVec 64) : (Go.bits .and .u64 (U x) 8 = 0) = (bitOf x 3 = false) := one x 3 (by decide)
theorem t16 (x : BitVec 64) : (Go.bits .and .u64 (U x) 16 = 0) = (bitOf x 4 = false) := one x 4 (by decide)
theorem t64 (x : BitVec 64) : (Go.bits .and .u64 (U x) 64 = 0) = (bitOf x 6 = false) := one x 6 (by decide)
theorem n4 (x : BitVec 64) : (Go.bits .and .u64 (U x) 4 != 0) = bitOf x 2 := one' x 2 (by decide)
theorem n8 (x : BitVec 64) : (Go.bits .and .u64 (U x) 8 != 0) = bitOf x 3 := one' x 3 (by decide)
theorem n16 (x : BitVec 64) : (Go.bits .and .u64 (U x) 16 != 0) = bitOf x 4 := one' x 4 (by decide)
theorem n128 (x : BitVec 64) : (Go.bits .and .u64 (U x) 128 != 0) = bitOf x 7 := one' x 7 (by decide)
/-! ### pieces of an entry -/
theorem fieldU (x : BitVec 64) (l n : Nat) (hn : n ≤ 64) : U (fieldB x (l : Int) (n : Int)) = ((x.toNat / 2 ^ l % 2 ^ n : Nat) : Int) := by
  unfold fieldB
  rw [if_neg (by omega), Int.toNat_natCast, Int.toNat_natCast, U_nat, and_mk_toNat _ _ hn, BitVec.toNat_ushiftRight, Nat.shiftRight_eq_div_pow]
theorem field_nat (x : BitVec 64) (l n : Nat) (hn : n ≤ 64) : bits_Field.f (U x) (l : Int) (n : Int) = some ((x.toNat / 2 ^ l % 2 ^ n : Nat) : Int) := by
  rw [field_eq, fieldU x l n hn]
theorem rfield_nat (x : BitVec 64) (l n : Nat) (hn : n ≤ 64) : U (mezzanineref01_Field.B x (l : Int) (n : Int)) = ((x.toNat / 2 ^ l % 2 ^ n : Nat) : Int) := by
  have h := ref_field x (l : Int) (n : Int)
  unfold mezzanineref01_Field.f at h
  have hx := U_range x
  rw [if_pos (And.intro hx.1 hx.2), ofInt_U] at h
  rw [← fieldU x l n hn]; exact Option.some.inj h
def pg (x : BitVec 64) : Nat := x.toNat / 1024 % 17592186044416
theorem pg_lt (x : BitVec 64) : pg x < 17592186044416 := Nat.mod_lt _ (by decide)
theorem page_eq (x : BitVec 64) : pte_Page.f (U x) = some (pg x : Int) := by
  unfold pte_Page.f
  rw [show (10 : Int) = ((10 : Nat) : Int) from rfl, show (44 : Int) = ((44 : Nat) : Int) from rfl, field_nat x 10 44 (by decide), bsm]; rfl
theorem of_eq (x : BitVec 64) : mezzanineref15_Of.f (U x) = some (bitOf x 0, bitOf x 1, bitOf x 2, bitOf x 3, bitOf x 4, bitOf x 5, bitOf x 6, bitOf x 7, (pg x : Int), ((x.toNat / 18014398509481984 : Nat) : Int)) := by
  unfold mezzanineref15_Of.f
  have hx := U_range x
  have h1 := rfield_nat x 10 44 (by decide)
  have h2 := rfield_nat x 54 10 (by decide)
  rw [if_pos (And.intro hx.1 hx.2), ofInt_U]
  have h3 : x.toNat / 2 ^ 54 % 2 ^ 10 = x.toNat / 18014398509481984 := by have := x.isLt; rw [show (2 : Nat) ^ 54 = 18014398509481984 from rfl, show (2 : Nat) ^ 10 = 1024 from rfl]; omega
  rw [h3] at h2
  rw [show (U (mezzanineref01_Field.B x 10 44)) = (pg x : Int) from h1, show (U (mezzanineref01_Field.B x 54 10)) = ((x.toNat / 18014398509481984 : Nat) : Int) from h2]
/-! ### well formed; a leaf -/
def lf (x : BitVec 64) : Bool := bitOf x 1 || bitOf x 3
def okE (x : BitVec 64) : Bool := bitOf x 0 && !(bitOf x 2 && !bitOf x 1) && decide (x.toNat / 18014398509481984 = 0) && (lf x || (!bitOf x 4 && !bitOf x 6 && !bitOf x 7))
theorem leaf_eq (x : BitVec 64) : pte_Leaf.f (U x) = some (lf x) := by unfold pte_Leaf.f lf; rw [f10]
theorem free_eq (x : BitVec 64) : (U x / 18014398509481984 != 0) = !decide (x.toNat / 18014398509481984 = 0) := by
  have e : U x / 18014398509481984 = ((x.toNat / 18014398509481984 : Nat) : Int) := by rw [U_nat]; omega
  rw [e, Bool.eq_iff_iff, bne_iff_ne, Bool.not_eq_true', decide_eq_false_iff_not]; omega
theorem ok_eq (x : BitVec 64) (k : Nat) : pte_Ok.f (k + 1) (U x) = some (okE x) := by
  unfold pte_Ok.f okE
  rw [pte_Ok.j0, pte_Ok.j0, pte_Ok.j0, leaf_eq, f1', f6', free_eq, f208, bsm]
  simp only [f1, f6]
  generalize lf x = l
  generalize decide (x.toNat / 18014398509481984 = 0) = z
  generalize bitOf x 0 = b0; generalize bitOf x 1 = b1; generalize bitOf x 2 = b2; generalize bitOf x 4 = b4; generalize bitOf x 6 = b6; generalize bitOf x 7 = b7
  cases b0 <;> cases b1 <;> cases b2 <;> cases z <;> cases l <;> simp
theorem rleaf_eq (x : BitVec 64) (b0 b2 b4 b5 b6 b7 : Bool) (p f : Int) : mezzanineref15_Entry_Leaf.f b0 (bitOf x 1) b2 (bitOf x 3) b4 b5 b6 b7 p f = some (lf x) := by
  unfold mezzanineref15_Entry_Leaf.f lf; generalize bitOf x 1 = c1; cases c1 <;> simp
theorem rok_eq (x : BitVec 64) (b5 : Bool) (p : Int) : mezzanineref15_Entry_Ok.f (bitOf x 0) (bitOf x 1) (bitOf x 2) (bitOf x 3) (bitOf x 4) b5 (bitOf x 6) (bitOf x 7) p ((x.toNat / 18014398509481984 : Nat) : Int) = some (okE x) := by
  unfold mezzanineref15_Entry_Ok.f okE
  rw [rleaf_eq, bsm]
  have e : ((((x.toNat / 18014398509481984 : Nat) : Int)) = 0) = (decide (x.toNat / 18014398509481984 = 0) = true) := by rw [decide_eq_true_eq, eq_iff_iff]; omega
  simp only [e]
  generalize lf x = l
  generalize decide (x.toNat / 18014398509481984 = 0) = z
  generalize bitOf x 0 = b0; generalize bitOf x 1 = b1; generalize bitOf x 2 = b2; generalize bitOf x 4 = b4; generalize bitOf x 6 = b6; generalize bitOf x 7 = b7
  cases b0 <;> cases b1 <;> cases b2 <;> cases z <;> cases l <;> cases b4 <;> cases b6 <;> cases b7 <;> rfl
/-! ### what is allowed -/
def md (x : BitVec 64) (kind priv : Int) (sum : Bool) : Bool := if priv = 0 then bitOf x 4 else (!bitOf x 4 || (decide (kind ≠ 2) && sum))
def al (x : BitVec 64) (kind : Int) (exec : Bool) (priv : Int) (v sum mxr vmxr : Bool) : Bool :=
  md x kind priv sum && (if kind = 2 then bitOf x 3 else if kind = 1 then bitOf x 2 else if kind = 0 then (if exec = true then bitOf x 3 else (bitOf x 1 || (bitOf x 3 && (mxr || (v && vmxr))))) else false)
theorem mode_eq (x : BitVec 64) (kind : Int) (exec : Bool) (priv : Int) (v sum mxr vmxr : Bool) : pte_mode.f (U x) kind exec priv v sum mxr vmxr = some (md x kind priv sum) := by
  unfold pte_mode.f md; rw [n16]; simp only [t16]
  generalize bitOf x 4 = b4
  by_cases h : priv = 0
  · simp [h]
  · by_cases h2 : kind = 2 <;> cases b4 <;> simp [h, h2]
theorem allowed_eq (x : BitVec 64) (kind : Int) (exec : Bool) (priv : Int) (v sum mxr vmxr : Bool) : pte_Allowed.f (U x) kind exec priv v sum mxr vmxr = some (al x kind exec priv v sum mxr vmxr) := by
  unfold pte_Allowed.f al
  rw [mode_eq, bsm, n8, n4]; simp only [t2, t8]
  generalize md x kind priv sum = m
  generalize bitOf x 1 = b1; generalize bitOf x 2 = b2; generalize bitOf x 3 = b3
  by_cases h0 : kind = 0
  · subst h0; cases m <;> cases exec <;> cases b1 <;> cases b3 <;> cases mxr <;> cases v <;> simp
  · by_cases h1 : kind = 1
    · subst h1; cases m <;> simp
    · by_cases h2 : kind = 2
      · subst h2; cases m <;> simp
      · cases m <;> simp [h0, h1, h2]
theorem rallowed_eq (x : BitVec 64) (k : Nat) (b0 b5 b6 b7 : Bool) (p f : Int) (kind : Int) (hk : 0 ≤ kind) (exec : Bool) (priv : Int) (v sum mxr vmxr : Bool) :
    mezzanineref15_Entry_Allowed.f (k + 2) b0 (bitOf x 1) (bitOf x 2) (bitOf x 3) (bitOf x 4) b5 b6 b7 p f kind exec priv v sum mxr vmxr = some (al x kind exec priv v sum mxr vmxr) := by
  unfold mezzanineref15_Entry_Allowed.f al md
  simp only [mezzanineref15_Entry_Allowed.j0, mezzanineref15_Entry_Allowed.j1]
  generalize bitOf x 1 = b1; generalize bitOf x 2 = b2; generalize bitOf x 3 = b3; generalize bitOf x 4 = b4
  by_cases hp : priv = 0
  · by_cases h0 : kind = 0
    · subst h0; cases exec <;> cases b1 <;> cases b3 <;> cases b4 <;> cases mxr <;> cases v <;> simp [hp]
    · by_cases h1 : kind = 1
      · subst h1; cases b4 <;> simp [hp]
      · by_cases h2 : kind = 2
        · subst h2; cases b4 <;> simp [hp]
        · simp [h0, h1, h2, show kind > 2 by omega]
  · by_cases h0 : kind = 0
    · subst h0; cases exec <;> cases b1 <;> cases b3 <;> cases b4 <;> cases sum <;> cases mxr <;> cases v <;> simp [hp]
    · by_cases h1 : kind = 1
      · subst h1; cases b4 <;> cases sum <;> simp [hp]
      · by_cases h2 : kind = 2
        · subst h2; cases b4 <;> cases sum <;> simp [hp]
        · simp [h0, h1, h2, show kind > 2 by omega]
def fu (x : BitVec 64) (kind : Int) : Bool := bitOf x 6 && (decide (kind ≠ 1) || bitOf x 7)
theorem full_eq (x : BitVec 64) (kind : Int) (exec : Bool) (priv : Int) (v sum mxr vmxr : Bool) : pte_Full.f (U x) kind exec priv v sum mxr vmxr = some (fu x kind) := by
  unfold pte_Full.f fu; rw [n128]; simp only [t64]
  generalize bitOf x 6 = b6
  by_cases h : kind = 1 <;> cases b6 <;> simp [h]
theorem rfull_eq (x : BitVec 64) (b0 b1 b2 b3 b4 b5 : Bool) (p f : Int) (kind : Int) (exec : Bool) (priv : Int) (v sum mxr vmxr : Bool) :
    mezzanineref15_Entry_Full.f b0 b1 b2 b3 b4 b5 (bitOf x 6) (bitOf x 7) p f kind exec priv v sum mxr vmxr = some (fu x kind) := by
  unfold mezzanineref15_Entry_Full.f fu
  generalize bitOf x 6 = b6
  by_cases h : kind = 1 <;> cases b6 <;> simp [h]
/-! ### levels -/
def hd (level : Int) : Nat := if level < 1 then 0 else if level = 1 then 1 else 2
theorem held_eq (level : Int) : pte_held.f level = some (hd level : Int) := by
  unfold pte_held.f hd mn mx; congr 1
  by_cases h : level < 1
  · rw [if_pos h]; split <;> split <;> omega
  · rw [if_neg h]
    by_cases h1 : level = 1
    · rw [if_pos h1]; split <;> split <;> omega
    · rw [if_neg h1]; split <;> split <;> omega
theorem hd_cases (level : Int) : hd level = 0 ∨ hd level = 1 ∨ hd level = 2 := by unfold hd; split; · exact Or.inl rfl
                                                                                  split; · exact Or.inr (Or.inl rfl)
                                                                                  exact Or.inr (Or.inr rfl)
def jd (x : BitVec 64) (level : Int) (kind : Int) (exec : Bool) (priv : Int) (v sum mxr vmxr : Bool) : Int :=
  if okE x = true then (if lf x = true then (if pg x % 2 ^ (9 * hd level) = 0 ∧ al x kind exec priv v sum mxr vmxr = true then 2 else 0) else if level < 1 then 0 else 1) else 0
theorem judge_eq (x : BitVec 64) (k : Nat) (level kind : Int) (exec : Bool) (priv : Int) (v sum mxr vmxr : Bool) : pte_Judge.f (k + 1) (U x) level kind exec priv v sum mxr vmxr = some (jd x level kind exec priv v sum mxr vmxr) := by
  unfold pte_Judge.f jd
  rw [ok_eq, bsm, leaf_eq, bsm, page_eq, bsm, held_eq, bsm, allowed_eq, bsm]
  have hh := hd_cases level
  have hp := pg_lt x
  have e : bits_Field.f (pg x : Int) 0 (wrap64 (9 * (hd level : Int))) = some ((pg x % 2 ^ (9 * hd level) : Nat) : Int) := by
    have h := field_nat (BitVec.ofNat 64 (pg x)) 0 (9 * hd level) (by omega)
    rw [U_nat, BitVec.toNat_ofNat, Nat.mod_eq_of_lt (by omega), Nat.pow_zero, Nat.div_one] at h
    rw [show wrap64 (9 * (hd level : Int)) = ((9 * hd level : Nat) : Int) by unfold wrap64; omega]; exact h
  rw [e, bsm]
  have e2 : ((((pg x % 2 ^ (9 * hd level) : Nat) : Int)) = 0) = (pg x % 2 ^ (9 * hd level) = 0) := by rw [eq_iff_iff]; omega
  simp only [e2]
  by_cases h1 : okE x = true <;> by_cases h2 : lf x = true <;> by_cases h3 : pg x % 2 ^ (9 * hd level) = 0 <;> by_cases h4 : al x kind exec priv v sum mxr vmxr = true <;> simp [h1, h2, h3, h4] <;> split <;> rfl
/-! ### entries made -/
theorem make_nat (p f : Nat) (hp : p < 18446744073709551616) (hf : f < 18446744073709551616) : pte_Make.f (p : Int) (f : Int) = some ((p % 17592186044416 * 1024 + f % 256 : Nat) : Int) := by
  unfold pte_Make.f
  have h := field_nat (BitVec.ofNat 64 p) 0 44 (by decide)
  rw [U_nat, BitVec.toNat_ofNat, Nat.mod_eq_of_lt (by omega), Nat.pow_zero, Nat.div_one, show (2 : Nat) ^ 44 = 17592186044416 from rfl] at h
  rw [show bits_Field.f (p : Int) 0 44 = _ from h, bsm, show (255 : Int) = ((2 ^ 8 - 1 : Nat) : Int) from rfl, u64_and_nat _ _ hf (by decide), Nat.and_two_pow_sub_one_eq_mod,
    IntKind.wrap_u64, show ((p % 17592186044416 : Nat) : Int) * 1024 % 18446744073709551616 = ((2 ^ 10 * (p % 17592186044416) : Nat) : Int) by omega, u64_or_nat _ _ (by omega) (by omega),
    ← Nat.two_pow_add_eq_or_of_lt (by omega), show 2 ^ 10 * (p % 17592186044416) + f % 2 ^ 8 = p % 17592186044416 * 1024 + f % 256 by omega]
theorem mask_nat (a n m : Nat) (ha : a < 18446744073709551616) (hn : n ≤ 63) (hm : m + 1 = 2 ^ n) : Go.bits .and .u64 (a : Int) (m : Int) = ((a % 2 ^ n : Nat) : Int) := by
  have hp : 2 ^ n ≤ 2 ^ 63 := Nat.pow_le_pow_right (by decide) hn
  rw [show m = 2 ^ n - 1 by omega, u64_and_nat _ _ ha (by omega), Nat.and_two_pow_sub_one_eq_mod]
end Go.Proofs.YteebgfcihoidmaaR.QF
