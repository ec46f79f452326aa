/- What the document's own multiplications and divisions tell, as whole numbers. -/
import Derived.Test.YtbfdehkejohjhaaQx7
import Derived.Test.YtbfdehkejohjhaaQx8
import Derived.Test.YtbfdehkejohjhaaQx9
import Derived.Test.YtbfdehkejohjhaaQSext
import Derived.Test.YtbfdehkejohjhaaQArith
set_option linter.unusedSimpArgs false
set_option linter.unusedVariables false
namespace Go.Proofs.Ytbfdehkejohjhaa.QF
open Go.RowKit Go.Proofs.Ytbfdehkejohjhaa.Q Go.Proofs.YtbfdehkejohjhaaW.PrintWords Go.Proofs.YtbfdehkejohjhaaW.PrintLast Go.Proofs.YtbfdehkejohjhaaW.PrintMore Go.Proofs.Ytbfdehkejohjhaa.Bv

/-- How far from nought, and the sign. -/
def mag (a : Int) : Int := if 9223372036854775808 ≤ a then 18446744073709551616 - a else a
theorem size_eq {a : Int} (h0 : 0 ≤ a) (h1 : a < 18446744073709551616) : mezzanineref02_size.f a = some (mag a, decide (9223372036854775808 ≤ a)) := by
  unfold mezzanineref02_size.f mag
  by_cases h : 9223372036854775808 ≤ a
  · rw [if_pos h, if_pos h, IntKind.wrap_u64, decide_eq_true h]; congr 2; omega
  · rw [if_neg h, if_neg h, decide_eq_false h]
theorem mag_range {a : Int} (h0 : 0 ≤ a) (h1 : a < 18446744073709551616) : 0 ≤ mag a ∧ mag a < 18446744073709551616 := by unfold mag; split <;> omega
theorem sg_neg {a : Int} (h : 9223372036854775808 ≤ a) : sg a = -mag a := by unfold sg mag; rw [if_pos h, if_pos h]; omega
theorem sg_pos {a : Int} (h : ¬9223372036854775808 ≤ a) : sg a = mag a := by unfold sg mag; rw [if_neg h, if_neg h]
theorem product_eq {a b : Int} (ha0 : 0 ≤ a) (ha : a < 18446744073709551616) (hb0 : 0 ≤ b) (hb : b < 18446744073709551616) : mezzanineref02_product.f a b = some (a * b / 18446744073709551616, a * b % 18446744073709551616) := by
  unfold mezzanineref02_product.f; rw [if_pos ⟨ha0, ha, hb0, hb⟩]
theorem turned_eq {p : Int} (h0 : 0 ≤ p) (h1 : p < 340282366920938463463374607431768211456) : ∃ l, mezzanineref02_turned.f (p / 18446744073709551616) (p % 18446744073709551616) = some (hi (-p), l) := by
  unfold mezzanineref02_turned.f hi
  rw [IntKind.wrap_u64, IntKind.wrap_u64, IntKind.wrap_u64]
  split
  · exact ⟨_, by congr 2; omega⟩
  · exact ⟨_, by congr 2; omega⟩
theorem high_j1 (k : Nat) {m n : Int} (hm0 : 0 ≤ m) (hm : m < 18446744073709551616) (hn0 : 0 ≤ n) (hn : n < 18446744073709551616) (s t : Bool) :
    mezzanineref02_high.j1 (k + 1) m s n t = some (hi (if (s != t) = true then -(m * n) else m * n)) := by
  rw [mezzanineref02_high.j1]
  rw [product_eq hm0 hm hn0 hn]; simp only [Option.bind_some]
  have hr := mul_range hm0 hm hn0 hn
  generalize m * n = p at hr ⊢
  by_cases h : (s != t) = true
  · obtain ⟨l, hl⟩ := turned_eq hr.1 hr.2
    rw [if_pos h, if_pos h, hl]; rfl
  · rw [if_neg h, if_neg h]; unfold hi; congr 1; omega
def tk (s : Bool) (a : Int) : Int := if s = true then sg a else a
theorem high_eq (k : Nat) {a b : Int} (ha0 : 0 ≤ a) (ha : a < 18446744073709551616) (hb0 : 0 ≤ b) (hb : b < 18446744073709551616) (s t : Bool) :
    mezzanineref02_high.f (k + 2) a b s t = some (hi (tk s a * tk t b)) := by
  have ra := mag_range ha0 ha; have rb := mag_range hb0 hb
  unfold mezzanineref02_high.f
  rw [size_eq ha0 ha, size_eq hb0 hb]; simp only [Option.bind_some]
  have e : ∀ (m : Int) (u : Bool), mezzanineref02_high.j0 (k + 2) b t m u (mag b) (decide (9223372036854775808 ≤ b)) = if t = true then mezzanineref02_high.j1 (k + 1) m u (mag b) (decide (9223372036854775808 ≤ b)) else mezzanineref02_high.j1 (k + 1) m u b false := by
    intro m u; rw [mezzanineref02_high.j0]
  cases s <;> cases t <;> simp only [e, tk, if_true, if_false, Bool.false_eq_true] <;> rw [high_j1 k (by omega) (by omega) (by omega) (by omega)]
  · simp
  · by_cases h : 9223372036854775808 ≤ b
    · rw [decide_eq_true h, sg_neg h]; simp [Int.mul_neg]
    · rw [decide_eq_false h, sg_pos h]; simp
  · by_cases h : 9223372036854775808 ≤ a
    · rw [decide_eq_true h, sg_neg h]; simp [Int.neg_mul]
    · rw [decide_eq_false h, sg_pos h]; simp
  · by_cases h : 9223372036854775808 ≤ a <;> by_cases h' : 9223372036854775808 ≤ b <;>
      simp only [h, h', decide_true, decide_false, sg_neg, sg_pos, not_true, not_false_iff] <;> simp [Int.neg_mul, Int.mul_neg]
theorem rmulh_eq (k : Nat) {a b : Int} (ha0 : 0 ≤ a) (ha : a < 18446744073709551616) (hb0 : 0 ≤ b) (hb : b < 18446744073709551616) : mezzanineref02_Mulh.f (k + 2) a b = some (hi (sg a * sg b)) := by
  unfold mezzanineref02_Mulh.f; rw [high_eq k ha0 ha hb0 hb]; simp [tk]
theorem rmulhsu_eq (k : Nat) {a b : Int} (ha0 : 0 ≤ a) (ha : a < 18446744073709551616) (hb0 : 0 ≤ b) (hb : b < 18446744073709551616) : mezzanineref02_Mulhsu.f (k + 2) a b = some (hi (sg a * b)) := by
  unfold mezzanineref02_Mulhsu.f; rw [high_eq k ha0 ha hb0 hb]; simp [tk]
theorem rmulhu_eq (k : Nat) {a b : Int} (ha0 : 0 ≤ a) (ha : a < 18446744073709551616) (hb0 : 0 ≤ b) (hb : b < 18446744073709551616) : mezzanineref02_Mulhu.f (k + 2) a b = some (hi (a * b)) := by
  unfold mezzanineref02_Mulhu.f; rw [high_eq k ha0 ha hb0 hb]; simp [tk]
theorem rmul_eq {a b : Int} (ha0 : 0 ≤ a) (ha : a < 18446744073709551616) (hb0 : 0 ≤ b) (hb : b < 18446744073709551616) : mezzanineref02_Mul.f a b = some (a * b % 18446744073709551616) := by
  unfold mezzanineref02_Mul.f; rw [product_eq ha0 ha hb0 hb]; rfl
theorem drawn_eq {a : Int} (h0 : 0 ≤ a) (h1 : a < 18446744073709551616) : mezzanineref02_drawn.f a = some (ext a) := by
  obtain ⟨x, rfl⟩ : ∃ x : BitVec 64, a = U x := ⟨BitVec.ofInt 64 a, by unfold U; rw [BitVec.toNat_ofInt]; omega⟩
  have h := half_eq (U x)
  unfold arith_half.f at h
  rw [sext_eq x 32 (by decide)] at h; simp only [Option.bind_some] at h
  unfold mezzanineref02_drawn.f
  rw [ref_sext x 32 (by decide) (by decide)]; simp only [Option.bind_some]; exact h
theorem low_eq {a : Int} (h0 : 0 ≤ a) : mezzanineref02_low.f a = some (a % 4294967296) := by
  unfold mezzanineref02_low.f; rw [Int.tmod_eq_emod_of_nonneg h0]
theorem rmulw_eq {a b : Int} (ha0 : 0 ≤ a) (ha : a < 18446744073709551616) (hb0 : 0 ≤ b) (hb : b < 18446744073709551616) : mezzanineref02_Mulw.f a b = some (ext (a * b)) := by
  unfold mezzanineref02_Mulw.f
  rw [low_eq ha0, low_eq hb0]; simp only [Option.bind_some]
  rw [rmul_eq (by omega) (by omega) (by omega) (by omega)]; simp only [Option.bind_some]
  rw [drawn_eq (by omega) (by omega)]; simp only [Option.bind_some]
  congr 1; apply ext_congr
  rw [Int.emod_emod_of_dvd _ (by decide), ← Int.mul_emod]
theorem mag_zero {b : Int} (h0 : 0 ≤ b) (h1 : b < 18446744073709551616) (h : b ≠ 0) : mag b ≠ 0 := by unfold mag; split <;> omega
theorem rdiv_eq {a b : Int} (ha0 : 0 ≤ a) (ha : a < 18446744073709551616) (hb0 : 0 ≤ b) (hb : b < 18446744073709551616) : mezzanineref02_Div.f a b = some (dv a b) := by
  unfold mezzanineref02_Div.f dv
  by_cases h0 : b = 0
  · rw [if_pos h0, if_pos h0]
  rw [if_neg h0, if_neg h0, size_eq ha0 ha, size_eq hb0 hb]; simp only [Option.bind_some]
  rw [if_neg (mag_zero hb0 hb h0), if_neg (mag_zero hb0 hb h0)]
  by_cases h : 9223372036854775808 ≤ a <;> by_cases h' : 9223372036854775808 ≤ b
  · rw [decide_eq_true h, decide_eq_true h', sg_neg h, sg_neg h', Int.neg_tdiv, Int.tdiv_neg, Int.neg_neg, if_neg (by decide), IntKind.wrap_u64]
  · rw [decide_eq_true h, decide_eq_false h', sg_neg h, sg_pos h', Int.neg_tdiv, if_pos (by decide), IntKind.wrap_u64, IntKind.wrap_u64]; congr 1; omega
  · rw [decide_eq_false h, decide_eq_true h', sg_pos h, sg_neg h', Int.tdiv_neg, if_pos (by decide), IntKind.wrap_u64, IntKind.wrap_u64]; congr 1; omega
  · rw [decide_eq_false h, decide_eq_false h', sg_pos h, sg_pos h', if_neg (by decide), IntKind.wrap_u64]
theorem rrem_eq {a b : Int} (ha0 : 0 ≤ a) (ha : a < 18446744073709551616) (hb0 : 0 ≤ b) (hb : b < 18446744073709551616) : mezzanineref02_Rem.f a b = some (rm a b) := by
  unfold mezzanineref02_Rem.f rm
  by_cases h0 : b = 0
  · rw [if_pos h0, if_pos h0]
  rw [if_neg h0, if_neg h0, size_eq ha0 ha, size_eq hb0 hb]; simp only [Option.bind_some]
  rw [if_neg (mag_zero hb0 hb h0), if_neg (mag_zero hb0 hb h0)]
  have ra := mag_range ha0 ha; have rb := mag_range hb0 hb
  have hz := mag_zero hb0 hb h0
  have r0 := Int.tmod_nonneg (mag b) ra.1
  have r1 := Int.tmod_lt_of_pos (mag a) (show 0 < mag b by omega)
  have eb : (sg a).tmod (sg b) = (sg a).tmod (mag b) := by
    by_cases h' : 9223372036854775808 ≤ b
    · rw [sg_neg h', Int.tmod_neg]
    · rw [sg_pos h']
  rw [eb]
  by_cases h : 9223372036854775808 ≤ a
  · rw [decide_eq_true h, if_pos rfl, IntKind.wrap_u64, sg_neg h, Int.neg_tmod]
  · rw [decide_eq_false h, if_neg (by decide), sg_pos h]; congr 1; omega
theorem rdivu_eq {a b : Int} (ha0 : 0 ≤ a) (ha : a < 18446744073709551616) (hb0 : 0 ≤ b) : mezzanineref02_Divu.f a b = some (dvu a b) := by
  have := divu_eq ha0 ha hb0
  unfold arith_Divu.f at this; unfold mezzanineref02_Divu.f; exact this
theorem rremu_eq {a b : Int} (ha0 : 0 ≤ a) : mezzanineref02_Remu.f a b = some (rmu a b) := by
  have := remu_eq (b := b) ha0
  unfold arith_Remu.f at this; unfold mezzanineref02_Remu.f; exact this
theorem ext_zero {b : Int} (h : b % 4294967296 = 0) : ext b = 0 := by unfold ext; rw [h]; rfl
theorem ext_all : ext 18446744073709551615 = 18446744073709551615 := by decide
theorem rdivw_eq {a b : Int} (ha0 : 0 ≤ a) (ha : a < 18446744073709551616) (hb0 : 0 ≤ b) (hb : b < 18446744073709551616) : mezzanineref02_Divw.f a b = some (ext (dv (ext a) (ext b))) := by
  unfold mezzanineref02_Divw.f
  rw [low_eq hb0]; simp only [Option.bind_some]
  by_cases h : b % 4294967296 = 0
  · rw [if_pos h, ext_zero h]; unfold dv; rw [if_pos rfl, ext_all]
  rw [if_neg h, drawn_eq ha0 ha, drawn_eq hb0 hb]; simp only [Option.bind_some]
  rw [rdiv_eq (ext_range a).1 (ext_range a).2 (ext_range b).1 (ext_range b).2]; simp only [Option.bind_some]
  rw [drawn_eq dv_range.1 dv_range.2]; rfl
theorem rremw_eq {a b : Int} (ha0 : 0 ≤ a) (ha : a < 18446744073709551616) (hb0 : 0 ≤ b) (hb : b < 18446744073709551616) : mezzanineref02_Remw.f a b = some (ext (rm (ext a) (ext b))) := by
  unfold mezzanineref02_Remw.f
  rw [low_eq hb0]; simp only [Option.bind_some]
  have hr := rm_range (b := ext b) (ext_range a).1 (ext_range a).2
  by_cases h : b % 4294967296 = 0
  · rw [if_pos h, ext_zero h, drawn_eq ha0 ha]; unfold rm; rw [if_pos rfl, ext_ext]; rfl
  rw [if_neg h, drawn_eq ha0 ha, drawn_eq hb0 hb]; simp only [Option.bind_some]
  rw [rrem_eq (ext_range a).1 (ext_range a).2 (ext_range b).1 (ext_range b).2]; simp only [Option.bind_some]
  rw [drawn_eq hr.1 hr.2]; rfl
theorem rdivuw_eq {a b : Int} (ha0 : 0 ≤ a) (ha : a < 18446744073709551616) (hb0 : 0 ≤ b) (hb : b < 18446744073709551616) : mezzanineref02_Divuw.f a b = some (ext (dvu (a % 4294967296) (b % 4294967296))) := by
  unfold mezzanineref02_Divuw.f
  rw [low_eq hb0]; simp only [Option.bind_some]
  by_cases h : b % 4294967296 = 0
  · rw [if_pos h, h]; unfold dvu; rw [if_pos rfl, ext_all]
  rw [if_neg h, low_eq ha0]; simp only [Option.bind_some]
  have hr := dvu_range (a := a % 4294967296) (b := b % 4294967296) (by omega) (by omega) (by omega)
  have e : (IntKind.u64.wrap (Int.tdiv (a % 4294967296) (b % 4294967296))) = dvu (a % 4294967296) (b % 4294967296) := by
    unfold dvu at hr ⊢; rw [if_neg h] at hr ⊢; rw [IntKind.wrap_u64, Int.tdiv_eq_ediv_of_nonneg (by omega)]; omega
  rw [if_neg h, e, drawn_eq hr.1 hr.2]; rfl
theorem rremuw_eq {a b : Int} (ha0 : 0 ≤ a) (ha : a < 18446744073709551616) (hb0 : 0 ≤ b) (hb : b < 18446744073709551616) : mezzanineref02_Remuw.f a b = some (ext (rmu (a % 4294967296) (b % 4294967296))) := by
  unfold mezzanineref02_Remuw.f
  rw [low_eq hb0]; simp only [Option.bind_some]
  by_cases h : b % 4294967296 = 0
  · rw [if_pos h, h, drawn_eq ha0 ha]; unfold rmu; rw [if_pos rfl]; simp only [Option.bind_some]
    congr 1; exact ext_congr (by omega)
  rw [if_neg h, low_eq ha0]; simp only [Option.bind_some]
  have hr := rmu_range (a := a % 4294967296) (b := b % 4294967296) (by omega) (by omega) (by omega) (by omega)
  have e : Int.tmod (a % 4294967296) (b % 4294967296) = rmu (a % 4294967296) (b % 4294967296) := by
    unfold rmu; rw [if_neg h, Int.tmod_eq_emod_of_nonneg (by omega)]
  rw [if_neg h, e, drawn_eq hr.1 hr.2]; rfl
end Go.Proofs.Ytbfdehkejohjhaa.QF
