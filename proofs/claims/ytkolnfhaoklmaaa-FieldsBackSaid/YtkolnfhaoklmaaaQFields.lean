/- The words' fields: what the printed functions of package fields, and of its reference, tell, in terms of lists of places. -/
import Derived.Test.YtkolnfhaoklmaaaQx11
import Derived.Test.YtkolnfhaoklmaaaQx5
import Derived.Test.YtkolnfhaoklmaaaQx3
import Derived.Test.YtkolnfhaoklmaaaQx4
import Derived.Test.YtkolnfhaoklmaaaQx10
import Derived.Test.YtkolnfhaoklmaaaQx7
import Derived.Test.YtkolnfhaoklmaaaQx1
import Derived.Test.YtkolnfhaoklmaaaQList
set_option linter.unusedSimpArgs false
set_option linter.unusedVariables false
namespace Go.Proofs.Ytkolnfhaoklmaaa.QF
open Go.RowKit Go.Proofs.Ytkolnfhaoklmaaa.Q Go.Proofs.YtkolnfhaoklmaaaW.PrintWords Go.Proofs.YtkolnfhaoklmaaaW.PrintLast Go.Proofs.YtkolnfhaoklmaaaW.PrintMore Go.Proofs.Ytkolnfhaoklmaaa.Bv

theorem pow32 {n : Nat} (h : n ≤ 32) : 2 ^ n ≤ 4294967296 ∧ 0 < 2 ^ n := ⟨by
  have := Nat.pow_le_pow_right (show 0 < 2 by decide) h; simpa using this, Nat.two_pow_pos n⟩
theorem cast_pow (n : Nat) : ((2 : Int) ^ n) = ((2 ^ n : Nat) : Int) := by simp
theorem shr32 (w l : Nat) (h : l ≤ 32) : shr .u32 (w : Int) (l : Int) = ((w / 2 ^ l : Nat) : Int) := by
  unfold shr; rw [show min ((l : Int)).toNat IntKind.u32.bits = l by rw [Int.toNat_natCast, show IntKind.u32.bits = 32 from rfl, Nat.min_eq_left h], cast_pow]; simp
theorem shr64 (w l : Nat) (h : l ≤ 64) : shr .u64 (w : Int) (l : Int) = ((w / 2 ^ l : Nat) : Int) := by
  unfold shr; rw [show min ((l : Int)).toNat IntKind.u64.bits = l by rw [Int.toNat_natCast, show IntKind.u64.bits = 64 from rfl, Nat.min_eq_left h], cast_pow]; simp
theorem shl32 (w l : Nat) (h : l ≤ 32) : shl .u32 (w : Int) (l : Int) = ((w * 2 ^ l % 4294967296 : Nat) : Int) := by
  unfold shl; rw [show min ((l : Int)).toNat IntKind.u32.bits = l by rw [Int.toNat_natCast, show IntKind.u32.bits = 32 from rfl, Nat.min_eq_left h], cast_pow, IntKind.wrap_u32']; simp
theorem shl64 (w l : Nat) (h : l ≤ 64) : shl .u64 (w : Int) (l : Int) = ((w * 2 ^ l % 18446744073709551616 : Nat) : Int) := by
  unfold shl; rw [show min ((l : Int)).toNat IntKind.u64.bits = l by rw [Int.toNat_natCast, show IntKind.u64.bits = 64 from rfl, Nat.min_eq_left h], cast_pow, IntKind.wrap_u64]; simp
theorem shli (l : Nat) (h : l ≤ 32) : shl .i64 1 (l : Int) = ((2 ^ l : Nat) : Int) := by
  have := pow32 h
  unfold shl; rw [show min ((l : Int)).toNat IntKind.i64.bits = l by rw [Int.toNat_natCast, show IntKind.i64.bits = 64 from rfl, Nat.min_eq_left (by omega)], cast_pow, IntKind.wrap_i64]; omega
theorem shlm (l : Nat) (h : l ≤ 32) : shl .i64 (-1) (l : Int) = -((2 ^ l : Nat) : Int) := by
  have := pow32 h
  unfold shl; rw [show min ((l : Int)).toNat IntKind.i64.bits = l by rw [Int.toNat_natCast, show IntKind.i64.bits = 64 from rfl, Nat.min_eq_left (by omega)], cast_pow, IntKind.wrap_i64]; omega
theorem w64 {a : Int} (h0 : -9223372036854775808 ≤ a) (h1 : a < 9223372036854775808) : wrap64 a = a := by unfold wrap64; omega
theorem u64w {a : Int} (h0 : 0 ≤ a) (h1 : a < 9223372036854775808) : IntKind.u64.wrap a = a := by rw [IntKind.wrap_u64]; omega
theorem mask32 (w k : Nat) (hw : w < 4294967296) (h : k ≤ 32) : Go.bits .and .u32 (w : Int) (((shl .u32 1 (k : Int)) - 1) % 4294967296) = ((w % 2 ^ k : Nat) : Int) := by
  have hp := pow32 h
  have e : (((shl .u32 1 (k : Int)) - 1) % 4294967296) = ((2 ^ k - 1 : Nat) : Int) := by
    rw [show (1 : Int) = ((1 : Nat) : Int) from rfl, shl32 1 k h]; omega
  rw [e, u32_and_nat _ _ hw (by omega), Nat.and_two_pow_sub_one_eq_mod]
theorem mask64 (w k : Nat) (hw : w < 18446744073709551616) (h : k ≤ 32) : Go.bits .and .u64 (w : Int) (IntKind.u64.wrap ((shl .u64 1 (k : Int)) - 1)) = ((w % 2 ^ k : Nat) : Int) := by
  have hp := pow32 h
  have e : (IntKind.u64.wrap ((shl .u64 1 (k : Int)) - 1)) = ((2 ^ k - 1 : Nat) : Int) := by
    rw [show (1 : Int) = ((1 : Nat) : Int) from rfl, shl64 1 k (by omega), IntKind.wrap_u64]; omega
  rw [e, u64_and_nat _ _ hw (by omega), Nat.and_two_pow_sub_one_eq_mod]

/-! ### pieces -/
def gp (p : S44) : Prop := 0 ≤ p.f1 ∧ p.f1 ≤ p.f0 ∧ p.f0 ≤ 31
instance (p : S44) : Decidable (gp p) := by unfold gp; infer_instance
def kp (p : S44) : Nat := (p.f0 - p.f1 + 1).toNat
def lp (p : S44) : Nat := p.f1.toNat
theorem gp_facts {p : S44} (h : gp p) : p.f1 = (lp p : Int) ∧ wrap64 (wrap64 (p.f0 - p.f1) + 1) = (kp p : Int) ∧ 1 ≤ kp p ∧ kp p + lp p ≤ 32 := by
  unfold gp at h; unfold lp kp
  rw [w64 (a := p.f0 - p.f1) (by omega) (by omega), w64 (by omega) (by omega)]; omega
def fw (w : Nat) (p : S44) : Nat := w / 2 ^ lp p % 2 ^ kp p
theorem field_eq (w : Nat) (hw : w < 4294967296) {p : S44} (h : gp p) : fields_Field.f (w : Int) p.f0 p.f1 = some (fw w p : Int) := by
  obtain ⟨h1, h2, h3, h4⟩ := gp_facts h
  unfold gp at h
  unfold fields_Field.f
  rw [if_neg (by omega), if_neg (by omega), if_neg (by omega), if_pos h.1, h2, if_pos (by omega), h1, shr32 _ _ (by omega),
    mask32 _ _ (Nat.lt_of_le_of_lt (Nat.div_le_self _ _) hw) (by omega)]
  rfl
def mlist : List S44 → List Int
  | [] => []
  | p :: r => mlist r ++ rng (lp p) (kp p)
def cat (w : Nat) (x : Nat) : List S44 → Nat
  | [] => x
  | p :: r => cat w (2 ^ kp p * x + fw w p) r
theorem cat_num (w : Nat) : ∀ (ps : List S44) (x : Nat), cat w x ps = 2 ^ (mlist ps).length * x + num w (mlist ps) := by
  intro ps; induction ps with
  | nil => intro x; simp [cat, mlist, num]
  | cons p r ih =>
    intro x; rw [cat, ih, mlist, num_app, List.length_append, rng_len, num_rng, Nat.pow_add, Nat.mul_add]; unfold fw
    simp only [Nat.mul_assoc]; omega
theorem fw_lt (w : Nat) (p : S44) : fw w p < 2 ^ kp p := Nat.mod_lt _ (Nat.two_pow_pos _)
theorem getD_at {α : Type} (done rest : List α) (p z : α) : (done ++ p :: rest).getD done.length z = p := by simp [List.getD]
theorem rd_at (done rest : List S44) (p : S44) : rd_T44 (done ++ p :: rest) ((done.length : Nat) : Int) = p := by
  unfold rd_T44; rw [Int.toNat_natCast, getD_at]
theorem rdi_at (done rest : List Int) (p : Int) : rd (done ++ p :: rest) ((done.length : Nat) : Int) = p := by
  unfold rd; rw [Int.toNat_natCast, getD_at]
theorem add1 (n : Nat) (h : n < 1000) : wrap64 ((n : Int) + 1) = ((n + 1 : Nat) : Int) := by rw [w64 (by omega) (by omega)]; omega
theorem num_step (w : Nat) (hw : w < 4294967296) (K x a : Nat) (done rest : List S44) (p : S44) (s : Int) (b : Bool) (hl : (done ++ p :: rest).length < 1000) (h : gp p) (hx : x < 2 ^ a) (ha : a + kp p ≤ 64) :
    fields_Number.l0 (K + 1) (w : Int) (x : Int) (done ++ p :: rest) ((done ++ p :: rest).length : Int) (done.length : Int) (done ++ p :: rest) s b
      = fields_Number.l0 K (w : Int) ((2 ^ kp p * x + fw w p : Nat) : Int) (done ++ p :: rest) ((done ++ p :: rest).length : Int) ((done.length + 1 : Nat) : Int) (done ++ p :: rest) s b := by
  obtain ⟨h1, h2, h3, h4⟩ := gp_facts h
  have hlen : done.length < (done ++ p :: rest).length := by simp
  rw [fields_Number.l0, if_pos (by omega), if_pos (by omega), if_pos (by omega), rd_at, h2, if_pos (by omega), field_eq w hw h]
  simp only [Option.bind_some]
  have hb := fw_lt w p
  have hk := pow32 (show kp p ≤ 32 by omega)
  have hp : 2 ^ kp p * x < 18446744073709551616 := by
    have h5 : 2 ^ kp p * x < 2 ^ (kp p + a) := by rw [Nat.pow_add]; exact Nat.mul_lt_mul_of_pos_left hx (Nat.two_pow_pos _)
    exact Nat.lt_of_lt_of_le h5 (Nat.pow_le_pow_right (by decide) (by omega : kp p + a ≤ 64))
  rw [shl64 x (kp p) (by omega), Nat.mul_comm x, Nat.mod_eq_of_lt hp, u64w (by omega) (by omega), u64_or_nat _ _ hp (by omega), or_add _ _ _ hb, add1 _ (by omega)]
theorem num_loop (w : Nat) (hw : w < 4294967296) (K : Nat) (s : Int) (b : Bool) : ∀ (rest done : List S44) (x a : Nat), (done ++ rest).length < 1000 → (∀ p ∈ rest, gp p) → x < 2 ^ a → a + (mlist rest).length ≤ 64 →
    fields_Number.l0 (rest.length + K) (w : Int) (x : Int) (done ++ rest) ((done ++ rest).length : Int) (done.length : Int) (done ++ rest) s b
      = fields_Number.l0 K (w : Int) (cat w x rest : Int) (done ++ rest) ((done ++ rest).length : Int) ((done ++ rest).length : Int) (done ++ rest) s b := by
  intro rest; induction rest with
  | nil => intro done x a _ _ _ _; simp [cat]
  | cons p r ih =>
    intro done x a hl hg hx ha
    rw [mlist, List.length_append, rng_len] at ha
    have h := ih (done ++ [p]) (2 ^ kp p * x + fw w p) (kp p + a) (by simpa using hl) (fun q hq => hg q (List.mem_cons_of_mem _ hq)) (by
      have hb := fw_lt w p
      have : 2 ^ kp p * x + 2 ^ kp p ≤ 2 ^ (kp p + a) := by rw [Nat.pow_add, ← Nat.mul_succ]; exact Nat.mul_le_mul_left _ hx
      omega) (by omega)
    rw [show (done ++ [p]).length = done.length + 1 by simp, show done ++ [p] ++ r = done ++ p :: r by simp] at h
    rw [List.length_cons, show r.length + 1 + K = (r.length + K) + 1 by omega, num_step w hw _ x a done r p s b hl (hg p (List.mem_cons_self)) hx (by omega), cat]
    exact h
def sgx (b : Bool) (W : Nat) (x : Nat) : Int := if b = true ∧ 2 ^ (W - 1) ≤ x then (x : Int) - ((2 ^ W : Nat) : Int) else (x : Int)
theorem sgx_fin (W Y : Nat) (hW : W = 12 ∨ W = 13 ∨ W = 21 ∨ W = 32) (hY : Y < 2 ^ W) :
    shr .i64 (wrap64 (shl .u64 (Y : Int) ((64 : Int) - (W : Int)))) ((64 : Int) - (W : Int)) = sgx true W Y := by
  rw [show ((64 : Int) - (W : Int)) = ((64 - W : Nat) : Int) by omega, shl64 _ _ (by omega)]
  unfold shr sgx
  rw [Int.toNat_natCast, show IntKind.i64.bits = 64 from rfl, Nat.min_eq_left (by omega), cast_pow]
  rcases hW with rfl | rfl | rfl | rfl <;> simp only [Nat.reduceSub, Nat.reducePow] at hY ⊢ <;> unfold wrap64 <;> simp only [true_and] <;> split <;> omega

/-! ### the forms -/
def places (ps : List S44) (s : Nat) : List Int := List.replicate s (-1) ++ mlist ps
structure Good (f : Int) (ps : List S44) (s : Nat) (b : Bool) (W : Nat) : Prop where
  shape : fields_shapeOf.f f = some (ps, (s : Int), b)
  ne : 0 < ps.length
  few : ps.length < 6
  pcs : ∀ p ∈ ps, gp p
  len : s + (mlist ps).length = W
  W0 : 1 ≤ W
  W1 : W ≤ 32
  Ws : b = true → W = 12 ∨ W = 13 ∨ W = 21 ∨ W = 32
  s1 : s ≤ 12
  size : ∀ k, fields_shape_size.f (k + 6) ps (s : Int) b = some (W : Int)
  plc : ∀ k, mezzanineref08_Places.f (k + 40) f = some (places ps s).reverse
  sgn : mezzanineref08_Signed.f f = some b
  dis : nd (places ps s) = true
  rge : ∀ q ∈ places ps s, -1 ≤ q ∧ q < 32
  bsv : bs (places ps s) < 4294967296
  top : b = true → ∃ D, places ps s = D ++ [31]
  bts : ∀ k, fields_Bits.f (k + 6) f = some (bs (places ps s) : Int)
  rbt : ∀ k, mezzanineref08_Bits.f (k + 40) f = some (bs (places ps s) : Int)
theorem Good.plen {f ps s b W} (g : Good f ps s b W) : (places ps s).length = W := by
  unfold places; rw [List.length_append, List.length_replicate]; exact g.len
theorem Good.num {f ps s b W} (g : Good f ps s b W) (w : Nat) : num w (places ps s) = 2 ^ s * num w (mlist ps) := by
  unfold places; rw [num_app, num_reps, List.length_replicate, Nat.zero_add]
theorem number_eq {f ps s b W} (g : Good f ps s b W) (k w : Nat) (hw : w < 4294967296) : fields_Number.f (k + 20) f (w : Int) = some (sgx b W (num w (places ps s)), true) := by
  unfold fields_Number.f
  rw [g.shape]; simp only [Option.bind_some]
  have hn := g.ne; have hf := g.few; have hl := g.len; have h1 := g.W1
  rw [if_neg (by omega)]
  have e := num_loop w hw (k + 20 - ps.length) (s : Int) b ps [] 0 0 (by simpa using (by omega : ps.length < 1000)) g.pcs (by decide) (by omega)
  simp only [List.nil_append] at e
  rw [show ps.length + (k + 20 - ps.length) = k + 20 by omega] at e
  refine Eq.trans (Eq.trans ?_ e) ?_
  · rfl
  rw [show k + 20 - ps.length = (k + 13 - ps.length + 6) + 1 by omega, fields_Number.l0, if_neg (by omega), if_pos (by omega), g.size, cat_num, Nat.mul_zero, Nat.zero_add]
  have hlt := num_lt w (places ps s)
  rw [g.plen] at hlt
  have hp := pow32 h1
  have hx : shl .u64 ((QF.num w (mlist ps) : Nat) : Int) (s : Int) = ((QF.num w (places ps s) : Nat) : Int) := by
    rw [shl64 _ _ (by have := g.s1; omega), Nat.mul_comm, ← g.num, Nat.mod_eq_of_lt (by omega)]
  rw [hx]
  cases b
  · rw [if_neg (by decide), w64 (by omega) (by omega)]; unfold sgx; simp
  · rw [if_pos rfl]; simp only [Option.bind_some]
    rw [w64 (by omega) (by omega), if_pos (by omega), sgx_fin W _ (g.Ws rfl) hlt]
end Go.Proofs.Ytkolnfhaoklmaaa.QF
