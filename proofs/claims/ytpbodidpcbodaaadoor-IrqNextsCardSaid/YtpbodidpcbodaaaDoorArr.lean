/- Arrays of 64 bools as values, and a word as its bits. Plain lemmas, no program. -/
import Derived.Test.YtpbodidpcbodaaaDoorBv
import Derived.WalkKit
import Derived.Deep.WholeRow
import Derived.Laws.CopyOwn
import Derived.Lib.Hide
set_option linter.unusedSimpArgs false
set_option linter.unusedVariables false
namespace Go.Proofs.YtpbodidpcbodaaaDoor.Bv
open Go.RowKit Go.Proofs.YtpbodidpcbodaaaDoorW.PrintWords Go.Proofs.YtpbodidpcbodaaaDoorW.PrintLast Go.Proofs.YtpbodidpcbodaaaDoorW.PrintMore

/-- An array of 64 bools, as cells. -/
def bArr (b : Nat → Bool) : Array Value := ((List.range 64).map fun i => Value.bool (b i)).toArray
/-- A word's bit; a name that the walk doesn't look into. -/
def bitOf (x : BitVec 64) (i : Nat) : Bool := x.getLsbD i
/-- The bits of a word, as cells. -/
def wArr (x : BitVec 64) : Array Value := bArr (bitOf x)
theorem bArr_size (b : Nat → Bool) : (bArr b).size = 64 := by simp [bArr]
theorem bArr_get (b : Nat → Bool) (i : Nat) (h : i < 64) : (bArr b)[i]? = some (.bool (b i)) := by simp [bArr, h]
theorem bArr_none (b : Nat → Bool) (i : Nat) (h : 64 ≤ i) : (bArr b)[i]? = none := by rw [Array.getElem?_eq_none]; rw [bArr_size]; omega
theorem bArr_congr {b c : Nat → Bool} (h : ∀ i, i < 64 → b i = c i) : bArr b = bArr c := by
  apply Array.ext_getElem?; intro j
  by_cases hj : j < 64
  · rw [bArr_get _ j hj, bArr_get _ j hj, h j hj]
  · rw [bArr_none _ j (by omega), bArr_none _ j (by omega)]
theorem bArr_set (b : Nat → Bool) (k : Nat) (v : Bool) : (bArr b).setIfInBounds k (.bool v) = bArr (fun i => if i = k then v else b i) := by
  apply Array.ext_getElem?; intro j
  rw [Array.getElem?_setIfInBounds, bArr_size]
  by_cases hj : j < 64
  · rw [bArr_get _ j hj, bArr_get _ j hj]
    by_cases h : k = j
    · subst h; simp [hj]
    · simp [h, Ne.symm h]
  · rw [bArr_none _ j (by omega), bArr_none _ j (by omega)]; by_cases h : k = j <;> simp [h]; omega
theorem bArr_one (b : Nat → Bool) : (bArr b).all (·.oneCell') = true := by
  rw [Array.all_eq_true_iff_forall_mem]; intro v hv
  simp [bArr] at hv; obtain ⟨i, _, rfl⟩ := hv; rfl
theorem U_half (x : BitVec 64) : U x / (2 : Int) = U (x >>> (1 : Nat)) := by have := U_div_pow x 1; simpa using this
theorem shr_succ (x : BitVec 64) (k : Nat) : x >>> k >>> (1 : Nat) = x >>> (k + 1) := by rw [BitVec.shiftRight_add]
theorem U_odd (x : BitVec 64) : (U x % 2 == 1) = x.getLsbD 0 := by
  have h : U x % 2 = U (x &&& mk 1) := U_mod_pow x 1 (by omega)
  rw [h]
  have e : x &&& mk 1 = if x.getLsbD 0 then 1#64 else 0#64 := by
    apply BitVec.eq_of_getLsbD_eq; intro i hi
    rw [BitVec.getLsbD_and, mk_bit]
    by_cases h0 : i = 0
    · subst h0; cases x.getLsbD 0 <;> simp
    · cases x.getLsbD 0 <;> simp [h0, show ¬ i < 1 by omega]
  rw [e]; cases x.getLsbD 0 <;> rfl
theorem split_step (x : BitVec 64) (k : Nat) : bArr (fun i => if i = k then (U (x >>> k) % 2 == 1) else (decide (i < k) && x.getLsbD i)) = bArr fun i => decide (i < k + 1) && x.getLsbD i := by
  rw [U_odd]; congr 1; funext i
  by_cases h : i = k
  · subst h; simp
  · rw [if_neg h]; congr 1; apply decide_eq_decide.2; omega
/-- The word of n bits. -/
def ofBn (b : Nat → Bool) : Nat → BitVec 64
  | 0 => 0#64
  | n + 1 => ofBn b n ||| (if b n then 1#64 <<< n else 0#64)
theorem ofBn_bit (b : Nat → Bool) : ∀ n, n ≤ 64 → (∀ i, i < n → (ofBn b n).getLsbD i = b i) ∧ ∀ i, n ≤ i → (ofBn b n).getLsbD i = false := by
  intro n
  induction n with
  | zero => exact fun _ => ⟨fun i h => by omega, fun i _ => by simp [ofBn]⟩
  | succ n ih =>
    intro hn
    obtain ⟨hx, h0⟩ := ih (by omega)
    refine ⟨fun i hi => ?_, fun i hi => ?_⟩
    · unfold ofBn; rw [BitVec.getLsbD_or]
      by_cases e : i = n
      · subst e; rw [h0 i (Nat.le_refl _)]
        cases hb : b i
        · simp
        · rw [if_pos rfl, BitVec.getLsbD_shiftLeft]; simp; omega
      · rw [hx i (by omega)]
        cases hb : b n
        · simp
        · rw [if_pos rfl, BitVec.getLsbD_shiftLeft]; simp [show i < n by omega]
    · unfold ofBn; rw [BitVec.getLsbD_or, h0 i (by omega)]
      cases hb : b n
      · simp
      · rw [if_pos rfl, BitVec.getLsbD_shiftLeft, Bool.false_or]
        by_cases h64 : i < 64
        · simp [show ¬ i < n by omega, BitVec.getLsbD_one]; omega
        · simp; omega
/-- The word of 64 bits. -/
def ofB (b : Nat → Bool) : BitVec 64 := ofBn b 64
theorem ofB_bit (b : Nat → Bool) (i : Nat) (h : i < 64) : (ofB b).getLsbD i = b i := (ofBn_bit b 64 (Nat.le_refl _)).1 i h
theorem wArr_ofB (b : Nat → Bool) : wArr (ofB b) = bArr b := bArr_congr fun i h => ofB_bit b i h
theorem ofB_eq {b : Nat → Bool} {x : BitVec 64} (h : ∀ i, i < 64 → b i = x.getLsbD i) : ofB b = x :=
  BitVec.eq_of_getLsbD_eq fun i hi => by rw [ofB_bit b i hi, h i hi]
theorem join_step (x : BitVec 64) (k : Nat) (hk : k < 64) : IntKind.u64.wrap (2 * U (x >>> (k + 1))) = U ((x >>> k) &&& ~~~ 1#64) := by
  rw [show (2 : Int) * U (x >>> (k + 1)) = U (x >>> (k + 1)) * 2 ^ 1 by omega, wrap_u64, ofInt_mul_pow]; congr 1
  apply BitVec.eq_of_getLsbD_eq; intro i hi
  rw [BitVec.getLsbD_shiftLeft, BitVec.getLsbD_and, BitVec.getLsbD_ushiftRight, BitVec.getLsbD_ushiftRight, BitVec.getLsbD_not, BitVec.getLsbD_one]
  by_cases h0 : i = 0
  · subst h0; simp
  · simp [hi, h0, show ¬ i < 1 by omega, show k + 1 + (i - 1) = k + i by omega]
theorem join_one (x : BitVec 64) : IntKind.u64.wrap (U (x &&& ~~~ 1#64) + 1) = U (x ||| 1#64) := by
  rw [show (1 : Int) = U 1#64 from rfl, wrap_u64, add_UU]; congr 1
  rw [BitVec.add_eq_or_of_and_eq_zero]
  · apply BitVec.eq_of_getLsbD_eq; intro i hi
    simp only [BitVec.getLsbD_or, BitVec.getLsbD_and, BitVec.getLsbD_not, BitVec.getLsbD_one]
    cases x.getLsbD i <;> by_cases h : i = 0 <;> simp [h, hi]
  · apply BitVec.eq_of_getLsbD_eq; intro i hi
    simp only [BitVec.getLsbD_and, BitVec.getLsbD_not, BitVec.getLsbD_one]
    cases x.getLsbD i <;> by_cases h : i = 0 <;> simp [h, hi]
theorem join_on (x : BitVec 64) (k : Nat) (h : x.getLsbD k = true) : (x >>> k) ||| 1#64 = x >>> k := by
  apply BitVec.eq_of_getLsbD_eq; intro i hi
  rw [BitVec.getLsbD_or, BitVec.getLsbD_ushiftRight, BitVec.getLsbD_one]
  by_cases h0 : i = 0
  · subst h0; simp [h]
  · simp [h0]
theorem join_off (x : BitVec 64) (k : Nat) (h : x.getLsbD k = false) : (x >>> k) &&& ~~~ 1#64 = x >>> k := by
  apply BitVec.eq_of_getLsbD_eq; intro i hi
  rw [BitVec.getLsbD_and, BitVec.getLsbD_ushiftRight, BitVec.getLsbD_not, BitVec.getLsbD_one]
  by_cases h0 : i = 0
  · subst h0; simp [h]
  · simp [h0, hi]
/-! ### blocks -/
theorem blk_cell {w : World} {g k : Nat} {c : Array Value} {t : TypeId} {v : Value} (hg : w.heap[g]? = some (.cells c t (0, 0))) (hk : c[k]? = some v) : w.cell? ⟨g, k, none⟩ = some v := by
  rw [cell_of_row w g k c t (0, 0) hg]; exact hk
theorem blk_free {w : World} {g k : Nat} {c : Array Value} {t : TypeId} (hg : w.heap[g]? = some (.cells c t (0, 0))) : w.frozen? ⟨g, k, none⟩ = false := frozen_of_row w g k c t hg
theorem blk_set {w : World} {g k : Nat} {b : Nat → Bool} {t : TypeId} (v : Bool) (hg : w.heap[g]? = some (.cells (bArr b) t (0, 0))) :
    (w.setCell ⟨g, k, none⟩ (.bool v)).heap[g]? = some (.cells (bArr fun i => if i = k then v else b i) t (0, 0)) := by
  rw [heap_setCell_same w g k _ t _ hg, bArr_set]
theorem blk_other {w : World} {g g' k : Nat} {o : Obj} (v : Value) (h : g' ≠ g) (hg : w.heap[g']? = some o) : (w.setCell ⟨g, k, none⟩ v).heap[g']? = some o := by
  rw [heap_setCell_other w ⟨g, k, none⟩ g' v h]; exact hg
theorem blk_below {w w' : World} {g : Nat} {o : Obj} (hb : Below w.heap.size w w') (hg : w.heap[g]? = some o) : w'.heap[g]? = some o := by
  rw [hb.block g (Array.getElem?_eq_some_iff.1 hg).1]; exact hg
/-- An array that is stored whole into the block that was made last. -/
theorem blk_stored (w : World) (c c' : Array Value) (t : TypeId) : (w.alloc (.cells c t)).setRow w.heap.size c' = w.alloc (.cells c' t) := World.setRow_alloc_new w c c' t
end Go.Proofs.YtpbodidpcbodaaaDoor.Bv
