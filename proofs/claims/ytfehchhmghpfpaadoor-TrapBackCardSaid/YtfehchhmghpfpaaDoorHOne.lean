/- Chapter 14 over harts told compactly, in one text: bits, where a trap goes, the ways back. -/
import Derived.Test.YtfehchhmghpfpaaDoorHt
import Derived.Test.YtfehchhmghpfpaaDoorReg
import Derived.Test.YtfehchhmghpfpaaDoorQx3
import Derived.Test.YtfehchhmghpfpaaDoorQx4
import Derived.Test.YtfehchhmghpfpaaDoorQx5
set_option linter.unusedSimpArgs false
set_option linter.unusedVariables false
namespace Go.Proofs.YtfehchhmghpfpaaDoor.Hx
open Go.RowKit Go.Proofs.YtfehchhmghpfpaaDoor.Q Go.Proofs.YtfehchhmghpfpaaDoorW.PrintWords Go.Proofs.YtfehchhmghpfpaaDoorW.PrintLast Go.Proofs.YtfehchhmghpfpaaDoorW.PrintMore Go.Proofs.YtfehchhmghpfpaaDoor.Rg
theorem bsm {α β : Type} (a : α) (f : α → Option β) : (some a).bind f = f a := by cases h : f a <;> simp [h]
def onV (v b : Int) : Bool := (Go.bits .and .u64 (shr .u64 v b) 1) == 1
def setV (v b : Int) (is : Bool) : Int := if is = true then Go.bits .or .u64 v (shl .u64 1 b) else Go.bits .andNot .u64 v (shl .u64 1 b)
def withV (v b : Int) (is : Bool) : Int := if is = true then Go.bits .or .u64 (Go.bits .andNot .u64 v (shl .u64 1 b)) (shl .u64 1 b) else Go.bits .andNot .u64 v (shl .u64 1 b)
def splitN (c : Int) : Int := Go.bits .andNot .u64 c 9223372036854775808
def splitI (c : Int) : Bool := (Go.bits .and .u64 c 9223372036854775808) != 0
def placeV (t c : Int) : Int := if splitI c = true then (if (Go.bits .and .u64 t 1) = 1 then IntKind.u64.wrap ((Go.bits .andNot .u64 t 3) + (IntKind.u64.wrap (4 * splitN c))) else Go.bits .andNot .u64 t 3) else Go.bits .andNot .u64 t 3
def rplaceV (t c : Int) : Int := if onV c 63 = true then (if onV t 0 = true then IntKind.u64.wrap ((IntKind.u64.wrap (t - (Int.tmod t 4))) + (IntKind.u64.wrap (4 * (Int.tmod c 9223372036854775808)))) else IntKind.u64.wrap (t - (Int.tmod t 4))) else IntKind.u64.wrap (t - (Int.tmod t 4))
def takenV (s : Int) (sup : Bool) : Int := setV (setV (setV s 5 (onV s 1)) 1 false) 8 sup
def givenS (s : Int) : Int := setV (setV (setV s 1 (onV s 5)) 5 true) 8 false
def givenP (s : Int) : Int := if onV s 8 = true then 1 else 0
theorem on_f (v b : Int) (hb : 0 ≤ b) : trap_on.f v b = some (onV v b) := by unfold trap_on.f; rw [if_pos hb]; rfl
theorem set_f (v b : Int) (is : Bool) (hb : 0 ≤ b) : trap_set.f v b is = some (setV v b is) := by unfold trap_set.f setV; cases is <;> simp [hb]
theorem split_f (c : Int) : trap_split.f c = some (splitN c, splitI c) := rfl
theorem place_f (t c : Int) : trap_place.f t c = some (placeV t c) := by
  unfold trap_place.f placeV
  rw [split_f, bsm]
  cases splitI c
  · rw [if_neg (show ¬ (false = true) by decide), if_neg (show ¬ (false = true) by decide)]
  · rw [if_pos rfl, if_pos rfl]; by_cases h : Go.bits .and .u64 t 1 = 1
    · rw [if_pos h, if_pos h]
    · rw [if_neg h, if_neg h]
theorem taken_f (s : Int) (sup : Bool) : trap_taken.f s sup = some (takenV s sup) := by
  unfold trap_taken.f takenV
  rw [on_f _ _ (by decide), bsm, set_f _ _ _ (by decide), bsm, set_f _ _ _ (by decide), bsm, set_f _ _ _ (by decide), bsm]
theorem given_f (s : Int) : trap_given.f s = some (givenS s, givenP s) := by
  unfold trap_given.f givenS givenP
  rw [on_f _ _ (by decide), bsm, set_f _ _ _ (by decide), bsm, set_f _ _ _ (by decide), bsm, set_f _ _ _ (by decide), bsm, on_f _ _ (by decide), bsm]
  cases onV s 8
  · rw [if_neg (by decide), if_neg (by decide)]
  · rw [if_pos rfl, if_pos rfl]
theorem on_c (v b : Int) (w : World) (hb : 0 ≤ b) : Calls Tryd.prog 18 #[.int .u64 v, .int .i64 b] w fun e w' => e = .returned (.bool (onV v b)) ∧ Drawn0 w w' := trap_on.calls v b _ w (on_f v b hb)
theorem set_c (v b : Int) (is : Bool) (w : World) (hb : 0 ≤ b) : Calls Tryd.prog 17 #[.int .u64 v, .int .i64 b, .bool is] w fun e w' => e = .returned (.int .u64 (setV v b is)) ∧ Drawn0 w w' := trap_set.calls v b is _ w (set_f v b is hb)
theorem split_c (c : Int) (w : World) : Calls Tryd.prog 21 #[.int .u64 c] w fun e w' => e = .returned (.tuple #[.int .u64 (splitN c), .bool (splitI c)]) ∧ Drawn0 w w' := trap_split.calls c _ _ w (split_f c)
theorem place_c (t c : Int) (w : World) : Calls Tryd.prog 19 #[.int .u64 t, .int .u64 c] w fun e w' => e = .returned (.int .u64 (placeV t c)) ∧ Drawn0 w w' := trap_place.calls t c _ w (place_f t c)
theorem taken_c (s : Int) (sup : Bool) (w : World) : Calls Tryd.prog 20 #[.int .u64 s, .bool sup] w fun e w' => e = .returned (.int .u64 (takenV s sup)) ∧ Drawn0 w w' := trap_taken.calls s sup _ w (taken_f s sup)
theorem given_c (s : Int) (w : World) : Calls Tryd.prog 22 #[.int .u64 s] w fun e w' => e = .returned (.tuple #[.int .u64 (givenS s), .int .u8 (givenP s)]) ∧ Drawn0 w w' := trap_given.calls s _ _ w (given_f s)
end Go.Proofs.YtfehchhmghpfpaaDoor.Hx

namespace Go.Proofs.YtfehchhmghpfpaaDoor.Hx
open Go.RowKit Go.Proofs.YtfehchhmghpfpaaDoor.Q Go.Proofs.YtfehchhmghpfpaaDoorW.PrintWords Go.Proofs.YtfehchhmghpfpaaDoorW.PrintLast Go.Proofs.YtfehchhmghpfpaaDoorW.PrintMore Go.Proofs.YtfehchhmghpfpaaDoor.Rg Go.Proofs.YtfehchhmghpfpaaDoor.Bv
theorem splitN_nonneg {c : Int} (h0 : 0 ≤ c) (h1 : c < 18446744073709551616) : 0 ≤ splitN c := by
  obtain ⟨x, rfl⟩ := U_of h0 h1
  unfold splitN
  rw [andNot_u64]; exact (U_range _).1
/-- Where a trap goes: 0 to the machine, 1 to the host, 2 to the guest. -/
def toV (h : Ht) (c : Int) : Int :=
  if h.x 33 = 3 ∨ splitN c > 63 ∨ onV (if splitI c = true then h.x 40 else h.x 39) (splitN c) = false then 0
  else if h.v = true ∧ onV (if splitI c = true then h.x 60 else h.x 59) (splitN c) = true then 2 else 1
theorem j1_f (k : Nat) (n g : Int) (b : Bool) (h : Ht) (hn : b = false → 0 ≤ n ∧ n ≤ 63) : trap_To.j1 (k + 1) n g b (h.x 0) (h.x 1) (h.x 2) (h.x 3) (h.x 4) (h.x 5) (h.x 6) (h.x 7) (h.x 8) (h.x 9) (h.x 10) (h.x 11) (h.x 12) (h.x 13) (h.x 14) (h.x 15) (h.x 16) (h.x 17) (h.x 18) (h.x 19) (h.x 20) (h.x 21) (h.x 22) (h.x 23) (h.x 24) (h.x 25) (h.x 26) (h.x 27) (h.x 28) (h.x 29) (h.x 30) (h.x 31) (h.x 32) (h.x 33) h.v h.wt h.hl (h.x 37) (h.x 38) (h.x 39) (h.x 40) (h.x 41) (h.x 42) (h.x 43) (h.x 44) (h.x 45) (h.x 46) (h.x 47) (h.x 48) (h.x 49) (h.x 50) (h.x 51) (h.x 52) (h.x 53) (h.x 54) (h.x 55) (h.x 56) (h.x 57) (h.x 58) (h.x 59) (h.x 60) (h.x 61) (h.x 62) (h.x 63) (h.x 64) (h.x 65) (h.x 66) (h.x 67) (h.x 68) (h.x 69) (h.x 70) (h.x 71) (h.x 72) (h.x 73) (h.x 74) (h.x 75) (h.x 76) = some (if b = true then 0 else if h.v = true ∧ onV g n = true then 2 else 1) := by
  rw [trap_To.j1]
  cases b
  · obtain ⟨n0, n1⟩ := hn rfl
    have e : wrap64 n = n := by unfold wrap64; omega
    rw [if_neg (show ¬ (false = true) by decide), if_neg (show ¬ (false = true) by decide), e, on_f _ _ n0]
    cases h.v
    · rw [if_neg (show ¬ (false = true) by decide), if_neg (by simp)]
    · rw [if_pos rfl, bsm]
      cases onV g n <;> simp
  · rw [if_pos rfl, if_pos rfl]
theorem j0_f (k : Nat) (n m g : Int) (h : Ht) (hn : 0 ≤ n) : trap_To.j0 (k + 2) n m g (h.x 0) (h.x 1) (h.x 2) (h.x 3) (h.x 4) (h.x 5) (h.x 6) (h.x 7) (h.x 8) (h.x 9) (h.x 10) (h.x 11) (h.x 12) (h.x 13) (h.x 14) (h.x 15) (h.x 16) (h.x 17) (h.x 18) (h.x 19) (h.x 20) (h.x 21) (h.x 22) (h.x 23) (h.x 24) (h.x 25) (h.x 26) (h.x 27) (h.x 28) (h.x 29) (h.x 30) (h.x 31) (h.x 32) (h.x 33) h.v h.wt h.hl (h.x 37) (h.x 38) (h.x 39) (h.x 40) (h.x 41) (h.x 42) (h.x 43) (h.x 44) (h.x 45) (h.x 46) (h.x 47) (h.x 48) (h.x 49) (h.x 50) (h.x 51) (h.x 52) (h.x 53) (h.x 54) (h.x 55) (h.x 56) (h.x 57) (h.x 58) (h.x 59) (h.x 60) (h.x 61) (h.x 62) (h.x 63) (h.x 64) (h.x 65) (h.x 66) (h.x 67) (h.x 68) (h.x 69) (h.x 70) (h.x 71) (h.x 72) (h.x 73) (h.x 74) (h.x 75) (h.x 76) = some (if h.x 33 = 3 ∨ n > 63 ∨ onV m n = false then 0 else if h.v = true ∧ onV g n = true then 2 else 1) := by
  rw [trap_To.j0]
  by_cases h3 : h.x 33 = 3
  · rw [if_pos h3, j1_f _ _ _ _ _ (fun h => by cases h), if_pos rfl, if_pos (Or.inl h3)]
  · rw [if_neg h3]
    by_cases h63 : n > 63
    · rw [if_pos h63, j1_f _ _ _ _ _ (fun h => by cases h), if_pos rfl, if_pos (Or.inr (Or.inl h63))]
    · have e : wrap64 n = n := by unfold wrap64; omega
      rw [if_neg h63, e, on_f _ _ hn, bsm, j1_f _ _ _ _ _ (fun _ => ⟨hn, by omega⟩)]
      cases onV m n
      · rw [if_pos (show (!false) = true by decide), if_pos (Or.inr (Or.inr rfl))]
      · rw [if_neg (show ¬ ((!true) = true) by decide), if_neg (show ¬ (h.x 33 = 3 ∨ n > 63 ∨ true = false) from fun q => q.elim h3 (fun q => q.elim h63 (fun q => by cases q)))]
theorem to_f (h : Ht) (c : Int) (c0 : 0 ≤ c) (c1 : c < 18446744073709551616) : trap_To.f 2 (h.x 0) (h.x 1) (h.x 2) (h.x 3) (h.x 4) (h.x 5) (h.x 6) (h.x 7) (h.x 8) (h.x 9) (h.x 10) (h.x 11) (h.x 12) (h.x 13) (h.x 14) (h.x 15) (h.x 16) (h.x 17) (h.x 18) (h.x 19) (h.x 20) (h.x 21) (h.x 22) (h.x 23) (h.x 24) (h.x 25) (h.x 26) (h.x 27) (h.x 28) (h.x 29) (h.x 30) (h.x 31) (h.x 32) (h.x 33) h.v h.wt h.hl (h.x 37) (h.x 38) (h.x 39) (h.x 40) (h.x 41) (h.x 42) (h.x 43) (h.x 44) (h.x 45) (h.x 46) (h.x 47) (h.x 48) (h.x 49) (h.x 50) (h.x 51) (h.x 52) (h.x 53) (h.x 54) (h.x 55) (h.x 56) (h.x 57) (h.x 58) (h.x 59) (h.x 60) (h.x 61) (h.x 62) (h.x 63) (h.x 64) (h.x 65) (h.x 66) (h.x 67) (h.x 68) (h.x 69) (h.x 70) (h.x 71) (h.x 72) (h.x 73) (h.x 74) (h.x 75) (h.x 76) c = some (toV h c) := by
  unfold trap_To.f toV
  rw [split_f, bsm]
  cases splitI c
  · rw [if_neg (show ¬ (false = true) by decide), if_neg (show ¬ (false = true) by decide), if_neg (show ¬ (false = true) by decide)]
    exact j0_f 0 _ _ _ h (splitN_nonneg c0 c1)
  · rw [if_pos rfl, if_pos rfl, if_pos rfl]
    exact j0_f 0 _ _ _ h (splitN_nonneg c0 c1)
theorem to_c (h : Ht) (c : Int) (w : World) (c0 : 0 ≤ c) (c1 : c < 18446744073709551616) : Calls Tryd.prog 7 #[.agg h.cs, .int .u64 c] w fun e w' => e = .returned (.int .i64 (toV h c)) ∧ Below w.heap.size w w' := by
  rw [h.cs_lit]
  exact trap_To.calls 2 (h.x 0) (h.x 1) (h.x 2) (h.x 3) (h.x 4) (h.x 5) (h.x 6) (h.x 7) (h.x 8) (h.x 9) (h.x 10) (h.x 11) (h.x 12) (h.x 13) (h.x 14) (h.x 15) (h.x 16) (h.x 17) (h.x 18) (h.x 19) (h.x 20) (h.x 21) (h.x 22) (h.x 23) (h.x 24) (h.x 25) (h.x 26) (h.x 27) (h.x 28) (h.x 29) (h.x 30) (h.x 31) (h.x 32) (h.x 33) h.v h.wt h.hl (h.x 37) (h.x 38) (h.x 39) (h.x 40) (h.x 41) (h.x 42) (h.x 43) (h.x 44) (h.x 45) (h.x 46) (h.x 47) (h.x 48) (h.x 49) (h.x 50) (h.x 51) (h.x 52) (h.x 53) (h.x 54) (h.x 55) (h.x 56) (h.x 57) (h.x 58) (h.x 59) (h.x 60) (h.x 61) (h.x 62) (h.x 63) (h.x 64) (h.x 65) (h.x 66) (h.x 67) (h.x 68) (h.x 69) (h.x 70) (h.x 71) (h.x 72) (h.x 73) (h.x 74) (h.x 75) (h.x 76) c _ w (to_f h c c0 c1)
end Go.Proofs.YtfehchhmghpfpaaDoor.Hx

namespace Go.Proofs.YtfehchhmghpfpaaDoor.Hx
open Go.RowKit Go.Proofs.YtfehchhmghpfpaaDoor.Q Go.Proofs.YtfehchhmghpfpaaDoorW.PrintWords Go.Proofs.YtfehchhmghpfpaaDoorW.PrintLast Go.Proofs.YtfehchhmghpfpaaDoorW.PrintMore Go.Proofs.YtfehchhmghpfpaaDoor.Bv
/-- A word with a bit made so. -/
def bset (x : BitVec 64) (b : Nat) (is : Bool) : BitVec 64 := if is = true then x ||| (1#64 <<< b) else x &&& ~~~(1#64 <<< b)
theorem one_bit (b i : Nat) (hb : b < 64) : (1#64 <<< b).getLsbD i = decide (i = b) := by
  rw [BitVec.getLsbD_shiftLeft]
  by_cases h : i = b
  · subst h; simp [hb]
  · by_cases h2 : i < b
    · simp [h, h2]
    · have : i - b ≠ 0 := by omega
      simp [h, h2, this]
theorem bset_bit (x : BitVec 64) (b : Nat) (is : Bool) (hb : b < 64) (i : Nat) (hi : i < 64) : (bset x b is).getLsbD i = if i = b then is else x.getLsbD i := by
  unfold bset
  cases is
  · rw [if_neg (by decide), BitVec.getLsbD_and, BitVec.getLsbD_not, one_bit b i hb]
    by_cases h : i = b <;> simp [h, hi, hb]
  · rw [if_pos rfl, BitVec.getLsbD_or, one_bit b i hb]
    by_cases h : i = b <;> simp [h]
theorem shl1 (b : Nat) : BitVec.ofInt 64 (shl .u64 1 (b : Int)) = 1#64 <<< b := by
  have h := shl_u64 1#64 (b : Int)
  rw [show U 1#64 = 1 from rfl] at h
  rw [h, ofInt_U]; rfl
theorem setV_U (x : BitVec 64) (b : Nat) (is : Bool) : setV (U x) (b : Int) is = U (bset x b is) := by
  unfold setV bset
  cases is
  · rw [if_neg (by decide), if_neg (by decide), andNot_u64, ofInt_U, shl1]
  · rw [if_pos rfl, if_pos rfl, or_u64, ofInt_U, shl1]
theorem withV_U (x : BitVec 64) (b : Nat) (is : Bool) : withV (U x) (b : Int) is = U (bset x b is) := by
  unfold withV bset
  cases is
  · rw [if_neg (by decide), if_neg (by decide), andNot_u64, ofInt_U, shl1]
  · rw [if_pos rfl, if_pos rfl, or_u64, andNot_u64, ofInt_U, ofInt_U, shl1]
    congr 1
    apply BitVec.eq_of_getLsbD_eq; intro i hi
    rw [BitVec.getLsbD_or, BitVec.getLsbD_or, BitVec.getLsbD_and, BitVec.getLsbD_not]
    cases (1#64 <<< b).getLsbD i <;> simp [hi]
theorem onV_U (x : BitVec 64) (b : Nat) : onV (U x) (b : Int) = x.getLsbD b := by
  unfold onV
  rw [shr_u64, and_u64, ofInt_U, show BitVec.ofInt 64 1 = 1#64 from rfl]
  rw [show ((b : Int)).toNat = b by simp]
  have e : (x >>> b) &&& 1#64 = if x.getLsbD b = true then 1#64 else 0#64 := by
    apply BitVec.eq_of_getLsbD_eq; intro i hi
    rw [BitVec.getLsbD_and, BitVec.getLsbD_ushiftRight]
    by_cases h : i = 0
    · subst h; cases x.getLsbD b <;> simp_all
    · have h1 : (1#64).getLsbD i = false := by rw [show (1#64) = 1#64 <<< 0 from rfl, one_bit 0 i (by decide)]; simp [h]
      rw [h1]; cases x.getLsbD b <;> simp_all
  rw [e]
  cases x.getLsbD b <;> rfl
theorem sv_1 (x : BitVec 64) (is : Bool) : setV (U x) 1 is = U (bset x 1 is) := setV_U x 1 is
theorem wv_1 (x : BitVec 64) (is : Bool) : withV (U x) 1 is = U (bset x 1 is) := withV_U x 1 is
theorem sv_3 (x : BitVec 64) (is : Bool) : setV (U x) 3 is = U (bset x 3 is) := setV_U x 3 is
theorem wv_3 (x : BitVec 64) (is : Bool) : withV (U x) 3 is = U (bset x 3 is) := withV_U x 3 is
theorem sv_5 (x : BitVec 64) (is : Bool) : setV (U x) 5 is = U (bset x 5 is) := setV_U x 5 is
theorem wv_5 (x : BitVec 64) (is : Bool) : withV (U x) 5 is = U (bset x 5 is) := withV_U x 5 is
theorem sv_6 (x : BitVec 64) (is : Bool) : setV (U x) 6 is = U (bset x 6 is) := setV_U x 6 is
theorem wv_6 (x : BitVec 64) (is : Bool) : withV (U x) 6 is = U (bset x 6 is) := withV_U x 6 is
theorem sv_7 (x : BitVec 64) (is : Bool) : setV (U x) 7 is = U (bset x 7 is) := setV_U x 7 is
theorem wv_7 (x : BitVec 64) (is : Bool) : withV (U x) 7 is = U (bset x 7 is) := withV_U x 7 is
theorem sv_8 (x : BitVec 64) (is : Bool) : setV (U x) 8 is = U (bset x 8 is) := setV_U x 8 is
theorem wv_8 (x : BitVec 64) (is : Bool) : withV (U x) 8 is = U (bset x 8 is) := withV_U x 8 is
theorem sv_11 (x : BitVec 64) (is : Bool) : setV (U x) 11 is = U (bset x 11 is) := setV_U x 11 is
theorem wv_11 (x : BitVec 64) (is : Bool) : withV (U x) 11 is = U (bset x 11 is) := withV_U x 11 is
theorem sv_12 (x : BitVec 64) (is : Bool) : setV (U x) 12 is = U (bset x 12 is) := setV_U x 12 is
theorem wv_12 (x : BitVec 64) (is : Bool) : withV (U x) 12 is = U (bset x 12 is) := withV_U x 12 is
theorem sv_17 (x : BitVec 64) (is : Bool) : setV (U x) 17 is = U (bset x 17 is) := setV_U x 17 is
theorem wv_17 (x : BitVec 64) (is : Bool) : withV (U x) 17 is = U (bset x 17 is) := withV_U x 17 is
theorem sv_38 (x : BitVec 64) (is : Bool) : setV (U x) 38 is = U (bset x 38 is) := setV_U x 38 is
theorem wv_38 (x : BitVec 64) (is : Bool) : withV (U x) 38 is = U (bset x 38 is) := withV_U x 38 is
theorem sv_39 (x : BitVec 64) (is : Bool) : setV (U x) 39 is = U (bset x 39 is) := setV_U x 39 is
theorem wv_39 (x : BitVec 64) (is : Bool) : withV (U x) 39 is = U (bset x 39 is) := withV_U x 39 is
theorem ov_0 (x : BitVec 64) : onV (U x) 0 = x.getLsbD 0 := onV_U x 0
theorem ov_1 (x : BitVec 64) : onV (U x) 1 = x.getLsbD 1 := onV_U x 1
theorem ov_3 (x : BitVec 64) : onV (U x) 3 = x.getLsbD 3 := onV_U x 3
theorem ov_5 (x : BitVec 64) : onV (U x) 5 = x.getLsbD 5 := onV_U x 5
theorem ov_7 (x : BitVec 64) : onV (U x) 7 = x.getLsbD 7 := onV_U x 7
theorem ov_8 (x : BitVec 64) : onV (U x) 8 = x.getLsbD 8 := onV_U x 8
theorem ov_11 (x : BitVec 64) : onV (U x) 11 = x.getLsbD 11 := onV_U x 11
theorem ov_12 (x : BitVec 64) : onV (U x) 12 = x.getLsbD 12 := onV_U x 12
theorem ov_17 (x : BitVec 64) : onV (U x) 17 = x.getLsbD 17 := onV_U x 17
theorem ov_39 (x : BitVec 64) : onV (U x) 39 = x.getLsbD 39 := onV_U x 39
theorem ov_63 (x : BitVec 64) : onV (U x) 63 = x.getLsbD 63 := onV_U x 63
end Go.Proofs.YtfehchhmghpfpaaDoor.Hx

namespace Go.Proofs.YtfehchhmghpfpaaDoor.Hx
open Go.RowKit Go.Proofs.YtfehchhmghpfpaaDoor.Q Go.Proofs.YtfehchhmghpfpaaDoorW.PrintWords Go.Proofs.YtfehchhmghpfpaaDoorW.PrintLast Go.Proofs.YtfehchhmghpfpaaDoorW.PrintMore Go.Proofs.YtfehchhmghpfpaaDoor.Rg

def mretTo (s : Int) : Int := Go.bits .and .u64 (s / 2048) 3 % 256
def mretS (s : Int) : Int :=
  let s1 := setV (Go.bits .andNot .u64 (setV (setV s 3 (onV s 7)) 7 true) 6144) 39 false
  if (mretTo s != 3) = true then setV s1 17 false else s1
/-- The hart that came back by mret. -/
def mret (h : Ht) : Ht :=
  let h1 : Ht := { h with v := if onV (h.x 38) 39 = true then (mretTo (h.x 38) != 3) else false }
  let h2 := ((h1.set 38 (mretS (h.x 38))).set 33 (if (mretTo (h.x 38) == 2) = true then 0 else mretTo (h.x 38))).set 0 (h.x 46)
  ({ h2 with hl := false } : Ht).set 37 0
set_option maxHeartbeats 16000000 in
set_option maxRecDepth 100000 in
theorem mret_c (h : Ht) (w : World) : Calls Tryd.prog 8 #[.agg h.cs] w fun e w' => e = .returned (.agg (mret h).cs) ∧ Below w.heap.size w w' := by
  cases hv : onV (h.x 38) 39
  · skip
    cases d3 : (Go.bits .and .u64 (h.x 38 / 2048) 3 % 256 != 3)
    · skip
      cases d2 : (Go.bits .and .u64 (h.x 38 / 2048) 3 % 256 == 2)
      · skip
        have hu25 := Tryd.underlying25
        go_enter Tryd.func8, Tryd.ntmps8
        go_wp2_with (first | ((with_reducible refine gate_dst (N := 1) rfl ?_); refine box_event ?hg (N := 1) ?hd (cs := h.cs) (t := 25) ?hr ?_; (case hd => rfl); (case hg => rfl); (case hr => first | (go_simp; done) | (go_simp; rfl)); intro ga hg w_1 H1 hb; have hB_2 := Lib.hid (below_step (Below.refl w.heap.size w) hb); have G_ga := Lib.hid (show w.heap.size ≤ ga by rw [hg]; exact ((Below.refl w.heap.size w)).size); have K_ga := Lib.hid (show Hb w_1 ga h from H1); clear hg hb H1) | ((with_reducible refine gate_dst (N := 2) rfl ?_); refine box_event ?hg (N := 2) ?hd (cs := Ht.zero.cs) (t := 25) ?hr ?_; (case hd => rfl); (case hg => rfl); (case hr => first | (go_simp; done) | (go_simp; rfl)); intro gr hg w_3 H1 hb; have hB_4 := Lib.hid (below_step hB_2.out hb); have G_gr := Lib.hid (show w.heap.size ≤ gr by rw [hg]; exact (hB_2.out).size); have N_ga_gr := Lib.hid (show ga ≠ gr by rw [hg]; exact Nat.ne_of_lt (K_ga.out.lt)); replace K_ga := Lib.hid (K_ga.out.below hb); have K_gr := Lib.hid (show Hb w_3 gr Ht.zero from H1); clear hg hb H1 hB_2; have c_ga_0 := K_ga.out.u 0 rfl; have f_ga_0 := K_ga.out.fr 0; have c_ga_33 := K_ga.out.p; have f_ga_33 := K_ga.out.fr 33; have c_ga_34 := K_ga.out.cv; have f_ga_34 := K_ga.out.fr 34; have c_ga_36 := K_ga.out.ch; have f_ga_36 := K_ga.out.fr 36; have c_ga_37 := K_ga.out.u 37 rfl; have f_ga_37 := K_ga.out.fr 37; have c_ga_38 := K_ga.out.u 38 rfl; have f_ga_38 := K_ga.out.fr 38; have c_ga_46 := K_ga.out.u 46 rfl; have f_ga_46 := K_ga.out.fr 46; clear hu25))
        go_upto_region 11 with (first | (go_at_call 18; refine (on_c _ _ _ (by decide)).mono ?_; rintro e_ w_ ⟨rfl, ⟨n_, rfl⟩⟩) | (go_at_call 17; refine (set_c _ _ _ _ (by decide)).mono ?_; rintro e_ w_ ⟨rfl, ⟨n_, rfl⟩⟩))
        refine wp_region_list ?_
        refine load_hart (h := _) rfl (.tmp 1) rfl ga rfl (by repeat (with_reducible first | exact K_ga.out | apply Hb.put | apply Hb.putP | apply Hb.putV | apply Hb.putW | apply Hb.putH | apply Hb.far N_ga_gr.out | apply Hb.drewN | apply Hb.drew)) ?_
        refine store_hart rfl (.tmp 2) (.tmp 41) rfl gr _ rfl rfl Ht.zero (by repeat (with_reducible first | exact K_gr.out | apply Hb.put | apply Hb.putP | apply Hb.putV | apply Hb.putW | apply Hb.putH | apply Hb.far (Ne.symm N_ga_gr.out) | apply Hb.drewN | apply Hb.drew)) ?_
        go_wp2
        refine bodyPost_ret (results_cell_row rfl _ _ gr 25 _ (0, 0) _ rfl (Hb.putAll _ (by repeat (with_reducible first | exact K_gr.out | apply Hb.put | apply Hb.putP | apply Hb.putV | apply Hb.putW | apply Hb.putH | apply Hb.far (Ne.symm N_ga_gr.out) | apply Hb.drewN | apply Hb.drew))) Tryd.underlying25 rfl (by rw [Ht.size]; exact hartSize)) rfl ?_
        exact ⟨by (first | rfl | (simp only [mret, mretS, mretTo, hv, d3, d2, if_true, if_false, Bool.false_eq_true, cond_true, cond_false]; done) | (simp only [mret, mretS, mretTo, hv, d3, d2, if_true, if_false, Bool.false_eq_true, cond_true, cond_false]; rfl)), setCells_below G_gr.out _ _ _ (by repeat (first | (with_reducible first | exact hB_4.out | apply pw_below_drewN | apply below_drew1 | refine below_set ?_ G_ga.out | refine below_set ?_ G_gr.out) | exact hB_4.out))⟩
      · skip
        have hu25 := Tryd.underlying25
        go_enter Tryd.func8, Tryd.ntmps8
        go_wp2_with (first | ((with_reducible refine gate_dst (N := 1) rfl ?_); refine box_event ?hg (N := 1) ?hd (cs := h.cs) (t := 25) ?hr ?_; (case hd => rfl); (case hg => rfl); (case hr => first | (go_simp; done) | (go_simp; rfl)); intro ga hg w_1 H1 hb; have hB_2 := Lib.hid (below_step (Below.refl w.heap.size w) hb); have G_ga := Lib.hid (show w.heap.size ≤ ga by rw [hg]; exact ((Below.refl w.heap.size w)).size); have K_ga := Lib.hid (show Hb w_1 ga h from H1); clear hg hb H1) | ((with_reducible refine gate_dst (N := 2) rfl ?_); refine box_event ?hg (N := 2) ?hd (cs := Ht.zero.cs) (t := 25) ?hr ?_; (case hd => rfl); (case hg => rfl); (case hr => first | (go_simp; done) | (go_simp; rfl)); intro gr hg w_3 H1 hb; have hB_4 := Lib.hid (below_step hB_2.out hb); have G_gr := Lib.hid (show w.heap.size ≤ gr by rw [hg]; exact (hB_2.out).size); have N_ga_gr := Lib.hid (show ga ≠ gr by rw [hg]; exact Nat.ne_of_lt (K_ga.out.lt)); replace K_ga := Lib.hid (K_ga.out.below hb); have K_gr := Lib.hid (show Hb w_3 gr Ht.zero from H1); clear hg hb H1 hB_2; have c_ga_0 := K_ga.out.u 0 rfl; have f_ga_0 := K_ga.out.fr 0; have c_ga_33 := K_ga.out.p; have f_ga_33 := K_ga.out.fr 33; have c_ga_34 := K_ga.out.cv; have f_ga_34 := K_ga.out.fr 34; have c_ga_36 := K_ga.out.ch; have f_ga_36 := K_ga.out.fr 36; have c_ga_37 := K_ga.out.u 37 rfl; have f_ga_37 := K_ga.out.fr 37; have c_ga_38 := K_ga.out.u 38 rfl; have f_ga_38 := K_ga.out.fr 38; have c_ga_46 := K_ga.out.u 46 rfl; have f_ga_46 := K_ga.out.fr 46; clear hu25))
        go_upto_region 11 with (first | (go_at_call 18; refine (on_c _ _ _ (by decide)).mono ?_; rintro e_ w_ ⟨rfl, ⟨n_, rfl⟩⟩) | (go_at_call 17; refine (set_c _ _ _ _ (by decide)).mono ?_; rintro e_ w_ ⟨rfl, ⟨n_, rfl⟩⟩))
        refine wp_region_list ?_
        refine load_hart (h := _) rfl (.tmp 1) rfl ga rfl (by repeat (with_reducible first | exact K_ga.out | apply Hb.put | apply Hb.putP | apply Hb.putV | apply Hb.putW | apply Hb.putH | apply Hb.far N_ga_gr.out | apply Hb.drewN | apply Hb.drew)) ?_
        refine store_hart rfl (.tmp 2) (.tmp 41) rfl gr _ rfl rfl Ht.zero (by repeat (with_reducible first | exact K_gr.out | apply Hb.put | apply Hb.putP | apply Hb.putV | apply Hb.putW | apply Hb.putH | apply Hb.far (Ne.symm N_ga_gr.out) | apply Hb.drewN | apply Hb.drew)) ?_
        go_wp2
        refine bodyPost_ret (results_cell_row rfl _ _ gr 25 _ (0, 0) _ rfl (Hb.putAll _ (by repeat (with_reducible first | exact K_gr.out | apply Hb.put | apply Hb.putP | apply Hb.putV | apply Hb.putW | apply Hb.putH | apply Hb.far (Ne.symm N_ga_gr.out) | apply Hb.drewN | apply Hb.drew))) Tryd.underlying25 rfl (by rw [Ht.size]; exact hartSize)) rfl ?_
        exact ⟨by (first | rfl | (simp only [mret, mretS, mretTo, hv, d3, d2, if_true, if_false, Bool.false_eq_true, cond_true, cond_false]; done) | (simp only [mret, mretS, mretTo, hv, d3, d2, if_true, if_false, Bool.false_eq_true, cond_true, cond_false]; rfl)), setCells_below G_gr.out _ _ _ (by repeat (first | (with_reducible first | exact hB_4.out | apply pw_below_drewN | apply below_drew1 | refine below_set ?_ G_ga.out | refine below_set ?_ G_gr.out) | exact hB_4.out))⟩
    · skip
      cases d2 : (Go.bits .and .u64 (h.x 38 / 2048) 3 % 256 == 2)
      · skip
        have hu25 := Tryd.underlying25
        go_enter Tryd.func8, Tryd.ntmps8
        go_wp2_with (first | ((with_reducible refine gate_dst (N := 1) rfl ?_); refine box_event ?hg (N := 1) ?hd (cs := h.cs) (t := 25) ?hr ?_; (case hd => rfl); (case hg => rfl); (case hr => first | (go_simp; done) | (go_simp; rfl)); intro ga hg w_1 H1 hb; have hB_2 := Lib.hid (below_step (Below.refl w.heap.size w) hb); have G_ga := Lib.hid (show w.heap.size ≤ ga by rw [hg]; exact ((Below.refl w.heap.size w)).size); have K_ga := Lib.hid (show Hb w_1 ga h from H1); clear hg hb H1) | ((with_reducible refine gate_dst (N := 2) rfl ?_); refine box_event ?hg (N := 2) ?hd (cs := Ht.zero.cs) (t := 25) ?hr ?_; (case hd => rfl); (case hg => rfl); (case hr => first | (go_simp; done) | (go_simp; rfl)); intro gr hg w_3 H1 hb; have hB_4 := Lib.hid (below_step hB_2.out hb); have G_gr := Lib.hid (show w.heap.size ≤ gr by rw [hg]; exact (hB_2.out).size); have N_ga_gr := Lib.hid (show ga ≠ gr by rw [hg]; exact Nat.ne_of_lt (K_ga.out.lt)); replace K_ga := Lib.hid (K_ga.out.below hb); have K_gr := Lib.hid (show Hb w_3 gr Ht.zero from H1); clear hg hb H1 hB_2; have c_ga_0 := K_ga.out.u 0 rfl; have f_ga_0 := K_ga.out.fr 0; have c_ga_33 := K_ga.out.p; have f_ga_33 := K_ga.out.fr 33; have c_ga_34 := K_ga.out.cv; have f_ga_34 := K_ga.out.fr 34; have c_ga_36 := K_ga.out.ch; have f_ga_36 := K_ga.out.fr 36; have c_ga_37 := K_ga.out.u 37 rfl; have f_ga_37 := K_ga.out.fr 37; have c_ga_38 := K_ga.out.u 38 rfl; have f_ga_38 := K_ga.out.fr 38; have c_ga_46 := K_ga.out.u 46 rfl; have f_ga_46 := K_ga.out.fr 46; clear hu25))
        go_upto_region 11 with (first | (go_at_call 18; refine (on_c _ _ _ (by decide)).mono ?_; rintro e_ w_ ⟨rfl, ⟨n_, rfl⟩⟩) | (go_at_call 17; refine (set_c _ _ _ _ (by decide)).mono ?_; rintro e_ w_ ⟨rfl, ⟨n_, rfl⟩⟩))
        refine wp_region_list ?_
        refine load_hart (h := _) rfl (.tmp 1) rfl ga rfl (by repeat (with_reducible first | exact K_ga.out | apply Hb.put | apply Hb.putP | apply Hb.putV | apply Hb.putW | apply Hb.putH | apply Hb.far N_ga_gr.out | apply Hb.drewN | apply Hb.drew)) ?_
        refine store_hart rfl (.tmp 2) (.tmp 41) rfl gr _ rfl rfl Ht.zero (by repeat (with_reducible first | exact K_gr.out | apply Hb.put | apply Hb.putP | apply Hb.putV | apply Hb.putW | apply Hb.putH | apply Hb.far (Ne.symm N_ga_gr.out) | apply Hb.drewN | apply Hb.drew)) ?_
        go_wp2
        refine bodyPost_ret (results_cell_row rfl _ _ gr 25 _ (0, 0) _ rfl (Hb.putAll _ (by repeat (with_reducible first | exact K_gr.out | apply Hb.put | apply Hb.putP | apply Hb.putV | apply Hb.putW | apply Hb.putH | apply Hb.far (Ne.symm N_ga_gr.out) | apply Hb.drewN | apply Hb.drew))) Tryd.underlying25 rfl (by rw [Ht.size]; exact hartSize)) rfl ?_
        exact ⟨by (first | rfl | (simp only [mret, mretS, mretTo, hv, d3, d2, if_true, if_false, Bool.false_eq_true, cond_true, cond_false]; done) | (simp only [mret, mretS, mretTo, hv, d3, d2, if_true, if_false, Bool.false_eq_true, cond_true, cond_false]; rfl)), setCells_below G_gr.out _ _ _ (by repeat (first | (with_reducible first | exact hB_4.out | apply pw_below_drewN | apply below_drew1 | refine below_set ?_ G_ga.out | refine below_set ?_ G_gr.out) | exact hB_4.out))⟩
      · skip
        have hu25 := Tryd.underlying25
        go_enter Tryd.func8, Tryd.ntmps8
        go_wp2_with (first | ((with_reducible refine gate_dst (N := 1) rfl ?_); refine box_event ?hg (N := 1) ?hd (cs := h.cs) (t := 25) ?hr ?_; (case hd => rfl); (case hg => rfl); (case hr => first | (go_simp; done) | (go_simp; rfl)); intro ga hg w_1 H1 hb; have hB_2 := Lib.hid (below_step (Below.refl w.heap.size w) hb); have G_ga := Lib.hid (show w.heap.size ≤ ga by rw [hg]; exact ((Below.refl w.heap.size w)).size); have K_ga := Lib.hid (show Hb w_1 ga h from H1); clear hg hb H1) | ((with_reducible refine gate_dst (N := 2) rfl ?_); refine box_event ?hg (N := 2) ?hd (cs := Ht.zero.cs) (t := 25) ?hr ?_; (case hd => rfl); (case hg => rfl); (case hr => first | (go_simp; done) | (go_simp; rfl)); intro gr hg w_3 H1 hb; have hB_4 := Lib.hid (below_step hB_2.out hb); have G_gr := Lib.hid (show w.heap.size ≤ gr by rw [hg]; exact (hB_2.out).size); have N_ga_gr := Lib.hid (show ga ≠ gr by rw [hg]; exact Nat.ne_of_lt (K_ga.out.lt)); replace K_ga := Lib.hid (K_ga.out.below hb); have K_gr := Lib.hid (show Hb w_3 gr Ht.zero from H1); clear hg hb H1 hB_2; have c_ga_0 := K_ga.out.u 0 rfl; have f_ga_0 := K_ga.out.fr 0; have c_ga_33 := K_ga.out.p; have f_ga_33 := K_ga.out.fr 33; have c_ga_34 := K_ga.out.cv; have f_ga_34 := K_ga.out.fr 34; have c_ga_36 := K_ga.out.ch; have f_ga_36 := K_ga.out.fr 36; have c_ga_37 := K_ga.out.u 37 rfl; have f_ga_37 := K_ga.out.fr 37; have c_ga_38 := K_ga.out.u 38 rfl; have f_ga_38 := K_ga.out.fr 38; have c_ga_46 := K_ga.out.u 46 rfl; have f_ga_46 := K_ga.out.fr 46; clear hu25))
        go_upto_region 11 with (first | (go_at_call 18; refine (on_c _ _ _ (by decide)).mono ?_; rintro e_ w_ ⟨rfl, ⟨n_, rfl⟩⟩) | (go_at_call 17; refine (set_c _ _ _ _ (by decide)).mono ?_; rintro e_ w_ ⟨rfl, ⟨n_, rfl⟩⟩))
        refine wp_region_list ?_
        refine load_hart (h := _) rfl (.tmp 1) rfl ga rfl (by repeat (with_reducible first | exact K_ga.out | apply Hb.put | apply Hb.putP | apply Hb.putV | apply Hb.putW | apply Hb.putH | apply Hb.far N_ga_gr.out | apply Hb.drewN | apply Hb.drew)) ?_
        refine store_hart rfl (.tmp 2) (.tmp 41) rfl gr _ rfl rfl Ht.zero (by repeat (with_reducible first | exact K_gr.out | apply Hb.put | apply Hb.putP | apply Hb.putV | apply Hb.putW | apply Hb.putH | apply Hb.far (Ne.symm N_ga_gr.out) | apply Hb.drewN | apply Hb.drew)) ?_
        go_wp2
        refine bodyPost_ret (results_cell_row rfl _ _ gr 25 _ (0, 0) _ rfl (Hb.putAll _ (by repeat (with_reducible first | exact K_gr.out | apply Hb.put | apply Hb.putP | apply Hb.putV | apply Hb.putW | apply Hb.putH | apply Hb.far (Ne.symm N_ga_gr.out) | apply Hb.drewN | apply Hb.drew))) Tryd.underlying25 rfl (by rw [Ht.size]; exact hartSize)) rfl ?_
        exact ⟨by (first | rfl | (simp only [mret, mretS, mretTo, hv, d3, d2, if_true, if_false, Bool.false_eq_true, cond_true, cond_false]; done) | (simp only [mret, mretS, mretTo, hv, d3, d2, if_true, if_false, Bool.false_eq_true, cond_true, cond_false]; rfl)), setCells_below G_gr.out _ _ _ (by repeat (first | (with_reducible first | exact hB_4.out | apply pw_below_drewN | apply below_drew1 | refine below_set ?_ G_ga.out | refine below_set ?_ G_gr.out) | exact hB_4.out))⟩
  · skip
    cases d3 : (Go.bits .and .u64 (h.x 38 / 2048) 3 % 256 != 3)
    · skip
      cases d2 : (Go.bits .and .u64 (h.x 38 / 2048) 3 % 256 == 2)
      · skip
        have hu25 := Tryd.underlying25
        go_enter Tryd.func8, Tryd.ntmps8
        go_wp2_with (first | ((with_reducible refine gate_dst (N := 1) rfl ?_); refine box_event ?hg (N := 1) ?hd (cs := h.cs) (t := 25) ?hr ?_; (case hd => rfl); (case hg => rfl); (case hr => first | (go_simp; done) | (go_simp; rfl)); intro ga hg w_1 H1 hb; have hB_2 := Lib.hid (below_step (Below.refl w.heap.size w) hb); have G_ga := Lib.hid (show w.heap.size ≤ ga by rw [hg]; exact ((Below.refl w.heap.size w)).size); have K_ga := Lib.hid (show Hb w_1 ga h from H1); clear hg hb H1) | ((with_reducible refine gate_dst (N := 2) rfl ?_); refine box_event ?hg (N := 2) ?hd (cs := Ht.zero.cs) (t := 25) ?hr ?_; (case hd => rfl); (case hg => rfl); (case hr => first | (go_simp; done) | (go_simp; rfl)); intro gr hg w_3 H1 hb; have hB_4 := Lib.hid (below_step hB_2.out hb); have G_gr := Lib.hid (show w.heap.size ≤ gr by rw [hg]; exact (hB_2.out).size); have N_ga_gr := Lib.hid (show ga ≠ gr by rw [hg]; exact Nat.ne_of_lt (K_ga.out.lt)); replace K_ga := Lib.hid (K_ga.out.below hb); have K_gr := Lib.hid (show Hb w_3 gr Ht.zero from H1); clear hg hb H1 hB_2; have c_ga_0 := K_ga.out.u 0 rfl; have f_ga_0 := K_ga.out.fr 0; have c_ga_33 := K_ga.out.p; have f_ga_33 := K_ga.out.fr 33; have c_ga_34 := K_ga.out.cv; have f_ga_34 := K_ga.out.fr 34; have c_ga_36 := K_ga.out.ch; have f_ga_36 := K_ga.out.fr 36; have c_ga_37 := K_ga.out.u 37 rfl; have f_ga_37 := K_ga.out.fr 37; have c_ga_38 := K_ga.out.u 38 rfl; have f_ga_38 := K_ga.out.fr 38; have c_ga_46 := K_ga.out.u 46 rfl; have f_ga_46 := K_ga.out.fr 46; clear hu25))
        go_upto_region 11 with (first | (go_at_call 18; refine (on_c _ _ _ (by decide)).mono ?_; rintro e_ w_ ⟨rfl, ⟨n_, rfl⟩⟩) | (go_at_call 17; refine (set_c _ _ _ _ (by decide)).mono ?_; rintro e_ w_ ⟨rfl, ⟨n_, rfl⟩⟩))
        refine wp_region_list ?_
        refine load_hart (h := _) rfl (.tmp 1) rfl ga rfl (by repeat (with_reducible first | exact K_ga.out | apply Hb.put | apply Hb.putP | apply Hb.putV | apply Hb.putW | apply Hb.putH | apply Hb.far N_ga_gr.out | apply Hb.drewN | apply Hb.drew)) ?_
        refine store_hart rfl (.tmp 2) (.tmp 41) rfl gr _ rfl rfl Ht.zero (by repeat (with_reducible first | exact K_gr.out | apply Hb.put | apply Hb.putP | apply Hb.putV | apply Hb.putW | apply Hb.putH | apply Hb.far (Ne.symm N_ga_gr.out) | apply Hb.drewN | apply Hb.drew)) ?_
        go_wp2
        refine bodyPost_ret (results_cell_row rfl _ _ gr 25 _ (0, 0) _ rfl (Hb.putAll _ (by repeat (with_reducible first | exact K_gr.out | apply Hb.put | apply Hb.putP | apply Hb.putV | apply Hb.putW | apply Hb.putH | apply Hb.far (Ne.symm N_ga_gr.out) | apply Hb.drewN | apply Hb.drew))) Tryd.underlying25 rfl (by rw [Ht.size]; exact hartSize)) rfl ?_
        exact ⟨by (first | rfl | (simp only [mret, mretS, mretTo, hv, d3, d2, if_true, if_false, Bool.false_eq_true, cond_true, cond_false]; done) | (simp only [mret, mretS, mretTo, hv, d3, d2, if_true, if_false, Bool.false_eq_true, cond_true, cond_false]; rfl)), setCells_below G_gr.out _ _ _ (by repeat (first | (with_reducible first | exact hB_4.out | apply pw_below_drewN | apply below_drew1 | refine below_set ?_ G_ga.out | refine below_set ?_ G_gr.out) | exact hB_4.out))⟩
      · skip
        have hu25 := Tryd.underlying25
        go_enter Tryd.func8, Tryd.ntmps8
        go_wp2_with (first | ((with_reducible refine gate_dst (N := 1) rfl ?_); refine box_event ?hg (N := 1) ?hd (cs := h.cs) (t := 25) ?hr ?_; (case hd => rfl); (case hg => rfl); (case hr => first | (go_simp; done) | (go_simp; rfl)); intro ga hg w_1 H1 hb; have hB_2 := Lib.hid (below_step (Below.refl w.heap.size w) hb); have G_ga := Lib.hid (show w.heap.size ≤ ga by rw [hg]; exact ((Below.refl w.heap.size w)).size); have K_ga := Lib.hid (show Hb w_1 ga h from H1); clear hg hb H1) | ((with_reducible refine gate_dst (N := 2) rfl ?_); refine box_event ?hg (N := 2) ?hd (cs := Ht.zero.cs) (t := 25) ?hr ?_; (case hd => rfl); (case hg => rfl); (case hr => first | (go_simp; done) | (go_simp; rfl)); intro gr hg w_3 H1 hb; have hB_4 := Lib.hid (below_step hB_2.out hb); have G_gr := Lib.hid (show w.heap.size ≤ gr by rw [hg]; exact (hB_2.out).size); have N_ga_gr := Lib.hid (show ga ≠ gr by rw [hg]; exact Nat.ne_of_lt (K_ga.out.lt)); replace K_ga := Lib.hid (K_ga.out.below hb); have K_gr := Lib.hid (show Hb w_3 gr Ht.zero from H1); clear hg hb H1 hB_2; have c_ga_0 := K_ga.out.u 0 rfl; have f_ga_0 := K_ga.out.fr 0; have c_ga_33 := K_ga.out.p; have f_ga_33 := K_ga.out.fr 33; have c_ga_34 := K_ga.out.cv; have f_ga_34 := K_ga.out.fr 34; have c_ga_36 := K_ga.out.ch; have f_ga_36 := K_ga.out.fr 36; have c_ga_37 := K_ga.out.u 37 rfl; have f_ga_37 := K_ga.out.fr 37; have c_ga_38 := K_ga.out.u 38 rfl; have f_ga_38 := K_ga.out.fr 38; have c_ga_46 := K_ga.out.u 46 rfl; have f_ga_46 := K_ga.out.fr 46; clear hu25))
        go_upto_region 11 with (first | (go_at_call 18; refine (on_c _ _ _ (by decide)).mono ?_; rintro e_ w_ ⟨rfl, ⟨n_, rfl⟩⟩) | (go_at_call 17; refine (set_c _ _ _ _ (by decide)).mono ?_; rintro e_ w_ ⟨rfl, ⟨n_, rfl⟩⟩))
        refine wp_region_list ?_
        refine load_hart (h := _) rfl (.tmp 1) rfl ga rfl (by repeat (with_reducible first | exact K_ga.out | apply Hb.put | apply Hb.putP | apply Hb.putV | apply Hb.putW | apply Hb.putH | apply Hb.far N_ga_gr.out | apply Hb.drewN | apply Hb.drew)) ?_
        refine store_hart rfl (.tmp 2) (.tmp 41) rfl gr _ rfl rfl Ht.zero (by repeat (with_reducible first | exact K_gr.out | apply Hb.put | apply Hb.putP | apply Hb.putV | apply Hb.putW | apply Hb.putH | apply Hb.far (Ne.symm N_ga_gr.out) | apply Hb.drewN | apply Hb.drew)) ?_
        go_wp2
        refine bodyPost_ret (results_cell_row rfl _ _ gr 25 _ (0, 0) _ rfl (Hb.putAll _ (by repeat (with_reducible first | exact K_gr.out | apply Hb.put | apply Hb.putP | apply Hb.putV | apply Hb.putW | apply Hb.putH | apply Hb.far (Ne.symm N_ga_gr.out) | apply Hb.drewN | apply Hb.drew))) Tryd.underlying25 rfl (by rw [Ht.size]; exact hartSize)) rfl ?_
        exact ⟨by (first | rfl | (simp only [mret, mretS, mretTo, hv, d3, d2, if_true, if_false, Bool.false_eq_true, cond_true, cond_false]; done) | (simp only [mret, mretS, mretTo, hv, d3, d2, if_true, if_false, Bool.false_eq_true, cond_true, cond_false]; rfl)), setCells_below G_gr.out _ _ _ (by repeat (first | (with_reducible first | exact hB_4.out | apply pw_below_drewN | apply below_drew1 | refine below_set ?_ G_ga.out | refine below_set ?_ G_gr.out) | exact hB_4.out))⟩
    · skip
      cases d2 : (Go.bits .and .u64 (h.x 38 / 2048) 3 % 256 == 2)
      · skip
        have hu25 := Tryd.underlying25
        go_enter Tryd.func8, Tryd.ntmps8
        go_wp2_with (first | ((with_reducible refine gate_dst (N := 1) rfl ?_); refine box_event ?hg (N := 1) ?hd (cs := h.cs) (t := 25) ?hr ?_; (case hd => rfl); (case hg => rfl); (case hr => first | (go_simp; done) | (go_simp; rfl)); intro ga hg w_1 H1 hb; have hB_2 := Lib.hid (below_step (Below.refl w.heap.size w) hb); have G_ga := Lib.hid (show w.heap.size ≤ ga by rw [hg]; exact ((Below.refl w.heap.size w)).size); have K_ga := Lib.hid (show Hb w_1 ga h from H1); clear hg hb H1) | ((with_reducible refine gate_dst (N := 2) rfl ?_); refine box_event ?hg (N := 2) ?hd (cs := Ht.zero.cs) (t := 25) ?hr ?_; (case hd => rfl); (case hg => rfl); (case hr => first | (go_simp; done) | (go_simp; rfl)); intro gr hg w_3 H1 hb; have hB_4 := Lib.hid (below_step hB_2.out hb); have G_gr := Lib.hid (show w.heap.size ≤ gr by rw [hg]; exact (hB_2.out).size); have N_ga_gr := Lib.hid (show ga ≠ gr by rw [hg]; exact Nat.ne_of_lt (K_ga.out.lt)); replace K_ga := Lib.hid (K_ga.out.below hb); have K_gr := Lib.hid (show Hb w_3 gr Ht.zero from H1); clear hg hb H1 hB_2; have c_ga_0 := K_ga.out.u 0 rfl; have f_ga_0 := K_ga.out.fr 0; have c_ga_33 := K_ga.out.p; have f_ga_33 := K_ga.out.fr 33; have c_ga_34 := K_ga.out.cv; have f_ga_34 := K_ga.out.fr 34; have c_ga_36 := K_ga.out.ch; have f_ga_36 := K_ga.out.fr 36; have c_ga_37 := K_ga.out.u 37 rfl; have f_ga_37 := K_ga.out.fr 37; have c_ga_38 := K_ga.out.u 38 rfl; have f_ga_38 := K_ga.out.fr 38; have c_ga_46 := K_ga.out.u 46 rfl; have f_ga_46 := K_ga.out.fr 46; clear hu25))
        go_upto_region 11 with (first | (go_at_call 18; refine (on_c _ _ _ (by decide)).mono ?_; rintro e_ w_ ⟨rfl, ⟨n_, rfl⟩⟩) | (go_at_call 17; refine (set_c _ _ _ _ (by decide)).mono ?_; rintro e_ w_ ⟨rfl, ⟨n_, rfl⟩⟩))
        refine wp_region_list ?_
        refine load_hart (h := _) rfl (.tmp 1) rfl ga rfl (by repeat (with_reducible first | exact K_ga.out | apply Hb.put | apply Hb.putP | apply Hb.putV | apply Hb.putW | apply Hb.putH | apply Hb.far N_ga_gr.out | apply Hb.drewN | apply Hb.drew)) ?_
        refine store_hart rfl (.tmp 2) (.tmp 41) rfl gr _ rfl rfl Ht.zero (by repeat (with_reducible first | exact K_gr.out | apply Hb.put | apply Hb.putP | apply Hb.putV | apply Hb.putW | apply Hb.putH | apply Hb.far (Ne.symm N_ga_gr.out) | apply Hb.drewN | apply Hb.drew)) ?_
        go_wp2
        refine bodyPost_ret (results_cell_row rfl _ _ gr 25 _ (0, 0) _ rfl (Hb.putAll _ (by repeat (with_reducible first | exact K_gr.out | apply Hb.put | apply Hb.putP | apply Hb.putV | apply Hb.putW | apply Hb.putH | apply Hb.far (Ne.symm N_ga_gr.out) | apply Hb.drewN | apply Hb.drew))) Tryd.underlying25 rfl (by rw [Ht.size]; exact hartSize)) rfl ?_
        exact ⟨by (first | rfl | (simp only [mret, mretS, mretTo, hv, d3, d2, if_true, if_false, Bool.false_eq_true, cond_true, cond_false]; done) | (simp only [mret, mretS, mretTo, hv, d3, d2, if_true, if_false, Bool.false_eq_true, cond_true, cond_false]; rfl)), setCells_below G_gr.out _ _ _ (by repeat (first | (with_reducible first | exact hB_4.out | apply pw_below_drewN | apply below_drew1 | refine below_set ?_ G_ga.out | refine below_set ?_ G_gr.out) | exact hB_4.out))⟩
      · skip
        have hu25 := Tryd.underlying25
        go_enter Tryd.func8, Tryd.ntmps8
        go_wp2_with (first | ((with_reducible refine gate_dst (N := 1) rfl ?_); refine box_event ?hg (N := 1) ?hd (cs := h.cs) (t := 25) ?hr ?_; (case hd => rfl); (case hg => rfl); (case hr => first | (go_simp; done) | (go_simp; rfl)); intro ga hg w_1 H1 hb; have hB_2 := Lib.hid (below_step (Below.refl w.heap.size w) hb); have G_ga := Lib.hid (show w.heap.size ≤ ga by rw [hg]; exact ((Below.refl w.heap.size w)).size); have K_ga := Lib.hid (show Hb w_1 ga h from H1); clear hg hb H1) | ((with_reducible refine gate_dst (N := 2) rfl ?_); refine box_event ?hg (N := 2) ?hd (cs := Ht.zero.cs) (t := 25) ?hr ?_; (case hd => rfl); (case hg => rfl); (case hr => first | (go_simp; done) | (go_simp; rfl)); intro gr hg w_3 H1 hb; have hB_4 := Lib.hid (below_step hB_2.out hb); have G_gr := Lib.hid (show w.heap.size ≤ gr by rw [hg]; exact (hB_2.out).size); have N_ga_gr := Lib.hid (show ga ≠ gr by rw [hg]; exact Nat.ne_of_lt (K_ga.out.lt)); replace K_ga := Lib.hid (K_ga.out.below hb); have K_gr := Lib.hid (show Hb w_3 gr Ht.zero from H1); clear hg hb H1 hB_2; have c_ga_0 := K_ga.out.u 0 rfl; have f_ga_0 := K_ga.out.fr 0; have c_ga_33 := K_ga.out.p; have f_ga_33 := K_ga.out.fr 33; have c_ga_34 := K_ga.out.cv; have f_ga_34 := K_ga.out.fr 34; have c_ga_36 := K_ga.out.ch; have f_ga_36 := K_ga.out.fr 36; have c_ga_37 := K_ga.out.u 37 rfl; have f_ga_37 := K_ga.out.fr 37; have c_ga_38 := K_ga.out.u 38 rfl; have f_ga_38 := K_ga.out.fr 38; have c_ga_46 := K_ga.out.u 46 rfl; have f_ga_46 := K_ga.out.fr 46; clear hu25))
        go_upto_region 11 with (first | (go_at_call 18; refine (on_c _ _ _ (by decide)).mono ?_; rintro e_ w_ ⟨rfl, ⟨n_, rfl⟩⟩) | (go_at_call 17; refine (set_c _ _ _ _ (by decide)).mono ?_; rintro e_ w_ ⟨rfl, ⟨n_, rfl⟩⟩))
        refine wp_region_list ?_
        refine load_hart (h := _) rfl (.tmp 1) rfl ga rfl (by repeat (with_reducible first | exact K_ga.out | apply Hb.put | apply Hb.putP | apply Hb.putV | apply Hb.putW | apply Hb.putH | apply Hb.far N_ga_gr.out | apply Hb.drewN | apply Hb.drew)) ?_
        refine store_hart rfl (.tmp 2) (.tmp 41) rfl gr _ rfl rfl Ht.zero (by repeat (with_reducible first | exact K_gr.out | apply Hb.put | apply Hb.putP | apply Hb.putV | apply Hb.putW | apply Hb.putH | apply Hb.far (Ne.symm N_ga_gr.out) | apply Hb.drewN | apply Hb.drew)) ?_
        go_wp2
        refine bodyPost_ret (results_cell_row rfl _ _ gr 25 _ (0, 0) _ rfl (Hb.putAll _ (by repeat (with_reducible first | exact K_gr.out | apply Hb.put | apply Hb.putP | apply Hb.putV | apply Hb.putW | apply Hb.putH | apply Hb.far (Ne.symm N_ga_gr.out) | apply Hb.drewN | apply Hb.drew))) Tryd.underlying25 rfl (by rw [Ht.size]; exact hartSize)) rfl ?_
        exact ⟨by (first | rfl | (simp only [mret, mretS, mretTo, hv, d3, d2, if_true, if_false, Bool.false_eq_true, cond_true, cond_false]; done) | (simp only [mret, mretS, mretTo, hv, d3, d2, if_true, if_false, Bool.false_eq_true, cond_true, cond_false]; rfl)), setCells_below G_gr.out _ _ _ (by repeat (first | (with_reducible first | exact hB_4.out | apply pw_below_drewN | apply below_drew1 | refine below_set ?_ G_ga.out | refine below_set ?_ G_gr.out) | exact hB_4.out))⟩
end Go.Proofs.YtfehchhmghpfpaaDoor.Hx

namespace Go.Proofs.YtfehchhmghpfpaaDoor.Hx
open Go.RowKit Go.Proofs.YtfehchhmghpfpaaDoor.Q Go.Proofs.YtfehchhmghpfpaaDoorW.PrintWords Go.Proofs.YtfehchhmghpfpaaDoorW.PrintLast Go.Proofs.YtfehchhmghpfpaaDoorW.PrintMore Go.Proofs.YtfehchhmghpfpaaDoor.Rg

/-- The hart that came back by sret. -/
def sret (h : Ht) : Ht :=
  let h0 := ({ h with hl := false } : Ht).set 37 0
  if h.v = true then
    (((h0.set 68 (givenS (h.x 68))).set 33 (givenP (h.x 68))).set 0 (h.x 71)).set 38 (setV (h.x 38) 17 false)
  else
    let h1 := ((h0.set 38 (givenS (h.x 38))).set 33 (givenP (h.x 38))).set 0 (h.x 54)
    ((({ h1 with v := onV (h.x 58) 7 } : Ht)).set 58 (setV (h.x 58) 7 false)).set 38 (setV (givenS (h.x 38)) 17 false)

set_option maxHeartbeats 16000000 in
set_option maxRecDepth 100000 in
theorem sret_c (h : Ht) (w : World) : Calls Tryd.prog 9 #[.agg h.cs] w fun e w' => e = .returned (.agg (sret h).cs) ∧ Below w.heap.size w w' := by
  cases hv : h.v
  · skip
    have hu25 := Tryd.underlying25
    go_enter Tryd.func9, Tryd.ntmps9
    go_wp2_with (first | ((with_reducible refine gate_dst (N := 1) rfl ?_); refine box_event ?hg (N := 1) ?hd (cs := h.cs) (t := 25) ?hr ?_; (case hd => rfl); (case hg => rfl); (case hr => first | (go_simp; done) | (go_simp; rfl)); intro ga hg w_1 H1 hb; have hB_2 := Lib.hid (below_step (Below.refl w.heap.size w) hb); have G_ga := Lib.hid (show w.heap.size ≤ ga by rw [hg]; exact ((Below.refl w.heap.size w)).size); have K_ga := Lib.hid (show Hb w_1 ga h from H1); clear hg hb H1) | ((with_reducible refine gate_dst (N := 2) rfl ?_); refine box_event ?hg (N := 2) ?hd (cs := Ht.zero.cs) (t := 25) ?hr ?_; (case hd => rfl); (case hg => rfl); (case hr => first | (go_simp; done) | (go_simp; rfl)); intro gr hg w_3 H1 hb; have hB_4 := Lib.hid (below_step hB_2.out hb); have G_gr := Lib.hid (show w.heap.size ≤ gr by rw [hg]; exact (hB_2.out).size); have N_ga_gr := Lib.hid (show ga ≠ gr by rw [hg]; exact Nat.ne_of_lt (K_ga.out.lt)); replace K_ga := Lib.hid (K_ga.out.below hb); have K_gr := Lib.hid (show Hb w_3 gr Ht.zero from H1); clear hg hb H1 hB_2; have c_ga_0 := K_ga.out.u 0 rfl; have f_ga_0 := K_ga.out.fr 0; have c_ga_33 := K_ga.out.p; have f_ga_33 := K_ga.out.fr 33; have c_ga_34 := K_ga.out.cv; have f_ga_34 := K_ga.out.fr 34; have c_ga_36 := K_ga.out.ch; have f_ga_36 := K_ga.out.fr 36; have c_ga_37 := K_ga.out.u 37 rfl; have f_ga_37 := K_ga.out.fr 37; have c_ga_38 := K_ga.out.u 38 rfl; have f_ga_38 := K_ga.out.fr 38; have c_ga_54 := K_ga.out.u 54 rfl; have f_ga_54 := K_ga.out.fr 54; have c_ga_58 := K_ga.out.u 58 rfl; have f_ga_58 := K_ga.out.fr 58; have c_ga_68 := K_ga.out.u 68 rfl; have f_ga_68 := K_ga.out.fr 68; have c_ga_71 := K_ga.out.u 71 rfl; have f_ga_71 := K_ga.out.fr 71; clear hu25))
    go_upto_region 6 with (first | (go_at_call 18; refine (on_c _ _ _ (by decide)).mono ?_; rintro e_ w_ ⟨rfl, ⟨n_, rfl⟩⟩) | (go_at_call 17; refine (set_c _ _ _ _ (by decide)).mono ?_; rintro e_ w_ ⟨rfl, ⟨n_, rfl⟩⟩) | (go_at_call 22; refine (given_c _ _).mono ?_; rintro e_ w_ ⟨rfl, ⟨n_, rfl⟩⟩))
    refine start_ (n := 9) (S := fun w' => w'.cell? ⟨ga, 54, none⟩ = some (.int .u64 (h.x 54)) ∧ w'.cell? ⟨ga, 58, none⟩ = some (.int .u64 (h.x 58))) (ds := []) #[false, false, false, false, false, false, false, false, false] (by kernel_rfl) rfl rfl ⟨(show World.cell? _ ⟨ga, 54, none⟩ = some (.int .u64 (h.x 54)) by first | (go_simp; done) | (go_simp; rfl)), (show World.cell? _ ⟨ga, 58, none⟩ = some (.int .u64 (h.x 58)) by first | (go_simp; done) | (go_simp; rfl))⟩ (fun hHeld => ?_)
    have HH0 := Lib.hid hHeld
    clear hHeld
    refine world_any ga (by repeat (with_reducible first | exact K_ga.out | apply Hb.put | apply Hb.putP | apply Hb.putV | apply Hb.putW | apply Hb.putH | apply Hb.far N_ga_gr.out | apply Hb.drewN | apply Hb.drew)) (fun w' => Below w.heap.size w w' ∧ Hb w' gr Ht.zero ∧ (w'.cell? ⟨ga, 54, none⟩ = some (.int .u64 (h.x 54)) ∧ w'.cell? ⟨ga, 58, none⟩ = some (.int .u64 (h.x 58)))) ⟨(by repeat (first | (with_reducible first | exact hB_4.out | apply pw_below_drewN | apply below_drew1 | refine below_set ?_ G_ga.out | refine below_set ?_ G_gr.out) | exact hB_4.out)), (by repeat (with_reducible first | exact K_gr.out | apply Hb.put | apply Hb.putP | apply Hb.putV | apply Hb.putW | apply Hb.putH | apply Hb.far (Ne.symm N_ga_gr.out) | apply Hb.drewN | apply Hb.drew)), HH0.out⟩ ?_
    clear HH0
    clear c_ga_0 f_ga_0 c_ga_33 f_ga_33 c_ga_34 f_ga_34 c_ga_36 f_ga_36 c_ga_37 f_ga_37 c_ga_38 f_ga_38 c_ga_54 f_ga_54 c_ga_58 f_ga_58 c_ga_68 f_ga_68 c_ga_71 f_ga_71
    clear K_ga K_gr hB_4
    rintro w_5 q_ ⟨b_, q_gr, hHeld⟩
    have K_ga := Lib.hid q_; have hB_6 := Lib.hid b_; have K_gr := Lib.hid q_gr
    clear q_ b_ q_gr
    refine pure_ (i := 0) (N := some 26) (v := ?_) (a' := ?_) #[true, false, false, false, false, false, false, false, false] rfl rfl (by kernel_rfl) (fun _ _ _ h => h) (Or.inl ⟨by rfl, ?_⟩) ?_ ?_
    rotate_left
    · intro w'
      go_simp
      with_reducible rfl
    rotate_left
    · simp only [Act.put, List.setIfInBounds_toArray, List.set_cons_zero, List.set_cons_succ, i64_w, i32_w]
      rfl
    refine pure_ (i := 2) (N := some 28) (v := ?_) (a' := ?_) #[true, false, true, false, false, false, false, false, false] rfl rfl (by kernel_rfl) (fun _ _ _ h => h) (Or.inl ⟨by rfl, ?_⟩) ?_ ?_
    rotate_left
    · intro w'
      go_simp
      with_reducible rfl
    rotate_left
    · simp only [Act.put, List.setIfInBounds_toArray, List.set_cons_zero, List.set_cons_succ, i64_w, i32_w]
      rfl
    refine take_ (i := 1) (N := some 27) (v := ?_) (a' := ?_) #[true, true, true, false, false, false, false, false, false] rfl rfl (by kernel_rfl) (fun _ _ _ h => h) (Or.inl ⟨by rfl, ?_⟩) hHeld ?_ ?_
    rotate_left
    · rintro w' ⟨s0, s1⟩
      go_simp
      with_reducible rfl
    rotate_left
    · simp only [Act.put, List.setIfInBounds_toArray, List.set_cons_zero, List.set_cons_succ, i64_w, i32_w]
      rfl
    refine take_ (i := 3) (N := some 29) (v := ?_) (a' := ?_) #[true, true, true, true, false, false, false, false, false] rfl rfl (by kernel_rfl) (fun _ _ _ h => h) (Or.inl ⟨by rfl, ?_⟩) hHeld ?_ ?_
    rotate_left
    · rintro w' ⟨s0, s1⟩
      go_simp
      with_reducible rfl
    rotate_left
    · simp only [Act.put, List.setIfInBounds_toArray, List.set_cons_zero, List.set_cons_succ, i64_w, i32_w]
      rfl
    refine pure_ (i := 5) (N := some 31) (v := ?_) (a' := ?_) #[true, true, true, true, false, true, false, false, false] rfl rfl (by kernel_rfl) (fun _ _ _ h => h) (Or.inl ⟨by rfl, ?_⟩) ?_ ?_
    rotate_left
    · intro w'
      go_simp
      with_reducible rfl
    rotate_left
    · simp only [Act.put, List.setIfInBounds_toArray, List.set_cons_zero, List.set_cons_succ, i64_w, i32_w]
      rfl
    have HH := Lib.hid hHeld
    clear hHeld
    refine one_ (i := 4) (N := some 30) #[true, true, true, true, true, true, false, false, false] rfl rfl (by kernel_rfl) (by decide) (fun K hK => ?_)
    refine goes_ Tryd.func18 (by kernel_rfl) rfl #[.int .u64 (h.x 58), .int .i64 7] (by rfl) rfl rfl (by simp only [List.map_toArray, List.map_cons, List.map_nil]; rfl) ?_
    with_reducible refine (on_c (h.x 58) 7 _ (by decide)).mono ?_
    rintro e_ w_ ⟨rfl, ⟨n_, rfl⟩⟩
    refine ⟨_, rfl, ?_⟩
    have q_ := Lib.hid (Hb.drewN n_ K_ga.out)
    have hB_8 := Lib.hid (pw_below_drewN hB_6.out n_)
    have q_gr := Lib.hid (Hb.drewN n_ K_gr.out)
    have s_0 := (cell_drewN n_ HH.out.1)
    have s_1 := (cell_drewN n_ HH.out.2)
    clear HH K_ga K_gr hB_6
    generalize World.drewN w_5 n_ = w_7 at q_ hB_8 q_gr s_0 s_1 ⊢
    have K_ga := q_; clear q_
    have K_gr := q_gr; clear q_gr
    refine hK.out _ _ ⟨s_0, s_1⟩ (fun hHeld => ?_)
    have HH := Lib.hid hHeld
    clear hHeld s_0 s_1
    clear hK K
    refine norm_ (a' := ?_) ?_ ?_
    rotate_left
    · show Act.put _ (some 30) _ = _
      simp only [Act.put, List.setIfInBounds_toArray, List.set_cons_zero, List.set_cons_succ, i64_w, i32_w]
      rfl
    refine one_ (i := 6) (N := none) #[true, true, true, true, true, true, true, false, false] rfl rfl (by kernel_rfl) (by decide) (fun K hK => ?_)
    refine skipH (h := _) (v := .int .u64 (h.x 54)) (by rfl) rfl rfl rfl rfl (by kernel_rfl) rfl rfl K_ga.out (by decide) ?_
    have q_ := Lib.hid (Hb.put 0 ((h.x 54)) K_ga.out)
    have hB_10 := Lib.hid (below_set (j := 0) (v := (.int .u64 (h.x 54))) hB_8.out G_ga.out)
    have q_gr := Lib.hid (Hb.far (j := 0) (u := (.int .u64 (h.x 54))) (Ne.symm N_ga_gr.out) K_gr.out)
    have s_0 := (cell_ne (u := (.int .u64 (h.x 54))) HH.out.1 (show 54 ≠ 0 by decide))
    have s_1 := (cell_ne (u := (.int .u64 (h.x 54))) HH.out.2 (show 58 ≠ 0 by decide))
    clear HH K_ga K_gr hB_8
    generalize World.setCell w_7 ⟨ga, 0, none⟩ (.int .u64 (h.x 54)) = w_9 at q_ hB_10 q_gr s_0 s_1 ⊢
    have K_ga := q_; clear q_
    have K_gr := q_gr; clear q_gr
    refine hK.out _ _ ⟨s_0, s_1⟩ (fun hHeld => ?_)
    have HH := Lib.hid hHeld
    clear hHeld s_0 s_1
    clear hK K
    refine pure_ (i := 7) (N := some 32) (v := ?_) (a' := ?_) #[true, true, true, true, true, true, true, true, false] rfl rfl (by kernel_rfl) (fun _ _ _ h => h) (Or.inl ⟨by rfl, ?_⟩) ?_ ?_
    rotate_left
    · intro w'
      go_simp
      with_reducible rfl
    rotate_left
    · simp only [Act.put, List.setIfInBounds_toArray, List.set_cons_zero, List.set_cons_succ, i64_w, i32_w]
      rfl
    refine one_ (i := 8) (N := none) #[true, true, true, true, true, true, true, true, true] rfl rfl (by kernel_rfl) (by decide) (fun K hK => ?_)
    refine skipH (h := _) (v := .bool (onV (h.x 58) 7)) (by rfl) rfl rfl rfl rfl (by kernel_rfl) rfl rfl K_ga.out (by decide) ?_
    have q_ := Lib.hid (Hb.putV ((onV (h.x 58) 7)) K_ga.out)
    have hB_12 := Lib.hid (below_set (j := 34) (v := (.bool (onV (h.x 58) 7))) hB_10.out G_ga.out)
    have q_gr := Lib.hid (Hb.far (j := 34) (u := (.bool (onV (h.x 58) 7))) (Ne.symm N_ga_gr.out) K_gr.out)
    have s_0 := (cell_ne (u := (.bool (onV (h.x 58) 7))) HH.out.1 (show 54 ≠ 34 by decide))
    have s_1 := (cell_ne (u := (.bool (onV (h.x 58) 7))) HH.out.2 (show 58 ≠ 34 by decide))
    clear HH K_ga K_gr hB_10
    generalize World.setCell w_9 ⟨ga, 34, none⟩ (.bool (onV (h.x 58) 7)) = w_11 at q_ hB_12 q_gr s_0 s_1 ⊢
    have K_ga := q_; clear q_
    have K_gr := q_gr; clear q_gr
    refine hK.out _ _ ⟨s_0, s_1⟩ (fun hHeld => ?_)
    have HH := Lib.hid hHeld
    clear hHeld s_0 s_1
    clear hK K
    refine done_ (by kernel_rfl) ?_
    try clear HH
    have c_ga_38 := (show World.cell? _ ⟨ga, 38, none⟩ = some (.int .u64 (givenS (h.x 38))) from (K_ga.out.u 38 rfl).trans rfl); have f_ga_38 := K_ga.out.fr 38
    have c_ga_58 := (show World.cell? _ ⟨ga, 58, none⟩ = some (.int .u64 (h.x 58)) from (K_ga.out.u 58 rfl).trans rfl); have f_ga_58 := K_ga.out.fr 58
    go_upto_region 9 with (first | (go_at_call 18; refine (on_c _ _ _ (by decide)).mono ?_; rintro e_ w_ ⟨rfl, ⟨n_, rfl⟩⟩) | (go_at_call 17; refine (set_c _ _ _ _ (by decide)).mono ?_; rintro e_ w_ ⟨rfl, ⟨n_, rfl⟩⟩) | (go_at_call 22; refine (given_c _ _).mono ?_; rintro e_ w_ ⟨rfl, ⟨n_, rfl⟩⟩))
    refine wp_region_list ?_
    refine load_hart (h := _) rfl (.tmp 1) rfl ga rfl (by repeat (with_reducible first | exact K_ga.out | apply Hb.put | apply Hb.putP | apply Hb.putV | apply Hb.putW | apply Hb.putH | apply Hb.far N_ga_gr.out | apply Hb.drewN | apply Hb.drew)) ?_
    refine store_hart rfl (.tmp 2) (.tmp 41) rfl gr _ rfl rfl Ht.zero (by repeat (with_reducible first | exact K_gr.out | apply Hb.put | apply Hb.putP | apply Hb.putV | apply Hb.putW | apply Hb.putH | apply Hb.far (Ne.symm N_ga_gr.out) | apply Hb.drewN | apply Hb.drew)) ?_
    go_wp2
    refine bodyPost_ret (results_cell_row rfl _ _ gr 25 _ (0, 0) _ rfl (Hb.putAll _ (by repeat (with_reducible first | exact K_gr.out | apply Hb.put | apply Hb.putP | apply Hb.putV | apply Hb.putW | apply Hb.putH | apply Hb.far (Ne.symm N_ga_gr.out) | apply Hb.drewN | apply Hb.drew))) Tryd.underlying25 rfl (by rw [Ht.size]; exact hartSize)) rfl ?_
    exact ⟨by (first | rfl | (simp only [sret, hv, if_true, if_false, Bool.false_eq_true, cond_true, cond_false]; done) | (simp only [sret, hv, if_true, if_false, Bool.false_eq_true, cond_true, cond_false]; rfl)), setCells_below G_gr.out _ _ _ (by repeat (first | (with_reducible first | exact hB_12.out | apply pw_below_drewN | apply below_drew1 | refine below_set ?_ G_ga.out | refine below_set ?_ G_gr.out) | exact hB_12.out))⟩
  · skip
    have hu25 := Tryd.underlying25
    go_enter Tryd.func9, Tryd.ntmps9
    go_wp2_with (first | ((with_reducible refine gate_dst (N := 1) rfl ?_); refine box_event ?hg (N := 1) ?hd (cs := h.cs) (t := 25) ?hr ?_; (case hd => rfl); (case hg => rfl); (case hr => first | (go_simp; done) | (go_simp; rfl)); intro ga hg w_1 H1 hb; have hB_2 := Lib.hid (below_step (Below.refl w.heap.size w) hb); have G_ga := Lib.hid (show w.heap.size ≤ ga by rw [hg]; exact ((Below.refl w.heap.size w)).size); have K_ga := Lib.hid (show Hb w_1 ga h from H1); clear hg hb H1) | ((with_reducible refine gate_dst (N := 2) rfl ?_); refine box_event ?hg (N := 2) ?hd (cs := Ht.zero.cs) (t := 25) ?hr ?_; (case hd => rfl); (case hg => rfl); (case hr => first | (go_simp; done) | (go_simp; rfl)); intro gr hg w_3 H1 hb; have hB_4 := Lib.hid (below_step hB_2.out hb); have G_gr := Lib.hid (show w.heap.size ≤ gr by rw [hg]; exact (hB_2.out).size); have N_ga_gr := Lib.hid (show ga ≠ gr by rw [hg]; exact Nat.ne_of_lt (K_ga.out.lt)); replace K_ga := Lib.hid (K_ga.out.below hb); have K_gr := Lib.hid (show Hb w_3 gr Ht.zero from H1); clear hg hb H1 hB_2; have c_ga_0 := K_ga.out.u 0 rfl; have f_ga_0 := K_ga.out.fr 0; have c_ga_33 := K_ga.out.p; have f_ga_33 := K_ga.out.fr 33; have c_ga_34 := K_ga.out.cv; have f_ga_34 := K_ga.out.fr 34; have c_ga_36 := K_ga.out.ch; have f_ga_36 := K_ga.out.fr 36; have c_ga_37 := K_ga.out.u 37 rfl; have f_ga_37 := K_ga.out.fr 37; have c_ga_38 := K_ga.out.u 38 rfl; have f_ga_38 := K_ga.out.fr 38; have c_ga_54 := K_ga.out.u 54 rfl; have f_ga_54 := K_ga.out.fr 54; have c_ga_58 := K_ga.out.u 58 rfl; have f_ga_58 := K_ga.out.fr 58; have c_ga_68 := K_ga.out.u 68 rfl; have f_ga_68 := K_ga.out.fr 68; have c_ga_71 := K_ga.out.u 71 rfl; have f_ga_71 := K_ga.out.fr 71; clear hu25))
    go_upto_region 9 with (first | (go_at_call 18; refine (on_c _ _ _ (by decide)).mono ?_; rintro e_ w_ ⟨rfl, ⟨n_, rfl⟩⟩) | (go_at_call 17; refine (set_c _ _ _ _ (by decide)).mono ?_; rintro e_ w_ ⟨rfl, ⟨n_, rfl⟩⟩) | (go_at_call 22; refine (given_c _ _).mono ?_; rintro e_ w_ ⟨rfl, ⟨n_, rfl⟩⟩))
    refine wp_region_list ?_
    refine load_hart (h := _) rfl (.tmp 1) rfl ga rfl (by repeat (with_reducible first | exact K_ga.out | apply Hb.put | apply Hb.putP | apply Hb.putV | apply Hb.putW | apply Hb.putH | apply Hb.far N_ga_gr.out | apply Hb.drewN | apply Hb.drew)) ?_
    refine store_hart rfl (.tmp 2) (.tmp 41) rfl gr _ rfl rfl Ht.zero (by repeat (with_reducible first | exact K_gr.out | apply Hb.put | apply Hb.putP | apply Hb.putV | apply Hb.putW | apply Hb.putH | apply Hb.far (Ne.symm N_ga_gr.out) | apply Hb.drewN | apply Hb.drew)) ?_
    go_wp2
    refine bodyPost_ret (results_cell_row rfl _ _ gr 25 _ (0, 0) _ rfl (Hb.putAll _ (by repeat (with_reducible first | exact K_gr.out | apply Hb.put | apply Hb.putP | apply Hb.putV | apply Hb.putW | apply Hb.putH | apply Hb.far (Ne.symm N_ga_gr.out) | apply Hb.drewN | apply Hb.drew))) Tryd.underlying25 rfl (by rw [Ht.size]; exact hartSize)) rfl ?_
    exact ⟨by (first | rfl | (simp only [sret, hv, if_true, if_false, Bool.false_eq_true, cond_true, cond_false]; done) | (simp only [sret, hv, if_true, if_false, Bool.false_eq_true, cond_true, cond_false]; rfl)), setCells_below G_gr.out _ _ _ (by repeat (first | (with_reducible first | exact hB_4.out | apply pw_below_drewN | apply below_drew1 | refine below_set ?_ G_ga.out | refine below_set ?_ G_gr.out) | exact hB_4.out))⟩
end Go.Proofs.YtfehchhmghpfpaaDoor.Hx
