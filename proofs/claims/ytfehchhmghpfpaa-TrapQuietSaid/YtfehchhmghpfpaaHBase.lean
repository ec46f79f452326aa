/- Bits of words, as chapter 14's functions tell them: their contracts in a short form. -/
import Derived.Test.YtfehchhmghpfpaaHt
import Derived.Test.YtfehchhmghpfpaaReg
import Derived.Test.YtfehchhmghpfpaaQx1
import Derived.Test.YtfehchhmghpfpaaQx2
set_option linter.unusedSimpArgs false
set_option linter.unusedVariables false
namespace Go.Proofs.Ytfehchhmghpfpaa.Hx
open Go.RowKit Go.Proofs.Ytfehchhmghpfpaa.Q Go.Proofs.YtfehchhmghpfpaaW.PrintWords Go.Proofs.YtfehchhmghpfpaaW.PrintLast Go.Proofs.YtfehchhmghpfpaaW.PrintMore Go.Proofs.Ytfehchhmghpfpaa.Rg
theorem bsm {α β : Type} (a : α) (f : α → Option β) : (some a).bind f = f a := by cases h : f a <;> simp [h]
def onV (v b : Int) : Bool := (Go.bits .and .u64 (shr .u64 v b) 1) == 1
def setV (v b : Int) (is : Bool) : Int := if is = true then Go.bits .or .u64 v (shl .u64 1 b) else Go.bits .andNot .u64 v (shl .u64 1 b)
def withV (v b : Int) (is : Bool) : Int := if is = true then Go.bits .or .u64 (Go.bits .andNot .u64 v (shl .u64 1 b)) (shl .u64 1 b) else Go.bits .andNot .u64 v (shl .u64 1 b)
def splitN (c : Int) : Int := Go.bits .andNot .u64 c 9223372036854775808
def splitI (c : Int) : Bool := (Go.bits .and .u64 c 9223372036854775808) != 0
def placeV (t c : Int) : Int := if splitI c = true then (if (Go.bits .and .u64 t 1) = 1 then IntKind.u64.wrap ((Go.bits .andNot .u64 t 3) + (IntKind.u64.wrap (4 * splitN c))) else Go.bits .andNot .u64 t 3) else Go.bits .andNot .u64 t 3
def rplaceV (t c : Int) : Int := if onV c 63 = true then (if onV t 0 = true then IntKind.u64.wrap ((IntKind.u64.wrap (t - (Int.tmod t 4))) + (IntKind.u64.wrap (4 * (Int.tmod c 9223372036854775808)))) else IntKind.u64.wrap (t - (Int.tmod t 4))) else IntKind.u64.wrap (t - (Int.tmod t 4))
def takenV (s : Int) (sup : Bool) : Int := setV (setV (setV s 5 (onV s 1)) 1 false) 8 sup
def givenS (s : Int) : Int := setV (setV (setV s 1 (onV s 5)) 5 true) 8 false
def givenP (s : Int) : Int := if onV s 8 = true then 1 else 0
theorem on_f (v b : Int) (hb : 0 ≤ b) : trap_on.f v b = some (onV v b) := by unfold trap_on.f; rw [if_pos hb]; rfl
theorem bit_f (v b : Int) (hb : 0 ≤ b) : mezzanineref14_bit.f v b = some (onV v b) := by unfold mezzanineref14_bit.f; rw [if_pos hb]; rfl
theorem set_f (v b : Int) (is : Bool) (hb : 0 ≤ b) : trap_set.f v b is = some (setV v b is) := by unfold trap_set.f setV; cases is <;> simp [hb]
theorem with_f (v b : Int) (is : Bool) (hb : 0 ≤ b) : mezzanineref14_With.f v b is = some (withV v b is) := by unfold mezzanineref14_With.f withV; cases is <;> simp [hb]
theorem split_f (c : Int) : trap_split.f c = some (splitN c, splitI c) := rfl
theorem place_f (t c : Int) : trap_place.f t c = some (placeV t c) := by
  unfold trap_place.f placeV
  rw [split_f, bsm]
  cases splitI c
  · rw [if_neg (show ¬ (false = true) by decide), if_neg (show ¬ (false = true) by decide)]
  · rw [if_pos rfl, if_pos rfl]; by_cases h : Go.bits .and .u64 t 1 = 1
    · rw [if_pos h, if_pos h]
    · rw [if_neg h, if_neg h]
theorem rplace_f (t c : Int) : mezzanineref14_Place.f t c = some (rplaceV t c) := by
  unfold mezzanineref14_Place.f rplaceV
  rw [bit_f _ _ (by decide), bsm]
  cases onV c 63
  · rw [if_neg (by decide), if_neg (by decide)]
  · rw [if_pos rfl, if_pos rfl, bit_f _ _ (by decide), bsm]
    cases onV t 0
    · rw [if_neg (by decide), if_neg (by decide)]
    · rw [if_pos rfl, if_pos rfl]
theorem taken_f (s : Int) (sup : Bool) : trap_taken.f s sup = some (takenV s sup) := by
  unfold trap_taken.f takenV
  rw [on_f _ _ (by decide), bsm, set_f _ _ _ (by decide), bsm, set_f _ _ _ (by decide), bsm, set_f _ _ _ (by decide), bsm]
theorem given_f (s : Int) : trap_given.f s = some (givenS s, givenP s) := by
  unfold trap_given.f givenS givenP
  rw [on_f _ _ (by decide), bsm, set_f _ _ _ (by decide), bsm, set_f _ _ _ (by decide), bsm, set_f _ _ _ (by decide), bsm, on_f _ _ (by decide), bsm]
  cases onV s 8
  · rw [if_neg (by decide), if_neg (by decide)]
  · rw [if_pos rfl, if_pos rfl]
theorem on_c (v b : Int) (w : World) (hb : 0 ≤ b) : Calls Try.prog 16 #[.int .u64 v, .int .i64 b] w fun e w' => e = .returned (.bool (onV v b)) ∧ Drawn0 w w' := trap_on.calls v b _ w (on_f v b hb)
theorem bit_c (v b : Int) (w : World) (hb : 0 ≤ b) : Calls Try.prog 17 #[.int .u64 v, .int .u64 b] w fun e w' => e = .returned (.bool (onV v b)) ∧ Drawn0 w w' := mezzanineref14_bit.calls v b _ w (bit_f v b hb)
theorem set_c (v b : Int) (is : Bool) (w : World) (hb : 0 ≤ b) : Calls Try.prog 18 #[.int .u64 v, .int .i64 b, .bool is] w fun e w' => e = .returned (.int .u64 (setV v b is)) ∧ Drawn0 w w' := trap_set.calls v b is _ w (set_f v b is hb)
theorem with_c (v b : Int) (is : Bool) (w : World) (hb : 0 ≤ b) : Calls Try.prog 21 #[.int .u64 v, .int .u64 b, .bool is] w fun e w' => e = .returned (.int .u64 (withV v b is)) ∧ Drawn0 w w' := mezzanineref14_With.calls v b is _ w (with_f v b is hb)
theorem split_c (c : Int) (w : World) : Calls Try.prog 15 #[.int .u64 c] w fun e w' => e = .returned (.tuple #[.int .u64 (splitN c), .bool (splitI c)]) ∧ Drawn0 w w' := trap_split.calls c _ _ w (split_f c)
theorem place_c (t c : Int) (w : World) : Calls Try.prog 19 #[.int .u64 t, .int .u64 c] w fun e w' => e = .returned (.int .u64 (placeV t c)) ∧ Drawn0 w w' := trap_place.calls t c _ w (place_f t c)
theorem rplace_c (t c : Int) (w : World) : Calls Try.prog 22 #[.int .u64 t, .int .u64 c] w fun e w' => e = .returned (.int .u64 (rplaceV t c)) ∧ Drawn0 w w' := mezzanineref14_Place.calls t c _ w (rplace_f t c)
theorem taken_c (s : Int) (sup : Bool) (w : World) : Calls Try.prog 20 #[.int .u64 s, .bool sup] w fun e w' => e = .returned (.int .u64 (takenV s sup)) ∧ Drawn0 w w' := trap_taken.calls s sup _ w (taken_f s sup)
theorem given_c (s : Int) (w : World) : Calls Try.prog 23 #[.int .u64 s] w fun e w' => e = .returned (.tuple #[.int .u64 (givenS s), .int .u8 (givenP s)]) ∧ Drawn0 w w' := trap_given.calls s _ _ w (given_f s)
end Go.Proofs.Ytfehchhmghpfpaa.Hx
