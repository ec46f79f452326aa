/- Legal harts: what fixing keeps, and stores into single cells that keep a hart legal. (Parts of chapter 12's texts.) -/
import Derived.Test.YtfehchhmghpfpaaDoorCPlain
set_option linter.unusedSimpArgs false
set_option linter.unusedVariables false
namespace Go.Proofs.YtfehchhmghpfpaaDoor.Hx
open Go.Proofs.YtfehchhmghpfpaaDoor.Bv Go.RowKit Go.Proofs.YtfehchhmghpfpaaDoor.Q Go.Proofs.YtfehchhmghpfpaaDoorW.PrintWords Go.Proofs.YtfehchhmghpfpaaDoorW.PrintLast Go.Proofs.YtfehchhmghpfpaaDoorW.PrintMore Go.Proofs.YtfehchhmghpfpaaDoor.Rg
theorem rng (op : BinOp) (a b : Int) : 0 ≤ Go.bits op .u64 a b ∧ Go.bits op .u64 a b < 18446744073709551616 := by
  rw [bits_u64]; exact U_range _
theorem wf_set {h : Ht} (H : h.wf) (o : Nat) (y : Int) (hy : 0 ≤ y ∧ y < 18446744073709551616) (ho : o ≠ 33) : (h.set o y).wf := by
  refine ⟨fun i => ?_, ?_⟩
  · show 0 ≤ (bif Nat.beq i o then y else h.x i) ∧ (bif Nat.beq i o then y else h.x i) < _
    cases Nat.beq i o
    · exact H.1 i
    · exact hy
  · show (bif Nat.beq 33 o then y else h.x 33) < 256
    rw [beqF (Ne.symm ho)]; exact H.2
theorem wf_setP {h : Ht} (H : h.wf) : (h.set 33 0).wf := by
  refine ⟨fun i => ?_, show (0 : Int) < 256 by decide⟩
  show 0 ≤ (bif Nat.beq i 33 then 0 else h.x i) ∧ (bif Nat.beq i 33 then 0 else h.x i) < _
  cases Nat.beq i 33
  · exact H.1 i
  · exact ⟨show (0 : Int) ≤ 0 by decide, show (0 : Int) < 18446744073709551616 by decide⟩
theorem isU_33 {o : Nat} (h : isU o = true) : o ≠ 33 := fun e => by rw [e] at h; exact absurd h (by decide)
theorem wf_fixAt {h : Ht} (H : h.wf) (no : Int) : (fixAt h no).wf := by
  unfold fixAt
  cases ho : fieldOff no with
  | none => exact H
  | some o => exact wf_set H o _ (rng _ _ _) (isU_33 (fieldOff_isU ho))
theorem wf_fixTo {h : Ht} (H : h.wf) : ∀ k, (fixTo h k).wf
  | 0 => H
  | k + 1 => wf_fixAt (wf_fixTo H k) _
theorem wf_v {h : Ht} (H : h.wf) (b : Bool) : ({ h with v := b } : Ht).wf := H
theorem wf_fix {h : Ht} (H : h.wf) : (fix h).wf := by
  have K := wf_fixTo H 56
  unfold fix fixLast
  generalize fixTo h 56 = k at K
  have r0 : (0 : Int) ≤ 0 ∧ (0 : Int) < 18446744073709551616 := ⟨by decide, by decide⟩
  have k1 : (if (Go.bits .and .u64 (k.x 38) 6144 == 4096) = true then k.set 38 (Go.bits .andNot .u64 (k.x 38) 6144) else k).wf := by
    split
    · exact wf_set K 38 _ (rng _ _ _) (by decide)
    · exact K
  have k2 := wf_set (wf_set (wf_set k1 42 _ (rng .and (k.x 42) 546) (by decide)) 1 0 r0 (by decide)) 0 _ (rng .andNot (k.x 0) 3) (by decide)
  have k3 : ∀ q : Ht, q.wf → (if (k.x 33 != 1) = true ∧ (k.x 33 != 3) = true then q.set 33 0 else q).wf := by
    intro q hq
    split
    · exact wf_setP hq
    · exact hq
  have k5 := wf_set (wf_v (k3 _ k2) (if k.v = true then (if (k.x 33 != 1) = true ∧ (k.x 33 != 3) = true then true else (k.x 33 != 3)) else false)) 37 _ (rng .and (k.x 37) 72057594037927928) (by decide)
  have k6 : ∀ q : Ht, q.wf → (if k.hl = true then q else q.set 37 0).wf := by
    intro q hq
    split
    · exact hq
    · exact wf_set hq 37 0 r0 (by decide)
  exact k6 _ k5
theorem set_self (h : Ht) (o : Nat) (y : Int) (e : y = h.x o) : h.set o y = h := by
  unfold Ht.set
  have : (fun i => bif Nat.beq i o then y else h.x i) = h.x := by
    funext i
    cases hb : Nat.beq i o
    · rfl
    · rw [Nat.eq_of_beq_eq_true hb, e]; rfl
  rw [this]
theorem putV_U (a m v : BitVec 64) : putV (U a) (U m) (U v) = U ((a &&& ~~~ m) ||| (v &&& m)) := by
  unfold putV
  rw [andNot_u64, and_u64, or_u64, ofInt_U, ofInt_U, ofInt_U, ofInt_U, ofInt_U]
theorem putV_eq (a m v : BitVec 64) (h : v &&& m = a &&& m) : putV (U a) (U m) (U v) = U a := by
  rw [putV_U, h]
  congr 1
  apply BitVec.eq_of_getLsbD_eq; intro i hi
  simp only [BitVec.getLsbD_and, BitVec.getLsbD_or, BitVec.getLsbD_not, hi, decide_true, Bool.true_and]
  cases a.getLsbD i <;> cases m.getLsbD i <;> rfl
theorem putV_self {a : Int} (ha : 0 ≤ a ∧ a < 18446744073709551616) (m : Int) : putV a m a = a := by
  obtain ⟨x, rfl⟩ := U_of ha.1 ha.2
  have e : putV (U x) m (U x) = putV (U x) (U (BitVec.ofInt 64 m)) (U x) := by
    unfold putV; rw [andNot_u64, and_u64, andNot_u64, and_u64, ofInt_U (BitVec.ofInt 64 m)]
  rw [e]; exact putV_eq x _ x rfl
theorem ofI (a : BitVec 64) : BitVec.ofInt 64 (U a) = a := ofInt_U a
theorem and_c (a : BitVec 64) (c : Int) : Go.bits .and .u64 (U a) c = U (a &&& BitVec.ofInt 64 c) := by rw [and_u64, ofInt_U]
theorem and_UU (a c : BitVec 64) : Go.bits .and .u64 (U a) (U c) = U (a &&& c) := by rw [and_u64, ofInt_U, ofInt_U]
theorem or_c (a : BitVec 64) (c : Int) : Go.bits .or .u64 (U a) c = U (a ||| BitVec.ofInt 64 c) := by rw [or_u64, ofInt_U]
theorem lit_U (c : Int) (h : 0 ≤ c ∧ c < 18446744073709551616) : c = U (BitVec.ofInt 64 c) := (U_ofInt h.1 h.2).symm
theorem bit0 {a b : BitVec 64} (h : a &&& b = 0#64) (i : Nat) : (a.getLsbD i && b.getLsbD i) = false := by
  rw [← BitVec.getLsbD_and, h, BitVec.getLsbD_zero]
theorem sub_i {a b : BitVec 64} (h : a &&& b = a) (i : Nat) : a.getLsbD i = true → b.getLsbD i = true := by
  intro ha
  have := congrArg (BitVec.getLsbD · i) h
  simp only [BitVec.getLsbD_and] at this
  rw [ha] at this; simpa using this
theorem fc_own (k k2 : Ht) (hh : k2.hl = k.hl) : ∀ i, i < 77 → k2.x i = k.x i → (fix k2).x i = (fix k).x i
  | 0, _, hx => by rw [fix_0, fix_0, hx]
  | 1, _, hx => by rw [fix_1, fix_1]
  | 2, _, hx => by rw [fix_2, fix_2, hx]
  | 3, _, hx => by rw [fix_3, fix_3, hx]
  | 4, _, hx => by rw [fix_4, fix_4, hx]
  | 5, _, hx => by rw [fix_5, fix_5, hx]
  | 6, _, hx => by rw [fix_6, fix_6, hx]
  | 7, _, hx => by rw [fix_7, fix_7, hx]
  | 8, _, hx => by rw [fix_8, fix_8, hx]
  | 9, _, hx => by rw [fix_9, fix_9, hx]
  | 10, _, hx => by rw [fix_10, fix_10, hx]
  | 11, _, hx => by rw [fix_11, fix_11, hx]
  | 12, _, hx => by rw [fix_12, fix_12, hx]
  | 13, _, hx => by rw [fix_13, fix_13, hx]
  | 14, _, hx => by rw [fix_14, fix_14, hx]
  | 15, _, hx => by rw [fix_15, fix_15, hx]
  | 16, _, hx => by rw [fix_16, fix_16, hx]
  | 17, _, hx => by rw [fix_17, fix_17, hx]
  | 18, _, hx => by rw [fix_18, fix_18, hx]
  | 19, _, hx => by rw [fix_19, fix_19, hx]
  | 20, _, hx => by rw [fix_20, fix_20, hx]
  | 21, _, hx => by rw [fix_21, fix_21, hx]
  | 22, _, hx => by rw [fix_22, fix_22, hx]
  | 23, _, hx => by rw [fix_23, fix_23, hx]
  | 24, _, hx => by rw [fix_24, fix_24, hx]
  | 25, _, hx => by rw [fix_25, fix_25, hx]
  | 26, _, hx => by rw [fix_26, fix_26, hx]
  | 27, _, hx => by rw [fix_27, fix_27, hx]
  | 28, _, hx => by rw [fix_28, fix_28, hx]
  | 29, _, hx => by rw [fix_29, fix_29, hx]
  | 30, _, hx => by rw [fix_30, fix_30, hx]
  | 31, _, hx => by rw [fix_31, fix_31, hx]
  | 32, _, hx => by rw [fix_32, fix_32, hx]
  | 33, _, hx => by rw [fix_33, fix_33, hx]
  | 34, _, hx => by rw [fix_34, fix_34, hx]
  | 35, _, hx => by rw [fix_35, fix_35, hx]
  | 36, _, hx => by rw [fix_36, fix_36, hx]
  | 37, _, hx => by rw [fix_37, fix_37, hx, hh]
  | 38, _, hx => by rw [fix_38, fix_38, hx]
  | 39, _, hx => by rw [fix_39, fix_39, hx]
  | 40, _, hx => by rw [fix_40, fix_40, hx]
  | 41, _, hx => by rw [fix_41, fix_41, hx]
  | 42, _, hx => by rw [fix_42, fix_42, hx]
  | 43, _, hx => by rw [fix_43, fix_43, hx]
  | 44, _, hx => by rw [fix_44, fix_44, hx]
  | 45, _, hx => by rw [fix_45, fix_45, hx]
  | 46, _, hx => by rw [fix_46, fix_46, hx]
  | 47, _, hx => by rw [fix_47, fix_47, hx]
  | 48, _, hx => by rw [fix_48, fix_48, hx]
  | 49, _, hx => by rw [fix_49, fix_49, hx]
  | 50, _, hx => by rw [fix_50, fix_50, hx]
  | 51, _, hx => by rw [fix_51, fix_51, hx]
  | 52, _, hx => by rw [fix_52, fix_52, hx]
  | 53, _, hx => by rw [fix_53, fix_53, hx]
  | 54, _, hx => by rw [fix_54, fix_54, hx]
  | 55, _, hx => by rw [fix_55, fix_55, hx]
  | 56, _, hx => by rw [fix_56, fix_56, hx]
  | 57, _, hx => by rw [fix_57, fix_57, hx]
  | 58, _, hx => by rw [fix_58, fix_58, hx]
  | 59, _, hx => by rw [fix_59, fix_59, hx]
  | 60, _, hx => by rw [fix_60, fix_60, hx]
  | 61, _, hx => by rw [fix_61, fix_61, hx]
  | 62, _, hx => by rw [fix_62, fix_62, hx]
  | 63, _, hx => by rw [fix_63, fix_63, hx]
  | 64, _, hx => by rw [fix_64, fix_64, hx]
  | 65, _, hx => by rw [fix_65, fix_65, hx]
  | 66, _, hx => by rw [fix_66, fix_66, hx]
  | 67, _, hx => by rw [fix_67, fix_67, hx]
  | 68, _, hx => by rw [fix_68, fix_68, hx]
  | 69, _, hx => by rw [fix_69, fix_69, hx]
  | 70, _, hx => by rw [fix_70, fix_70, hx]
  | 71, _, hx => by rw [fix_71, fix_71, hx]
  | 72, _, hx => by rw [fix_72, fix_72, hx]
  | 73, _, hx => by rw [fix_73, fix_73, hx]
  | 74, _, hx => by rw [fix_74, fix_74, hx]
  | 75, _, hx => by rw [fix_75, fix_75, hx]
  | 76, _, hx => by rw [fix_76, fix_76, hx]
  | i + 77, h, _ => by omega
/-- A legal hart, cell by cell. -/
def Leg (f : Ht) : Prop := (∀ i, i < 77 → (fix f).x i = f.x i) ∧ (fix f).v = f.v
theorem Leg.legal {f : Ht} (L : Leg f) : legalV f = true := heq_of L.1 L.2 (fix_wt f) (fix_hl f)
theorem set_at (f : Ht) (o : Nat) (y : Int) : (f.set o y).x o = y := by show (bif Nat.beq o o then y else f.x o) = y; rw [beqT]; rfl
theorem set_ne (f : Ht) {o i : Nat} (y : Int) (e : i ≠ o) : (f.set o y).x i = f.x i := by show (bif Nat.beq i o then y else f.x i) = _; rw [beqF e]; rfl
theorem Leg.set {f : Ht} (L : Leg f) (o : Nat) (hu : isU o = true) (y : Int) (hy : (fix (f.set o y)).x o = y) : Leg (f.set o y) := by
  refine ⟨fun i hi => ?_, ?_⟩
  · by_cases e : i = o
    · subst e; rw [hy, set_at]
    · rw [fc_own f (f.set o y) rfl i hi (set_ne f y e), L.1 i hi, set_ne f y e]
  · have h33 : (f.set o y).x 33 = f.x 33 := set_ne f y (Ne.symm (isU_33 hu))
    have := L.2
    rw [fix_v] at this ⊢
    rw [h33]; exact this
theorem bool3 {P : Bool → Bool → Bool → Prop} (h : ∀ a b c, P a b c) (a b c : Bool) : P a b c := h a b c
theorem idB (a m c : BitVec 64) : ((((a &&& m) ||| c) &&& m) ||| c) = ((a &&& m) ||| c) := by
  apply BitVec.eq_of_getLsbD_eq; intro i hi; simp only [BitVec.getLsbD_and, BitVec.getLsbD_or]
  cases a.getLsbD i <;> cases m.getLsbD i <;> cases c.getLsbD i <;> rfl
theorem idF (a m c : Int) : Go.bits .or .u64 (Go.bits .and .u64 (Go.bits .or .u64 (Go.bits .and .u64 a m) c) m) c = Go.bits .or .u64 (Go.bits .and .u64 a m) c := by
  simp only [and_u64, or_u64, ofInt_U, idB]
theorem or0 (a m : Int) : Go.bits .or .u64 (Go.bits .and .u64 a m) 0 = Go.bits .and .u64 a m := by
  rw [and_u64, or_u64, ofInt_U, show BitVec.ofInt 64 0 = 0#64 from rfl, BitVec.or_zero]
theorem idA (a m : Int) : Go.bits .and .u64 (Go.bits .and .u64 a m) m = Go.bits .and .u64 a m := by have := idF a m 0; rw [or0, or0] at this; exact this
theorem idN (a m : Int) : Go.bits .andNot .u64 (Go.bits .andNot .u64 a m) m = Go.bits .andNot .u64 a m := by
  rw [andNot_u64 a m, andNot_u64, ofInt_U]
  congr 1
  apply BitVec.eq_of_getLsbD_eq; intro i hi; simp only [BitVec.getLsbD_and, BitVec.getLsbD_not, hi, decide_true, Bool.true_and]
  cases (BitVec.ofInt 64 a).getLsbD i <;> cases (BitVec.ofInt 64 m).getLsbD i <;> rfl
/-! ### mstatus -/
def L38 (x : BitVec 64) : Prop := (x &&& 824641984938#64) ||| 42949672960#64 = x ∧ x &&& 6144#64 ≠ 4096#64
theorem cond38 (x : BitVec 64) : (Go.bits .and .u64 (U x) 6144 == 4096) = decide (x &&& 6144#64 = 4096#64) := by
  rw [and_c, show BitVec.ofInt 64 6144 = 6144#64 from rfl, show (4096 : Int) = U (4096#64) from rfl]
  rw [Bool.eq_iff_iff, beq_iff_eq, U_inj, decide_eq_true_iff]
theorem mpp_U (x : BitVec 64) : mppV (U x) = U (if x &&& 6144#64 = 4096#64 then x &&& ~~~ 6144#64 else x) := by
  unfold mppV
  rw [cond38]
  by_cases h : x &&& 6144#64 = 4096#64
  · rw [if_pos h, decide_eq_true h, if_pos rfl, andNot_u64, ofInt_U]; rfl
  · rw [if_neg h, decide_eq_false h, if_neg (by decide)]
theorem mk38 (a : Int) : ∃ x, mppV (Go.bits .or .u64 (Go.bits .and .u64 a 824641984938) 42949672960) = U x ∧ L38 x := by
  rw [and_u64, or_u64, ofInt_U, mpp_U]
  refine ⟨_, rfl, ?_⟩
  show L38 (if ((BitVec.ofInt 64 a &&& 824641984938#64) ||| 42949672960#64) &&& 6144#64 = 4096#64 then ((BitVec.ofInt 64 a &&& 824641984938#64) ||| 42949672960#64) &&& ~~~ 6144#64 else ((BitVec.ofInt 64 a &&& 824641984938#64) ||| 42949672960#64))
  have e := idB (BitVec.ofInt 64 a) 824641984938#64 42949672960#64
  generalize ((BitVec.ofInt 64 a &&& 824641984938#64) ||| 42949672960#64) = t at e ⊢
  split
  · refine ⟨?_, ?_⟩
    · have hb := bit0 (a := 42949672960#64) (b := 6144#64) (by decide)
      apply BitVec.eq_of_getLsbD_eq; intro i hi
      have h1 := hb i; have h2 := congrArg (BitVec.getLsbD · i) e
      simp only [BitVec.getLsbD_and, BitVec.getLsbD_or, BitVec.getLsbD_not, hi, decide_true, Bool.true_and] at h2 ⊢
      revert h1 h2
      cases t.getLsbD i <;> cases (824641984938#64).getLsbD i <;> cases (42949672960#64).getLsbD i <;> cases (6144#64).getLsbD i <;> decide
    · have : (t &&& ~~~ 6144#64) &&& 6144#64 = 0#64 := by
        apply BitVec.eq_of_getLsbD_eq; intro i hi; simp only [BitVec.getLsbD_and, BitVec.getLsbD_not, hi, decide_true, Bool.true_and, BitVec.getLsbD_zero]
        cases t.getLsbD i <;> cases (6144#64).getLsbD i <;> rfl
      rw [this]; decide
  · rename_i h; exact ⟨e, h⟩
theorem at38 {x : BitVec 64} (h : L38 x) : mppV (Go.bits .or .u64 (Go.bits .and .u64 (U x) 824641984938) 42949672960) = U x := by
  rw [and_c, or_c]
  show mppV (U ((x &&& 824641984938#64) ||| 42949672960#64)) = _
  rw [h.1, mpp_U, if_neg h.2]
/-! ### tables -/
def tbl (a : Int) : Int := if modeV a = true then a else 0
theorem modeV_U (x : BitVec 64) : modeV (U x) = (if x >>> 60 = 0#64 then true else (U (x >>> 60) == 8)) := by
  have h := U_div_pow x 60
  rw [show (2 : Int) ^ 60 = 1152921504606846976 from rfl] at h
  unfold modeV csr_mode.f
  rw [h]
  by_cases e : x >>> 60 = 0#64
  · rw [if_pos e, if_pos (by rw [e]; rfl)]; rfl
  · rw [if_neg e, if_neg (fun q => e (U_inj.1 (q.trans (show (0 : Int) = U 0#64 from rfl))))]; rfl
theorem top_and (x m : BitVec 64) (hm : m >>> 60 = 15#64) : (x &&& m) >>> 60 = x >>> 60 := by
  apply BitVec.eq_of_getLsbD_eq; intro i hi
  have := congrArg (BitVec.getLsbD · i) hm
  simp only [BitVec.getLsbD_ushiftRight] at this
  rw [BitVec.getLsbD_ushiftRight, BitVec.getLsbD_ushiftRight, BitVec.getLsbD_and, this]
  by_cases h : i < 4
  · have : i = 0 ∨ i = 1 ∨ i = 2 ∨ i = 3 := by omega
    rcases this with rfl | rfl | rfl | rfl <;> simp
  · rw [BitVec.getLsbD_of_ge x (60 + i) (by omega)]; rfl
theorem mode_and (x m : BitVec 64) (hm : m >>> 60 = 15#64) : modeV (U (x &&& m)) = modeV (U x) := by rw [modeV_U, modeV_U, top_and x m hm]
theorem mode_0 : modeV 0 = true := by decide
theorem tbl_mode (a : Int) : modeV (tbl a) = true := by
  unfold tbl; split
  · assumption
  · exact mode_0
theorem tbl_rng {a : Int} (ha : 0 ≤ a ∧ a < 18446744073709551616) : 0 ≤ tbl a ∧ tbl a < 18446744073709551616 := by
  unfold tbl; split
  · exact ha
  · exact ⟨by decide, by decide⟩
theorem idT {a : Int} (ha : 0 ≤ a ∧ a < 18446744073709551616) (m : Int) (hm : BitVec.ofInt 64 m >>> 60 = 15#64) : Go.bits .or .u64 (Go.bits .and .u64 (tbl (Go.bits .or .u64 (Go.bits .and .u64 (tbl a) m) 0)) m) 0 = Go.bits .or .u64 (Go.bits .and .u64 (tbl a) m) 0 := by
  have ht := tbl_mode a
  obtain ⟨x, e⟩ := U_of (tbl_rng ha).1 (tbl_rng ha).2
  rw [e] at ht ⊢
  have e2 : tbl (Go.bits .or .u64 (Go.bits .and .u64 (U x) m) 0) = Go.bits .or .u64 (Go.bits .and .u64 (U x) m) 0 := by
    rw [or0, and_c]
    unfold tbl
    rw [if_pos ((mode_and x _ hm).trans ht)]
  rw [e2]; exact idF _ _ _

theorem leg_fix (h : Ht) (hw : h.wf) : Leg (fix h) := by
  refine ⟨fun i hi => ?_, ?_⟩
  · match i, hi with
    | 0, _ => exact by rw [fix_0, fix_0]; exact idN _ _
    | 1, _ => exact by rw [fix_1, fix_1]
    | 2, _ => exact by rw [fix_2]
    | 3, _ => exact by rw [fix_3]
    | 4, _ => exact by rw [fix_4]
    | 5, _ => exact by rw [fix_5]
    | 6, _ => exact by rw [fix_6]
    | 7, _ => exact by rw [fix_7]
    | 8, _ => exact by rw [fix_8]
    | 9, _ => exact by rw [fix_9]
    | 10, _ => exact by rw [fix_10]
    | 11, _ => exact by rw [fix_11]
    | 12, _ => exact by rw [fix_12]
    | 13, _ => exact by rw [fix_13]
    | 14, _ => exact by rw [fix_14]
    | 15, _ => exact by rw [fix_15]
    | 16, _ => exact by rw [fix_16]
    | 17, _ => exact by rw [fix_17]
    | 18, _ => exact by rw [fix_18]
    | 19, _ => exact by rw [fix_19]
    | 20, _ => exact by rw [fix_20]
    | 21, _ => exact by rw [fix_21]
    | 22, _ => exact by rw [fix_22]
    | 23, _ => exact by rw [fix_23]
    | 24, _ => exact by rw [fix_24]
    | 25, _ => exact by rw [fix_25]
    | 26, _ => exact by rw [fix_26]
    | 27, _ => exact by rw [fix_27]
    | 28, _ => exact by rw [fix_28]
    | 29, _ => exact by rw [fix_29]
    | 30, _ => exact by rw [fix_30]
    | 31, _ => exact by rw [fix_31]
    | 32, _ => exact by rw [fix_32]
    | 33, _ =>
      rw [fix_33, fix_33]
      cases hp : privOut (h.x 33)
      · simp only [Bool.false_eq_true, if_false, hp]
      · simp only [if_true, ite_self]
    | 34, _ => exact by rw [fix_34]
    | 35, _ => exact by rw [fix_35]
    | 36, _ => exact by rw [fix_36]
    | 37, _ =>
      rw [fix_37, fix_37, fix_hl]
      cases h.hl
      · rfl
      · exact idA _ _
    | 38, _ =>
      obtain ⟨x, e, l⟩ := mk38 (h.x 38)
      rw [fix_38, fix_38, e]; exact at38 l
    | 39, _ => exact by rw [fix_39, fix_39]; exact idF _ _ _
    | 40, _ => exact by rw [fix_40, fix_40]; exact idF _ _ _
    | 41, _ => exact by rw [fix_41, fix_41]; exact idF _ _ _
    | 42, _ => exact by rw [fix_42, fix_42]; exact idA _ _
    | 43, _ => exact by rw [fix_43, fix_43]; exact idF _ _ _
    | 44, _ => exact by rw [fix_44, fix_44]; exact idF _ _ _
    | 45, _ => exact by rw [fix_45, fix_45]; exact idF _ _ _
    | 46, _ => exact by rw [fix_46, fix_46]; exact idF _ _ _
    | 47, _ => exact by rw [fix_47, fix_47]; exact idF _ _ _
    | 48, _ => exact by rw [fix_48, fix_48]; exact idF _ _ _
    | 49, _ => exact by rw [fix_49, fix_49]; exact idF _ _ _
    | 50, _ => exact by rw [fix_50, fix_50]; exact idF _ _ _
    | 51, _ => exact by rw [fix_51, fix_51]; exact idF _ _ _
    | 52, _ => exact by rw [fix_52, fix_52]; exact idF _ _ _
    | 53, _ => exact by rw [fix_53, fix_53]; exact idF _ _ _
    | 54, _ => exact by rw [fix_54, fix_54]; exact idF _ _ _
    | 55, _ => exact by rw [fix_55, fix_55]; exact idF _ _ _
    | 56, _ => exact by rw [fix_56, fix_56]; exact idF _ _ _
    | 57, _ => exact by rw [fix_57, fix_57]; exact idT (hw.1 57) _ (by decide)
    | 58, _ => exact by rw [fix_58, fix_58]; exact idF _ _ _
    | 59, _ => exact by rw [fix_59, fix_59]; exact idF _ _ _
    | 60, _ => exact by rw [fix_60, fix_60]; exact idF _ _ _
    | 61, _ => exact by rw [fix_61, fix_61]; exact idF _ _ _
    | 62, _ => exact by rw [fix_62, fix_62]; exact idF _ _ _
    | 63, _ => exact by rw [fix_63, fix_63]; exact idF _ _ _
    | 64, _ => exact by rw [fix_64, fix_64]; exact idF _ _ _
    | 65, _ => exact by rw [fix_65, fix_65]; exact idF _ _ _
    | 66, _ => exact by rw [fix_66, fix_66]; exact idT (hw.1 66) _ (by decide)
    | 67, _ => exact by rw [fix_67, fix_67]; exact idF _ _ _
    | 68, _ => exact by rw [fix_68, fix_68]; exact idF _ _ _
    | 69, _ => exact by rw [fix_69, fix_69]; exact idF _ _ _
    | 70, _ => exact by rw [fix_70, fix_70]; exact idF _ _ _
    | 71, _ => exact by rw [fix_71, fix_71]; exact idF _ _ _
    | 72, _ => exact by rw [fix_72, fix_72]; exact idF _ _ _
    | 73, _ => exact by rw [fix_73, fix_73]; exact idF _ _ _
    | 74, _ => exact by rw [fix_74, fix_74]; exact idT (hw.1 74) _ (by decide)
    | 75, _ => exact by rw [fix_75, fix_75]; exact idF _ _ _
    | 76, _ => exact by rw [fix_76, fix_76]; exact idF _ _ _
    | i + 77, h => omega
  · rw [fix_v, fix_v, fix_33]
    cases h.v
    · rfl
    · simp only [if_true]
      cases hp : privOut (h.x 33)
      · simp only [Bool.false_eq_true, if_false, hp]
        by_cases h3 : (h.x 33 != 3) = true <;> simp [h3]
      · simp only [if_true, ite_self]
        rfl
theorem put_leg {x q M C V : BitVec 64} (h : (x &&& M) ||| C = x) (hd : C &&& q = 0#64) (hq : q &&& M = q) : (((x &&& ~~~ q) ||| (V &&& q)) &&& M) ||| C = (x &&& ~~~ q) ||| (V &&& q) := by
  apply BitVec.eq_of_getLsbD_eq; intro i hi
  have h1 := congrArg (BitVec.getLsbD · i) h; have h2 := bit0 hd i; have h3 := congrArg (BitVec.getLsbD · i) hq
  simp only [BitVec.getLsbD_and, BitVec.getLsbD_or, BitVec.getLsbD_not, hi, decide_true, Bool.true_and] at h1 h3 ⊢
  revert h1 h2 h3
  cases x.getLsbD i <;> cases M.getLsbD i <;> cases C.getLsbD i <;> cases q.getLsbD i <;> cases V.getLsbD i <;> decide
theorem put_any (x : BitVec 64) (q v : Int) : putV (U x) q v = U ((x &&& ~~~ BitVec.ofInt 64 q) ||| (BitVec.ofInt 64 v &&& BitVec.ofInt 64 q)) := by
  unfold putV; rw [andNot_u64, and_u64, or_u64, ofInt_U, ofInt_U, ofInt_U]
theorem legF {f : Ht} (hw : f.wf) (L : Leg f) (o : Nat) (hu : isU o = true) (M C q v : Int) (hfix : ∀ k : Ht, (fix k).x o = Go.bits .or .u64 (Go.bits .and .u64 (k.x o) M) C) (hd : BitVec.ofInt 64 C &&& BitVec.ofInt 64 q = 0#64) (hq : BitVec.ofInt 64 q &&& BitVec.ofInt 64 M = BitVec.ofInt 64 q) : Leg (f.set o (putV (f.x o) q v)) := by
  have hl := L.1 o (isU_spec hu).1
  rw [hfix] at hl
  obtain ⟨x, e⟩ := U_of (hw.1 o).1 (hw.1 o).2
  refine L.set o hu _ ?_
  rw [hfix, set_at, e, put_any, and_c, or_c]
  rw [e, and_c, or_c] at hl
  exact congrArg U (put_leg (U_inj.1 hl) hd hq)
theorem sub_q {a c m : BitVec 64} (h : c &&& m = c) : (a &&& c) &&& m = a &&& c := by rw [BitVec.and_assoc, h]
theorem dis_q {C a c : BitVec 64} (h : C = 0#64) : C &&& (a &&& c) = 0#64 := by rw [h, BitVec.zero_and]
theorem top_put (x q V : BitVec 64) (hq : q >>> 60 = 15#64) : ((x &&& ~~~ q) ||| (V &&& q)) >>> 60 = V >>> 60 := by
  have e : ((x &&& ~~~ q) ||| (V &&& q)) &&& q = V &&& q := by
    apply BitVec.eq_of_getLsbD_eq; intro i hi; simp only [BitVec.getLsbD_and, BitVec.getLsbD_or, BitVec.getLsbD_not, hi, decide_true, Bool.true_and]
    cases x.getLsbD i <;> cases q.getLsbD i <;> cases V.getLsbD i <;> rfl
  rw [← top_and _ q hq, e, top_and _ q hq]
theorem legT {f : Ht} (hw : f.wf) (L : Leg f) (o : Nat) (hu : isU o = true) (M v : Int) (hv : 0 ≤ v ∧ v < 18446744073709551616) (hfix : ∀ k : Ht, (fix k).x o = Go.bits .or .u64 (Go.bits .and .u64 (tbl (k.x o)) M) 0) (hM : BitVec.ofInt 64 M >>> 60 = 15#64) : Leg (if modeV v = true then f.set o (putV (f.x o) M v) else f) := by
  split
  · rename_i hmv
    have hl := L.1 o (isU_spec hu).1
    rw [hfix] at hl
    obtain ⟨x, e⟩ := U_of (hw.1 o).1 (hw.1 o).2
    obtain ⟨V, rfl⟩ := U_of hv.1 hv.2
    have hx : x &&& BitVec.ofInt 64 M = x := by
      obtain ⟨t, et⟩ := U_of (tbl_rng (hw.1 o)).1 (tbl_rng (hw.1 o)).2
      rw [et, or0, and_c, e] at hl
      have := U_inj.1 hl
      rw [← this, BitVec.and_assoc, BitVec.and_self]
    refine L.set o hu _ ?_
    rw [hfix, set_at, e, put_any, ofInt_U]
    have hm : modeV (U ((x &&& ~~~ BitVec.ofInt 64 M) ||| (V &&& BitVec.ofInt 64 M))) = true := by
      rw [modeV_U, top_put _ _ _ hM, ← modeV_U]; exact hmv
    unfold tbl
    rw [if_pos hm, or0, and_c]
    congr 1
    have hz := put_leg (x := x) (q := BitVec.ofInt 64 M) (M := BitVec.ofInt 64 M) (C := 0#64) (V := V) (by rw [BitVec.or_zero]; exact hx) (BitVec.zero_and) (BitVec.and_self)
    rw [BitVec.or_zero] at hz
    exact hz
  · exact L
theorem mpp2 (V : BitVec 64) (h : V &&& 6144#64 = 4096#64) : (Go.bits .and .u64 (U V / 2048) 3 == 2) = true := by
  have h2 := U_div_pow V 11
  rw [show (2 : Int) ^ 11 = 2048 from rfl] at h2
  rw [h2, and_c]
  have e : (V >>> 11) &&& BitVec.ofInt 64 3 = 2#64 := by
    have h3 := congrArg (fun z : BitVec 64 => z >>> 11) h
    simp only [BitVec.ushiftRight_and_distrib] at h3
    exact h3
  rw [e]; rfl
theorem leg38 {f : Ht} (hw : f.wf) (L : Leg f) (q v : Int) (hq : BitVec.ofInt 64 q &&& 824641984938#64 = BitVec.ofInt 64 q) (hd : 42949672960#64 &&& BitVec.ofInt 64 q = 0#64)
    (hm : ∀ x : BitVec 64, x &&& 6144#64 ≠ 4096#64 → ((x &&& ~~~ BitVec.ofInt 64 q) ||| (BitVec.ofInt 64 v &&& BitVec.ofInt 64 q)) &&& 6144#64 ≠ 4096#64) : Leg (f.set 38 (putV (f.x 38) q v)) := by
  have hl := L.1 38 (by decide)
  obtain ⟨x, e, l⟩ := mk38 (f.x 38)
  rw [fix_38, e] at hl
  refine L.set 38 rfl _ ?_
  rw [fix_38, set_at, ← hl, put_any]
  exact at38 ⟨put_leg l.1 hd hq, hm x l.2⟩
theorem keepM (x q V : BitVec 64) (h : q &&& 6144#64 = 0#64) (hx : x &&& 6144#64 ≠ 4096#64) : ((x &&& ~~~ q) ||| (V &&& q)) &&& 6144#64 ≠ 4096#64 := by
  have e : ((x &&& ~~~ q) ||| (V &&& q)) &&& 6144#64 = x &&& 6144#64 := by
    have hb := bit0 h
    apply BitVec.eq_of_getLsbD_eq; intro i hi
    have h1 := hb i
    simp only [BitVec.getLsbD_and, BitVec.getLsbD_or, BitVec.getLsbD_not, hi, decide_true, Bool.true_and]
    revert h1
    cases x.getLsbD i <;> cases q.getLsbD i <;> cases V.getLsbD i <;> cases (6144#64).getLsbD i <;> decide
  rw [e]; exact hx
theorem takeM (x V : BitVec 64) (hV : V &&& 6144#64 ≠ 4096#64) : ((x &&& ~~~ 824641984938#64) ||| (V &&& 824641984938#64)) &&& 6144#64 ≠ 4096#64 := by
  have e : ((x &&& ~~~ 824641984938#64) ||| (V &&& 824641984938#64)) &&& 6144#64 = V &&& 6144#64 := by
    have hb := sub_i (a := 6144#64) (b := 824641984938#64) (by decide)
    apply BitVec.eq_of_getLsbD_eq; intro i hi
    have h1 := hb i
    simp only [BitVec.getLsbD_and, BitVec.getLsbD_or, BitVec.getLsbD_not, hi, decide_true, Bool.true_and]
    revert h1
    cases x.getLsbD i <;> cases (824641984938#64).getLsbD i <;> cases V.getLsbD i <;> cases (6144#64).getLsbD i <;> decide
  rw [e]; exact hV

end Go.Proofs.YtfehchhmghpfpaaDoor.Hx
