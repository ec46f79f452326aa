/- What is fixed is legal; what is written into a legal hart leaves it legal. (By a program of this session.) -/
import Derived.Test.YtlopmcakfalkpaaDoorCAgain
set_option linter.unusedSimpArgs false
set_option linter.unusedVariables false
namespace Go.Proofs.YtlopmcakfalkpaaDoor.Hx
open Go.Proofs.YtlopmcakfalkpaaDoor.Bv Go.RowKit Go.Proofs.YtlopmcakfalkpaaDoor.Q Go.Proofs.YtlopmcakfalkpaaDoorW.PrintWords Go.Proofs.YtlopmcakfalkpaaDoorW.PrintLast Go.Proofs.YtlopmcakfalkpaaDoorW.PrintMore Go.Proofs.YtlopmcakfalkpaaDoor.Rg

theorem fc_own (k k2 : Ht) (hh : k2.hl = k.hl) : ∀ i, i < 77 → k2.x i = k.x i → (fix k2).x i = (fix k).x i
  | 0, _, hx => by rw [fix_0, fix_0, hx]
  | 1, _, hx => by rw [fix_1, fix_1]
  | 2, _, hx => by rw [fix_2, fix_2, hx]
  | 3, _, hx => by rw [fix_3, fix_3, hx]
  | 4, _, hx => by rw [fix_4, fix_4, hx]
  | 5, _, hx => by rw [fix_5, fix_5, hx]
  | 6, _, hx => by rw [fix_6, fix_6, hx]
  | 7, _, hx => by rw [fix_7, fix_7, hx]
  | 8, _, hx => by rw [fix_8, fix_8, hx]
  | 9, _, hx => by rw [fix_9, fix_9, hx]
  | 10, _, hx => by rw [fix_10, fix_10, hx]
  | 11, _, hx => by rw [fix_11, fix_11, hx]
  | 12, _, hx => by rw [fix_12, fix_12, hx]
  | 13, _, hx => by rw [fix_13, fix_13, hx]
  | 14, _, hx => by rw [fix_14, fix_14, hx]
  | 15, _, hx => by rw [fix_15, fix_15, hx]
  | 16, _, hx => by rw [fix_16, fix_16, hx]
  | 17, _, hx => by rw [fix_17, fix_17, hx]
  | 18, _, hx => by rw [fix_18, fix_18, hx]
  | 19, _, hx => by rw [fix_19, fix_19, hx]
  | 20, _, hx => by rw [fix_20, fix_20, hx]
  | 21, _, hx => by rw [fix_21, fix_21, hx]
  | 22, _, hx => by rw [fix_22, fix_22, hx]
  | 23, _, hx => by rw [fix_23, fix_23, hx]
  | 24, _, hx => by rw [fix_24, fix_24, hx]
  | 25, _, hx => by rw [fix_25, fix_25, hx]
  | 26, _, hx => by rw [fix_26, fix_26, hx]
  | 27, _, hx => by rw [fix_27, fix_27, hx]
  | 28, _, hx => by rw [fix_28, fix_28, hx]
  | 29, _, hx => by rw [fix_29, fix_29, hx]
  | 30, _, hx => by rw [fix_30, fix_30, hx]
  | 31, _, hx => by rw [fix_31, fix_31, hx]
  | 32, _, hx => by rw [fix_32, fix_32, hx]
  | 33, _, hx => by rw [fix_33, fix_33, hx]
  | 34, _, hx => by rw [fix_34, fix_34, hx]
  | 35, _, hx => by rw [fix_35, fix_35, hx]
  | 36, _, hx => by rw [fix_36, fix_36, hx]
  | 37, _, hx => by rw [fix_37, fix_37, hx, hh]
  | 38, _, hx => by rw [fix_38, fix_38, hx]
  | 39, _, hx => by rw [fix_39, fix_39, hx]
  | 40, _, hx => by rw [fix_40, fix_40, hx]
  | 41, _, hx => by rw [fix_41, fix_41, hx]
  | 42, _, hx => by rw [fix_42, fix_42, hx]
  | 43, _, hx => by rw [fix_43, fix_43, hx]
  | 44, _, hx => by rw [fix_44, fix_44, hx]
  | 45, _, hx => by rw [fix_45, fix_45, hx]
  | 46, _, hx => by rw [fix_46, fix_46, hx]
  | 47, _, hx => by rw [fix_47, fix_47, hx]
  | 48, _, hx => by rw [fix_48, fix_48, hx]
  | 49, _, hx => by rw [fix_49, fix_49, hx]
  | 50, _, hx => by rw [fix_50, fix_50, hx]
  | 51, _, hx => by rw [fix_51, fix_51, hx]
  | 52, _, hx => by rw [fix_52, fix_52, hx]
  | 53, _, hx => by rw [fix_53, fix_53, hx]
  | 54, _, hx => by rw [fix_54, fix_54, hx]
  | 55, _, hx => by rw [fix_55, fix_55, hx]
  | 56, _, hx => by rw [fix_56, fix_56, hx]
  | 57, _, hx => by rw [fix_57, fix_57, hx]
  | 58, _, hx => by rw [fix_58, fix_58, hx]
  | 59, _, hx => by rw [fix_59, fix_59, hx]
  | 60, _, hx => by rw [fix_60, fix_60, hx]
  | 61, _, hx => by rw [fix_61, fix_61, hx]
  | 62, _, hx => by rw [fix_62, fix_62, hx]
  | 63, _, hx => by rw [fix_63, fix_63, hx]
  | 64, _, hx => by rw [fix_64, fix_64, hx]
  | 65, _, hx => by rw [fix_65, fix_65, hx]
  | 66, _, hx => by rw [fix_66, fix_66, hx]
  | 67, _, hx => by rw [fix_67, fix_67, hx]
  | 68, _, hx => by rw [fix_68, fix_68, hx]
  | 69, _, hx => by rw [fix_69, fix_69, hx]
  | 70, _, hx => by rw [fix_70, fix_70, hx]
  | 71, _, hx => by rw [fix_71, fix_71, hx]
  | 72, _, hx => by rw [fix_72, fix_72, hx]
  | 73, _, hx => by rw [fix_73, fix_73, hx]
  | 74, _, hx => by rw [fix_74, fix_74, hx]
  | 75, _, hx => by rw [fix_75, fix_75, hx]
  | 76, _, hx => by rw [fix_76, fix_76, hx]
  | i + 77, h, _ => by omega
/-- A legal hart, cell by cell. -/
def Leg (f : Ht) : Prop := (∀ i, i < 77 → (fix f).x i = f.x i) ∧ (fix f).v = f.v
theorem Leg.legal {f : Ht} (L : Leg f) : legalV f = true := heq_of L.1 L.2 (fix_wt f) (fix_hl f)
theorem set_at (f : Ht) (o : Nat) (y : Int) : (f.set o y).x o = y := by show (bif Nat.beq o o then y else f.x o) = y; rw [beqT]; rfl
theorem set_ne (f : Ht) {o i : Nat} (y : Int) (e : i ≠ o) : (f.set o y).x i = f.x i := by show (bif Nat.beq i o then y else f.x i) = _; rw [beqF e]; rfl
theorem Leg.set {f : Ht} (L : Leg f) (o : Nat) (hu : isU o = true) (y : Int) (hy : (fix (f.set o y)).x o = y) : Leg (f.set o y) := by
  refine ⟨fun i hi => ?_, ?_⟩
  · by_cases e : i = o
    · subst e; rw [hy, set_at]
    · rw [fc_own f (f.set o y) rfl i hi (set_ne f y e), L.1 i hi, set_ne f y e]
  · have h33 : (f.set o y).x 33 = f.x 33 := set_ne f y (Ne.symm (isU_33 hu))
    have := L.2
    rw [fix_v] at this ⊢
    rw [h33]; exact this
theorem bool3 {P : Bool → Bool → Bool → Prop} (h : ∀ a b c, P a b c) (a b c : Bool) : P a b c := h a b c
theorem idB (a m c : BitVec 64) : ((((a &&& m) ||| c) &&& m) ||| c) = ((a &&& m) ||| c) := by
  apply BitVec.eq_of_getLsbD_eq; intro i hi; simp only [BitVec.getLsbD_and, BitVec.getLsbD_or]
  cases a.getLsbD i <;> cases m.getLsbD i <;> cases c.getLsbD i <;> rfl
theorem idF (a m c : Int) : Go.bits .or .u64 (Go.bits .and .u64 (Go.bits .or .u64 (Go.bits .and .u64 a m) c) m) c = Go.bits .or .u64 (Go.bits .and .u64 a m) c := by
  simp only [and_u64, or_u64, ofInt_U, idB]
theorem or0 (a m : Int) : Go.bits .or .u64 (Go.bits .and .u64 a m) 0 = Go.bits .and .u64 a m := by
  rw [and_u64, or_u64, ofInt_U, show BitVec.ofInt 64 0 = 0#64 from rfl, BitVec.or_zero]
theorem idA (a m : Int) : Go.bits .and .u64 (Go.bits .and .u64 a m) m = Go.bits .and .u64 a m := by have := idF a m 0; rw [or0, or0] at this; exact this
theorem idN (a m : Int) : Go.bits .andNot .u64 (Go.bits .andNot .u64 a m) m = Go.bits .andNot .u64 a m := by
  rw [andNot_u64 a m, andNot_u64, ofInt_U]
  congr 1
  apply BitVec.eq_of_getLsbD_eq; intro i hi; simp only [BitVec.getLsbD_and, BitVec.getLsbD_not, hi, decide_true, Bool.true_and]
  cases (BitVec.ofInt 64 a).getLsbD i <;> cases (BitVec.ofInt 64 m).getLsbD i <;> rfl
/-! ### mstatus -/
def L38 (x : BitVec 64) : Prop := (x &&& 824641984938#64) ||| 42949672960#64 = x ∧ x &&& 6144#64 ≠ 4096#64
theorem cond38 (x : BitVec 64) : (Go.bits .and .u64 (U x) 6144 == 4096) = decide (x &&& 6144#64 = 4096#64) := by
  rw [and_c, show BitVec.ofInt 64 6144 = 6144#64 from rfl, show (4096 : Int) = U (4096#64) from rfl]
  rw [Bool.eq_iff_iff, beq_iff_eq, U_inj, decide_eq_true_iff]
theorem mpp_U (x : BitVec 64) : mppV (U x) = U (if x &&& 6144#64 = 4096#64 then x &&& ~~~ 6144#64 else x) := by
  unfold mppV
  rw [cond38]
  by_cases h : x &&& 6144#64 = 4096#64
  · rw [if_pos h, decide_eq_true h, if_pos rfl, andNot_u64, ofInt_U]; rfl
  · rw [if_neg h, decide_eq_false h, if_neg (by decide)]
theorem mk38 (a : Int) : ∃ x, mppV (Go.bits .or .u64 (Go.bits .and .u64 a 824641984938) 42949672960) = U x ∧ L38 x := by
  rw [and_u64, or_u64, ofInt_U, mpp_U]
  refine ⟨_, rfl, ?_⟩
  show L38 (if ((BitVec.ofInt 64 a &&& 824641984938#64) ||| 42949672960#64) &&& 6144#64 = 4096#64 then ((BitVec.ofInt 64 a &&& 824641984938#64) ||| 42949672960#64) &&& ~~~ 6144#64 else ((BitVec.ofInt 64 a &&& 824641984938#64) ||| 42949672960#64))
  have e := idB (BitVec.ofInt 64 a) 824641984938#64 42949672960#64
  generalize ((BitVec.ofInt 64 a &&& 824641984938#64) ||| 42949672960#64) = t at e ⊢
  split
  · refine ⟨?_, ?_⟩
    · have hb := bit0 (a := 42949672960#64) (b := 6144#64) (by decide)
      apply BitVec.eq_of_getLsbD_eq; intro i hi
      have h1 := hb i; have h2 := congrArg (BitVec.getLsbD · i) e
      simp only [BitVec.getLsbD_and, BitVec.getLsbD_or, BitVec.getLsbD_not, hi, decide_true, Bool.true_and] at h2 ⊢
      revert h1 h2
      cases t.getLsbD i <;> cases (824641984938#64).getLsbD i <;> cases (42949672960#64).getLsbD i <;> cases (6144#64).getLsbD i <;> decide
    · have : (t &&& ~~~ 6144#64) &&& 6144#64 = 0#64 := by
        apply BitVec.eq_of_getLsbD_eq; intro i hi; simp only [BitVec.getLsbD_and, BitVec.getLsbD_not, hi, decide_true, Bool.true_and, BitVec.getLsbD_zero]
        cases t.getLsbD i <;> cases (6144#64).getLsbD i <;> rfl
      rw [this]; decide
  · rename_i h; exact ⟨e, h⟩
theorem at38 {x : BitVec 64} (h : L38 x) : mppV (Go.bits .or .u64 (Go.bits .and .u64 (U x) 824641984938) 42949672960) = U x := by
  rw [and_c, or_c]
  show mppV (U ((x &&& 824641984938#64) ||| 42949672960#64)) = _
  rw [h.1, mpp_U, if_neg h.2]
/-! ### tables -/
def tbl (a : Int) : Int := if modeV a = true then a else 0
theorem modeV_U (x : BitVec 64) : modeV (U x) = (if x >>> 60 = 0#64 then true else (U (x >>> 60) == 8)) := by
  have h := U_div_pow x 60
  rw [show (2 : Int) ^ 60 = 1152921504606846976 from rfl] at h
  unfold modeV csr_mode.f
  rw [h]
  by_cases e : x >>> 60 = 0#64
  · rw [if_pos e, if_pos (by rw [e]; rfl)]; rfl
  · rw [if_neg e, if_neg (fun q => e (U_inj.1 (q.trans (show (0 : Int) = U 0#64 from rfl))))]; rfl
theorem top_and (x m : BitVec 64) (hm : m >>> 60 = 15#64) : (x &&& m) >>> 60 = x >>> 60 := by
  apply BitVec.eq_of_getLsbD_eq; intro i hi
  have := congrArg (BitVec.getLsbD · i) hm
  simp only [BitVec.getLsbD_ushiftRight] at this
  rw [BitVec.getLsbD_ushiftRight, BitVec.getLsbD_ushiftRight, BitVec.getLsbD_and, this]
  by_cases h : i < 4
  · have : i = 0 ∨ i = 1 ∨ i = 2 ∨ i = 3 := by omega
    rcases this with rfl | rfl | rfl | rfl <;> simp
  · rw [BitVec.getLsbD_of_ge x (60 + i) (by omega)]; rfl
theorem mode_and (x m : BitVec 64) (hm : m >>> 60 = 15#64) : modeV (U (x &&& m)) = modeV (U x) := by rw [modeV_U, modeV_U, top_and x m hm]
theorem mode_0 : modeV 0 = true := by decide
theorem tbl_mode (a : Int) : modeV (tbl a) = true := by
  unfold tbl; split
  · assumption
  · exact mode_0
theorem tbl_rng {a : Int} (ha : 0 ≤ a ∧ a < 18446744073709551616) : 0 ≤ tbl a ∧ tbl a < 18446744073709551616 := by
  unfold tbl; split
  · exact ha
  · exact ⟨by decide, by decide⟩
theorem idT {a : Int} (ha : 0 ≤ a ∧ a < 18446744073709551616) (m : Int) (hm : BitVec.ofInt 64 m >>> 60 = 15#64) : Go.bits .or .u64 (Go.bits .and .u64 (tbl (Go.bits .or .u64 (Go.bits .and .u64 (tbl a) m) 0)) m) 0 = Go.bits .or .u64 (Go.bits .and .u64 (tbl a) m) 0 := by
  have ht := tbl_mode a
  obtain ⟨x, e⟩ := U_of (tbl_rng ha).1 (tbl_rng ha).2
  rw [e] at ht ⊢
  have e2 : tbl (Go.bits .or .u64 (Go.bits .and .u64 (U x) m) 0) = Go.bits .or .u64 (Go.bits .and .u64 (U x) m) 0 := by
    rw [or0, and_c]
    unfold tbl
    rw [if_pos ((mode_and x _ hm).trans ht)]
  rw [e2]; exact idF _ _ _

theorem leg_fix (h : Ht) (hw : h.wf) : Leg (fix h) := by
  refine ⟨fun i hi => ?_, ?_⟩
  · match i, hi with
    | 0, _ => exact by rw [fix_0, fix_0]; exact idN _ _
    | 1, _ => exact by rw [fix_1, fix_1]
    | 2, _ => exact by rw [fix_2]
    | 3, _ => exact by rw [fix_3]
    | 4, _ => exact by rw [fix_4]
    | 5, _ => exact by rw [fix_5]
    | 6, _ => exact by rw [fix_6]
    | 7, _ => exact by rw [fix_7]
    | 8, _ => exact by rw [fix_8]
    | 9, _ => exact by rw [fix_9]
    | 10, _ => exact by rw [fix_10]
    | 11, _ => exact by rw [fix_11]
    | 12, _ => exact by rw [fix_12]
    | 13, _ => exact by rw [fix_13]
    | 14, _ => exact by rw [fix_14]
    | 15, _ => exact by rw [fix_15]
    | 16, _ => exact by rw [fix_16]
    | 17, _ => exact by rw [fix_17]
    | 18, _ => exact by rw [fix_18]
    | 19, _ => exact by rw [fix_19]
    | 20, _ => exact by rw [fix_20]
    | 21, _ => exact by rw [fix_21]
    | 22, _ => exact by rw [fix_22]
    | 23, _ => exact by rw [fix_23]
    | 24, _ => exact by rw [fix_24]
    | 25, _ => exact by rw [fix_25]
    | 26, _ => exact by rw [fix_26]
    | 27, _ => exact by rw [fix_27]
    | 28, _ => exact by rw [fix_28]
    | 29, _ => exact by rw [fix_29]
    | 30, _ => exact by rw [fix_30]
    | 31, _ => exact by rw [fix_31]
    | 32, _ => exact by rw [fix_32]
    | 33, _ =>
      rw [fix_33, fix_33]
      cases hp : privOut (h.x 33)
      · simp only [Bool.false_eq_true, if_false, hp]
      · simp only [if_true, ite_self]
    | 34, _ => exact by rw [fix_34]
    | 35, _ => exact by rw [fix_35]
    | 36, _ => exact by rw [fix_36]
    | 37, _ =>
      rw [fix_37, fix_37, fix_hl]
      cases h.hl
      · rfl
      · exact idA _ _
    | 38, _ =>
      obtain ⟨x, e, l⟩ := mk38 (h.x 38)
      rw [fix_38, fix_38, e]; exact at38 l
    | 39, _ => exact by rw [fix_39, fix_39]; exact idF _ _ _
    | 40, _ => exact by rw [fix_40, fix_40]; exact idF _ _ _
    | 41, _ => exact by rw [fix_41, fix_41]; exact idF _ _ _
    | 42, _ => exact by rw [fix_42, fix_42]; exact idA _ _
    | 43, _ => exact by rw [fix_43, fix_43]; exact idF _ _ _
    | 44, _ => exact by rw [fix_44, fix_44]; exact idF _ _ _
    | 45, _ => exact by rw [fix_45, fix_45]; exact idF _ _ _
    | 46, _ => exact by rw [fix_46, fix_46]; exact idF _ _ _
    | 47, _ => exact by rw [fix_47, fix_47]; exact idF _ _ _
    | 48, _ => exact by rw [fix_48, fix_48]; exact idF _ _ _
    | 49, _ => exact by rw [fix_49, fix_49]; exact idF _ _ _
    | 50, _ => exact by rw [fix_50, fix_50]; exact idF _ _ _
    | 51, _ => exact by rw [fix_51, fix_51]; exact idF _ _ _
    | 52, _ => exact by rw [fix_52, fix_52]; exact idF _ _ _
    | 53, _ => exact by rw [fix_53, fix_53]; exact idF _ _ _
    | 54, _ => exact by rw [fix_54, fix_54]; exact idF _ _ _
    | 55, _ => exact by rw [fix_55, fix_55]; exact idF _ _ _
    | 56, _ => exact by rw [fix_56, fix_56]; exact idF _ _ _
    | 57, _ => exact by rw [fix_57, fix_57]; exact idT (hw.1 57) _ (by decide)
    | 58, _ => exact by rw [fix_58, fix_58]; exact idF _ _ _
    | 59, _ => exact by rw [fix_59, fix_59]; exact idF _ _ _
    | 60, _ => exact by rw [fix_60, fix_60]; exact idF _ _ _
    | 61, _ => exact by rw [fix_61, fix_61]; exact idF _ _ _
    | 62, _ => exact by rw [fix_62, fix_62]; exact idF _ _ _
    | 63, _ => exact by rw [fix_63, fix_63]; exact idF _ _ _
    | 64, _ => exact by rw [fix_64, fix_64]; exact idF _ _ _
    | 65, _ => exact by rw [fix_65, fix_65]; exact idF _ _ _
    | 66, _ => exact by rw [fix_66, fix_66]; exact idT (hw.1 66) _ (by decide)
    | 67, _ => exact by rw [fix_67, fix_67]; exact idF _ _ _
    | 68, _ => exact by rw [fix_68, fix_68]; exact idF _ _ _
    | 69, _ => exact by rw [fix_69, fix_69]; exact idF _ _ _
    | 70, _ => exact by rw [fix_70, fix_70]; exact idF _ _ _
    | 71, _ => exact by rw [fix_71, fix_71]; exact idF _ _ _
    | 72, _ => exact by rw [fix_72, fix_72]; exact idF _ _ _
    | 73, _ => exact by rw [fix_73, fix_73]; exact idF _ _ _
    | 74, _ => exact by rw [fix_74, fix_74]; exact idT (hw.1 74) _ (by decide)
    | 75, _ => exact by rw [fix_75, fix_75]; exact idF _ _ _
    | 76, _ => exact by rw [fix_76, fix_76]; exact idF _ _ _
    | i + 77, h => omega
  · rw [fix_v, fix_v, fix_33]
    cases h.v
    · rfl
    · simp only [if_true]
      cases hp : privOut (h.x 33)
      · simp only [Bool.false_eq_true, if_false, hp]
        by_cases h3 : (h.x 33 != 3) = true <;> simp [h3]
      · simp only [if_true, ite_self]
        rfl
theorem put_leg {x q M C V : BitVec 64} (h : (x &&& M) ||| C = x) (hd : C &&& q = 0#64) (hq : q &&& M = q) : (((x &&& ~~~ q) ||| (V &&& q)) &&& M) ||| C = (x &&& ~~~ q) ||| (V &&& q) := by
  apply BitVec.eq_of_getLsbD_eq; intro i hi
  have h1 := congrArg (BitVec.getLsbD · i) h; have h2 := bit0 hd i; have h3 := congrArg (BitVec.getLsbD · i) hq
  simp only [BitVec.getLsbD_and, BitVec.getLsbD_or, BitVec.getLsbD_not, hi, decide_true, Bool.true_and] at h1 h3 ⊢
  revert h1 h2 h3
  cases x.getLsbD i <;> cases M.getLsbD i <;> cases C.getLsbD i <;> cases q.getLsbD i <;> cases V.getLsbD i <;> decide
theorem put_any (x : BitVec 64) (q v : Int) : putV (U x) q v = U ((x &&& ~~~ BitVec.ofInt 64 q) ||| (BitVec.ofInt 64 v &&& BitVec.ofInt 64 q)) := by
  unfold putV; rw [andNot_u64, and_u64, or_u64, ofInt_U, ofInt_U, ofInt_U]
theorem legF {f : Ht} (hw : f.wf) (L : Leg f) (o : Nat) (hu : isU o = true) (M C q v : Int) (hfix : ∀ k : Ht, (fix k).x o = Go.bits .or .u64 (Go.bits .and .u64 (k.x o) M) C) (hd : BitVec.ofInt 64 C &&& BitVec.ofInt 64 q = 0#64) (hq : BitVec.ofInt 64 q &&& BitVec.ofInt 64 M = BitVec.ofInt 64 q) : Leg (f.set o (putV (f.x o) q v)) := by
  have hl := L.1 o (isU_spec hu).1
  rw [hfix] at hl
  obtain ⟨x, e⟩ := U_of (hw.1 o).1 (hw.1 o).2
  refine L.set o hu _ ?_
  rw [hfix, set_at, e, put_any, and_c, or_c]
  rw [e, and_c, or_c] at hl
  exact congrArg U (put_leg (U_inj.1 hl) hd hq)
theorem sub_q {a c m : BitVec 64} (h : c &&& m = c) : (a &&& c) &&& m = a &&& c := by rw [BitVec.and_assoc, h]
theorem dis_q {C a c : BitVec 64} (h : C = 0#64) : C &&& (a &&& c) = 0#64 := by rw [h, BitVec.zero_and]
theorem top_put (x q V : BitVec 64) (hq : q >>> 60 = 15#64) : ((x &&& ~~~ q) ||| (V &&& q)) >>> 60 = V >>> 60 := by
  have e : ((x &&& ~~~ q) ||| (V &&& q)) &&& q = V &&& q := by
    apply BitVec.eq_of_getLsbD_eq; intro i hi; simp only [BitVec.getLsbD_and, BitVec.getLsbD_or, BitVec.getLsbD_not, hi, decide_true, Bool.true_and]
    cases x.getLsbD i <;> cases q.getLsbD i <;> cases V.getLsbD i <;> rfl
  rw [← top_and _ q hq, e, top_and _ q hq]
theorem legT {f : Ht} (hw : f.wf) (L : Leg f) (o : Nat) (hu : isU o = true) (M v : Int) (hv : 0 ≤ v ∧ v < 18446744073709551616) (hfix : ∀ k : Ht, (fix k).x o = Go.bits .or .u64 (Go.bits .and .u64 (tbl (k.x o)) M) 0) (hM : BitVec.ofInt 64 M >>> 60 = 15#64) : Leg (if modeV v = true then f.set o (putV (f.x o) M v) else f) := by
  split
  · rename_i hmv
    have hl := L.1 o (isU_spec hu).1
    rw [hfix] at hl
    obtain ⟨x, e⟩ := U_of (hw.1 o).1 (hw.1 o).2
    obtain ⟨V, rfl⟩ := U_of hv.1 hv.2
    have hx : x &&& BitVec.ofInt 64 M = x := by
      obtain ⟨t, et⟩ := U_of (tbl_rng (hw.1 o)).1 (tbl_rng (hw.1 o)).2
      rw [et, or0, and_c, e] at hl
      have := U_inj.1 hl
      rw [← this, BitVec.and_assoc, BitVec.and_self]
    refine L.set o hu _ ?_
    rw [hfix, set_at, e, put_any, ofInt_U]
    have hm : modeV (U ((x &&& ~~~ BitVec.ofInt 64 M) ||| (V &&& BitVec.ofInt 64 M))) = true := by
      rw [modeV_U, top_put _ _ _ hM, ← modeV_U]; exact hmv
    unfold tbl
    rw [if_pos hm, or0, and_c]
    congr 1
    have hz := put_leg (x := x) (q := BitVec.ofInt 64 M) (M := BitVec.ofInt 64 M) (C := 0#64) (V := V) (by rw [BitVec.or_zero]; exact hx) (BitVec.zero_and) (BitVec.and_self)
    rw [BitVec.or_zero] at hz
    exact hz
  · exact L
theorem mpp2 (V : BitVec 64) (h : V &&& 6144#64 = 4096#64) : (Go.bits .and .u64 (U V / 2048) 3 == 2) = true := by
  have h2 := U_div_pow V 11
  rw [show (2 : Int) ^ 11 = 2048 from rfl] at h2
  rw [h2, and_c]
  have e : (V >>> 11) &&& BitVec.ofInt 64 3 = 2#64 := by
    have h3 := congrArg (fun z : BitVec 64 => z >>> 11) h
    simp only [BitVec.ushiftRight_and_distrib] at h3
    exact h3
  rw [e]; rfl
theorem leg38 {f : Ht} (hw : f.wf) (L : Leg f) (q v : Int) (hq : BitVec.ofInt 64 q &&& 824641984938#64 = BitVec.ofInt 64 q) (hd : 42949672960#64 &&& BitVec.ofInt 64 q = 0#64)
    (hm : ∀ x : BitVec 64, x &&& 6144#64 ≠ 4096#64 → ((x &&& ~~~ BitVec.ofInt 64 q) ||| (BitVec.ofInt 64 v &&& BitVec.ofInt 64 q)) &&& 6144#64 ≠ 4096#64) : Leg (f.set 38 (putV (f.x 38) q v)) := by
  have hl := L.1 38 (by decide)
  obtain ⟨x, e, l⟩ := mk38 (f.x 38)
  rw [fix_38, e] at hl
  refine L.set 38 rfl _ ?_
  rw [fix_38, set_at, ← hl, put_any]
  exact at38 ⟨put_leg l.1 hd hq, hm x l.2⟩
theorem keepM (x q V : BitVec 64) (h : q &&& 6144#64 = 0#64) (hx : x &&& 6144#64 ≠ 4096#64) : ((x &&& ~~~ q) ||| (V &&& q)) &&& 6144#64 ≠ 4096#64 := by
  have e : ((x &&& ~~~ q) ||| (V &&& q)) &&& 6144#64 = x &&& 6144#64 := by
    have hb := bit0 h
    apply BitVec.eq_of_getLsbD_eq; intro i hi
    have h1 := hb i
    simp only [BitVec.getLsbD_and, BitVec.getLsbD_or, BitVec.getLsbD_not, hi, decide_true, Bool.true_and]
    revert h1
    cases x.getLsbD i <;> cases q.getLsbD i <;> cases V.getLsbD i <;> cases (6144#64).getLsbD i <;> decide
  rw [e]; exact hx
theorem takeM (x V : BitVec 64) (hV : V &&& 6144#64 ≠ 4096#64) : ((x &&& ~~~ 824641984938#64) ||| (V &&& 824641984938#64)) &&& 6144#64 ≠ 4096#64 := by
  have e : ((x &&& ~~~ 824641984938#64) ||| (V &&& 824641984938#64)) &&& 6144#64 = V &&& 6144#64 := by
    have hb := sub_i (a := 6144#64) (b := 824641984938#64) (by decide)
    apply BitVec.eq_of_getLsbD_eq; intro i hi
    have h1 := hb i
    simp only [BitVec.getLsbD_and, BitVec.getLsbD_or, BitVec.getLsbD_not, hi, decide_true, Bool.true_and]
    revert h1
    cases x.getLsbD i <;> cases (824641984938#64).getLsbD i <;> cases V.getLsbD i <;> cases (6144#64).getLsbD i <;> decide
  rw [e]; exact hV

theorem wm_768 (f : Ht) (v : Int) : writeM f 768 v = f.set 38 (putV (f.x 38) (if (Go.bits .and .u64 (v / 2048) 3 == 2) = true then Go.bits .andNot .u64 824641984938 6144 else 824641984938) v) := by kernel_rfl
theorem wm_770 (f : Ht) (v : Int) : writeM f 770 v = f.set 39 (putV (f.x 39) 15775743 v) := by kernel_rfl
theorem wm_771 (f : Ht) (v : Int) : writeM f 771 v = f.set 40 (putV (f.x 40) 546 v) := by kernel_rfl
theorem wm_772 (f : Ht) (v : Int) : writeM f 772 v = f.set 41 (putV (f.x 41) 7918 v) := by kernel_rfl
theorem wm_773 (f : Ht) (v : Int) : writeM f 773 v = f.set 43 (putV (f.x 43) 18446744073709551613 v) := by kernel_rfl
theorem wm_774 (f : Ht) (v : Int) : writeM f 774 v = f.set 44 (putV (f.x 44) 7 v) := by kernel_rfl
theorem wm_832 (f : Ht) (v : Int) : writeM f 832 v = f.set 45 (putV (f.x 45) 18446744073709551615 v) := by kernel_rfl
theorem wm_833 (f : Ht) (v : Int) : writeM f 833 v = f.set 46 (putV (f.x 46) 18446744073709551612 v) := by kernel_rfl
theorem wm_834 (f : Ht) (v : Int) : writeM f 834 v = f.set 47 (putV (f.x 47) 18446744073709551615 v) := by kernel_rfl
theorem wm_835 (f : Ht) (v : Int) : writeM f 835 v = f.set 48 (putV (f.x 48) 18446744073709551615 v) := by kernel_rfl
theorem wm_843 (f : Ht) (v : Int) : writeM f 843 v = f.set 49 (putV (f.x 49) 18446744073709551615 v) := by kernel_rfl
theorem wm_842 (f : Ht) (v : Int) : writeM f 842 v = f.set 50 (putV (f.x 50) 18446744073709551615 v) := by kernel_rfl
theorem wm_2816 (f : Ht) (v : Int) : writeM f 2816 v = f.set 75 (putV (f.x 75) 18446744073709551615 v) := by kernel_rfl
theorem wm_2818 (f : Ht) (v : Int) : writeM f 2818 v = f.set 76 (putV (f.x 76) 18446744073709551615 v) := by kernel_rfl
theorem wm_261 (f : Ht) (v : Int) : writeM f 261 v = f.set 51 (putV (f.x 51) 18446744073709551613 v) := by kernel_rfl
theorem wm_262 (f : Ht) (v : Int) : writeM f 262 v = f.set 52 (putV (f.x 52) 7 v) := by kernel_rfl
theorem wm_320 (f : Ht) (v : Int) : writeM f 320 v = f.set 53 (putV (f.x 53) 18446744073709551615 v) := by kernel_rfl
theorem wm_321 (f : Ht) (v : Int) : writeM f 321 v = f.set 54 (putV (f.x 54) 18446744073709551612 v) := by kernel_rfl
theorem wm_322 (f : Ht) (v : Int) : writeM f 322 v = f.set 55 (putV (f.x 55) 18446744073709551615 v) := by kernel_rfl
theorem wm_323 (f : Ht) (v : Int) : writeM f 323 v = f.set 56 (putV (f.x 56) 18446744073709551615 v) := by kernel_rfl
theorem wm_384 (f : Ht) (v : Int) : writeM f 384 v = if modeV v = true then f.set 57 (putV (f.x 57) 18446744073709551615 v) else f := by kernel_rfl
theorem wm_512 (f : Ht) (v : Int) : writeM f 512 v = f.set 68 (putV (f.x 68) 786722 v) := by kernel_rfl
theorem wm_517 (f : Ht) (v : Int) : writeM f 517 v = f.set 69 (putV (f.x 69) 18446744073709551613 v) := by kernel_rfl
theorem wm_576 (f : Ht) (v : Int) : writeM f 576 v = f.set 70 (putV (f.x 70) 18446744073709551615 v) := by kernel_rfl
theorem wm_577 (f : Ht) (v : Int) : writeM f 577 v = f.set 71 (putV (f.x 71) 18446744073709551612 v) := by kernel_rfl
theorem wm_578 (f : Ht) (v : Int) : writeM f 578 v = f.set 72 (putV (f.x 72) 18446744073709551615 v) := by kernel_rfl
theorem wm_579 (f : Ht) (v : Int) : writeM f 579 v = f.set 73 (putV (f.x 73) 18446744073709551615 v) := by kernel_rfl
theorem wm_640 (f : Ht) (v : Int) : writeM f 640 v = if modeV v = true then f.set 74 (putV (f.x 74) 18446744073709551615 v) else f := by kernel_rfl
theorem wm_1536 (f : Ht) (v : Int) : writeM f 1536 v = f.set 58 (putV (f.x 58) 7345088 v) := by kernel_rfl
theorem wm_1538 (f : Ht) (v : Int) : writeM f 1538 v = f.set 59 (putV (f.x 59) 45567 v) := by kernel_rfl
theorem wm_1539 (f : Ht) (v : Int) : writeM f 1539 v = f.set 60 (putV (f.x 60) 1092 v) := by kernel_rfl
theorem wm_1605 (f : Ht) (v : Int) : writeM f 1605 v = f.set 61 (putV (f.x 61) 1092 v) := by kernel_rfl
theorem wm_1543 (f : Ht) (v : Int) : writeM f 1543 v = f.set 63 (putV (f.x 63) 2 v) := by kernel_rfl
theorem wm_1542 (f : Ht) (v : Int) : writeM f 1542 v = f.set 62 (putV (f.x 62) 7 v) := by kernel_rfl
theorem wm_1603 (f : Ht) (v : Int) : writeM f 1603 v = f.set 64 (putV (f.x 64) 18446744073709551615 v) := by kernel_rfl
theorem wm_1610 (f : Ht) (v : Int) : writeM f 1610 v = f.set 65 (putV (f.x 65) 18446744073709551615 v) := by kernel_rfl
theorem wm_1664 (f : Ht) (v : Int) : writeM f 1664 v = if modeV v = true then f.set 66 (putV (f.x 66) 17582052945254416380 v) else f := by kernel_rfl
theorem wm_1541 (f : Ht) (v : Int) : writeM f 1541 v = f.set 67 (putV (f.x 67) 18446744073709551615 v) := by kernel_rfl
theorem wm_256 (f : Ht) (v : Int) : writeM f 256 v = f.set 38 (putV (f.x 38) 786722 v) := by kernel_rfl
theorem wm_836 (f : Ht) (v : Int) : writeM f 836 v = (f.set 42 (putV (f.x 42) 546 v)).set 61 (putV (f.x 61) 4 v) := by kernel_rfl
theorem wm_324 (f : Ht) (v : Int) : writeM f 324 v = f.set 42 (putV (f.x 42) (Go.bits .and .u64 (f.x 40) 2) v) := by kernel_rfl
theorem wm_260 (f : Ht) (v : Int) : writeM f 260 v = f.set 41 (putV (f.x 41) (Go.bits .and .u64 (f.x 40) 546) v) := by kernel_rfl
theorem wm_1604 (f : Ht) (v : Int) : writeM f 1604 v = f.set 61 (putV (f.x 61) 4 v) := by kernel_rfl
theorem wm_1540 (f : Ht) (v : Int) : writeM f 1540 v = f.set 41 (putV (f.x 41) 5188 v) := by kernel_rfl
theorem wm_580 (f : Ht) (v : Int) : writeM f 580 v = f.set 61 (putV (f.x 61) (Go.bits .and .u64 (f.x 60) 4) (shl1 v)) := by kernel_rfl
theorem wm_516 (f : Ht) (v : Int) : writeM f 516 v = f.set 41 (putV (f.x 41) (Go.bits .and .u64 (f.x 60) 1092) (shl1 v)) := by kernel_rfl
theorem write_cases (m : Int) : m = 768 ∨ m = 770 ∨ m = 771 ∨ m = 772 ∨ m = 773 ∨ m = 774 ∨ m = 832 ∨ m = 833 ∨ m = 834 ∨ m = 835 ∨ m = 843 ∨ m = 842 ∨ m = 2816 ∨ m = 2818 ∨ m = 261 ∨ m = 262 ∨ m = 320 ∨ m = 321 ∨ m = 322 ∨ m = 323 ∨ m = 384 ∨ m = 512 ∨ m = 517 ∨ m = 576 ∨ m = 577 ∨ m = 578 ∨ m = 579 ∨ m = 640 ∨ m = 1536 ∨ m = 1538 ∨ m = 1539 ∨ m = 1605 ∨ m = 1543 ∨ m = 1542 ∨ m = 1603 ∨ m = 1610 ∨ m = 1664 ∨ m = 1541 ∨ m = 256 ∨ m = 836 ∨ m = 324 ∨ m = 260 ∨ m = 1604 ∨ m = 1540 ∨ m = 580 ∨ m = 516 ∨ (∀ f v, writeM f m v = f) := by
  by_cases g_768 : m = 768
  · simp [g_768]
  by_cases g_770 : m = 770
  · simp [g_770]
  by_cases g_771 : m = 771
  · simp [g_771]
  by_cases g_772 : m = 772
  · simp [g_772]
  by_cases g_773 : m = 773
  · simp [g_773]
  by_cases g_774 : m = 774
  · simp [g_774]
  by_cases g_832 : m = 832
  · simp [g_832]
  by_cases g_833 : m = 833
  · simp [g_833]
  by_cases g_834 : m = 834
  · simp [g_834]
  by_cases g_835 : m = 835
  · simp [g_835]
  by_cases g_843 : m = 843
  · simp [g_843]
  by_cases g_842 : m = 842
  · simp [g_842]
  by_cases g_2816 : m = 2816
  · simp [g_2816]
  by_cases g_2818 : m = 2818
  · simp [g_2818]
  by_cases g_261 : m = 261
  · simp [g_261]
  by_cases g_262 : m = 262
  · simp [g_262]
  by_cases g_320 : m = 320
  · simp [g_320]
  by_cases g_321 : m = 321
  · simp [g_321]
  by_cases g_322 : m = 322
  · simp [g_322]
  by_cases g_323 : m = 323
  · simp [g_323]
  by_cases g_384 : m = 384
  · simp [g_384]
  by_cases g_512 : m = 512
  · simp [g_512]
  by_cases g_517 : m = 517
  · simp [g_517]
  by_cases g_576 : m = 576
  · simp [g_576]
  by_cases g_577 : m = 577
  · simp [g_577]
  by_cases g_578 : m = 578
  · simp [g_578]
  by_cases g_579 : m = 579
  · simp [g_579]
  by_cases g_640 : m = 640
  · simp [g_640]
  by_cases g_1536 : m = 1536
  · simp [g_1536]
  by_cases g_1538 : m = 1538
  · simp [g_1538]
  by_cases g_1539 : m = 1539
  · simp [g_1539]
  by_cases g_1605 : m = 1605
  · simp [g_1605]
  by_cases g_1543 : m = 1543
  · simp [g_1543]
  by_cases g_1542 : m = 1542
  · simp [g_1542]
  by_cases g_1603 : m = 1603
  · simp [g_1603]
  by_cases g_1610 : m = 1610
  · simp [g_1610]
  by_cases g_1664 : m = 1664
  · simp [g_1664]
  by_cases g_1541 : m = 1541
  · simp [g_1541]
  by_cases g_256 : m = 256
  · simp [g_256]
  by_cases g_836 : m = 836
  · simp [g_836]
  by_cases g_324 : m = 324
  · simp [g_324]
  by_cases g_260 : m = 260
  · simp [g_260]
  by_cases g_1604 : m = 1604
  · simp [g_1604]
  by_cases g_1540 : m = 1540
  · simp [g_1540]
  by_cases g_580 : m = 580
  · simp [g_580]
  by_cases g_516 : m = 516
  · simp [g_516]
  have hr : ∀ f v, writeM f m v = f := by
    intro f v
    have z_mOff : mOff m = none := by unfold mOff; rw [if_neg g_768, if_neg g_770, if_neg g_771, if_neg g_772, if_neg g_773, if_neg g_774, if_neg g_832, if_neg g_833, if_neg g_834, if_neg g_835, if_neg g_843, if_neg g_842, if_neg g_2816, if_neg g_2818]
    have z_superOff : superOff m = none := by unfold superOff; rw [if_neg g_261, if_neg g_262, if_neg g_320, if_neg g_321, if_neg g_322, if_neg g_323, if_neg g_384, if_neg g_512, if_neg g_517, if_neg g_576, if_neg g_577, if_neg g_578, if_neg g_579, if_neg g_640]
    have z_hypOff : hypOff m = none := by unfold hypOff; rw [if_neg g_1536, if_neg g_1538, if_neg g_1539, if_neg g_1605, if_neg g_1543, if_neg g_1542, if_neg g_1603, if_neg g_1610, if_neg g_1664, if_neg g_1541]
    have ho : fieldOff m = none := by unfold fieldOff; rw [z_mOff]; simp only; rw [z_superOff]; simp only; exact z_hypOff
    have ht : writeT f m v = f := by unfold writeT; rw [if_neg g_256, if_neg g_836, if_neg g_324, if_neg g_260, if_neg g_1604, if_neg g_1540, if_neg g_580, if_neg g_516]
    unfold writeM; rw [ho]; simp only [ht, ite_self]
  simp only [hr, g_768, g_770, g_771, g_772, g_773, g_774, g_832, g_833, g_834, g_835, g_843, g_842, g_2816, g_2818, g_261, g_262, g_320, g_321, g_322, g_323, g_384, g_512, g_517, g_576, g_577, g_578, g_579, g_640, g_1536, g_1538, g_1539, g_1605, g_1543, g_1542, g_1603, g_1610, g_1664, g_1541, g_256, g_836, g_324, g_260, g_1604, g_1540, g_580, g_516, false_or, implies_true]
theorem leg_writeM {f : Ht} (hw : f.wf) (L : Leg f) (m : Int) {v : Int} (hv : 0 ≤ v ∧ v < 18446744073709551616) : Leg (writeM f m v) := by
  rcases write_cases m with rfl | rfl | rfl | rfl | rfl | rfl | rfl | rfl | rfl | rfl | rfl | rfl | rfl | rfl | rfl | rfl | rfl | rfl | rfl | rfl | rfl | rfl | rfl | rfl | rfl | rfl | rfl | rfl | rfl | rfl | rfl | rfl | rfl | rfl | rfl | rfl | rfl | rfl | rfl | rfl | rfl | rfl | rfl | rfl | rfl | rfl | h
  · rw [wm_768]
    obtain ⟨V, eV⟩ := U_of hv.1 hv.2
    split
    · exact leg38 hw L _ v (by decide) (by decide) (fun x => keepM x _ _ (by decide))
    · rename_i h
      refine leg38 hw L _ v (by decide) (by decide) (fun x _ => takeM x _ (fun e => h ?_))
      rw [eV, ofInt_U] at e; rw [eV]; exact mpp2 V e
  · rw [wm_770]; exact legF hw L 39 rfl 15775743 0 15775743 v fix_39 (by decide) (by decide)
  · rw [wm_771]; exact legF hw L 40 rfl 546 5188 546 v fix_40 (by decide) (by decide)
  · rw [wm_772]; exact legF hw L 41 rfl 7918 0 7918 v fix_41 (by decide) (by decide)
  · rw [wm_773]; exact legF hw L 43 rfl 18446744073709551613 0 18446744073709551613 v fix_43 (by decide) (by decide)
  · rw [wm_774]; exact legF hw L 44 rfl 7 0 7 v fix_44 (by decide) (by decide)
  · rw [wm_832]; exact legF hw L 45 rfl 18446744073709551615 0 18446744073709551615 v fix_45 (by decide) (by decide)
  · rw [wm_833]; exact legF hw L 46 rfl 18446744073709551612 0 18446744073709551612 v fix_46 (by decide) (by decide)
  · rw [wm_834]; exact legF hw L 47 rfl 18446744073709551615 0 18446744073709551615 v fix_47 (by decide) (by decide)
  · rw [wm_835]; exact legF hw L 48 rfl 18446744073709551615 0 18446744073709551615 v fix_48 (by decide) (by decide)
  · rw [wm_843]; exact legF hw L 49 rfl 18446744073709551615 0 18446744073709551615 v fix_49 (by decide) (by decide)
  · rw [wm_842]; exact legF hw L 50 rfl 18446744073709551615 0 18446744073709551615 v fix_50 (by decide) (by decide)
  · rw [wm_2816]; exact legF hw L 75 rfl 18446744073709551615 0 18446744073709551615 v fix_75 (by decide) (by decide)
  · rw [wm_2818]; exact legF hw L 76 rfl 18446744073709551615 0 18446744073709551615 v fix_76 (by decide) (by decide)
  · rw [wm_261]; exact legF hw L 51 rfl 18446744073709551613 0 18446744073709551613 v fix_51 (by decide) (by decide)
  · rw [wm_262]; exact legF hw L 52 rfl 7 0 7 v fix_52 (by decide) (by decide)
  · rw [wm_320]; exact legF hw L 53 rfl 18446744073709551615 0 18446744073709551615 v fix_53 (by decide) (by decide)
  · rw [wm_321]; exact legF hw L 54 rfl 18446744073709551612 0 18446744073709551612 v fix_54 (by decide) (by decide)
  · rw [wm_322]; exact legF hw L 55 rfl 18446744073709551615 0 18446744073709551615 v fix_55 (by decide) (by decide)
  · rw [wm_323]; exact legF hw L 56 rfl 18446744073709551615 0 18446744073709551615 v fix_56 (by decide) (by decide)
  · rw [wm_384]; exact legT hw L 57 rfl 18446744073709551615 v hv fix_57 (by decide)
  · rw [wm_512]; exact legF hw L 68 rfl 786722 8589934592 786722 v fix_68 (by decide) (by decide)
  · rw [wm_517]; exact legF hw L 69 rfl 18446744073709551613 0 18446744073709551613 v fix_69 (by decide) (by decide)
  · rw [wm_576]; exact legF hw L 70 rfl 18446744073709551615 0 18446744073709551615 v fix_70 (by decide) (by decide)
  · rw [wm_577]; exact legF hw L 71 rfl 18446744073709551612 0 18446744073709551612 v fix_71 (by decide) (by decide)
  · rw [wm_578]; exact legF hw L 72 rfl 18446744073709551615 0 18446744073709551615 v fix_72 (by decide) (by decide)
  · rw [wm_579]; exact legF hw L 73 rfl 18446744073709551615 0 18446744073709551615 v fix_73 (by decide) (by decide)
  · rw [wm_640]; exact legT hw L 74 rfl 18446744073709551615 v hv fix_74 (by decide)
  · rw [wm_1536]; exact legF hw L 58 rfl 7345088 8589934592 7345088 v fix_58 (by decide) (by decide)
  · rw [wm_1538]; exact legF hw L 59 rfl 45567 0 45567 v fix_59 (by decide) (by decide)
  · rw [wm_1539]; exact legF hw L 60 rfl 1092 0 1092 v fix_60 (by decide) (by decide)
  · rw [wm_1605]; exact legF hw L 61 rfl 1092 0 1092 v fix_61 (by decide) (by decide)
  · rw [wm_1543]; exact legF hw L 63 rfl 2 0 2 v fix_63 (by decide) (by decide)
  · rw [wm_1542]; exact legF hw L 62 rfl 7 0 7 v fix_62 (by decide) (by decide)
  · rw [wm_1603]; exact legF hw L 64 rfl 18446744073709551615 0 18446744073709551615 v fix_64 (by decide) (by decide)
  · rw [wm_1610]; exact legF hw L 65 rfl 18446744073709551615 0 18446744073709551615 v fix_65 (by decide) (by decide)
  · rw [wm_1664]; exact legT hw L 66 rfl 17582052945254416380 v hv fix_66 (by decide)
  · rw [wm_1541]; exact legF hw L 67 rfl 18446744073709551615 0 18446744073709551615 v fix_67 (by decide) (by decide)
  · rw [wm_256]; exact leg38 hw L 786722 v (by decide) (by decide) (fun x => keepM x _ _ (by decide))
  · rw [wm_836]
    have L1 := legF hw L 42 rfl 546 0 546 v (fun k => (fix_42 k).trans (or0 _ _).symm) (by decide) (by decide)
    have w1 := wf_set hw 42 (putV (f.x 42) 546 v) (rng _ _ _) (by decide)
    have := legF w1 L1 61 rfl 1092 0 4 v fix_61 (by decide) (by decide)
    rw [set_ne f _ (show (61 : Nat) ≠ 42 by decide)] at this
    exact this
  · rw [wm_324]
    obtain ⟨x, ex⟩ := U_of (hw.1 40).1 (hw.1 40).2
    rw [ex, and_c]
    exact legF hw L 42 rfl 546 0 _ v (fun k => (fix_42 k).trans (or0 _ _).symm) (by rw [ofInt_U]; exact dis_q rfl) (by rw [ofInt_U]; exact sub_q (by decide))
  · rw [wm_260]
    obtain ⟨x, ex⟩ := U_of (hw.1 40).1 (hw.1 40).2
    rw [ex, and_c]
    exact legF hw L 41 rfl 7918 0 _ v fix_41 (by rw [ofInt_U]; exact dis_q rfl) (by rw [ofInt_U]; exact sub_q (by decide))
  · rw [wm_1604]; exact legF hw L 61 rfl 1092 0 4 v fix_61 (by decide) (by decide)
  · rw [wm_1540]; exact legF hw L 41 rfl 7918 0 5188 v fix_41 (by decide) (by decide)
  · rw [wm_580]
    obtain ⟨x, ex⟩ := U_of (hw.1 60).1 (hw.1 60).2
    rw [ex, and_c]
    exact legF hw L 61 rfl 1092 0 _ (shl1 v) fix_61 (by rw [ofInt_U]; exact dis_q rfl) (by rw [ofInt_U]; exact sub_q (by decide))
  · rw [wm_516]
    obtain ⟨x, ex⟩ := U_of (hw.1 60).1 (hw.1 60).2
    rw [ex, and_c]
    exact legF hw L 41 rfl 7918 0 _ (shl1 v) fix_41 (by rw [ofInt_U]; exact dis_q rfl) (by rw [ofInt_U]; exact sub_q (by decide))
  · rw [h]; exact L
theorem meant_known {b : Bool} {no : Int} (h : knownV no = false) : meantV b no = no := by
  unfold meantV
  cases b
  · rfl
  · simp only [if_true]
    repeat' split
    all_goals first | rfl | (rename_i e; subst e; exact absurd h (by decide))
theorem unknown_same (f : Ht) (no v : Int) (h : knownV no = false) : writeV f no v = f := by
  unfold writeV writeM
  rw [meant_known h, h, if_neg (by decide)]
theorem legals_law (h : Ht) (hw : h.wf) (no v : Int) (hv : 0 ≤ v ∧ v < 18446744073709551616) : legalV (fix h) = true ∧ (!heq (fix (fix h)) (fix h)) = false ∧ legalV (writeV (fix h) no v) = true ∧ (knownV no = false → heq (writeV (fix h) no v) (fix h) = true) := by
  have L := leg_fix h hw
  refine ⟨L.legal, ?_, (leg_writeM (wf_fix hw) L _ hv).legal, fun hk => ?_⟩
  · rw [show heq (fix (fix h)) (fix h) = true from L.legal]; rfl
  · rw [unknown_same _ _ _ hk]; exact heq_self _
end Go.Proofs.YtlopmcakfalkpaaDoor.Hx
