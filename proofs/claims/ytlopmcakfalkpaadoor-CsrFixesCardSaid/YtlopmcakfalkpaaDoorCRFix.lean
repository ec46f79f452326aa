/- The document's legal hart. (By a program of this session.) -/
import Derived.Test.YtlopmcakfalkpaaDoorCSame
import Derived.Test.YtlopmcakfalkpaaDoorCWakes
import Derived.Test.YtlopmcakfalkpaaDoorQx6
import Derived.Test.YtlopmcakfalkpaaDoorQx1
set_option linter.unusedSimpArgs false
set_option linter.unusedVariables false
namespace Go.Proofs.YtlopmcakfalkpaaDoor.Hx
open Go.Proofs.YtlopmcakfalkpaaDoor.Bv Go.RowKit Go.Proofs.YtlopmcakfalkpaaDoor.Q Go.Proofs.YtlopmcakfalkpaaDoorW.PrintWords Go.Proofs.YtlopmcakfalkpaaDoorW.PrintLast Go.Proofs.YtlopmcakfalkpaaDoorW.PrintMore Go.Proofs.YtlopmcakfalkpaaDoor.Rg

theorem sub_i {a b : BitVec 64} (h : a &&& b = a) (i : Nat) : a.getLsbD i = true → b.getLsbD i = true := by
  intro ha
  have := congrArg (BitVec.getLsbD · i) h
  simp only [BitVec.getLsbD_and] at this
  rw [ha] at this; simpa using this
theorem or0 (a m : Int) : Go.bits .or .u64 (Go.bits .and .u64 a m) 0 = Go.bits .and .u64 a m := by
  rw [and_u64, or_u64, ofInt_U, show BitVec.ofInt 64 0 = 0#64 from rfl, BitVec.or_zero]
theorem cond38 (x : BitVec 64) : (Go.bits .and .u64 (U x) 6144 == 4096) = decide (x &&& 6144#64 = 4096#64) := by
  rw [and_c, show BitVec.ofInt 64 6144 = 6144#64 from rfl, show (4096 : Int) = U (4096#64) from rfl]
  rw [Bool.eq_iff_iff, beq_iff_eq, U_inj, decide_eq_true_iff]
theorem mpp_U (x : BitVec 64) : mppV (U x) = U (if x &&& 6144#64 = 4096#64 then x &&& ~~~ 6144#64 else x) := by
  unfold mppV
  rw [cond38]
  by_cases h : x &&& 6144#64 = 4096#64
  · rw [if_pos h, decide_eq_true h, if_pos rfl, andNot_u64, ofInt_U]; rfl
  · rw [if_neg h, decide_eq_false h, if_neg (by decide)]

def tblR (a m : Int) : Int := if modeV a = true then Go.bits .and .u64 a m else 0
/-- Its first part: whatever mstatus has become. -/
def rfixA (h : Ht) (s : Int) : Ht := (((((((((((((((((((((((((h.set 38 s).set 39 (Go.bits .and .u64 (h.x 39) 15775743)).set 40 (Go.bits .or .u64 (Go.bits .and .u64 (h.x 40) 546) 5188)).set 41 (Go.bits .and .u64 (h.x 41) 7918)).set 42 (Go.bits .and .u64 (h.x 42) 546)).set 43 (Go.bits .andNot .u64 (h.x 43) 2)).set 44 (Go.bits .and .u64 (h.x 44) 7)).set 46 (Go.bits .andNot .u64 (h.x 46) 3)).set 51 (Go.bits .andNot .u64 (h.x 51) 2)).set 52 (Go.bits .and .u64 (h.x 52) 7)).set 54 (Go.bits .andNot .u64 (h.x 54) 3)).set 57 (tblR (h.x 57) 18446744073709551615)).set 58 (Go.bits .or .u64 (Go.bits .and .u64 (h.x 58) 7345088) 8589934592)).set 59 (Go.bits .and .u64 (h.x 59) 45567)).set 60 (Go.bits .and .u64 (h.x 60) 1092)).set 61 (Go.bits .and .u64 (h.x 61) 1092)).set 62 (Go.bits .and .u64 (h.x 62) 7)).set 63 (Go.bits .and .u64 (h.x 63) 2)).set 66 (tblR (h.x 66) 17582052945254416380)).set 68 (Go.bits .or .u64 (Go.bits .and .u64 (h.x 68) 786722) 8589934592)).set 69 (Go.bits .andNot .u64 (h.x 69) 2)).set 71 (Go.bits .andNot .u64 (h.x 71) 3)).set 74 (tblR (h.x 74) 18446744073709551615)).set 1 0).set 0 (Go.bits .andNot .u64 (h.x 0) 3))
theorem cs_of {a b : Ht} (H : ∀ i, i < 77 → a.x i = b.x i) (hv : a.v = b.v) (hw : a.wt = b.wt) (hh : a.hl = b.hl) : a.cs = b.cs := by
  unfold Ht.cs
  congr 1
  refine List.map_congr_left fun i hi => ?_
  have hi := List.mem_range.1 hi
  unfold Ht.at
  rw [H i hi, H 33 (by decide), hv, hw, hh]
theorem keepF {a : Int} (ha : 0 ≤ a ∧ a < 18446744073709551616) : Go.bits .or .u64 (Go.bits .and .u64 a 18446744073709551615) 0 = a := by
  obtain ⟨x, rfl⟩ := U_of ha.1 ha.2
  rw [or0, and_c]
  congr 1
  show x &&& BitVec.allOnes 64 = x
  exact BitVec.and_allOnes
theorem andn {a c m : Int} (hm : BitVec.ofInt 64 m = ~~~ BitVec.ofInt 64 c) : Go.bits .or .u64 (Go.bits .and .u64 a m) 0 = Go.bits .andNot .u64 a c := by
  rw [or0, and_u64, andNot_u64, hm]
theorem tblE (a m : Int) : Go.bits .or .u64 (Go.bits .and .u64 (if modeV a = true then a else 0) m) 0 = tblR a m := by
  rw [or0]; unfold tblR
  split
  · rfl
  · rw [and_u64, show BitVec.ofInt 64 0 = 0#64 from rfl, BitVec.zero_and]; rfl
theorem table_c (a m : Int) (w : World) : Calls Tryd.prog 38 #[.int .u64 a, .int .u64 m] w fun e w' => e = .returned (.int .u64 (tblR a m)) ∧ Drawn0 w w' := by
  refine mezzanineref12_table.calls a m _ w ?_
  have hm : mezzanineref12_mode.f a = some (modeV a) := (mode_f a)
  unfold mezzanineref12_table.f tblR
  rw [hm]
  cases modeV a <;> rfl
theorem bitf' (a n : Int) (hn : 0 ≤ n) (w : World) : Calls Tryd.prog 26 #[.int .u64 a, .int .u64 n] w fun e w' => e = .returned (.bool (Go.bits .and .u64 (shr .u64 a n) 1 == 1)) ∧ Drawn0 w w' := by
  refine mezzanineref12_bit.calls a n _ w ?_
  unfold mezzanineref12_bit.f; rw [if_pos hn]
set_option maxHeartbeats 16000000 in
set_option maxRecDepth 100000 in
theorem but_0 (w : World) : Calls Tryd.prog 36 #[.int .u64 0] w fun e w' => e = .returned (.int .u64 18446744073709551615) ∧ Drawn0 w w' := by
  go_enter Tryd.func36, Tryd.ntmps36
  go_wp2
  go_ret
  exact ⟨by first | rfl | decide +kernel, Drawn0.refl _⟩
set_option maxHeartbeats 16000000 in
set_option maxRecDepth 100000 in
theorem but_v (w : World) : Calls Tryd.prog 36 #[.int .u64 864691128455135235] w fun e w' => e = .returned (.int .u64 17582052945254416380) ∧ Drawn0 w w' := by
  go_enter Tryd.func36, Tryd.ntmps36
  go_wp2
  go_ret
  exact ⟨by first | rfl | decide +kernel, Drawn0.refl _⟩
set_option maxHeartbeats 16000000 in
set_option maxRecDepth 100000 in
theorem but_2 (w : World) : Calls Tryd.prog 36 #[.int .u64 2] w fun e w' => e = .returned (.int .u64 18446744073709551613) ∧ Drawn0 w w' := by
  go_enter Tryd.func36, Tryd.ntmps36
  go_wp2
  go_ret
  exact ⟨by first | rfl | decide +kernel, Drawn0.refl _⟩
set_option maxHeartbeats 16000000 in
set_option maxRecDepth 100000 in
theorem but_3 (w : World) : Calls Tryd.prog 36 #[.int .u64 3] w fun e w' => e = .returned (.int .u64 18446744073709551612) ∧ Drawn0 w w' := by
  go_enter Tryd.func36, Tryd.ntmps36
  go_wp2
  go_ret
  exact ⟨by first | rfl | decide +kernel, Drawn0.refl _⟩
theorem rfixA_x (h : Ht) (hw : h.wf) (s : Int) : ∀ i, i < 77 → i ≠ 38 → i ≠ 33 → i ≠ 37 → (rfixA h s).x i = (fix h).x i
  | 0, _, _, _, _ => (show (rfixA h s).x 0 = Go.bits .andNot .u64 (h.x 0) 3 from by kernel_rfl).trans (fix_0 h).symm
  | 1, _, _, _, _ => (show (rfixA h s).x 1 = 0 from by kernel_rfl).trans (fix_1 h).symm
  | 2, _, _, _, _ => (show (rfixA h s).x 2 = h.x 2 from by kernel_rfl).trans (fix_2 h).symm
  | 3, _, _, _, _ => (show (rfixA h s).x 3 = h.x 3 from by kernel_rfl).trans (fix_3 h).symm
  | 4, _, _, _, _ => (show (rfixA h s).x 4 = h.x 4 from by kernel_rfl).trans (fix_4 h).symm
  | 5, _, _, _, _ => (show (rfixA h s).x 5 = h.x 5 from by kernel_rfl).trans (fix_5 h).symm
  | 6, _, _, _, _ => (show (rfixA h s).x 6 = h.x 6 from by kernel_rfl).trans (fix_6 h).symm
  | 7, _, _, _, _ => (show (rfixA h s).x 7 = h.x 7 from by kernel_rfl).trans (fix_7 h).symm
  | 8, _, _, _, _ => (show (rfixA h s).x 8 = h.x 8 from by kernel_rfl).trans (fix_8 h).symm
  | 9, _, _, _, _ => (show (rfixA h s).x 9 = h.x 9 from by kernel_rfl).trans (fix_9 h).symm
  | 10, _, _, _, _ => (show (rfixA h s).x 10 = h.x 10 from by kernel_rfl).trans (fix_10 h).symm
  | 11, _, _, _, _ => (show (rfixA h s).x 11 = h.x 11 from by kernel_rfl).trans (fix_11 h).symm
  | 12, _, _, _, _ => (show (rfixA h s).x 12 = h.x 12 from by kernel_rfl).trans (fix_12 h).symm
  | 13, _, _, _, _ => (show (rfixA h s).x 13 = h.x 13 from by kernel_rfl).trans (fix_13 h).symm
  | 14, _, _, _, _ => (show (rfixA h s).x 14 = h.x 14 from by kernel_rfl).trans (fix_14 h).symm
  | 15, _, _, _, _ => (show (rfixA h s).x 15 = h.x 15 from by kernel_rfl).trans (fix_15 h).symm
  | 16, _, _, _, _ => (show (rfixA h s).x 16 = h.x 16 from by kernel_rfl).trans (fix_16 h).symm
  | 17, _, _, _, _ => (show (rfixA h s).x 17 = h.x 17 from by kernel_rfl).trans (fix_17 h).symm
  | 18, _, _, _, _ => (show (rfixA h s).x 18 = h.x 18 from by kernel_rfl).trans (fix_18 h).symm
  | 19, _, _, _, _ => (show (rfixA h s).x 19 = h.x 19 from by kernel_rfl).trans (fix_19 h).symm
  | 20, _, _, _, _ => (show (rfixA h s).x 20 = h.x 20 from by kernel_rfl).trans (fix_20 h).symm
  | 21, _, _, _, _ => (show (rfixA h s).x 21 = h.x 21 from by kernel_rfl).trans (fix_21 h).symm
  | 22, _, _, _, _ => (show (rfixA h s).x 22 = h.x 22 from by kernel_rfl).trans (fix_22 h).symm
  | 23, _, _, _, _ => (show (rfixA h s).x 23 = h.x 23 from by kernel_rfl).trans (fix_23 h).symm
  | 24, _, _, _, _ => (show (rfixA h s).x 24 = h.x 24 from by kernel_rfl).trans (fix_24 h).symm
  | 25, _, _, _, _ => (show (rfixA h s).x 25 = h.x 25 from by kernel_rfl).trans (fix_25 h).symm
  | 26, _, _, _, _ => (show (rfixA h s).x 26 = h.x 26 from by kernel_rfl).trans (fix_26 h).symm
  | 27, _, _, _, _ => (show (rfixA h s).x 27 = h.x 27 from by kernel_rfl).trans (fix_27 h).symm
  | 28, _, _, _, _ => (show (rfixA h s).x 28 = h.x 28 from by kernel_rfl).trans (fix_28 h).symm
  | 29, _, _, _, _ => (show (rfixA h s).x 29 = h.x 29 from by kernel_rfl).trans (fix_29 h).symm
  | 30, _, _, _, _ => (show (rfixA h s).x 30 = h.x 30 from by kernel_rfl).trans (fix_30 h).symm
  | 31, _, _, _, _ => (show (rfixA h s).x 31 = h.x 31 from by kernel_rfl).trans (fix_31 h).symm
  | 32, _, _, _, _ => (show (rfixA h s).x 32 = h.x 32 from by kernel_rfl).trans (fix_32 h).symm
  | 33, _, h38, h33, h37 => absurd rfl h33
  | 34, _, _, _, _ => (show (rfixA h s).x 34 = h.x 34 from by kernel_rfl).trans (fix_34 h).symm
  | 35, _, _, _, _ => (show (rfixA h s).x 35 = h.x 35 from by kernel_rfl).trans (fix_35 h).symm
  | 36, _, _, _, _ => (show (rfixA h s).x 36 = h.x 36 from by kernel_rfl).trans (fix_36 h).symm
  | 37, _, h38, h33, h37 => absurd rfl h37
  | 38, _, h38, h33, h37 => absurd rfl h38
  | 39, _, _, _, _ => (show (rfixA h s).x 39 = Go.bits .and .u64 (h.x 39) 15775743 from by kernel_rfl).trans (Eq.trans ((or0 _ _).symm) (fix_39 h).symm)
  | 40, _, _, _, _ => (show (rfixA h s).x 40 = Go.bits .or .u64 (Go.bits .and .u64 (h.x 40) 546) 5188 from by kernel_rfl).trans (Eq.trans (rfl) (fix_40 h).symm)
  | 41, _, _, _, _ => (show (rfixA h s).x 41 = Go.bits .and .u64 (h.x 41) 7918 from by kernel_rfl).trans (Eq.trans ((or0 _ _).symm) (fix_41 h).symm)
  | 42, _, _, _, _ => (show (rfixA h s).x 42 = Go.bits .and .u64 (h.x 42) 546 from by kernel_rfl).trans (Eq.trans (rfl) (fix_42 h).symm)
  | 43, _, _, _, _ => (show (rfixA h s).x 43 = Go.bits .andNot .u64 (h.x 43) 2 from by kernel_rfl).trans (Eq.trans ((andn (by decide)).symm) (fix_43 h).symm)
  | 44, _, _, _, _ => (show (rfixA h s).x 44 = Go.bits .and .u64 (h.x 44) 7 from by kernel_rfl).trans (Eq.trans ((or0 _ _).symm) (fix_44 h).symm)
  | 45, _, _, _, _ => (show (rfixA h s).x 45 = h.x 45 from by kernel_rfl).trans (Eq.trans (keepF (hw.1 45)).symm (fix_45 h).symm)
  | 46, _, _, _, _ => (show (rfixA h s).x 46 = Go.bits .andNot .u64 (h.x 46) 3 from by kernel_rfl).trans (Eq.trans ((andn (by decide)).symm) (fix_46 h).symm)
  | 47, _, _, _, _ => (show (rfixA h s).x 47 = h.x 47 from by kernel_rfl).trans (Eq.trans (keepF (hw.1 47)).symm (fix_47 h).symm)
  | 48, _, _, _, _ => (show (rfixA h s).x 48 = h.x 48 from by kernel_rfl).trans (Eq.trans (keepF (hw.1 48)).symm (fix_48 h).symm)
  | 49, _, _, _, _ => (show (rfixA h s).x 49 = h.x 49 from by kernel_rfl).trans (Eq.trans (keepF (hw.1 49)).symm (fix_49 h).symm)
  | 50, _, _, _, _ => (show (rfixA h s).x 50 = h.x 50 from by kernel_rfl).trans (Eq.trans (keepF (hw.1 50)).symm (fix_50 h).symm)
  | 51, _, _, _, _ => (show (rfixA h s).x 51 = Go.bits .andNot .u64 (h.x 51) 2 from by kernel_rfl).trans (Eq.trans ((andn (by decide)).symm) (fix_51 h).symm)
  | 52, _, _, _, _ => (show (rfixA h s).x 52 = Go.bits .and .u64 (h.x 52) 7 from by kernel_rfl).trans (Eq.trans ((or0 _ _).symm) (fix_52 h).symm)
  | 53, _, _, _, _ => (show (rfixA h s).x 53 = h.x 53 from by kernel_rfl).trans (Eq.trans (keepF (hw.1 53)).symm (fix_53 h).symm)
  | 54, _, _, _, _ => (show (rfixA h s).x 54 = Go.bits .andNot .u64 (h.x 54) 3 from by kernel_rfl).trans (Eq.trans ((andn (by decide)).symm) (fix_54 h).symm)
  | 55, _, _, _, _ => (show (rfixA h s).x 55 = h.x 55 from by kernel_rfl).trans (Eq.trans (keepF (hw.1 55)).symm (fix_55 h).symm)
  | 56, _, _, _, _ => (show (rfixA h s).x 56 = h.x 56 from by kernel_rfl).trans (Eq.trans (keepF (hw.1 56)).symm (fix_56 h).symm)
  | 57, _, _, _, _ => (show (rfixA h s).x 57 = tblR (h.x 57) 18446744073709551615 from by kernel_rfl).trans (Eq.trans ((tblE _ _).symm) (fix_57 h).symm)
  | 58, _, _, _, _ => (show (rfixA h s).x 58 = Go.bits .or .u64 (Go.bits .and .u64 (h.x 58) 7345088) 8589934592 from by kernel_rfl).trans (Eq.trans (rfl) (fix_58 h).symm)
  | 59, _, _, _, _ => (show (rfixA h s).x 59 = Go.bits .and .u64 (h.x 59) 45567 from by kernel_rfl).trans (Eq.trans ((or0 _ _).symm) (fix_59 h).symm)
  | 60, _, _, _, _ => (show (rfixA h s).x 60 = Go.bits .and .u64 (h.x 60) 1092 from by kernel_rfl).trans (Eq.trans ((or0 _ _).symm) (fix_60 h).symm)
  | 61, _, _, _, _ => (show (rfixA h s).x 61 = Go.bits .and .u64 (h.x 61) 1092 from by kernel_rfl).trans (Eq.trans ((or0 _ _).symm) (fix_61 h).symm)
  | 62, _, _, _, _ => (show (rfixA h s).x 62 = Go.bits .and .u64 (h.x 62) 7 from by kernel_rfl).trans (Eq.trans ((or0 _ _).symm) (fix_62 h).symm)
  | 63, _, _, _, _ => (show (rfixA h s).x 63 = Go.bits .and .u64 (h.x 63) 2 from by kernel_rfl).trans (Eq.trans ((or0 _ _).symm) (fix_63 h).symm)
  | 64, _, _, _, _ => (show (rfixA h s).x 64 = h.x 64 from by kernel_rfl).trans (Eq.trans (keepF (hw.1 64)).symm (fix_64 h).symm)
  | 65, _, _, _, _ => (show (rfixA h s).x 65 = h.x 65 from by kernel_rfl).trans (Eq.trans (keepF (hw.1 65)).symm (fix_65 h).symm)
  | 66, _, _, _, _ => (show (rfixA h s).x 66 = tblR (h.x 66) 17582052945254416380 from by kernel_rfl).trans (Eq.trans ((tblE _ _).symm) (fix_66 h).symm)
  | 67, _, _, _, _ => (show (rfixA h s).x 67 = h.x 67 from by kernel_rfl).trans (Eq.trans (keepF (hw.1 67)).symm (fix_67 h).symm)
  | 68, _, _, _, _ => (show (rfixA h s).x 68 = Go.bits .or .u64 (Go.bits .and .u64 (h.x 68) 786722) 8589934592 from by kernel_rfl).trans (Eq.trans (rfl) (fix_68 h).symm)
  | 69, _, _, _, _ => (show (rfixA h s).x 69 = Go.bits .andNot .u64 (h.x 69) 2 from by kernel_rfl).trans (Eq.trans ((andn (by decide)).symm) (fix_69 h).symm)
  | 70, _, _, _, _ => (show (rfixA h s).x 70 = h.x 70 from by kernel_rfl).trans (Eq.trans (keepF (hw.1 70)).symm (fix_70 h).symm)
  | 71, _, _, _, _ => (show (rfixA h s).x 71 = Go.bits .andNot .u64 (h.x 71) 3 from by kernel_rfl).trans (Eq.trans ((andn (by decide)).symm) (fix_71 h).symm)
  | 72, _, _, _, _ => (show (rfixA h s).x 72 = h.x 72 from by kernel_rfl).trans (Eq.trans (keepF (hw.1 72)).symm (fix_72 h).symm)
  | 73, _, _, _, _ => (show (rfixA h s).x 73 = h.x 73 from by kernel_rfl).trans (Eq.trans (keepF (hw.1 73)).symm (fix_73 h).symm)
  | 74, _, _, _, _ => (show (rfixA h s).x 74 = tblR (h.x 74) 18446744073709551615 from by kernel_rfl).trans (Eq.trans ((tblE _ _).symm) (fix_74 h).symm)
  | 75, _, _, _, _ => (show (rfixA h s).x 75 = h.x 75 from by kernel_rfl).trans (Eq.trans (keepF (hw.1 75)).symm (fix_75 h).symm)
  | 76, _, _, _, _ => (show (rfixA h s).x 76 = h.x 76 from by kernel_rfl).trans (Eq.trans (keepF (hw.1 76)).symm (fix_76 h).symm)
  | i + 77, hi, _, _, _ => by omega
theorem rfixA_33 (h : Ht) (s : Int) : (rfixA h s).x 33 = h.x 33 := by kernel_rfl
theorem rfixA_37 (h : Ht) (s : Int) : (rfixA h s).x 37 = h.x 37 := by kernel_rfl
theorem rfixA_38 (h : Ht) (s : Int) : (rfixA h s).x 38 = s := by kernel_rfl
/-- The whole. -/
def rfixB (h : Ht) (s : Int) (p : Bool) (v : Bool) : Ht :=
  let k := if p = true then (rfixA h s).set 33 0 else rfixA h s
  let k2 : Ht := { k with v := v }
  let k3 := k2.set 37 (Go.bits .and .u64 (Go.bits .andNot .u64 (h.x 37) 7) 72057594037927935)
  if h.hl = true then k3 else k3.set 37 0
theorem res_eq (a : Int) : Go.bits .and .u64 (Go.bits .andNot .u64 a 7) 72057594037927935 = Go.bits .and .u64 a 72057594037927928 := by
  rw [andNot_u64, and_u64, ofInt_U, and_u64, BitVec.and_assoc]
  congr 2
theorem s38 (x : BitVec 64) : Go.bits .andNot .u64 (U x) 6144 = Go.bits .andNot .u64 (U x) 6144 := rfl
theorem on_n (x : BitVec 64) (n : Nat) : (Go.bits .and .u64 (shr .u64 (U x) (n : Int)) 1 == 1) = x.getLsbD n := by
  rw [shr_u64, show ((n : Int)).toNat = n by simp, and_c]
  have e : (x >>> n) &&& BitVec.ofInt 64 1 = if x.getLsbD n = true then 1#64 else 0#64 := by
    show (x >>> n) &&& 1#64 = _
    apply BitVec.eq_of_getLsbD_eq; intro i hi
    rw [BitVec.getLsbD_and, BitVec.getLsbD_ushiftRight, BitVec.getLsbD_one]
    by_cases h : i = 0
    · subst h; cases x.getLsbD n <;> simp
    · cases x.getLsbD n <;> simp [BitVec.getLsbD_one, h] <;> omega
  rw [e]
  cases x.getLsbD n <;> rfl
theorem mpp_bits (x : BitVec 64) : decide (x &&& 6144#64 = 4096#64) = (x.getLsbD 12 && !x.getLsbD 11) := by
  rw [Bool.eq_iff_iff, decide_eq_true_iff]
  have z : ∀ i, i < 64 → i ≠ 11 → i ≠ 12 → (6144#64).getLsbD i = false ∧ (4096#64).getLsbD i = false := by decide
  constructor
  · intro h
    have a := congrArg (BitVec.getLsbD · 12) h; have b := congrArg (BitVec.getLsbD · 11) h
    simp only [BitVec.getLsbD_and, show (6144#64).getLsbD 12 = true by decide, show (6144#64).getLsbD 11 = true by decide, show (4096#64).getLsbD 12 = true by decide, show (4096#64).getLsbD 11 = false by decide, Bool.and_true] at a b
    rw [a, b]; rfl
  · intro h
    rw [Bool.and_eq_true, Bool.not_eq_true'] at h
    apply BitVec.eq_of_getLsbD_eq; intro i hi
    rw [BitVec.getLsbD_and]
    by_cases h12 : i = 12
    · subst h12; rw [h.1]; decide
    · by_cases h11 : i = 11
      · subst h11; rw [h.2]; decide
      · rw [(z i hi h11 h12).1, (z i hi h11 h12).2, Bool.and_false]
theorem rs38 (a : Int) (b12 b11 : Bool) (h12 : (Go.bits .and .u64 (shr .u64 (Go.bits .or .u64 (Go.bits .and .u64 a 824641984938) 42949672960) 12) 1 == 1) = b12) (h11 : (Go.bits .and .u64 (shr .u64 (Go.bits .or .u64 (Go.bits .and .u64 a 824641984938) 42949672960) 11) 1 == 1) = b11) : (if b12 = true then (if b11 = true then Go.bits .or .u64 (Go.bits .and .u64 a 824641984938) 42949672960 else Go.bits .andNot .u64 (Go.bits .or .u64 (Go.bits .and .u64 a 824641984938) 42949672960) 4096) else Go.bits .or .u64 (Go.bits .and .u64 a 824641984938) 42949672960) = mppV (Go.bits .or .u64 (Go.bits .and .u64 a 824641984938) 42949672960) := by
  obtain ⟨x, e⟩ := U_of (rng .or (Go.bits .and .u64 a 824641984938) 42949672960).1 (rng .or (Go.bits .and .u64 a 824641984938) 42949672960).2
  rw [e] at h12 h11 ⊢
  have e12 := on_n x 12; have e11 := on_n x 11
  rw [show (((12 : Nat) : Int)) = 12 from rfl, h12] at e12
  rw [show (((11 : Nat) : Int)) = 11 from rfl, h11] at e11
  have hm := mpp_bits x
  rw [← e12, ← e11] at hm
  rw [mpp_U]
  cases b12
  · rw [if_neg (show ¬ (false = true) by decide), if_neg (of_decide_eq_false hm)]
  · cases b11
    · rw [if_pos rfl, if_neg (show ¬ (false = true) by decide), if_pos (of_decide_eq_true hm), andNot_u64, ofInt_U]
      congr 1
      have hx := of_decide_eq_true hm
      have e4 : x &&& ~~~ 4096#64 = x &&& ~~~ 6144#64 := by
        have k := sub_i (a := 4096#64) (b := 6144#64) (by decide)
        apply BitVec.eq_of_getLsbD_eq; intro i hi
        have h1 := k i; have h2 := congrArg (BitVec.getLsbD · i) hx
        simp only [BitVec.getLsbD_and, BitVec.getLsbD_not, hi, decide_true, Bool.true_and] at h2 ⊢
        revert h1 h2
        cases x.getLsbD i <;> cases (6144#64).getLsbD i <;> cases (4096#64).getLsbD i <;> decide
      exact e4
    · rw [if_pos rfl, if_pos rfl, if_neg (of_decide_eq_false hm)]
theorem rfixB_cs (h : Ht) (hw : h.wf) (s : Int) (p v : Bool) (hs : s = mppV (Go.bits .or .u64 (Go.bits .and .u64 (h.x 38) 824641984938) 42949672960)) (hp : p = privOut (h.x 33)) (hv : v = (if h.v = true then (if privOut (h.x 33) = true then true else (h.x 33 != 3)) else false)) : (rfixB h s p v).cs = (fix h).cs := by
  unfold rfixB
  refine cs_of (fun i hi => ?_) ?_ ?_ ?_
  · by_cases h38 : i = 38
    · subst h38; rw [fix_38, ← hs]
      cases p <;> cases h.hl <;> simp only [if_true, if_false, Bool.false_eq_true] <;> exact rfixA_38 h s
    · by_cases h37 : i = 37
      · subst h37; rw [fix_37]
        cases p <;> cases h.hl <;> simp only [if_true, if_false, Bool.false_eq_true] <;> first | exact res_eq _ | rfl
      · by_cases h33 : i = 33
        · subst h33; rw [fix_33, ← hp]
          cases p <;> cases h.hl <;> simp only [if_true, if_false, Bool.false_eq_true] <;> first | exact rfixA_33 h s | rfl
        · rw [← rfixA_x h hw s i hi h38 h33 h37]
          have b37 := beqF h37; have b33 := beqF h33
          cases p <;> cases h.hl <;> simp only [if_true, if_false, Bool.false_eq_true, Ht.set, b37, b33, cond_false]
  · rw [fix_v, ← hv]; cases p <;> cases h.hl <;> rfl
  · rw [fix_wt]; cases p <;> cases h.hl <;> rfl
  · rw [fix_hl]
    have e : ∀ (c : Prop) [Decidable c] (a b : Ht), a.hl = b.hl → (if c then a else b).hl = a.hl := by intro c _ a b hab; split <;> first | rfl | exact hab.symm
    cases p
    · exact Eq.trans (e (h.hl = true) ((({ rfixA h s with v := v } : Ht).set 37 (Go.bits .and .u64 (Go.bits .andNot .u64 (h.x 37) 7) 72057594037927935))) _ rfl) rfl
    · exact Eq.trans (e (h.hl = true) ((({ (rfixA h s).set 33 0 with v := v } : Ht).set 37 (Go.bits .and .u64 (Go.bits .andNot .u64 (h.x 37) 7) 72057594037927935))) _ rfl) rfl

set_option maxHeartbeats 16000000 in
set_option maxRecDepth 100000 in
theorem rfix_c (h : Ht) (hw : h.wf) (w : World) : Calls Tryd.prog 21 #[.agg h.cs] w fun e w' => e = .returned (.agg (fix h).cs) ∧ Below w.heap.size w w' := by
  have HE := Lib.hid (fun s p v => rfixB_cs h hw s p v)
  have hrs := rs38 (h.x 38)
  obtain ⟨z, hz⟩ : ∃ z, (fix h).cs = z := ⟨_, rfl⟩
  rw [hz] at HE ⊢
  clear hw hz
  have hb12 := bitf' (Go.bits .or .u64 (Go.bits .and .u64 (h.x 38) 824641984938) 42949672960) 12 (by decide); have hb11 := bitf' (Go.bits .or .u64 (Go.bits .and .u64 (h.x 38) 824641984938) 42949672960) 11 (by decide)
  generalize hq12 : (Go.bits .and .u64 (shr .u64 (Go.bits .or .u64 (Go.bits .and .u64 (h.x 38) 824641984938) 42949672960) 12) 1 == 1) = b12 at hb12
  generalize hq11 : (Go.bits .and .u64 (shr .u64 (Go.bits .or .u64 (Go.bits .and .u64 (h.x 38) 824641984938) 42949672960) 11) 1 == 1) = b11 at hb11
  have hs := hrs b12 b11 hq12 hq11
  have HB12 := Lib.hid hb12; have HB11 := Lib.hid hb11; have HS := Lib.hid hs
  clear hb12 hb11 hs hrs hq12 hq11
  cases b12
  · skip
    obtain ⟨s, hsx⟩ : ∃ s, s = (Go.bits .or .u64 (Go.bits .and .u64 (h.x 38) 824641984938) 42949672960) := ⟨_, rfl⟩
    have hs2 := HS.out
    simp only [if_true, if_false, Bool.false_eq_true] at hs2
    have hs3 := hsx.trans hs2
    clear HS
    have HS := Lib.hid hs3; have HSX := Lib.hid hsx
    clear hs2 hs3 hsx
    have hu25 := Tryd.underlying25
    go_enter Tryd.func21, Tryd.ntmps21
    go_upto_region 2 with (first | ((with_reducible refine gate_dst (N := 1) rfl ?_); refine box_event ?hg (N := 1) ?hd (cs := h.cs) (t := 25) ?hr ?_; (case hd => rfl); (case hg => rfl); (case hr => first | (go_simp; done) | (go_simp; rfl)); intro ga hg w_1 H1 hb; have hB_2 := Lib.hid (below_step (Below.refl w.heap.size w) hb); have G_ga := Lib.hid (show w.heap.size ≤ ga by rw [hg]; exact ((Below.refl w.heap.size w)).size); have K_ga := Lib.hid (show Hb w_1 ga h from H1); clear hg hb H1) | ((with_reducible refine gate_dst (N := 2) rfl ?_); refine box_event ?hg (N := 2) ?hd (cs := Ht.zero.cs) (t := 25) ?hr ?_; (case hd => rfl); (case hg => rfl); (case hr => first | (go_simp; done) | (go_simp; rfl)); intro gr hg w_3 H1 hb; have hB_4 := Lib.hid (below_step hB_2.out hb); have G_gr := Lib.hid (show w.heap.size ≤ gr by rw [hg]; exact (hB_2.out).size); have N_ga_gr := Lib.hid (show ga ≠ gr by rw [hg]; exact Nat.ne_of_lt (K_ga.out.lt)); replace K_ga := Lib.hid (K_ga.out.below hb); have K_gr := Lib.hid (show Hb w_3 gr Ht.zero from H1); clear hg hb H1 hB_2; have c_ga_38 := K_ga.out.u 38 rfl; have f_ga_38 := K_ga.out.fr 38; clear hu25))
    refine world_code ga (by repeat (with_reducible first | exact K_ga.out | apply Hb.put | apply Hb.putP | apply Hb.putV | apply Hb.putW | apply Hb.putH | apply Hb.far N_ga_gr.out | apply Hb.drewN | apply Hb.drew)) (fun w' => Below w.heap.size w w' ∧ Hb w' gr Ht.zero) ⟨(by repeat (first | (with_reducible first | exact hB_4.out | apply pw_below_drewN | apply below_drew1 | refine below_set ?_ G_ga.out | refine below_set ?_ G_gr.out) | exact hB_4.out)), (by repeat (with_reducible first | exact K_gr.out | apply Hb.put | apply Hb.putP | apply Hb.putV | apply Hb.putW | apply Hb.putH | apply Hb.far (Ne.symm N_ga_gr.out) | apply Hb.drewN | apply Hb.drew))⟩ ?_
    clear c_ga_38 f_ga_38
    clear K_ga K_gr hB_4
    rintro w_5 q_ ⟨b_, q_gr⟩
    have K_ga := Lib.hid q_; have hB_6 := Lib.hid b_; have K_gr := Lib.hid q_gr
    clear q_ b_ q_gr
    have c_ga_38 := (show World.cell? _ ⟨ga, 38, none⟩ = some (.int .u64 (Go.bits .or .u64 (Go.bits .and .u64 (h.x 38) 824641984938) 42949672960)) from (K_ga.out.u 38 rfl).trans rfl); have f_ga_38 := K_ga.out.fr 38
    go_wp2_with fail
    refine (HB12.out _).mono ?_
    rintro e3 w3 ⟨rfl, n_, e3⟩
    clear c_ga_38 f_ga_38
    replace K_ga := Lib.hid (Hb.of e3.symm (K_ga.out.drewN n_))
    replace K_gr := Lib.hid (Hb.of e3.symm (K_gr.out.drewN n_))
    have hB_7 := Lib.hid (Below_of e3.symm (pw_below_drewN hB_6.out n_))
    clear e3 hB_6
    go_upto_region 4 with fail
    refine world_code ga (by repeat (with_reducible first | exact K_ga.out | apply Hb.put | apply Hb.putP | apply Hb.putV | apply Hb.putW | apply Hb.putH | apply Hb.far N_ga_gr.out | apply Hb.drewN | apply Hb.drew)) (fun w' => Below w.heap.size w w' ∧ Hb w' gr Ht.zero) ⟨(by repeat (first | (with_reducible first | exact hB_7.out | apply pw_below_drewN | apply below_drew1 | refine below_set ?_ G_ga.out | refine below_set ?_ G_gr.out) | exact hB_7.out)), (by repeat (with_reducible first | exact K_gr.out | apply Hb.put | apply Hb.putP | apply Hb.putV | apply Hb.putW | apply Hb.putH | apply Hb.far (Ne.symm N_ga_gr.out) | apply Hb.drewN | apply Hb.drew))⟩ ?_
    clear K_ga K_gr hB_7
    rintro w_8 q_ ⟨b_, q_gr⟩
    have K_ga := Lib.hid q_; have hB_9 := Lib.hid b_; have K_gr := Lib.hid q_gr
    clear q_ b_ q_gr
    have c_ga_39 := (show World.cell? _ ⟨ga, 39, none⟩ = some (.int .u64 (h.x 39)) from (K_ga.out.u 39 rfl).trans rfl); have f_ga_39 := K_ga.out.fr 39
    go_upto_region 5 with fail
    refine world_code ga (by repeat (with_reducible first | exact K_ga.out | apply Hb.put | apply Hb.putP | apply Hb.putV | apply Hb.putW | apply Hb.putH | apply Hb.far N_ga_gr.out | apply Hb.drewN | apply Hb.drew)) (fun w' => Below w.heap.size w w' ∧ Hb w' gr Ht.zero) ⟨(by repeat (first | (with_reducible first | exact hB_9.out | apply pw_below_drewN | apply below_drew1 | refine below_set ?_ G_ga.out | refine below_set ?_ G_gr.out) | exact hB_9.out)), (by repeat (with_reducible first | exact K_gr.out | apply Hb.put | apply Hb.putP | apply Hb.putV | apply Hb.putW | apply Hb.putH | apply Hb.far (Ne.symm N_ga_gr.out) | apply Hb.drewN | apply Hb.drew))⟩ ?_
    clear c_ga_39 f_ga_39
    clear K_ga K_gr hB_9
    rintro w_10 q_ ⟨b_, q_gr⟩
    have K_ga := Lib.hid q_; have hB_11 := Lib.hid b_; have K_gr := Lib.hid q_gr
    clear q_ b_ q_gr
    have c_ga_40 := (show World.cell? _ ⟨ga, 40, none⟩ = some (.int .u64 (h.x 40)) from (K_ga.out.u 40 rfl).trans rfl); have f_ga_40 := K_ga.out.fr 40
    go_upto_region 6 with fail
    refine world_code ga (by repeat (with_reducible first | exact K_ga.out | apply Hb.put | apply Hb.putP | apply Hb.putV | apply Hb.putW | apply Hb.putH | apply Hb.far N_ga_gr.out | apply Hb.drewN | apply Hb.drew)) (fun w' => Below w.heap.size w w' ∧ Hb w' gr Ht.zero) ⟨(by repeat (first | (with_reducible first | exact hB_11.out | apply pw_below_drewN | apply below_drew1 | refine below_set ?_ G_ga.out | refine below_set ?_ G_gr.out) | exact hB_11.out)), (by repeat (with_reducible first | exact K_gr.out | apply Hb.put | apply Hb.putP | apply Hb.putV | apply Hb.putW | apply Hb.putH | apply Hb.far (Ne.symm N_ga_gr.out) | apply Hb.drewN | apply Hb.drew))⟩ ?_
    clear c_ga_40 f_ga_40
    clear K_ga K_gr hB_11
    rintro w_12 q_ ⟨b_, q_gr⟩
    have K_ga := Lib.hid q_; have hB_13 := Lib.hid b_; have K_gr := Lib.hid q_gr
    clear q_ b_ q_gr
    have c_ga_41 := (show World.cell? _ ⟨ga, 41, none⟩ = some (.int .u64 (h.x 41)) from (K_ga.out.u 41 rfl).trans rfl); have f_ga_41 := K_ga.out.fr 41
    go_upto_region 7 with fail
    refine world_code ga (by repeat (with_reducible first | exact K_ga.out | apply Hb.put | apply Hb.putP | apply Hb.putV | apply Hb.putW | apply Hb.putH | apply Hb.far N_ga_gr.out | apply Hb.drewN | apply Hb.drew)) (fun w' => Below w.heap.size w w' ∧ Hb w' gr Ht.zero) ⟨(by repeat (first | (with_reducible first | exact hB_13.out | apply pw_below_drewN | apply below_drew1 | refine below_set ?_ G_ga.out | refine below_set ?_ G_gr.out) | exact hB_13.out)), (by repeat (with_reducible first | exact K_gr.out | apply Hb.put | apply Hb.putP | apply Hb.putV | apply Hb.putW | apply Hb.putH | apply Hb.far (Ne.symm N_ga_gr.out) | apply Hb.drewN | apply Hb.drew))⟩ ?_
    clear c_ga_41 f_ga_41
    clear K_ga K_gr hB_13
    rintro w_14 q_ ⟨b_, q_gr⟩
    have K_ga := Lib.hid q_; have hB_15 := Lib.hid b_; have K_gr := Lib.hid q_gr
    clear q_ b_ q_gr
    have c_ga_42 := (show World.cell? _ ⟨ga, 42, none⟩ = some (.int .u64 (h.x 42)) from (K_ga.out.u 42 rfl).trans rfl); have f_ga_42 := K_ga.out.fr 42
    go_upto_region 8 with fail
    refine world_code ga (by repeat (with_reducible first | exact K_ga.out | apply Hb.put | apply Hb.putP | apply Hb.putV | apply Hb.putW | apply Hb.putH | apply Hb.far N_ga_gr.out | apply Hb.drewN | apply Hb.drew)) (fun w' => Below w.heap.size w w' ∧ Hb w' gr Ht.zero) ⟨(by repeat (first | (with_reducible first | exact hB_15.out | apply pw_below_drewN | apply below_drew1 | refine below_set ?_ G_ga.out | refine below_set ?_ G_gr.out) | exact hB_15.out)), (by repeat (with_reducible first | exact K_gr.out | apply Hb.put | apply Hb.putP | apply Hb.putV | apply Hb.putW | apply Hb.putH | apply Hb.far (Ne.symm N_ga_gr.out) | apply Hb.drewN | apply Hb.drew))⟩ ?_
    clear c_ga_42 f_ga_42
    clear K_ga K_gr hB_15
    rintro w_16 q_ ⟨b_, q_gr⟩
    have K_ga := Lib.hid q_; have hB_17 := Lib.hid b_; have K_gr := Lib.hid q_gr
    clear q_ b_ q_gr
    have c_ga_43 := (show World.cell? _ ⟨ga, 43, none⟩ = some (.int .u64 (h.x 43)) from (K_ga.out.u 43 rfl).trans rfl); have f_ga_43 := K_ga.out.fr 43
    go_upto_region 9 with fail
    refine world_code ga (by repeat (with_reducible first | exact K_ga.out | apply Hb.put | apply Hb.putP | apply Hb.putV | apply Hb.putW | apply Hb.putH | apply Hb.far N_ga_gr.out | apply Hb.drewN | apply Hb.drew)) (fun w' => Below w.heap.size w w' ∧ Hb w' gr Ht.zero) ⟨(by repeat (first | (with_reducible first | exact hB_17.out | apply pw_below_drewN | apply below_drew1 | refine below_set ?_ G_ga.out | refine below_set ?_ G_gr.out) | exact hB_17.out)), (by repeat (with_reducible first | exact K_gr.out | apply Hb.put | apply Hb.putP | apply Hb.putV | apply Hb.putW | apply Hb.putH | apply Hb.far (Ne.symm N_ga_gr.out) | apply Hb.drewN | apply Hb.drew))⟩ ?_
    clear c_ga_43 f_ga_43
    clear K_ga K_gr hB_17
    rintro w_18 q_ ⟨b_, q_gr⟩
    have K_ga := Lib.hid q_; have hB_19 := Lib.hid b_; have K_gr := Lib.hid q_gr
    clear q_ b_ q_gr
    have c_ga_44 := (show World.cell? _ ⟨ga, 44, none⟩ = some (.int .u64 (h.x 44)) from (K_ga.out.u 44 rfl).trans rfl); have f_ga_44 := K_ga.out.fr 44
    go_upto_region 10 with fail
    refine world_code ga (by repeat (with_reducible first | exact K_ga.out | apply Hb.put | apply Hb.putP | apply Hb.putV | apply Hb.putW | apply Hb.putH | apply Hb.far N_ga_gr.out | apply Hb.drewN | apply Hb.drew)) (fun w' => Below w.heap.size w w' ∧ Hb w' gr Ht.zero) ⟨(by repeat (first | (with_reducible first | exact hB_19.out | apply pw_below_drewN | apply below_drew1 | refine below_set ?_ G_ga.out | refine below_set ?_ G_gr.out) | exact hB_19.out)), (by repeat (with_reducible first | exact K_gr.out | apply Hb.put | apply Hb.putP | apply Hb.putV | apply Hb.putW | apply Hb.putH | apply Hb.far (Ne.symm N_ga_gr.out) | apply Hb.drewN | apply Hb.drew))⟩ ?_
    clear c_ga_44 f_ga_44
    clear K_ga K_gr hB_19
    rintro w_20 q_ ⟨b_, q_gr⟩
    have K_ga := Lib.hid q_; have hB_21 := Lib.hid b_; have K_gr := Lib.hid q_gr
    clear q_ b_ q_gr
    have c_ga_46 := (show World.cell? _ ⟨ga, 46, none⟩ = some (.int .u64 (h.x 46)) from (K_ga.out.u 46 rfl).trans rfl); have f_ga_46 := K_ga.out.fr 46
    go_upto_region 11 with fail
    refine world_code ga (by repeat (with_reducible first | exact K_ga.out | apply Hb.put | apply Hb.putP | apply Hb.putV | apply Hb.putW | apply Hb.putH | apply Hb.far N_ga_gr.out | apply Hb.drewN | apply Hb.drew)) (fun w' => Below w.heap.size w w' ∧ Hb w' gr Ht.zero) ⟨(by repeat (first | (with_reducible first | exact hB_21.out | apply pw_below_drewN | apply below_drew1 | refine below_set ?_ G_ga.out | refine below_set ?_ G_gr.out) | exact hB_21.out)), (by repeat (with_reducible first | exact K_gr.out | apply Hb.put | apply Hb.putP | apply Hb.putV | apply Hb.putW | apply Hb.putH | apply Hb.far (Ne.symm N_ga_gr.out) | apply Hb.drewN | apply Hb.drew))⟩ ?_
    clear c_ga_46 f_ga_46
    clear K_ga K_gr hB_21
    rintro w_22 q_ ⟨b_, q_gr⟩
    have K_ga := Lib.hid q_; have hB_23 := Lib.hid b_; have K_gr := Lib.hid q_gr
    clear q_ b_ q_gr
    have c_ga_51 := (show World.cell? _ ⟨ga, 51, none⟩ = some (.int .u64 (h.x 51)) from (K_ga.out.u 51 rfl).trans rfl); have f_ga_51 := K_ga.out.fr 51
    go_upto_region 12 with fail
    refine world_code ga (by repeat (with_reducible first | exact K_ga.out | apply Hb.put | apply Hb.putP | apply Hb.putV | apply Hb.putW | apply Hb.putH | apply Hb.far N_ga_gr.out | apply Hb.drewN | apply Hb.drew)) (fun w' => Below w.heap.size w w' ∧ Hb w' gr Ht.zero) ⟨(by repeat (first | (with_reducible first | exact hB_23.out | apply pw_below_drewN | apply below_drew1 | refine below_set ?_ G_ga.out | refine below_set ?_ G_gr.out) | exact hB_23.out)), (by repeat (with_reducible first | exact K_gr.out | apply Hb.put | apply Hb.putP | apply Hb.putV | apply Hb.putW | apply Hb.putH | apply Hb.far (Ne.symm N_ga_gr.out) | apply Hb.drewN | apply Hb.drew))⟩ ?_
    clear c_ga_51 f_ga_51
    clear K_ga K_gr hB_23
    rintro w_24 q_ ⟨b_, q_gr⟩
    have K_ga := Lib.hid q_; have hB_25 := Lib.hid b_; have K_gr := Lib.hid q_gr
    clear q_ b_ q_gr
    have c_ga_52 := (show World.cell? _ ⟨ga, 52, none⟩ = some (.int .u64 (h.x 52)) from (K_ga.out.u 52 rfl).trans rfl); have f_ga_52 := K_ga.out.fr 52
    go_upto_region 13 with fail
    refine world_code ga (by repeat (with_reducible first | exact K_ga.out | apply Hb.put | apply Hb.putP | apply Hb.putV | apply Hb.putW | apply Hb.putH | apply Hb.far N_ga_gr.out | apply Hb.drewN | apply Hb.drew)) (fun w' => Below w.heap.size w w' ∧ Hb w' gr Ht.zero) ⟨(by repeat (first | (with_reducible first | exact hB_25.out | apply pw_below_drewN | apply below_drew1 | refine below_set ?_ G_ga.out | refine below_set ?_ G_gr.out) | exact hB_25.out)), (by repeat (with_reducible first | exact K_gr.out | apply Hb.put | apply Hb.putP | apply Hb.putV | apply Hb.putW | apply Hb.putH | apply Hb.far (Ne.symm N_ga_gr.out) | apply Hb.drewN | apply Hb.drew))⟩ ?_
    clear c_ga_52 f_ga_52
    clear K_ga K_gr hB_25
    rintro w_26 q_ ⟨b_, q_gr⟩
    have K_ga := Lib.hid q_; have hB_27 := Lib.hid b_; have K_gr := Lib.hid q_gr
    clear q_ b_ q_gr
    have c_ga_54 := (show World.cell? _ ⟨ga, 54, none⟩ = some (.int .u64 (h.x 54)) from (K_ga.out.u 54 rfl).trans rfl); have f_ga_54 := K_ga.out.fr 54
    go_upto_region 14 with fail
    refine world_code ga (by repeat (with_reducible first | exact K_ga.out | apply Hb.put | apply Hb.putP | apply Hb.putV | apply Hb.putW | apply Hb.putH | apply Hb.far N_ga_gr.out | apply Hb.drewN | apply Hb.drew)) (fun w' => Below w.heap.size w w' ∧ Hb w' gr Ht.zero) ⟨(by repeat (first | (with_reducible first | exact hB_27.out | apply pw_below_drewN | apply below_drew1 | refine below_set ?_ G_ga.out | refine below_set ?_ G_gr.out) | exact hB_27.out)), (by repeat (with_reducible first | exact K_gr.out | apply Hb.put | apply Hb.putP | apply Hb.putV | apply Hb.putW | apply Hb.putH | apply Hb.far (Ne.symm N_ga_gr.out) | apply Hb.drewN | apply Hb.drew))⟩ ?_
    clear c_ga_54 f_ga_54
    clear K_ga K_gr hB_27
    rintro w_28 q_ ⟨b_, q_gr⟩
    have K_ga := Lib.hid q_; have hB_29 := Lib.hid b_; have K_gr := Lib.hid q_gr
    clear q_ b_ q_gr
    have c_ga_57 := (show World.cell? _ ⟨ga, 57, none⟩ = some (.int .u64 (h.x 57)) from (K_ga.out.u 57 rfl).trans rfl); have f_ga_57 := K_ga.out.fr 57
    refine start_ (n := 6) (S := fun w' => w'.cell? ⟨ga, 57, none⟩ = some (.int .u64 (h.x 57))) (ds := [5]) #[false, false, false, false, false, false] (by kernel_rfl) rfl rfl ((show World.cell? _ ⟨ga, 57, none⟩ = some (.int .u64 (h.x 57)) by first | (go_simp; done) | (go_simp; rfl))) (fun hHeld => ?_)
    have HH0 := Lib.hid hHeld
    clear hHeld
    refine world_any ga (by repeat (with_reducible first | exact K_ga.out | apply Hb.put | apply Hb.putP | apply Hb.putV | apply Hb.putW | apply Hb.putH | apply Hb.far N_ga_gr.out | apply Hb.drewN | apply Hb.drew)) (fun w' => Below w.heap.size w w' ∧ Hb w' gr Ht.zero ∧ (w'.cell? ⟨ga, 57, none⟩ = some (.int .u64 (h.x 57)))) ⟨(by repeat (first | (with_reducible first | exact hB_29.out | apply pw_below_drewN | apply below_drew1 | refine below_set ?_ G_ga.out | refine below_set ?_ G_gr.out) | exact hB_29.out)), (by repeat (with_reducible first | exact K_gr.out | apply Hb.put | apply Hb.putP | apply Hb.putV | apply Hb.putW | apply Hb.putH | apply Hb.far (Ne.symm N_ga_gr.out) | apply Hb.drewN | apply Hb.drew)), HH0.out⟩ ?_
    clear HH0
    clear c_ga_57 f_ga_57
    clear K_ga K_gr hB_29
    rintro w_30 q_ ⟨b_, q_gr, hHeld⟩
    have K_ga := Lib.hid q_; have hB_31 := Lib.hid b_; have K_gr := Lib.hid q_gr
    clear q_ b_ q_gr
    refine pure_ (i := 0) (N := some 62) (v := ?_) (a' := ?_) #[true, false, false, false, false, false] rfl rfl (by kernel_rfl) (fun _ _ _ h => h) (Or.inl ⟨by rfl, ?_⟩) ?_ ?_
    rotate_left
    · intro w'
      go_simp
      with_reducible rfl
    rotate_left
    · simp only [Act.put, List.setIfInBounds_toArray, List.set_cons_zero, List.set_cons_succ, i64_w, i32_w]
      rfl
    refine take_ (i := 1) (N := some 63) (v := ?_) (a' := ?_) #[true, true, false, false, false, false] rfl rfl (by kernel_rfl) (fun _ _ _ h => h) (Or.inl ⟨by rfl, ?_⟩) hHeld ?_ ?_
    rotate_left
    · intro w' s0
      go_simp
      with_reducible rfl
    rotate_left
    · simp only [Act.put, List.setIfInBounds_toArray, List.set_cons_zero, List.set_cons_succ, i64_w, i32_w]
      rfl
    have HH := Lib.hid hHeld
    clear hHeld
    refine one_ (i := 2) (N := some 64) #[true, true, true, false, false, false] rfl rfl (by kernel_rfl) (by decide) (fun K hK => ?_)
    refine goes_ Tryd.func36 (by kernel_rfl) rfl #[.int .u64 0] (by rfl) rfl rfl (by simp only [List.map_toArray, List.map_cons, List.map_nil]; rfl) ?_
    with_reducible refine (but_0 _).mono ?_
    rintro e_ w_ ⟨rfl, ⟨n_, rfl⟩⟩
    refine ⟨_, rfl, ?_⟩
    have q_ := Lib.hid (Hb.drewN n_ K_ga.out)
    have hB_33 := Lib.hid (pw_below_drewN hB_31.out n_)
    have q_gr := Lib.hid (Hb.drewN n_ K_gr.out)
    have s_0 := (cell_drewN n_ HH.out)
    clear HH K_ga K_gr hB_31
    generalize World.drewN w_30 n_ = w_32 at q_ hB_33 q_gr s_0 ⊢
    have K_ga := q_; clear q_
    have K_gr := q_gr; clear q_gr
    refine hK.out _ _ (s_0) (fun hHeld => ?_)
    have HH := Lib.hid hHeld
    clear hHeld s_0
    clear hK K
    refine norm_ (a' := ?_) ?_ ?_
    rotate_left
    · show Act.put _ (some 64) _ = _
      simp only [Act.put, List.setIfInBounds_toArray, List.set_cons_zero, List.set_cons_succ, i64_w, i32_w]
      rfl
    refine one_ (i := 3) (N := some 65) #[true, true, true, true, false, false] rfl rfl (by kernel_rfl) (by decide) (fun K hK => ?_)
    refine goes_ Tryd.func38 (by kernel_rfl) rfl #[.int .u64 (h.x 57), .int .u64 18446744073709551615] (by rfl) rfl rfl (by simp only [List.map_toArray, List.map_cons, List.map_nil]; rfl) ?_
    with_reducible refine (table_c (h.x 57) 18446744073709551615 _).mono ?_
    rintro e_ w_ ⟨rfl, ⟨n_, rfl⟩⟩
    refine ⟨_, rfl, ?_⟩
    have q_ := Lib.hid (Hb.drewN n_ K_ga.out)
    have hB_35 := Lib.hid (pw_below_drewN hB_33.out n_)
    have q_gr := Lib.hid (Hb.drewN n_ K_gr.out)
    have s_0 := (cell_drewN n_ HH.out)
    clear HH K_ga K_gr hB_33
    generalize World.drewN w_32 n_ = w_34 at q_ hB_35 q_gr s_0 ⊢
    have K_ga := q_; clear q_
    have K_gr := q_gr; clear q_gr
    refine hK.out _ _ (s_0) (fun hHeld => ?_)
    have HH := Lib.hid hHeld
    clear hHeld s_0
    clear hK K
    refine norm_ (a' := ?_) ?_ ?_
    rotate_left
    · show Act.put _ (some 65) _ = _
      simp only [Act.put, List.setIfInBounds_toArray, List.set_cons_zero, List.set_cons_succ, i64_w, i32_w]
      rfl
    refine pure_ (i := 4) (N := some 66) (v := ?_) (a' := ?_) #[true, true, true, true, true, false] rfl rfl (by kernel_rfl) (fun _ _ _ h => h) (Or.inl ⟨by rfl, ?_⟩) ?_ ?_
    rotate_left
    · intro w'
      go_simp
      with_reducible rfl
    rotate_left
    · simp only [Act.put, List.setIfInBounds_toArray, List.set_cons_zero, List.set_cons_succ, i64_w, i32_w]
      rfl
    refine last_ (i := 5) (N := none) #[true, true, true, true, true, true] rfl rfl (by kernel_rfl) (by decide) (fun K hK => ?_)
    refine skipH (h := _) (v := .int .u64 (tblR (h.x 57) 18446744073709551615)) (by rfl) rfl rfl rfl rfl (by kernel_rfl) rfl rfl K_ga.out (by decide) ?_
    have q_ := Lib.hid (Hb.put 57 ((tblR (h.x 57) 18446744073709551615)) K_ga.out)
    have hB_37 := Lib.hid (below_set (j := 57) (v := (.int .u64 (tblR (h.x 57) 18446744073709551615))) hB_35.out G_ga.out)
    have q_gr := Lib.hid (Hb.far (j := 57) (u := (.int .u64 (tblR (h.x 57) 18446744073709551615))) (Ne.symm N_ga_gr.out) K_gr.out)
    clear HH K_ga K_gr hB_35
    generalize World.setCell w_34 ⟨ga, 57, none⟩ (.int .u64 (tblR (h.x 57) 18446744073709551615)) = w_36 at q_ hB_37 q_gr ⊢
    have K_ga := q_; clear q_
    have K_gr := q_gr; clear q_gr
    refine hK.out _ _ ?_
    clear hK K
    refine done_ (by kernel_rfl) ?_
    try clear HH
    go_upto_region 15 with fail
    have c_ga_58 := (show World.cell? _ ⟨ga, 58, none⟩ = some (.int .u64 (h.x 58)) from (K_ga.out.u 58 rfl).trans rfl); have f_ga_58 := K_ga.out.fr 58
    go_upto_region 16 with fail
    refine world_code ga (by repeat (with_reducible first | exact K_ga.out | apply Hb.put | apply Hb.putP | apply Hb.putV | apply Hb.putW | apply Hb.putH | apply Hb.far N_ga_gr.out | apply Hb.drewN | apply Hb.drew)) (fun w' => Below w.heap.size w w' ∧ Hb w' gr Ht.zero) ⟨(by repeat (first | (with_reducible first | exact hB_37.out | apply pw_below_drewN | apply below_drew1 | refine below_set ?_ G_ga.out | refine below_set ?_ G_gr.out) | exact hB_37.out)), (by repeat (with_reducible first | exact K_gr.out | apply Hb.put | apply Hb.putP | apply Hb.putV | apply Hb.putW | apply Hb.putH | apply Hb.far (Ne.symm N_ga_gr.out) | apply Hb.drewN | apply Hb.drew))⟩ ?_
    clear c_ga_58 f_ga_58
    clear K_ga K_gr hB_37
    rintro w_38 q_ ⟨b_, q_gr⟩
    have K_ga := Lib.hid q_; have hB_39 := Lib.hid b_; have K_gr := Lib.hid q_gr
    clear q_ b_ q_gr
    have c_ga_59 := (show World.cell? _ ⟨ga, 59, none⟩ = some (.int .u64 (h.x 59)) from (K_ga.out.u 59 rfl).trans rfl); have f_ga_59 := K_ga.out.fr 59
    go_upto_region 17 with fail
    refine world_code ga (by repeat (with_reducible first | exact K_ga.out | apply Hb.put | apply Hb.putP | apply Hb.putV | apply Hb.putW | apply Hb.putH | apply Hb.far N_ga_gr.out | apply Hb.drewN | apply Hb.drew)) (fun w' => Below w.heap.size w w' ∧ Hb w' gr Ht.zero) ⟨(by repeat (first | (with_reducible first | exact hB_39.out | apply pw_below_drewN | apply below_drew1 | refine below_set ?_ G_ga.out | refine below_set ?_ G_gr.out) | exact hB_39.out)), (by repeat (with_reducible first | exact K_gr.out | apply Hb.put | apply Hb.putP | apply Hb.putV | apply Hb.putW | apply Hb.putH | apply Hb.far (Ne.symm N_ga_gr.out) | apply Hb.drewN | apply Hb.drew))⟩ ?_
    clear c_ga_59 f_ga_59
    clear K_ga K_gr hB_39
    rintro w_40 q_ ⟨b_, q_gr⟩
    have K_ga := Lib.hid q_; have hB_41 := Lib.hid b_; have K_gr := Lib.hid q_gr
    clear q_ b_ q_gr
    have c_ga_60 := (show World.cell? _ ⟨ga, 60, none⟩ = some (.int .u64 (h.x 60)) from (K_ga.out.u 60 rfl).trans rfl); have f_ga_60 := K_ga.out.fr 60
    go_upto_region 18 with fail
    refine world_code ga (by repeat (with_reducible first | exact K_ga.out | apply Hb.put | apply Hb.putP | apply Hb.putV | apply Hb.putW | apply Hb.putH | apply Hb.far N_ga_gr.out | apply Hb.drewN | apply Hb.drew)) (fun w' => Below w.heap.size w w' ∧ Hb w' gr Ht.zero) ⟨(by repeat (first | (with_reducible first | exact hB_41.out | apply pw_below_drewN | apply below_drew1 | refine below_set ?_ G_ga.out | refine below_set ?_ G_gr.out) | exact hB_41.out)), (by repeat (with_reducible first | exact K_gr.out | apply Hb.put | apply Hb.putP | apply Hb.putV | apply Hb.putW | apply Hb.putH | apply Hb.far (Ne.symm N_ga_gr.out) | apply Hb.drewN | apply Hb.drew))⟩ ?_
    clear c_ga_60 f_ga_60
    clear K_ga K_gr hB_41
    rintro w_42 q_ ⟨b_, q_gr⟩
    have K_ga := Lib.hid q_; have hB_43 := Lib.hid b_; have K_gr := Lib.hid q_gr
    clear q_ b_ q_gr
    have c_ga_61 := (show World.cell? _ ⟨ga, 61, none⟩ = some (.int .u64 (h.x 61)) from (K_ga.out.u 61 rfl).trans rfl); have f_ga_61 := K_ga.out.fr 61
    go_upto_region 19 with fail
    refine world_code ga (by repeat (with_reducible first | exact K_ga.out | apply Hb.put | apply Hb.putP | apply Hb.putV | apply Hb.putW | apply Hb.putH | apply Hb.far N_ga_gr.out | apply Hb.drewN | apply Hb.drew)) (fun w' => Below w.heap.size w w' ∧ Hb w' gr Ht.zero) ⟨(by repeat (first | (with_reducible first | exact hB_43.out | apply pw_below_drewN | apply below_drew1 | refine below_set ?_ G_ga.out | refine below_set ?_ G_gr.out) | exact hB_43.out)), (by repeat (with_reducible first | exact K_gr.out | apply Hb.put | apply Hb.putP | apply Hb.putV | apply Hb.putW | apply Hb.putH | apply Hb.far (Ne.symm N_ga_gr.out) | apply Hb.drewN | apply Hb.drew))⟩ ?_
    clear c_ga_61 f_ga_61
    clear K_ga K_gr hB_43
    rintro w_44 q_ ⟨b_, q_gr⟩
    have K_ga := Lib.hid q_; have hB_45 := Lib.hid b_; have K_gr := Lib.hid q_gr
    clear q_ b_ q_gr
    have c_ga_62 := (show World.cell? _ ⟨ga, 62, none⟩ = some (.int .u64 (h.x 62)) from (K_ga.out.u 62 rfl).trans rfl); have f_ga_62 := K_ga.out.fr 62
    go_upto_region 20 with fail
    refine world_code ga (by repeat (with_reducible first | exact K_ga.out | apply Hb.put | apply Hb.putP | apply Hb.putV | apply Hb.putW | apply Hb.putH | apply Hb.far N_ga_gr.out | apply Hb.drewN | apply Hb.drew)) (fun w' => Below w.heap.size w w' ∧ Hb w' gr Ht.zero) ⟨(by repeat (first | (with_reducible first | exact hB_45.out | apply pw_below_drewN | apply below_drew1 | refine below_set ?_ G_ga.out | refine below_set ?_ G_gr.out) | exact hB_45.out)), (by repeat (with_reducible first | exact K_gr.out | apply Hb.put | apply Hb.putP | apply Hb.putV | apply Hb.putW | apply Hb.putH | apply Hb.far (Ne.symm N_ga_gr.out) | apply Hb.drewN | apply Hb.drew))⟩ ?_
    clear c_ga_62 f_ga_62
    clear K_ga K_gr hB_45
    rintro w_46 q_ ⟨b_, q_gr⟩
    have K_ga := Lib.hid q_; have hB_47 := Lib.hid b_; have K_gr := Lib.hid q_gr
    clear q_ b_ q_gr
    have c_ga_63 := (show World.cell? _ ⟨ga, 63, none⟩ = some (.int .u64 (h.x 63)) from (K_ga.out.u 63 rfl).trans rfl); have f_ga_63 := K_ga.out.fr 63
    go_upto_region 21 with fail
    refine world_code ga (by repeat (with_reducible first | exact K_ga.out | apply Hb.put | apply Hb.putP | apply Hb.putV | apply Hb.putW | apply Hb.putH | apply Hb.far N_ga_gr.out | apply Hb.drewN | apply Hb.drew)) (fun w' => Below w.heap.size w w' ∧ Hb w' gr Ht.zero) ⟨(by repeat (first | (with_reducible first | exact hB_47.out | apply pw_below_drewN | apply below_drew1 | refine below_set ?_ G_ga.out | refine below_set ?_ G_gr.out) | exact hB_47.out)), (by repeat (with_reducible first | exact K_gr.out | apply Hb.put | apply Hb.putP | apply Hb.putV | apply Hb.putW | apply Hb.putH | apply Hb.far (Ne.symm N_ga_gr.out) | apply Hb.drewN | apply Hb.drew))⟩ ?_
    clear c_ga_63 f_ga_63
    clear K_ga K_gr hB_47
    rintro w_48 q_ ⟨b_, q_gr⟩
    have K_ga := Lib.hid q_; have hB_49 := Lib.hid b_; have K_gr := Lib.hid q_gr
    clear q_ b_ q_gr
    have c_ga_66 := (show World.cell? _ ⟨ga, 66, none⟩ = some (.int .u64 (h.x 66)) from (K_ga.out.u 66 rfl).trans rfl); have f_ga_66 := K_ga.out.fr 66
    refine start_ (n := 6) (S := fun w' => w'.cell? ⟨ga, 66, none⟩ = some (.int .u64 (h.x 66))) (ds := [5]) #[false, false, false, false, false, false] (by kernel_rfl) rfl rfl ((show World.cell? _ ⟨ga, 66, none⟩ = some (.int .u64 (h.x 66)) by first | (go_simp; done) | (go_simp; rfl))) (fun hHeld => ?_)
    have HH0 := Lib.hid hHeld
    clear hHeld
    refine world_any ga (by repeat (with_reducible first | exact K_ga.out | apply Hb.put | apply Hb.putP | apply Hb.putV | apply Hb.putW | apply Hb.putH | apply Hb.far N_ga_gr.out | apply Hb.drewN | apply Hb.drew)) (fun w' => Below w.heap.size w w' ∧ Hb w' gr Ht.zero ∧ (w'.cell? ⟨ga, 66, none⟩ = some (.int .u64 (h.x 66)))) ⟨(by repeat (first | (with_reducible first | exact hB_49.out | apply pw_below_drewN | apply below_drew1 | refine below_set ?_ G_ga.out | refine below_set ?_ G_gr.out) | exact hB_49.out)), (by repeat (with_reducible first | exact K_gr.out | apply Hb.put | apply Hb.putP | apply Hb.putV | apply Hb.putW | apply Hb.putH | apply Hb.far (Ne.symm N_ga_gr.out) | apply Hb.drewN | apply Hb.drew)), HH0.out⟩ ?_
    clear HH0
    clear c_ga_66 f_ga_66
    clear K_ga K_gr hB_49
    rintro w_50 q_ ⟨b_, q_gr, hHeld⟩
    have K_ga := Lib.hid q_; have hB_51 := Lib.hid b_; have K_gr := Lib.hid q_gr
    clear q_ b_ q_gr
    refine pure_ (i := 0) (N := some 92) (v := ?_) (a' := ?_) #[true, false, false, false, false, false] rfl rfl (by kernel_rfl) (fun _ _ _ h => h) (Or.inl ⟨by rfl, ?_⟩) ?_ ?_
    rotate_left
    · intro w'
      go_simp
      with_reducible rfl
    rotate_left
    · simp only [Act.put, List.setIfInBounds_toArray, List.set_cons_zero, List.set_cons_succ, i64_w, i32_w]
      rfl
    refine take_ (i := 1) (N := some 93) (v := ?_) (a' := ?_) #[true, true, false, false, false, false] rfl rfl (by kernel_rfl) (fun _ _ _ h => h) (Or.inl ⟨by rfl, ?_⟩) hHeld ?_ ?_
    rotate_left
    · intro w' s0
      go_simp
      with_reducible rfl
    rotate_left
    · simp only [Act.put, List.setIfInBounds_toArray, List.set_cons_zero, List.set_cons_succ, i64_w, i32_w]
      rfl
    have HH := Lib.hid hHeld
    clear hHeld
    refine one_ (i := 2) (N := some 94) #[true, true, true, false, false, false] rfl rfl (by kernel_rfl) (by decide) (fun K hK => ?_)
    refine goes_ Tryd.func36 (by kernel_rfl) rfl #[.int .u64 864691128455135235] (by rfl) rfl rfl (by simp only [List.map_toArray, List.map_cons, List.map_nil]; rfl) ?_
    with_reducible refine (but_v _).mono ?_
    rintro e_ w_ ⟨rfl, ⟨n_, rfl⟩⟩
    refine ⟨_, rfl, ?_⟩
    have q_ := Lib.hid (Hb.drewN n_ K_ga.out)
    have hB_53 := Lib.hid (pw_below_drewN hB_51.out n_)
    have q_gr := Lib.hid (Hb.drewN n_ K_gr.out)
    have s_0 := (cell_drewN n_ HH.out)
    clear HH K_ga K_gr hB_51
    generalize World.drewN w_50 n_ = w_52 at q_ hB_53 q_gr s_0 ⊢
    have K_ga := q_; clear q_
    have K_gr := q_gr; clear q_gr
    refine hK.out _ _ (s_0) (fun hHeld => ?_)
    have HH := Lib.hid hHeld
    clear hHeld s_0
    clear hK K
    refine norm_ (a' := ?_) ?_ ?_
    rotate_left
    · show Act.put _ (some 94) _ = _
      simp only [Act.put, List.setIfInBounds_toArray, List.set_cons_zero, List.set_cons_succ, i64_w, i32_w]
      rfl
    refine one_ (i := 3) (N := some 95) #[true, true, true, true, false, false] rfl rfl (by kernel_rfl) (by decide) (fun K hK => ?_)
    refine goes_ Tryd.func38 (by kernel_rfl) rfl #[.int .u64 (h.x 66), .int .u64 17582052945254416380] (by rfl) rfl rfl (by simp only [List.map_toArray, List.map_cons, List.map_nil]; rfl) ?_
    with_reducible refine (table_c (h.x 66) 17582052945254416380 _).mono ?_
    rintro e_ w_ ⟨rfl, ⟨n_, rfl⟩⟩
    refine ⟨_, rfl, ?_⟩
    have q_ := Lib.hid (Hb.drewN n_ K_ga.out)
    have hB_55 := Lib.hid (pw_below_drewN hB_53.out n_)
    have q_gr := Lib.hid (Hb.drewN n_ K_gr.out)
    have s_0 := (cell_drewN n_ HH.out)
    clear HH K_ga K_gr hB_53
    generalize World.drewN w_52 n_ = w_54 at q_ hB_55 q_gr s_0 ⊢
    have K_ga := q_; clear q_
    have K_gr := q_gr; clear q_gr
    refine hK.out _ _ (s_0) (fun hHeld => ?_)
    have HH := Lib.hid hHeld
    clear hHeld s_0
    clear hK K
    refine norm_ (a' := ?_) ?_ ?_
    rotate_left
    · show Act.put _ (some 95) _ = _
      simp only [Act.put, List.setIfInBounds_toArray, List.set_cons_zero, List.set_cons_succ, i64_w, i32_w]
      rfl
    refine pure_ (i := 4) (N := some 96) (v := ?_) (a' := ?_) #[true, true, true, true, true, false] rfl rfl (by kernel_rfl) (fun _ _ _ h => h) (Or.inl ⟨by rfl, ?_⟩) ?_ ?_
    rotate_left
    · intro w'
      go_simp
      with_reducible rfl
    rotate_left
    · simp only [Act.put, List.setIfInBounds_toArray, List.set_cons_zero, List.set_cons_succ, i64_w, i32_w]
      rfl
    refine last_ (i := 5) (N := none) #[true, true, true, true, true, true] rfl rfl (by kernel_rfl) (by decide) (fun K hK => ?_)
    refine skipH (h := _) (v := .int .u64 (tblR (h.x 66) 17582052945254416380)) (by rfl) rfl rfl rfl rfl (by kernel_rfl) rfl rfl K_ga.out (by decide) ?_
    have q_ := Lib.hid (Hb.put 66 ((tblR (h.x 66) 17582052945254416380)) K_ga.out)
    have hB_57 := Lib.hid (below_set (j := 66) (v := (.int .u64 (tblR (h.x 66) 17582052945254416380))) hB_55.out G_ga.out)
    have q_gr := Lib.hid (Hb.far (j := 66) (u := (.int .u64 (tblR (h.x 66) 17582052945254416380))) (Ne.symm N_ga_gr.out) K_gr.out)
    clear HH K_ga K_gr hB_55
    generalize World.setCell w_54 ⟨ga, 66, none⟩ (.int .u64 (tblR (h.x 66) 17582052945254416380)) = w_56 at q_ hB_57 q_gr ⊢
    have K_ga := q_; clear q_
    have K_gr := q_gr; clear q_gr
    refine hK.out _ _ ?_
    clear hK K
    refine done_ (by kernel_rfl) ?_
    try clear HH
    go_upto_region 22 with fail
    have c_ga_68 := (show World.cell? _ ⟨ga, 68, none⟩ = some (.int .u64 (h.x 68)) from (K_ga.out.u 68 rfl).trans rfl); have f_ga_68 := K_ga.out.fr 68
    go_upto_region 23 with fail
    refine world_code ga (by repeat (with_reducible first | exact K_ga.out | apply Hb.put | apply Hb.putP | apply Hb.putV | apply Hb.putW | apply Hb.putH | apply Hb.far N_ga_gr.out | apply Hb.drewN | apply Hb.drew)) (fun w' => Below w.heap.size w w' ∧ Hb w' gr Ht.zero) ⟨(by repeat (first | (with_reducible first | exact hB_57.out | apply pw_below_drewN | apply below_drew1 | refine below_set ?_ G_ga.out | refine below_set ?_ G_gr.out) | exact hB_57.out)), (by repeat (with_reducible first | exact K_gr.out | apply Hb.put | apply Hb.putP | apply Hb.putV | apply Hb.putW | apply Hb.putH | apply Hb.far (Ne.symm N_ga_gr.out) | apply Hb.drewN | apply Hb.drew))⟩ ?_
    clear c_ga_68 f_ga_68
    clear K_ga K_gr hB_57
    rintro w_58 q_ ⟨b_, q_gr⟩
    have K_ga := Lib.hid q_; have hB_59 := Lib.hid b_; have K_gr := Lib.hid q_gr
    clear q_ b_ q_gr
    have c_ga_69 := (show World.cell? _ ⟨ga, 69, none⟩ = some (.int .u64 (h.x 69)) from (K_ga.out.u 69 rfl).trans rfl); have f_ga_69 := K_ga.out.fr 69
    go_upto_region 24 with fail
    refine world_code ga (by repeat (with_reducible first | exact K_ga.out | apply Hb.put | apply Hb.putP | apply Hb.putV | apply Hb.putW | apply Hb.putH | apply Hb.far N_ga_gr.out | apply Hb.drewN | apply Hb.drew)) (fun w' => Below w.heap.size w w' ∧ Hb w' gr Ht.zero) ⟨(by repeat (first | (with_reducible first | exact hB_59.out | apply pw_below_drewN | apply below_drew1 | refine below_set ?_ G_ga.out | refine below_set ?_ G_gr.out) | exact hB_59.out)), (by repeat (with_reducible first | exact K_gr.out | apply Hb.put | apply Hb.putP | apply Hb.putV | apply Hb.putW | apply Hb.putH | apply Hb.far (Ne.symm N_ga_gr.out) | apply Hb.drewN | apply Hb.drew))⟩ ?_
    clear c_ga_69 f_ga_69
    clear K_ga K_gr hB_59
    rintro w_60 q_ ⟨b_, q_gr⟩
    have K_ga := Lib.hid q_; have hB_61 := Lib.hid b_; have K_gr := Lib.hid q_gr
    clear q_ b_ q_gr
    have c_ga_71 := (show World.cell? _ ⟨ga, 71, none⟩ = some (.int .u64 (h.x 71)) from (K_ga.out.u 71 rfl).trans rfl); have f_ga_71 := K_ga.out.fr 71
    go_upto_region 25 with fail
    refine world_code ga (by repeat (with_reducible first | exact K_ga.out | apply Hb.put | apply Hb.putP | apply Hb.putV | apply Hb.putW | apply Hb.putH | apply Hb.far N_ga_gr.out | apply Hb.drewN | apply Hb.drew)) (fun w' => Below w.heap.size w w' ∧ Hb w' gr Ht.zero) ⟨(by repeat (first | (with_reducible first | exact hB_61.out | apply pw_below_drewN | apply below_drew1 | refine below_set ?_ G_ga.out | refine below_set ?_ G_gr.out) | exact hB_61.out)), (by repeat (with_reducible first | exact K_gr.out | apply Hb.put | apply Hb.putP | apply Hb.putV | apply Hb.putW | apply Hb.putH | apply Hb.far (Ne.symm N_ga_gr.out) | apply Hb.drewN | apply Hb.drew))⟩ ?_
    clear c_ga_71 f_ga_71
    clear K_ga K_gr hB_61
    rintro w_62 q_ ⟨b_, q_gr⟩
    have K_ga := Lib.hid q_; have hB_63 := Lib.hid b_; have K_gr := Lib.hid q_gr
    clear q_ b_ q_gr
    have c_ga_74 := (show World.cell? _ ⟨ga, 74, none⟩ = some (.int .u64 (h.x 74)) from (K_ga.out.u 74 rfl).trans rfl); have f_ga_74 := K_ga.out.fr 74
    refine start_ (n := 6) (S := fun w' => w'.cell? ⟨ga, 74, none⟩ = some (.int .u64 (h.x 74))) (ds := [5]) #[false, false, false, false, false, false] (by kernel_rfl) rfl rfl ((show World.cell? _ ⟨ga, 74, none⟩ = some (.int .u64 (h.x 74)) by first | (go_simp; done) | (go_simp; rfl))) (fun hHeld => ?_)
    have HH0 := Lib.hid hHeld
    clear hHeld
    refine world_any ga (by repeat (with_reducible first | exact K_ga.out | apply Hb.put | apply Hb.putP | apply Hb.putV | apply Hb.putW | apply Hb.putH | apply Hb.far N_ga_gr.out | apply Hb.drewN | apply Hb.drew)) (fun w' => Below w.heap.size w w' ∧ Hb w' gr Ht.zero ∧ (w'.cell? ⟨ga, 74, none⟩ = some (.int .u64 (h.x 74)))) ⟨(by repeat (first | (with_reducible first | exact hB_63.out | apply pw_below_drewN | apply below_drew1 | refine below_set ?_ G_ga.out | refine below_set ?_ G_gr.out) | exact hB_63.out)), (by repeat (with_reducible first | exact K_gr.out | apply Hb.put | apply Hb.putP | apply Hb.putV | apply Hb.putW | apply Hb.putH | apply Hb.far (Ne.symm N_ga_gr.out) | apply Hb.drewN | apply Hb.drew)), HH0.out⟩ ?_
    clear HH0
    clear c_ga_74 f_ga_74
    clear K_ga K_gr hB_63
    rintro w_64 q_ ⟨b_, q_gr, hHeld⟩
    have K_ga := Lib.hid q_; have hB_65 := Lib.hid b_; have K_gr := Lib.hid q_gr
    clear q_ b_ q_gr
    refine pure_ (i := 0) (N := some 110) (v := ?_) (a' := ?_) #[true, false, false, false, false, false] rfl rfl (by kernel_rfl) (fun _ _ _ h => h) (Or.inl ⟨by rfl, ?_⟩) ?_ ?_
    rotate_left
    · intro w'
      go_simp
      with_reducible rfl
    rotate_left
    · simp only [Act.put, List.setIfInBounds_toArray, List.set_cons_zero, List.set_cons_succ, i64_w, i32_w]
      rfl
    refine take_ (i := 1) (N := some 111) (v := ?_) (a' := ?_) #[true, true, false, false, false, false] rfl rfl (by kernel_rfl) (fun _ _ _ h => h) (Or.inl ⟨by rfl, ?_⟩) hHeld ?_ ?_
    rotate_left
    · intro w' s0
      go_simp
      with_reducible rfl
    rotate_left
    · simp only [Act.put, List.setIfInBounds_toArray, List.set_cons_zero, List.set_cons_succ, i64_w, i32_w]
      rfl
    have HH := Lib.hid hHeld
    clear hHeld
    refine one_ (i := 2) (N := some 112) #[true, true, true, false, false, false] rfl rfl (by kernel_rfl) (by decide) (fun K hK => ?_)
    refine goes_ Tryd.func36 (by kernel_rfl) rfl #[.int .u64 0] (by rfl) rfl rfl (by simp only [List.map_toArray, List.map_cons, List.map_nil]; rfl) ?_
    with_reducible refine (but_0 _).mono ?_
    rintro e_ w_ ⟨rfl, ⟨n_, rfl⟩⟩
    refine ⟨_, rfl, ?_⟩
    have q_ := Lib.hid (Hb.drewN n_ K_ga.out)
    have hB_67 := Lib.hid (pw_below_drewN hB_65.out n_)
    have q_gr := Lib.hid (Hb.drewN n_ K_gr.out)
    have s_0 := (cell_drewN n_ HH.out)
    clear HH K_ga K_gr hB_65
    generalize World.drewN w_64 n_ = w_66 at q_ hB_67 q_gr s_0 ⊢
    have K_ga := q_; clear q_
    have K_gr := q_gr; clear q_gr
    refine hK.out _ _ (s_0) (fun hHeld => ?_)
    have HH := Lib.hid hHeld
    clear hHeld s_0
    clear hK K
    refine norm_ (a' := ?_) ?_ ?_
    rotate_left
    · show Act.put _ (some 112) _ = _
      simp only [Act.put, List.setIfInBounds_toArray, List.set_cons_zero, List.set_cons_succ, i64_w, i32_w]
      rfl
    refine one_ (i := 3) (N := some 113) #[true, true, true, true, false, false] rfl rfl (by kernel_rfl) (by decide) (fun K hK => ?_)
    refine goes_ Tryd.func38 (by kernel_rfl) rfl #[.int .u64 (h.x 74), .int .u64 18446744073709551615] (by rfl) rfl rfl (by simp only [List.map_toArray, List.map_cons, List.map_nil]; rfl) ?_
    with_reducible refine (table_c (h.x 74) 18446744073709551615 _).mono ?_
    rintro e_ w_ ⟨rfl, ⟨n_, rfl⟩⟩
    refine ⟨_, rfl, ?_⟩
    have q_ := Lib.hid (Hb.drewN n_ K_ga.out)
    have hB_69 := Lib.hid (pw_below_drewN hB_67.out n_)
    have q_gr := Lib.hid (Hb.drewN n_ K_gr.out)
    have s_0 := (cell_drewN n_ HH.out)
    clear HH K_ga K_gr hB_67
    generalize World.drewN w_66 n_ = w_68 at q_ hB_69 q_gr s_0 ⊢
    have K_ga := q_; clear q_
    have K_gr := q_gr; clear q_gr
    refine hK.out _ _ (s_0) (fun hHeld => ?_)
    have HH := Lib.hid hHeld
    clear hHeld s_0
    clear hK K
    refine norm_ (a' := ?_) ?_ ?_
    rotate_left
    · show Act.put _ (some 113) _ = _
      simp only [Act.put, List.setIfInBounds_toArray, List.set_cons_zero, List.set_cons_succ, i64_w, i32_w]
      rfl
    refine pure_ (i := 4) (N := some 114) (v := ?_) (a' := ?_) #[true, true, true, true, true, false] rfl rfl (by kernel_rfl) (fun _ _ _ h => h) (Or.inl ⟨by rfl, ?_⟩) ?_ ?_
    rotate_left
    · intro w'
      go_simp
      with_reducible rfl
    rotate_left
    · simp only [Act.put, List.setIfInBounds_toArray, List.set_cons_zero, List.set_cons_succ, i64_w, i32_w]
      rfl
    refine last_ (i := 5) (N := none) #[true, true, true, true, true, true] rfl rfl (by kernel_rfl) (by decide) (fun K hK => ?_)
    refine skipH (h := _) (v := .int .u64 (tblR (h.x 74) 18446744073709551615)) (by rfl) rfl rfl rfl rfl (by kernel_rfl) rfl rfl K_ga.out (by decide) ?_
    have q_ := Lib.hid (Hb.put 74 ((tblR (h.x 74) 18446744073709551615)) K_ga.out)
    have hB_71 := Lib.hid (below_set (j := 74) (v := (.int .u64 (tblR (h.x 74) 18446744073709551615))) hB_69.out G_ga.out)
    have q_gr := Lib.hid (Hb.far (j := 74) (u := (.int .u64 (tblR (h.x 74) 18446744073709551615))) (Ne.symm N_ga_gr.out) K_gr.out)
    clear HH K_ga K_gr hB_69
    generalize World.setCell w_68 ⟨ga, 74, none⟩ (.int .u64 (tblR (h.x 74) 18446744073709551615)) = w_70 at q_ hB_71 q_gr ⊢
    have K_ga := q_; clear q_
    have K_gr := q_gr; clear q_gr
    refine hK.out _ _ ?_
    clear hK K
    refine done_ (by kernel_rfl) ?_
    try clear HH
    go_upto_region 26 with fail
    have c_ga_1 := (show World.cell? _ ⟨ga, 1, none⟩ = some (.int .u64 (h.x 1)) from (K_ga.out.u 1 rfl).trans rfl); have f_ga_1 := K_ga.out.fr 1
    go_upto_region 27 with fail
    refine world_code ga (by repeat (with_reducible first | exact K_ga.out | apply Hb.put | apply Hb.putP | apply Hb.putV | apply Hb.putW | apply Hb.putH | apply Hb.far N_ga_gr.out | apply Hb.drewN | apply Hb.drew)) (fun w' => Below w.heap.size w w' ∧ Hb w' gr Ht.zero) ⟨(by repeat (first | (with_reducible first | exact hB_71.out | apply pw_below_drewN | apply below_drew1 | refine below_set ?_ G_ga.out | refine below_set ?_ G_gr.out) | exact hB_71.out)), (by repeat (with_reducible first | exact K_gr.out | apply Hb.put | apply Hb.putP | apply Hb.putV | apply Hb.putW | apply Hb.putH | apply Hb.far (Ne.symm N_ga_gr.out) | apply Hb.drewN | apply Hb.drew))⟩ ?_
    clear c_ga_1 f_ga_1
    clear K_ga K_gr hB_71
    rintro w_72 q_ ⟨b_, q_gr⟩
    have K_ga := Lib.hid q_; have hB_73 := Lib.hid b_; have K_gr := Lib.hid q_gr
    clear q_ b_ q_gr
    have c_ga_0 := (show World.cell? _ ⟨ga, 0, none⟩ = some (.int .u64 (h.x 0)) from (K_ga.out.u 0 rfl).trans rfl); have f_ga_0 := K_ga.out.fr 0
    go_upto_region 28 with fail
    refine world_code ga (by repeat (with_reducible first | exact K_ga.out | apply Hb.put | apply Hb.putP | apply Hb.putV | apply Hb.putW | apply Hb.putH | apply Hb.far N_ga_gr.out | apply Hb.drewN | apply Hb.drew)) (fun w' => Below w.heap.size w w' ∧ Hb w' gr Ht.zero) ⟨(by repeat (first | (with_reducible first | exact hB_73.out | apply pw_below_drewN | apply below_drew1 | refine below_set ?_ G_ga.out | refine below_set ?_ G_gr.out) | exact hB_73.out)), (by repeat (with_reducible first | exact K_gr.out | apply Hb.put | apply Hb.putP | apply Hb.putV | apply Hb.putW | apply Hb.putH | apply Hb.far (Ne.symm N_ga_gr.out) | apply Hb.drewN | apply Hb.drew))⟩ ?_
    clear c_ga_0 f_ga_0
    clear K_ga K_gr hB_73
    rintro w_74 q_ ⟨b_, q_gr⟩
    have K_ga := Lib.hid q_; have hB_75 := Lib.hid b_; have K_gr := Lib.hid q_gr
    clear q_ b_ q_gr
    have c_ga_33 := (show World.cell? _ ⟨ga, 33, none⟩ = some (.int .u8 (h.x 33)) from (K_ga.out.p).trans rfl); have f_ga_33 := K_ga.out.fr 33
    have c_ga_36 := (show World.cell? _ ⟨ga, 36, none⟩ = some (.bool h.hl) from (K_ga.out.ch).trans rfl); have f_ga_36 := K_ga.out.fr 36
    have c_ga_37 := (show World.cell? _ ⟨ga, 37, none⟩ = some (.int .u64 (h.x 37)) from (K_ga.out.u 37 rfl).trans rfl); have f_ga_37 := K_ga.out.fr 37
    have e_ : (((((((((((((((((((((((((h.set 38 (Go.bits .or .u64 (Go.bits .and .u64 (h.x 38) 824641984938) 42949672960)).set 39 (Go.bits .and .u64 (h.x 39) 15775743)).set 40 (Go.bits .or .u64 (Go.bits .and .u64 (h.x 40) 546) 5188)).set 41 (Go.bits .and .u64 (h.x 41) 7918)).set 42 (Go.bits .and .u64 (h.x 42) 546)).set 43 (Go.bits .andNot .u64 (h.x 43) 2)).set 44 (Go.bits .and .u64 (h.x 44) 7)).set 46 (Go.bits .andNot .u64 (h.x 46) 3)).set 51 (Go.bits .andNot .u64 (h.x 51) 2)).set 52 (Go.bits .and .u64 (h.x 52) 7)).set 54 (Go.bits .andNot .u64 (h.x 54) 3)).set 57 (tblR (h.x 57) 18446744073709551615)).set 58 (Go.bits .or .u64 (Go.bits .and .u64 (h.x 58) 7345088) 8589934592)).set 59 (Go.bits .and .u64 (h.x 59) 45567)).set 60 (Go.bits .and .u64 (h.x 60) 1092)).set 61 (Go.bits .and .u64 (h.x 61) 1092)).set 62 (Go.bits .and .u64 (h.x 62) 7)).set 63 (Go.bits .and .u64 (h.x 63) 2)).set 66 (tblR (h.x 66) 17582052945254416380)).set 68 (Go.bits .or .u64 (Go.bits .and .u64 (h.x 68) 786722) 8589934592)).set 69 (Go.bits .andNot .u64 (h.x 69) 2)).set 71 (Go.bits .andNot .u64 (h.x 71) 3)).set 74 (tblR (h.x 74) 18446744073709551615)).set 1 (0)).set 0 (Go.bits .andNot .u64 (h.x 0) 3)) = rfixA h s := by rw [HSX.out]; rfl
    rw [e_] at K_ga
    clear e_
    clear c_ga_33 f_ga_33 c_ga_36 f_ga_36 c_ga_37 f_ga_37
    have c_ga_33 := (show World.cell? _ ⟨ga, 33, none⟩ = some (.int .u8 (h.x 33)) from (K_ga.out.p).trans rfl); have f_ga_33 := K_ga.out.fr 33
    have c_ga_36 := (show World.cell? _ ⟨ga, 36, none⟩ = some (.bool h.hl) from (K_ga.out.ch).trans rfl); have f_ga_36 := K_ga.out.fr 36
    have c_ga_37 := (show World.cell? _ ⟨ga, 37, none⟩ = some (.int .u64 (h.x 37)) from (K_ga.out.u 37 rfl).trans rfl); have f_ga_37 := K_ga.out.fr 37
    have c_ga_34 := (show World.cell? _ ⟨ga, 34, none⟩ = some (.bool h.v) from (K_ga.out.cv).trans rfl); have f_ga_34 := K_ga.out.fr 34
    cases d2 : (h.x 33 != 1)
    · skip
      cases d3 : (h.x 33 != 3)
      · skip
        cases d5 : h.hl
        · skip
          have d3b : (h.x 33 == 3) = true := by rw [← Bool.not_inj_iff]; exact d3
          go_upto_region 35 with (fail)
          refine wp_region_list ?_
          refine load_hart (h := _) rfl (.tmp 1) rfl ga rfl (by repeat (with_reducible first | exact K_ga.out | apply Hb.put | apply Hb.putP | apply Hb.putV | apply Hb.putW | apply Hb.putH | apply Hb.far N_ga_gr.out | apply Hb.drewN | apply Hb.drew)) ?_
          refine store_hart rfl (.tmp 2) (.tmp 143) rfl gr _ rfl rfl Ht.zero (by repeat (with_reducible first | exact K_gr.out | apply Hb.put | apply Hb.putP | apply Hb.putV | apply Hb.putW | apply Hb.putH | apply Hb.far (Ne.symm N_ga_gr.out) | apply Hb.drewN | apply Hb.drew)) ?_
          go_wp2
          refine bodyPost_ret (results_cell_row rfl _ _ gr 25 _ (0, 0) _ rfl (Hb.putAll _ (by repeat (with_reducible first | exact K_gr.out | apply Hb.put | apply Hb.putP | apply Hb.putV | apply Hb.putW | apply Hb.putH | apply Hb.far (Ne.symm N_ga_gr.out) | apply Hb.drewN | apply Hb.drew))) Tryd.underlying25 rfl (by rw [Ht.size]; exact hartSize)) rfl ?_
          exact ⟨congrArg (fun q => Ending.returned (Value.agg q)) (Eq.trans (congrArg Ht.cs (show _ = rfixB h s false false from by unfold rfixB; first | (simp only [d5, if_true, if_false, Bool.false_eq_true]; done) | (simp only [d5, if_true, if_false, Bool.false_eq_true]; rfl))) (HE.out s false false HS.out (by unfold privOut; rw [d2, d3]; rfl) (by unfold privOut; rw [d2, d3]; cases h.v <;> rfl))), setCells_below G_gr.out _ _ _ (by repeat (first | (with_reducible first | exact hB_75.out | apply pw_below_drewN | apply below_drew1 | refine below_set ?_ G_ga.out | refine below_set ?_ G_gr.out) | exact hB_75.out))⟩
        · skip
          have d3b : (h.x 33 == 3) = true := by rw [← Bool.not_inj_iff]; exact d3
          go_upto_region 35 with (fail)
          refine wp_region_list ?_
          refine load_hart (h := _) rfl (.tmp 1) rfl ga rfl (by repeat (with_reducible first | exact K_ga.out | apply Hb.put | apply Hb.putP | apply Hb.putV | apply Hb.putW | apply Hb.putH | apply Hb.far N_ga_gr.out | apply Hb.drewN | apply Hb.drew)) ?_
          refine store_hart rfl (.tmp 2) (.tmp 143) rfl gr _ rfl rfl Ht.zero (by repeat (with_reducible first | exact K_gr.out | apply Hb.put | apply Hb.putP | apply Hb.putV | apply Hb.putW | apply Hb.putH | apply Hb.far (Ne.symm N_ga_gr.out) | apply Hb.drewN | apply Hb.drew)) ?_
          go_wp2
          refine bodyPost_ret (results_cell_row rfl _ _ gr 25 _ (0, 0) _ rfl (Hb.putAll _ (by repeat (with_reducible first | exact K_gr.out | apply Hb.put | apply Hb.putP | apply Hb.putV | apply Hb.putW | apply Hb.putH | apply Hb.far (Ne.symm N_ga_gr.out) | apply Hb.drewN | apply Hb.drew))) Tryd.underlying25 rfl (by rw [Ht.size]; exact hartSize)) rfl ?_
          exact ⟨congrArg (fun q => Ending.returned (Value.agg q)) (Eq.trans (congrArg Ht.cs (show _ = rfixB h s false false from by unfold rfixB; first | (simp only [d5, if_true, if_false, Bool.false_eq_true]; done) | (simp only [d5, if_true, if_false, Bool.false_eq_true]; rfl))) (HE.out s false false HS.out (by unfold privOut; rw [d2, d3]; rfl) (by unfold privOut; rw [d2, d3]; cases h.v <;> rfl))), setCells_below G_gr.out _ _ _ (by repeat (first | (with_reducible first | exact hB_75.out | apply pw_below_drewN | apply below_drew1 | refine below_set ?_ G_ga.out | refine below_set ?_ G_gr.out) | exact hB_75.out))⟩
      · skip
        cases d5 : h.hl
        · skip
          have d3b : (h.x 33 == 3) = false := by rw [← Bool.not_inj_iff]; exact d3
          go_upto_region 35 with (fail)
          refine wp_region_list ?_
          refine load_hart (h := _) rfl (.tmp 1) rfl ga rfl (by repeat (with_reducible first | exact K_ga.out | apply Hb.put | apply Hb.putP | apply Hb.putV | apply Hb.putW | apply Hb.putH | apply Hb.far N_ga_gr.out | apply Hb.drewN | apply Hb.drew)) ?_
          refine store_hart rfl (.tmp 2) (.tmp 143) rfl gr _ rfl rfl Ht.zero (by repeat (with_reducible first | exact K_gr.out | apply Hb.put | apply Hb.putP | apply Hb.putV | apply Hb.putW | apply Hb.putH | apply Hb.far (Ne.symm N_ga_gr.out) | apply Hb.drewN | apply Hb.drew)) ?_
          go_wp2
          refine bodyPost_ret (results_cell_row rfl _ _ gr 25 _ (0, 0) _ rfl (Hb.putAll _ (by repeat (with_reducible first | exact K_gr.out | apply Hb.put | apply Hb.putP | apply Hb.putV | apply Hb.putW | apply Hb.putH | apply Hb.far (Ne.symm N_ga_gr.out) | apply Hb.drewN | apply Hb.drew))) Tryd.underlying25 rfl (by rw [Ht.size]; exact hartSize)) rfl ?_
          exact ⟨congrArg (fun q => Ending.returned (Value.agg q)) (Eq.trans (congrArg Ht.cs (show _ = rfixB h s false h.v from by unfold rfixB; first | (simp only [d5, if_true, if_false, Bool.false_eq_true]; done) | (simp only [d5, if_true, if_false, Bool.false_eq_true]; rfl))) (HE.out s false h.v HS.out (by unfold privOut; rw [d2, d3]; rfl) (by unfold privOut; rw [d2, d3]; cases h.v <;> rfl))), setCells_below G_gr.out _ _ _ (by repeat (first | (with_reducible first | exact hB_75.out | apply pw_below_drewN | apply below_drew1 | refine below_set ?_ G_ga.out | refine below_set ?_ G_gr.out) | exact hB_75.out))⟩
        · skip
          have d3b : (h.x 33 == 3) = false := by rw [← Bool.not_inj_iff]; exact d3
          go_upto_region 35 with (fail)
          refine wp_region_list ?_
          refine load_hart (h := _) rfl (.tmp 1) rfl ga rfl (by repeat (with_reducible first | exact K_ga.out | apply Hb.put | apply Hb.putP | apply Hb.putV | apply Hb.putW | apply Hb.putH | apply Hb.far N_ga_gr.out | apply Hb.drewN | apply Hb.drew)) ?_
          refine store_hart rfl (.tmp 2) (.tmp 143) rfl gr _ rfl rfl Ht.zero (by repeat (with_reducible first | exact K_gr.out | apply Hb.put | apply Hb.putP | apply Hb.putV | apply Hb.putW | apply Hb.putH | apply Hb.far (Ne.symm N_ga_gr.out) | apply Hb.drewN | apply Hb.drew)) ?_
          go_wp2
          refine bodyPost_ret (results_cell_row rfl _ _ gr 25 _ (0, 0) _ rfl (Hb.putAll _ (by repeat (with_reducible first | exact K_gr.out | apply Hb.put | apply Hb.putP | apply Hb.putV | apply Hb.putW | apply Hb.putH | apply Hb.far (Ne.symm N_ga_gr.out) | apply Hb.drewN | apply Hb.drew))) Tryd.underlying25 rfl (by rw [Ht.size]; exact hartSize)) rfl ?_
          exact ⟨congrArg (fun q => Ending.returned (Value.agg q)) (Eq.trans (congrArg Ht.cs (show _ = rfixB h s false h.v from by unfold rfixB; first | (simp only [d5, if_true, if_false, Bool.false_eq_true]; done) | (simp only [d5, if_true, if_false, Bool.false_eq_true]; rfl))) (HE.out s false h.v HS.out (by unfold privOut; rw [d2, d3]; rfl) (by unfold privOut; rw [d2, d3]; cases h.v <;> rfl))), setCells_below G_gr.out _ _ _ (by repeat (first | (with_reducible first | exact hB_75.out | apply pw_below_drewN | apply below_drew1 | refine below_set ?_ G_ga.out | refine below_set ?_ G_gr.out) | exact hB_75.out))⟩
    · skip
      cases d3 : (h.x 33 != 3)
      · skip
        cases d5 : h.hl
        · skip
          have d3b : (h.x 33 == 3) = true := by rw [← Bool.not_inj_iff]; exact d3
          go_upto_region 35 with (fail)
          refine wp_region_list ?_
          refine load_hart (h := _) rfl (.tmp 1) rfl ga rfl (by repeat (with_reducible first | exact K_ga.out | apply Hb.put | apply Hb.putP | apply Hb.putV | apply Hb.putW | apply Hb.putH | apply Hb.far N_ga_gr.out | apply Hb.drewN | apply Hb.drew)) ?_
          refine store_hart rfl (.tmp 2) (.tmp 143) rfl gr _ rfl rfl Ht.zero (by repeat (with_reducible first | exact K_gr.out | apply Hb.put | apply Hb.putP | apply Hb.putV | apply Hb.putW | apply Hb.putH | apply Hb.far (Ne.symm N_ga_gr.out) | apply Hb.drewN | apply Hb.drew)) ?_
          go_wp2
          refine bodyPost_ret (results_cell_row rfl _ _ gr 25 _ (0, 0) _ rfl (Hb.putAll _ (by repeat (with_reducible first | exact K_gr.out | apply Hb.put | apply Hb.putP | apply Hb.putV | apply Hb.putW | apply Hb.putH | apply Hb.far (Ne.symm N_ga_gr.out) | apply Hb.drewN | apply Hb.drew))) Tryd.underlying25 rfl (by rw [Ht.size]; exact hartSize)) rfl ?_
          exact ⟨congrArg (fun q => Ending.returned (Value.agg q)) (Eq.trans (congrArg Ht.cs (show _ = rfixB h s false false from by unfold rfixB; first | (simp only [d5, if_true, if_false, Bool.false_eq_true]; done) | (simp only [d5, if_true, if_false, Bool.false_eq_true]; rfl))) (HE.out s false false HS.out (by unfold privOut; rw [d2, d3]; rfl) (by unfold privOut; rw [d2, d3]; cases h.v <;> rfl))), setCells_below G_gr.out _ _ _ (by repeat (first | (with_reducible first | exact hB_75.out | apply pw_below_drewN | apply below_drew1 | refine below_set ?_ G_ga.out | refine below_set ?_ G_gr.out) | exact hB_75.out))⟩
        · skip
          have d3b : (h.x 33 == 3) = true := by rw [← Bool.not_inj_iff]; exact d3
          go_upto_region 35 with (fail)
          refine wp_region_list ?_
          refine load_hart (h := _) rfl (.tmp 1) rfl ga rfl (by repeat (with_reducible first | exact K_ga.out | apply Hb.put | apply Hb.putP | apply Hb.putV | apply Hb.putW | apply Hb.putH | apply Hb.far N_ga_gr.out | apply Hb.drewN | apply Hb.drew)) ?_
          refine store_hart rfl (.tmp 2) (.tmp 143) rfl gr _ rfl rfl Ht.zero (by repeat (with_reducible first | exact K_gr.out | apply Hb.put | apply Hb.putP | apply Hb.putV | apply Hb.putW | apply Hb.putH | apply Hb.far (Ne.symm N_ga_gr.out) | apply Hb.drewN | apply Hb.drew)) ?_
          go_wp2
          refine bodyPost_ret (results_cell_row rfl _ _ gr 25 _ (0, 0) _ rfl (Hb.putAll _ (by repeat (with_reducible first | exact K_gr.out | apply Hb.put | apply Hb.putP | apply Hb.putV | apply Hb.putW | apply Hb.putH | apply Hb.far (Ne.symm N_ga_gr.out) | apply Hb.drewN | apply Hb.drew))) Tryd.underlying25 rfl (by rw [Ht.size]; exact hartSize)) rfl ?_
          exact ⟨congrArg (fun q => Ending.returned (Value.agg q)) (Eq.trans (congrArg Ht.cs (show _ = rfixB h s false false from by unfold rfixB; first | (simp only [d5, if_true, if_false, Bool.false_eq_true]; done) | (simp only [d5, if_true, if_false, Bool.false_eq_true]; rfl))) (HE.out s false false HS.out (by unfold privOut; rw [d2, d3]; rfl) (by unfold privOut; rw [d2, d3]; cases h.v <;> rfl))), setCells_below G_gr.out _ _ _ (by repeat (first | (with_reducible first | exact hB_75.out | apply pw_below_drewN | apply below_drew1 | refine below_set ?_ G_ga.out | refine below_set ?_ G_gr.out) | exact hB_75.out))⟩
      · skip
        cases d5 : h.hl
        · skip
          have d3b : (h.x 33 == 3) = false := by rw [← Bool.not_inj_iff]; exact d3
          go_upto_region 35 with (fail)
          refine wp_region_list ?_
          refine load_hart (h := _) rfl (.tmp 1) rfl ga rfl (by repeat (with_reducible first | exact K_ga.out | apply Hb.put | apply Hb.putP | apply Hb.putV | apply Hb.putW | apply Hb.putH | apply Hb.far N_ga_gr.out | apply Hb.drewN | apply Hb.drew)) ?_
          refine store_hart rfl (.tmp 2) (.tmp 143) rfl gr _ rfl rfl Ht.zero (by repeat (with_reducible first | exact K_gr.out | apply Hb.put | apply Hb.putP | apply Hb.putV | apply Hb.putW | apply Hb.putH | apply Hb.far (Ne.symm N_ga_gr.out) | apply Hb.drewN | apply Hb.drew)) ?_
          go_wp2
          refine bodyPost_ret (results_cell_row rfl _ _ gr 25 _ (0, 0) _ rfl (Hb.putAll _ (by repeat (with_reducible first | exact K_gr.out | apply Hb.put | apply Hb.putP | apply Hb.putV | apply Hb.putW | apply Hb.putH | apply Hb.far (Ne.symm N_ga_gr.out) | apply Hb.drewN | apply Hb.drew))) Tryd.underlying25 rfl (by rw [Ht.size]; exact hartSize)) rfl ?_
          exact ⟨congrArg (fun q => Ending.returned (Value.agg q)) (Eq.trans (congrArg Ht.cs (show _ = rfixB h s true h.v from by unfold rfixB; first | (simp only [d5, if_true, if_false, Bool.false_eq_true]; done) | (simp only [d5, if_true, if_false, Bool.false_eq_true]; rfl))) (HE.out s true h.v HS.out (by unfold privOut; rw [d2, d3]; rfl) (by unfold privOut; rw [d2, d3]; cases h.v <;> rfl))), setCells_below G_gr.out _ _ _ (by repeat (first | (with_reducible first | exact hB_75.out | apply pw_below_drewN | apply below_drew1 | refine below_set ?_ G_ga.out | refine below_set ?_ G_gr.out) | exact hB_75.out))⟩
        · skip
          have d3b : (h.x 33 == 3) = false := by rw [← Bool.not_inj_iff]; exact d3
          go_upto_region 35 with (fail)
          refine wp_region_list ?_
          refine load_hart (h := _) rfl (.tmp 1) rfl ga rfl (by repeat (with_reducible first | exact K_ga.out | apply Hb.put | apply Hb.putP | apply Hb.putV | apply Hb.putW | apply Hb.putH | apply Hb.far N_ga_gr.out | apply Hb.drewN | apply Hb.drew)) ?_
          refine store_hart rfl (.tmp 2) (.tmp 143) rfl gr _ rfl rfl Ht.zero (by repeat (with_reducible first | exact K_gr.out | apply Hb.put | apply Hb.putP | apply Hb.putV | apply Hb.putW | apply Hb.putH | apply Hb.far (Ne.symm N_ga_gr.out) | apply Hb.drewN | apply Hb.drew)) ?_
          go_wp2
          refine bodyPost_ret (results_cell_row rfl _ _ gr 25 _ (0, 0) _ rfl (Hb.putAll _ (by repeat (with_reducible first | exact K_gr.out | apply Hb.put | apply Hb.putP | apply Hb.putV | apply Hb.putW | apply Hb.putH | apply Hb.far (Ne.symm N_ga_gr.out) | apply Hb.drewN | apply Hb.drew))) Tryd.underlying25 rfl (by rw [Ht.size]; exact hartSize)) rfl ?_
          exact ⟨congrArg (fun q => Ending.returned (Value.agg q)) (Eq.trans (congrArg Ht.cs (show _ = rfixB h s true h.v from by unfold rfixB; first | (simp only [d5, if_true, if_false, Bool.false_eq_true]; done) | (simp only [d5, if_true, if_false, Bool.false_eq_true]; rfl))) (HE.out s true h.v HS.out (by unfold privOut; rw [d2, d3]; rfl) (by unfold privOut; rw [d2, d3]; cases h.v <;> rfl))), setCells_below G_gr.out _ _ _ (by repeat (first | (with_reducible first | exact hB_75.out | apply pw_below_drewN | apply below_drew1 | refine below_set ?_ G_ga.out | refine below_set ?_ G_gr.out) | exact hB_75.out))⟩
  · cases b11
    · skip
      obtain ⟨s, hsx⟩ : ∃ s, s = (Go.bits .andNot .u64 (Go.bits .or .u64 (Go.bits .and .u64 (h.x 38) 824641984938) 42949672960) 4096) := ⟨_, rfl⟩
      have hs2 := HS.out
      simp only [if_true, if_false, Bool.false_eq_true] at hs2
      have hs3 := hsx.trans hs2
      clear HS
      have HS := Lib.hid hs3; have HSX := Lib.hid hsx
      clear hs2 hs3 hsx
      have hu25 := Tryd.underlying25
      go_enter Tryd.func21, Tryd.ntmps21
      go_upto_region 2 with (first | ((with_reducible refine gate_dst (N := 1) rfl ?_); refine box_event ?hg (N := 1) ?hd (cs := h.cs) (t := 25) ?hr ?_; (case hd => rfl); (case hg => rfl); (case hr => first | (go_simp; done) | (go_simp; rfl)); intro ga hg w_1 H1 hb; have hB_2 := Lib.hid (below_step (Below.refl w.heap.size w) hb); have G_ga := Lib.hid (show w.heap.size ≤ ga by rw [hg]; exact ((Below.refl w.heap.size w)).size); have K_ga := Lib.hid (show Hb w_1 ga h from H1); clear hg hb H1) | ((with_reducible refine gate_dst (N := 2) rfl ?_); refine box_event ?hg (N := 2) ?hd (cs := Ht.zero.cs) (t := 25) ?hr ?_; (case hd => rfl); (case hg => rfl); (case hr => first | (go_simp; done) | (go_simp; rfl)); intro gr hg w_3 H1 hb; have hB_4 := Lib.hid (below_step hB_2.out hb); have G_gr := Lib.hid (show w.heap.size ≤ gr by rw [hg]; exact (hB_2.out).size); have N_ga_gr := Lib.hid (show ga ≠ gr by rw [hg]; exact Nat.ne_of_lt (K_ga.out.lt)); replace K_ga := Lib.hid (K_ga.out.below hb); have K_gr := Lib.hid (show Hb w_3 gr Ht.zero from H1); clear hg hb H1 hB_2; have c_ga_38 := K_ga.out.u 38 rfl; have f_ga_38 := K_ga.out.fr 38; clear hu25))
      refine world_code ga (by repeat (with_reducible first | exact K_ga.out | apply Hb.put | apply Hb.putP | apply Hb.putV | apply Hb.putW | apply Hb.putH | apply Hb.far N_ga_gr.out | apply Hb.drewN | apply Hb.drew)) (fun w' => Below w.heap.size w w' ∧ Hb w' gr Ht.zero) ⟨(by repeat (first | (with_reducible first | exact hB_4.out | apply pw_below_drewN | apply below_drew1 | refine below_set ?_ G_ga.out | refine below_set ?_ G_gr.out) | exact hB_4.out)), (by repeat (with_reducible first | exact K_gr.out | apply Hb.put | apply Hb.putP | apply Hb.putV | apply Hb.putW | apply Hb.putH | apply Hb.far (Ne.symm N_ga_gr.out) | apply Hb.drewN | apply Hb.drew))⟩ ?_
      clear c_ga_38 f_ga_38
      clear K_ga K_gr hB_4
      rintro w_5 q_ ⟨b_, q_gr⟩
      have K_ga := Lib.hid q_; have hB_6 := Lib.hid b_; have K_gr := Lib.hid q_gr
      clear q_ b_ q_gr
      have c_ga_38 := (show World.cell? _ ⟨ga, 38, none⟩ = some (.int .u64 (Go.bits .or .u64 (Go.bits .and .u64 (h.x 38) 824641984938) 42949672960)) from (K_ga.out.u 38 rfl).trans rfl); have f_ga_38 := K_ga.out.fr 38
      go_wp2_with fail
      refine (HB12.out _).mono ?_
      rintro e3 w3 ⟨rfl, n_, e3⟩
      clear c_ga_38 f_ga_38
      replace K_ga := Lib.hid (Hb.of e3.symm (K_ga.out.drewN n_))
      replace K_gr := Lib.hid (Hb.of e3.symm (K_gr.out.drewN n_))
      have hB_7 := Lib.hid (Below_of e3.symm (pw_below_drewN hB_6.out n_))
      clear e3 hB_6
      have c_ga_38 := (show World.cell? _ ⟨ga, 38, none⟩ = some (.int .u64 (Go.bits .or .u64 (Go.bits .and .u64 (h.x 38) 824641984938) 42949672960)) from (K_ga.out.u 38 rfl).trans rfl); have f_ga_38 := K_ga.out.fr 38
      go_wp2_with fail
      refine (HB11.out _).mono ?_
      rintro e4 w4 ⟨rfl, n_, e4⟩
      clear c_ga_38 f_ga_38
      replace K_ga := Lib.hid (Hb.of e4.symm (K_ga.out.drewN n_))
      replace K_gr := Lib.hid (Hb.of e4.symm (K_gr.out.drewN n_))
      have hB_8 := Lib.hid (Below_of e4.symm (pw_below_drewN hB_7.out n_))
      clear e4 hB_7
      have c_ga_38 := (show World.cell? _ ⟨ga, 38, none⟩ = some (.int .u64 (Go.bits .or .u64 (Go.bits .and .u64 (h.x 38) 824641984938) 42949672960)) from (K_ga.out.u 38 rfl).trans rfl); have f_ga_38 := K_ga.out.fr 38
      go_upto_region 4 with fail
      refine world_code ga (by repeat (with_reducible first | exact K_ga.out | apply Hb.put | apply Hb.putP | apply Hb.putV | apply Hb.putW | apply Hb.putH | apply Hb.far N_ga_gr.out | apply Hb.drewN | apply Hb.drew)) (fun w' => Below w.heap.size w w' ∧ Hb w' gr Ht.zero) ⟨(by repeat (first | (with_reducible first | exact hB_8.out | apply pw_below_drewN | apply below_drew1 | refine below_set ?_ G_ga.out | refine below_set ?_ G_gr.out) | exact hB_8.out)), (by repeat (with_reducible first | exact K_gr.out | apply Hb.put | apply Hb.putP | apply Hb.putV | apply Hb.putW | apply Hb.putH | apply Hb.far (Ne.symm N_ga_gr.out) | apply Hb.drewN | apply Hb.drew))⟩ ?_
      clear c_ga_38 f_ga_38
      clear K_ga K_gr hB_8
      rintro w_9 q_ ⟨b_, q_gr⟩
      have K_ga := Lib.hid q_; have hB_10 := Lib.hid b_; have K_gr := Lib.hid q_gr
      clear q_ b_ q_gr
      have c_ga_39 := (show World.cell? _ ⟨ga, 39, none⟩ = some (.int .u64 (h.x 39)) from (K_ga.out.u 39 rfl).trans rfl); have f_ga_39 := K_ga.out.fr 39
      go_upto_region 5 with fail
      refine world_code ga (by repeat (with_reducible first | exact K_ga.out | apply Hb.put | apply Hb.putP | apply Hb.putV | apply Hb.putW | apply Hb.putH | apply Hb.far N_ga_gr.out | apply Hb.drewN | apply Hb.drew)) (fun w' => Below w.heap.size w w' ∧ Hb w' gr Ht.zero) ⟨(by repeat (first | (with_reducible first | exact hB_10.out | apply pw_below_drewN | apply below_drew1 | refine below_set ?_ G_ga.out | refine below_set ?_ G_gr.out) | exact hB_10.out)), (by repeat (with_reducible first | exact K_gr.out | apply Hb.put | apply Hb.putP | apply Hb.putV | apply Hb.putW | apply Hb.putH | apply Hb.far (Ne.symm N_ga_gr.out) | apply Hb.drewN | apply Hb.drew))⟩ ?_
      clear c_ga_39 f_ga_39
      clear K_ga K_gr hB_10
      rintro w_11 q_ ⟨b_, q_gr⟩
      have K_ga := Lib.hid q_; have hB_12 := Lib.hid b_; have K_gr := Lib.hid q_gr
      clear q_ b_ q_gr
      have c_ga_40 := (show World.cell? _ ⟨ga, 40, none⟩ = some (.int .u64 (h.x 40)) from (K_ga.out.u 40 rfl).trans rfl); have f_ga_40 := K_ga.out.fr 40
      go_upto_region 6 with fail
      refine world_code ga (by repeat (with_reducible first | exact K_ga.out | apply Hb.put | apply Hb.putP | apply Hb.putV | apply Hb.putW | apply Hb.putH | apply Hb.far N_ga_gr.out | apply Hb.drewN | apply Hb.drew)) (fun w' => Below w.heap.size w w' ∧ Hb w' gr Ht.zero) ⟨(by repeat (first | (with_reducible first | exact hB_12.out | apply pw_below_drewN | apply below_drew1 | refine below_set ?_ G_ga.out | refine below_set ?_ G_gr.out) | exact hB_12.out)), (by repeat (with_reducible first | exact K_gr.out | apply Hb.put | apply Hb.putP | apply Hb.putV | apply Hb.putW | apply Hb.putH | apply Hb.far (Ne.symm N_ga_gr.out) | apply Hb.drewN | apply Hb.drew))⟩ ?_
      clear c_ga_40 f_ga_40
      clear K_ga K_gr hB_12
      rintro w_13 q_ ⟨b_, q_gr⟩
      have K_ga := Lib.hid q_; have hB_14 := Lib.hid b_; have K_gr := Lib.hid q_gr
      clear q_ b_ q_gr
      have c_ga_41 := (show World.cell? _ ⟨ga, 41, none⟩ = some (.int .u64 (h.x 41)) from (K_ga.out.u 41 rfl).trans rfl); have f_ga_41 := K_ga.out.fr 41
      go_upto_region 7 with fail
      refine world_code ga (by repeat (with_reducible first | exact K_ga.out | apply Hb.put | apply Hb.putP | apply Hb.putV | apply Hb.putW | apply Hb.putH | apply Hb.far N_ga_gr.out | apply Hb.drewN | apply Hb.drew)) (fun w' => Below w.heap.size w w' ∧ Hb w' gr Ht.zero) ⟨(by repeat (first | (with_reducible first | exact hB_14.out | apply pw_below_drewN | apply below_drew1 | refine below_set ?_ G_ga.out | refine below_set ?_ G_gr.out) | exact hB_14.out)), (by repeat (with_reducible first | exact K_gr.out | apply Hb.put | apply Hb.putP | apply Hb.putV | apply Hb.putW | apply Hb.putH | apply Hb.far (Ne.symm N_ga_gr.out) | apply Hb.drewN | apply Hb.drew))⟩ ?_
      clear c_ga_41 f_ga_41
      clear K_ga K_gr hB_14
      rintro w_15 q_ ⟨b_, q_gr⟩
      have K_ga := Lib.hid q_; have hB_16 := Lib.hid b_; have K_gr := Lib.hid q_gr
      clear q_ b_ q_gr
      have c_ga_42 := (show World.cell? _ ⟨ga, 42, none⟩ = some (.int .u64 (h.x 42)) from (K_ga.out.u 42 rfl).trans rfl); have f_ga_42 := K_ga.out.fr 42
      go_upto_region 8 with fail
      refine world_code ga (by repeat (with_reducible first | exact K_ga.out | apply Hb.put | apply Hb.putP | apply Hb.putV | apply Hb.putW | apply Hb.putH | apply Hb.far N_ga_gr.out | apply Hb.drewN | apply Hb.drew)) (fun w' => Below w.heap.size w w' ∧ Hb w' gr Ht.zero) ⟨(by repeat (first | (with_reducible first | exact hB_16.out | apply pw_below_drewN | apply below_drew1 | refine below_set ?_ G_ga.out | refine below_set ?_ G_gr.out) | exact hB_16.out)), (by repeat (with_reducible first | exact K_gr.out | apply Hb.put | apply Hb.putP | apply Hb.putV | apply Hb.putW | apply Hb.putH | apply Hb.far (Ne.symm N_ga_gr.out) | apply Hb.drewN | apply Hb.drew))⟩ ?_
      clear c_ga_42 f_ga_42
      clear K_ga K_gr hB_16
      rintro w_17 q_ ⟨b_, q_gr⟩
      have K_ga := Lib.hid q_; have hB_18 := Lib.hid b_; have K_gr := Lib.hid q_gr
      clear q_ b_ q_gr
      have c_ga_43 := (show World.cell? _ ⟨ga, 43, none⟩ = some (.int .u64 (h.x 43)) from (K_ga.out.u 43 rfl).trans rfl); have f_ga_43 := K_ga.out.fr 43
      go_upto_region 9 with fail
      refine world_code ga (by repeat (with_reducible first | exact K_ga.out | apply Hb.put | apply Hb.putP | apply Hb.putV | apply Hb.putW | apply Hb.putH | apply Hb.far N_ga_gr.out | apply Hb.drewN | apply Hb.drew)) (fun w' => Below w.heap.size w w' ∧ Hb w' gr Ht.zero) ⟨(by repeat (first | (with_reducible first | exact hB_18.out | apply pw_below_drewN | apply below_drew1 | refine below_set ?_ G_ga.out | refine below_set ?_ G_gr.out) | exact hB_18.out)), (by repeat (with_reducible first | exact K_gr.out | apply Hb.put | apply Hb.putP | apply Hb.putV | apply Hb.putW | apply Hb.putH | apply Hb.far (Ne.symm N_ga_gr.out) | apply Hb.drewN | apply Hb.drew))⟩ ?_
      clear c_ga_43 f_ga_43
      clear K_ga K_gr hB_18
      rintro w_19 q_ ⟨b_, q_gr⟩
      have K_ga := Lib.hid q_; have hB_20 := Lib.hid b_; have K_gr := Lib.hid q_gr
      clear q_ b_ q_gr
      have c_ga_44 := (show World.cell? _ ⟨ga, 44, none⟩ = some (.int .u64 (h.x 44)) from (K_ga.out.u 44 rfl).trans rfl); have f_ga_44 := K_ga.out.fr 44
      go_upto_region 10 with fail
      refine world_code ga (by repeat (with_reducible first | exact K_ga.out | apply Hb.put | apply Hb.putP | apply Hb.putV | apply Hb.putW | apply Hb.putH | apply Hb.far N_ga_gr.out | apply Hb.drewN | apply Hb.drew)) (fun w' => Below w.heap.size w w' ∧ Hb w' gr Ht.zero) ⟨(by repeat (first | (with_reducible first | exact hB_20.out | apply pw_below_drewN | apply below_drew1 | refine below_set ?_ G_ga.out | refine below_set ?_ G_gr.out) | exact hB_20.out)), (by repeat (with_reducible first | exact K_gr.out | apply Hb.put | apply Hb.putP | apply Hb.putV | apply Hb.putW | apply Hb.putH | apply Hb.far (Ne.symm N_ga_gr.out) | apply Hb.drewN | apply Hb.drew))⟩ ?_
      clear c_ga_44 f_ga_44
      clear K_ga K_gr hB_20
      rintro w_21 q_ ⟨b_, q_gr⟩
      have K_ga := Lib.hid q_; have hB_22 := Lib.hid b_; have K_gr := Lib.hid q_gr
      clear q_ b_ q_gr
      have c_ga_46 := (show World.cell? _ ⟨ga, 46, none⟩ = some (.int .u64 (h.x 46)) from (K_ga.out.u 46 rfl).trans rfl); have f_ga_46 := K_ga.out.fr 46
      go_upto_region 11 with fail
      refine world_code ga (by repeat (with_reducible first | exact K_ga.out | apply Hb.put | apply Hb.putP | apply Hb.putV | apply Hb.putW | apply Hb.putH | apply Hb.far N_ga_gr.out | apply Hb.drewN | apply Hb.drew)) (fun w' => Below w.heap.size w w' ∧ Hb w' gr Ht.zero) ⟨(by repeat (first | (with_reducible first | exact hB_22.out | apply pw_below_drewN | apply below_drew1 | refine below_set ?_ G_ga.out | refine below_set ?_ G_gr.out) | exact hB_22.out)), (by repeat (with_reducible first | exact K_gr.out | apply Hb.put | apply Hb.putP | apply Hb.putV | apply Hb.putW | apply Hb.putH | apply Hb.far (Ne.symm N_ga_gr.out) | apply Hb.drewN | apply Hb.drew))⟩ ?_
      clear c_ga_46 f_ga_46
      clear K_ga K_gr hB_22
      rintro w_23 q_ ⟨b_, q_gr⟩
      have K_ga := Lib.hid q_; have hB_24 := Lib.hid b_; have K_gr := Lib.hid q_gr
      clear q_ b_ q_gr
      have c_ga_51 := (show World.cell? _ ⟨ga, 51, none⟩ = some (.int .u64 (h.x 51)) from (K_ga.out.u 51 rfl).trans rfl); have f_ga_51 := K_ga.out.fr 51
      go_upto_region 12 with fail
      refine world_code ga (by repeat (with_reducible first | exact K_ga.out | apply Hb.put | apply Hb.putP | apply Hb.putV | apply Hb.putW | apply Hb.putH | apply Hb.far N_ga_gr.out | apply Hb.drewN | apply Hb.drew)) (fun w' => Below w.heap.size w w' ∧ Hb w' gr Ht.zero) ⟨(by repeat (first | (with_reducible first | exact hB_24.out | apply pw_below_drewN | apply below_drew1 | refine below_set ?_ G_ga.out | refine below_set ?_ G_gr.out) | exact hB_24.out)), (by repeat (with_reducible first | exact K_gr.out | apply Hb.put | apply Hb.putP | apply Hb.putV | apply Hb.putW | apply Hb.putH | apply Hb.far (Ne.symm N_ga_gr.out) | apply Hb.drewN | apply Hb.drew))⟩ ?_
      clear c_ga_51 f_ga_51
      clear K_ga K_gr hB_24
      rintro w_25 q_ ⟨b_, q_gr⟩
      have K_ga := Lib.hid q_; have hB_26 := Lib.hid b_; have K_gr := Lib.hid q_gr
      clear q_ b_ q_gr
      have c_ga_52 := (show World.cell? _ ⟨ga, 52, none⟩ = some (.int .u64 (h.x 52)) from (K_ga.out.u 52 rfl).trans rfl); have f_ga_52 := K_ga.out.fr 52
      go_upto_region 13 with fail
      refine world_code ga (by repeat (with_reducible first | exact K_ga.out | apply Hb.put | apply Hb.putP | apply Hb.putV | apply Hb.putW | apply Hb.putH | apply Hb.far N_ga_gr.out | apply Hb.drewN | apply Hb.drew)) (fun w' => Below w.heap.size w w' ∧ Hb w' gr Ht.zero) ⟨(by repeat (first | (with_reducible first | exact hB_26.out | apply pw_below_drewN | apply below_drew1 | refine below_set ?_ G_ga.out | refine below_set ?_ G_gr.out) | exact hB_26.out)), (by repeat (with_reducible first | exact K_gr.out | apply Hb.put | apply Hb.putP | apply Hb.putV | apply Hb.putW | apply Hb.putH | apply Hb.far (Ne.symm N_ga_gr.out) | apply Hb.drewN | apply Hb.drew))⟩ ?_
      clear c_ga_52 f_ga_52
      clear K_ga K_gr hB_26
      rintro w_27 q_ ⟨b_, q_gr⟩
      have K_ga := Lib.hid q_; have hB_28 := Lib.hid b_; have K_gr := Lib.hid q_gr
      clear q_ b_ q_gr
      have c_ga_54 := (show World.cell? _ ⟨ga, 54, none⟩ = some (.int .u64 (h.x 54)) from (K_ga.out.u 54 rfl).trans rfl); have f_ga_54 := K_ga.out.fr 54
      go_upto_region 14 with fail
      refine world_code ga (by repeat (with_reducible first | exact K_ga.out | apply Hb.put | apply Hb.putP | apply Hb.putV | apply Hb.putW | apply Hb.putH | apply Hb.far N_ga_gr.out | apply Hb.drewN | apply Hb.drew)) (fun w' => Below w.heap.size w w' ∧ Hb w' gr Ht.zero) ⟨(by repeat (first | (with_reducible first | exact hB_28.out | apply pw_below_drewN | apply below_drew1 | refine below_set ?_ G_ga.out | refine below_set ?_ G_gr.out) | exact hB_28.out)), (by repeat (with_reducible first | exact K_gr.out | apply Hb.put | apply Hb.putP | apply Hb.putV | apply Hb.putW | apply Hb.putH | apply Hb.far (Ne.symm N_ga_gr.out) | apply Hb.drewN | apply Hb.drew))⟩ ?_
      clear c_ga_54 f_ga_54
      clear K_ga K_gr hB_28
      rintro w_29 q_ ⟨b_, q_gr⟩
      have K_ga := Lib.hid q_; have hB_30 := Lib.hid b_; have K_gr := Lib.hid q_gr
      clear q_ b_ q_gr
      have c_ga_57 := (show World.cell? _ ⟨ga, 57, none⟩ = some (.int .u64 (h.x 57)) from (K_ga.out.u 57 rfl).trans rfl); have f_ga_57 := K_ga.out.fr 57
      refine start_ (n := 6) (S := fun w' => w'.cell? ⟨ga, 57, none⟩ = some (.int .u64 (h.x 57))) (ds := [5]) #[false, false, false, false, false, false] (by kernel_rfl) rfl rfl ((show World.cell? _ ⟨ga, 57, none⟩ = some (.int .u64 (h.x 57)) by first | (go_simp; done) | (go_simp; rfl))) (fun hHeld => ?_)
      have HH0 := Lib.hid hHeld
      clear hHeld
      refine world_any ga (by repeat (with_reducible first | exact K_ga.out | apply Hb.put | apply Hb.putP | apply Hb.putV | apply Hb.putW | apply Hb.putH | apply Hb.far N_ga_gr.out | apply Hb.drewN | apply Hb.drew)) (fun w' => Below w.heap.size w w' ∧ Hb w' gr Ht.zero ∧ (w'.cell? ⟨ga, 57, none⟩ = some (.int .u64 (h.x 57)))) ⟨(by repeat (first | (with_reducible first | exact hB_30.out | apply pw_below_drewN | apply below_drew1 | refine below_set ?_ G_ga.out | refine below_set ?_ G_gr.out) | exact hB_30.out)), (by repeat (with_reducible first | exact K_gr.out | apply Hb.put | apply Hb.putP | apply Hb.putV | apply Hb.putW | apply Hb.putH | apply Hb.far (Ne.symm N_ga_gr.out) | apply Hb.drewN | apply Hb.drew)), HH0.out⟩ ?_
      clear HH0
      clear c_ga_57 f_ga_57
      clear K_ga K_gr hB_30
      rintro w_31 q_ ⟨b_, q_gr, hHeld⟩
      have K_ga := Lib.hid q_; have hB_32 := Lib.hid b_; have K_gr := Lib.hid q_gr
      clear q_ b_ q_gr
      refine pure_ (i := 0) (N := some 62) (v := ?_) (a' := ?_) #[true, false, false, false, false, false] rfl rfl (by kernel_rfl) (fun _ _ _ h => h) (Or.inl ⟨by rfl, ?_⟩) ?_ ?_
      rotate_left
      · intro w'
        go_simp
        with_reducible rfl
      rotate_left
      · simp only [Act.put, List.setIfInBounds_toArray, List.set_cons_zero, List.set_cons_succ, i64_w, i32_w]
        rfl
      refine take_ (i := 1) (N := some 63) (v := ?_) (a' := ?_) #[true, true, false, false, false, false] rfl rfl (by kernel_rfl) (fun _ _ _ h => h) (Or.inl ⟨by rfl, ?_⟩) hHeld ?_ ?_
      rotate_left
      · intro w' s0
        go_simp
        with_reducible rfl
      rotate_left
      · simp only [Act.put, List.setIfInBounds_toArray, List.set_cons_zero, List.set_cons_succ, i64_w, i32_w]
        rfl
      have HH := Lib.hid hHeld
      clear hHeld
      refine one_ (i := 2) (N := some 64) #[true, true, true, false, false, false] rfl rfl (by kernel_rfl) (by decide) (fun K hK => ?_)
      refine goes_ Tryd.func36 (by kernel_rfl) rfl #[.int .u64 0] (by rfl) rfl rfl (by simp only [List.map_toArray, List.map_cons, List.map_nil]; rfl) ?_
      with_reducible refine (but_0 _).mono ?_
      rintro e_ w_ ⟨rfl, ⟨n_, rfl⟩⟩
      refine ⟨_, rfl, ?_⟩
      have q_ := Lib.hid (Hb.drewN n_ K_ga.out)
      have hB_34 := Lib.hid (pw_below_drewN hB_32.out n_)
      have q_gr := Lib.hid (Hb.drewN n_ K_gr.out)
      have s_0 := (cell_drewN n_ HH.out)
      clear HH K_ga K_gr hB_32
      generalize World.drewN w_31 n_ = w_33 at q_ hB_34 q_gr s_0 ⊢
      have K_ga := q_; clear q_
      have K_gr := q_gr; clear q_gr
      refine hK.out _ _ (s_0) (fun hHeld => ?_)
      have HH := Lib.hid hHeld
      clear hHeld s_0
      clear hK K
      refine norm_ (a' := ?_) ?_ ?_
      rotate_left
      · show Act.put _ (some 64) _ = _
        simp only [Act.put, List.setIfInBounds_toArray, List.set_cons_zero, List.set_cons_succ, i64_w, i32_w]
        rfl
      refine one_ (i := 3) (N := some 65) #[true, true, true, true, false, false] rfl rfl (by kernel_rfl) (by decide) (fun K hK => ?_)
      refine goes_ Tryd.func38 (by kernel_rfl) rfl #[.int .u64 (h.x 57), .int .u64 18446744073709551615] (by rfl) rfl rfl (by simp only [List.map_toArray, List.map_cons, List.map_nil]; rfl) ?_
      with_reducible refine (table_c (h.x 57) 18446744073709551615 _).mono ?_
      rintro e_ w_ ⟨rfl, ⟨n_, rfl⟩⟩
      refine ⟨_, rfl, ?_⟩
      have q_ := Lib.hid (Hb.drewN n_ K_ga.out)
      have hB_36 := Lib.hid (pw_below_drewN hB_34.out n_)
      have q_gr := Lib.hid (Hb.drewN n_ K_gr.out)
      have s_0 := (cell_drewN n_ HH.out)
      clear HH K_ga K_gr hB_34
      generalize World.drewN w_33 n_ = w_35 at q_ hB_36 q_gr s_0 ⊢
      have K_ga := q_; clear q_
      have K_gr := q_gr; clear q_gr
      refine hK.out _ _ (s_0) (fun hHeld => ?_)
      have HH := Lib.hid hHeld
      clear hHeld s_0
      clear hK K
      refine norm_ (a' := ?_) ?_ ?_
      rotate_left
      · show Act.put _ (some 65) _ = _
        simp only [Act.put, List.setIfInBounds_toArray, List.set_cons_zero, List.set_cons_succ, i64_w, i32_w]
        rfl
      refine pure_ (i := 4) (N := some 66) (v := ?_) (a' := ?_) #[true, true, true, true, true, false] rfl rfl (by kernel_rfl) (fun _ _ _ h => h) (Or.inl ⟨by rfl, ?_⟩) ?_ ?_
      rotate_left
      · intro w'
        go_simp
        with_reducible rfl
      rotate_left
      · simp only [Act.put, List.setIfInBounds_toArray, List.set_cons_zero, List.set_cons_succ, i64_w, i32_w]
        rfl
      refine last_ (i := 5) (N := none) #[true, true, true, true, true, true] rfl rfl (by kernel_rfl) (by decide) (fun K hK => ?_)
      refine skipH (h := _) (v := .int .u64 (tblR (h.x 57) 18446744073709551615)) (by rfl) rfl rfl rfl rfl (by kernel_rfl) rfl rfl K_ga.out (by decide) ?_
      have q_ := Lib.hid (Hb.put 57 ((tblR (h.x 57) 18446744073709551615)) K_ga.out)
      have hB_38 := Lib.hid (below_set (j := 57) (v := (.int .u64 (tblR (h.x 57) 18446744073709551615))) hB_36.out G_ga.out)
      have q_gr := Lib.hid (Hb.far (j := 57) (u := (.int .u64 (tblR (h.x 57) 18446744073709551615))) (Ne.symm N_ga_gr.out) K_gr.out)
      clear HH K_ga K_gr hB_36
      generalize World.setCell w_35 ⟨ga, 57, none⟩ (.int .u64 (tblR (h.x 57) 18446744073709551615)) = w_37 at q_ hB_38 q_gr ⊢
      have K_ga := q_; clear q_
      have K_gr := q_gr; clear q_gr
      refine hK.out _ _ ?_
      clear hK K
      refine done_ (by kernel_rfl) ?_
      try clear HH
      go_upto_region 15 with fail
      have c_ga_58 := (show World.cell? _ ⟨ga, 58, none⟩ = some (.int .u64 (h.x 58)) from (K_ga.out.u 58 rfl).trans rfl); have f_ga_58 := K_ga.out.fr 58
      go_upto_region 16 with fail
      refine world_code ga (by repeat (with_reducible first | exact K_ga.out | apply Hb.put | apply Hb.putP | apply Hb.putV | apply Hb.putW | apply Hb.putH | apply Hb.far N_ga_gr.out | apply Hb.drewN | apply Hb.drew)) (fun w' => Below w.heap.size w w' ∧ Hb w' gr Ht.zero) ⟨(by repeat (first | (with_reducible first | exact hB_38.out | apply pw_below_drewN | apply below_drew1 | refine below_set ?_ G_ga.out | refine below_set ?_ G_gr.out) | exact hB_38.out)), (by repeat (with_reducible first | exact K_gr.out | apply Hb.put | apply Hb.putP | apply Hb.putV | apply Hb.putW | apply Hb.putH | apply Hb.far (Ne.symm N_ga_gr.out) | apply Hb.drewN | apply Hb.drew))⟩ ?_
      clear c_ga_58 f_ga_58
      clear K_ga K_gr hB_38
      rintro w_39 q_ ⟨b_, q_gr⟩
      have K_ga := Lib.hid q_; have hB_40 := Lib.hid b_; have K_gr := Lib.hid q_gr
      clear q_ b_ q_gr
      have c_ga_59 := (show World.cell? _ ⟨ga, 59, none⟩ = some (.int .u64 (h.x 59)) from (K_ga.out.u 59 rfl).trans rfl); have f_ga_59 := K_ga.out.fr 59
      go_upto_region 17 with fail
      refine world_code ga (by repeat (with_reducible first | exact K_ga.out | apply Hb.put | apply Hb.putP | apply Hb.putV | apply Hb.putW | apply Hb.putH | apply Hb.far N_ga_gr.out | apply Hb.drewN | apply Hb.drew)) (fun w' => Below w.heap.size w w' ∧ Hb w' gr Ht.zero) ⟨(by repeat (first | (with_reducible first | exact hB_40.out | apply pw_below_drewN | apply below_drew1 | refine below_set ?_ G_ga.out | refine below_set ?_ G_gr.out) | exact hB_40.out)), (by repeat (with_reducible first | exact K_gr.out | apply Hb.put | apply Hb.putP | apply Hb.putV | apply Hb.putW | apply Hb.putH | apply Hb.far (Ne.symm N_ga_gr.out) | apply Hb.drewN | apply Hb.drew))⟩ ?_
      clear c_ga_59 f_ga_59
      clear K_ga K_gr hB_40
      rintro w_41 q_ ⟨b_, q_gr⟩
      have K_ga := Lib.hid q_; have hB_42 := Lib.hid b_; have K_gr := Lib.hid q_gr
      clear q_ b_ q_gr
      have c_ga_60 := (show World.cell? _ ⟨ga, 60, none⟩ = some (.int .u64 (h.x 60)) from (K_ga.out.u 60 rfl).trans rfl); have f_ga_60 := K_ga.out.fr 60
      go_upto_region 18 with fail
      refine world_code ga (by repeat (with_reducible first | exact K_ga.out | apply Hb.put | apply Hb.putP | apply Hb.putV | apply Hb.putW | apply Hb.putH | apply Hb.far N_ga_gr.out | apply Hb.drewN | apply Hb.drew)) (fun w' => Below w.heap.size w w' ∧ Hb w' gr Ht.zero) ⟨(by repeat (first | (with_reducible first | exact hB_42.out | apply pw_below_drewN | apply below_drew1 | refine below_set ?_ G_ga.out | refine below_set ?_ G_gr.out) | exact hB_42.out)), (by repeat (with_reducible first | exact K_gr.out | apply Hb.put | apply Hb.putP | apply Hb.putV | apply Hb.putW | apply Hb.putH | apply Hb.far (Ne.symm N_ga_gr.out) | apply Hb.drewN | apply Hb.drew))⟩ ?_
      clear c_ga_60 f_ga_60
      clear K_ga K_gr hB_42
      rintro w_43 q_ ⟨b_, q_gr⟩
      have K_ga := Lib.hid q_; have hB_44 := Lib.hid b_; have K_gr := Lib.hid q_gr
      clear q_ b_ q_gr
      have c_ga_61 := (show World.cell? _ ⟨ga, 61, none⟩ = some (.int .u64 (h.x 61)) from (K_ga.out.u 61 rfl).trans rfl); have f_ga_61 := K_ga.out.fr 61
      go_upto_region 19 with fail
      refine world_code ga (by repeat (with_reducible first | exact K_ga.out | apply Hb.put | apply Hb.putP | apply Hb.putV | apply Hb.putW | apply Hb.putH | apply Hb.far N_ga_gr.out | apply Hb.drewN | apply Hb.drew)) (fun w' => Below w.heap.size w w' ∧ Hb w' gr Ht.zero) ⟨(by repeat (first | (with_reducible first | exact hB_44.out | apply pw_below_drewN | apply below_drew1 | refine below_set ?_ G_ga.out | refine below_set ?_ G_gr.out) | exact hB_44.out)), (by repeat (with_reducible first | exact K_gr.out | apply Hb.put | apply Hb.putP | apply Hb.putV | apply Hb.putW | apply Hb.putH | apply Hb.far (Ne.symm N_ga_gr.out) | apply Hb.drewN | apply Hb.drew))⟩ ?_
      clear c_ga_61 f_ga_61
      clear K_ga K_gr hB_44
      rintro w_45 q_ ⟨b_, q_gr⟩
      have K_ga := Lib.hid q_; have hB_46 := Lib.hid b_; have K_gr := Lib.hid q_gr
      clear q_ b_ q_gr
      have c_ga_62 := (show World.cell? _ ⟨ga, 62, none⟩ = some (.int .u64 (h.x 62)) from (K_ga.out.u 62 rfl).trans rfl); have f_ga_62 := K_ga.out.fr 62
      go_upto_region 20 with fail
      refine world_code ga (by repeat (with_reducible first | exact K_ga.out | apply Hb.put | apply Hb.putP | apply Hb.putV | apply Hb.putW | apply Hb.putH | apply Hb.far N_ga_gr.out | apply Hb.drewN | apply Hb.drew)) (fun w' => Below w.heap.size w w' ∧ Hb w' gr Ht.zero) ⟨(by repeat (first | (with_reducible first | exact hB_46.out | apply pw_below_drewN | apply below_drew1 | refine below_set ?_ G_ga.out | refine below_set ?_ G_gr.out) | exact hB_46.out)), (by repeat (with_reducible first | exact K_gr.out | apply Hb.put | apply Hb.putP | apply Hb.putV | apply Hb.putW | apply Hb.putH | apply Hb.far (Ne.symm N_ga_gr.out) | apply Hb.drewN | apply Hb.drew))⟩ ?_
      clear c_ga_62 f_ga_62
      clear K_ga K_gr hB_46
      rintro w_47 q_ ⟨b_, q_gr⟩
      have K_ga := Lib.hid q_; have hB_48 := Lib.hid b_; have K_gr := Lib.hid q_gr
      clear q_ b_ q_gr
      have c_ga_63 := (show World.cell? _ ⟨ga, 63, none⟩ = some (.int .u64 (h.x 63)) from (K_ga.out.u 63 rfl).trans rfl); have f_ga_63 := K_ga.out.fr 63
      go_upto_region 21 with fail
      refine world_code ga (by repeat (with_reducible first | exact K_ga.out | apply Hb.put | apply Hb.putP | apply Hb.putV | apply Hb.putW | apply Hb.putH | apply Hb.far N_ga_gr.out | apply Hb.drewN | apply Hb.drew)) (fun w' => Below w.heap.size w w' ∧ Hb w' gr Ht.zero) ⟨(by repeat (first | (with_reducible first | exact hB_48.out | apply pw_below_drewN | apply below_drew1 | refine below_set ?_ G_ga.out | refine below_set ?_ G_gr.out) | exact hB_48.out)), (by repeat (with_reducible first | exact K_gr.out | apply Hb.put | apply Hb.putP | apply Hb.putV | apply Hb.putW | apply Hb.putH | apply Hb.far (Ne.symm N_ga_gr.out) | apply Hb.drewN | apply Hb.drew))⟩ ?_
      clear c_ga_63 f_ga_63
      clear K_ga K_gr hB_48
      rintro w_49 q_ ⟨b_, q_gr⟩
      have K_ga := Lib.hid q_; have hB_50 := Lib.hid b_; have K_gr := Lib.hid q_gr
      clear q_ b_ q_gr
      have c_ga_66 := (show World.cell? _ ⟨ga, 66, none⟩ = some (.int .u64 (h.x 66)) from (K_ga.out.u 66 rfl).trans rfl); have f_ga_66 := K_ga.out.fr 66
      refine start_ (n := 6) (S := fun w' => w'.cell? ⟨ga, 66, none⟩ = some (.int .u64 (h.x 66))) (ds := [5]) #[false, false, false, false, false, false] (by kernel_rfl) rfl rfl ((show World.cell? _ ⟨ga, 66, none⟩ = some (.int .u64 (h.x 66)) by first | (go_simp; done) | (go_simp; rfl))) (fun hHeld => ?_)
      have HH0 := Lib.hid hHeld
      clear hHeld
      refine world_any ga (by repeat (with_reducible first | exact K_ga.out | apply Hb.put | apply Hb.putP | apply Hb.putV | apply Hb.putW | apply Hb.putH | apply Hb.far N_ga_gr.out | apply Hb.drewN | apply Hb.drew)) (fun w' => Below w.heap.size w w' ∧ Hb w' gr Ht.zero ∧ (w'.cell? ⟨ga, 66, none⟩ = some (.int .u64 (h.x 66)))) ⟨(by repeat (first | (with_reducible first | exact hB_50.out | apply pw_below_drewN | apply below_drew1 | refine below_set ?_ G_ga.out | refine below_set ?_ G_gr.out) | exact hB_50.out)), (by repeat (with_reducible first | exact K_gr.out | apply Hb.put | apply Hb.putP | apply Hb.putV | apply Hb.putW | apply Hb.putH | apply Hb.far (Ne.symm N_ga_gr.out) | apply Hb.drewN | apply Hb.drew)), HH0.out⟩ ?_
      clear HH0
      clear c_ga_66 f_ga_66
      clear K_ga K_gr hB_50
      rintro w_51 q_ ⟨b_, q_gr, hHeld⟩
      have K_ga := Lib.hid q_; have hB_52 := Lib.hid b_; have K_gr := Lib.hid q_gr
      clear q_ b_ q_gr
      refine pure_ (i := 0) (N := some 92) (v := ?_) (a' := ?_) #[true, false, false, false, false, false] rfl rfl (by kernel_rfl) (fun _ _ _ h => h) (Or.inl ⟨by rfl, ?_⟩) ?_ ?_
      rotate_left
      · intro w'
        go_simp
        with_reducible rfl
      rotate_left
      · simp only [Act.put, List.setIfInBounds_toArray, List.set_cons_zero, List.set_cons_succ, i64_w, i32_w]
        rfl
      refine take_ (i := 1) (N := some 93) (v := ?_) (a' := ?_) #[true, true, false, false, false, false] rfl rfl (by kernel_rfl) (fun _ _ _ h => h) (Or.inl ⟨by rfl, ?_⟩) hHeld ?_ ?_
      rotate_left
      · intro w' s0
        go_simp
        with_reducible rfl
      rotate_left
      · simp only [Act.put, List.setIfInBounds_toArray, List.set_cons_zero, List.set_cons_succ, i64_w, i32_w]
        rfl
      have HH := Lib.hid hHeld
      clear hHeld
      refine one_ (i := 2) (N := some 94) #[true, true, true, false, false, false] rfl rfl (by kernel_rfl) (by decide) (fun K hK => ?_)
      refine goes_ Tryd.func36 (by kernel_rfl) rfl #[.int .u64 864691128455135235] (by rfl) rfl rfl (by simp only [List.map_toArray, List.map_cons, List.map_nil]; rfl) ?_
      with_reducible refine (but_v _).mono ?_
      rintro e_ w_ ⟨rfl, ⟨n_, rfl⟩⟩
      refine ⟨_, rfl, ?_⟩
      have q_ := Lib.hid (Hb.drewN n_ K_ga.out)
      have hB_54 := Lib.hid (pw_below_drewN hB_52.out n_)
      have q_gr := Lib.hid (Hb.drewN n_ K_gr.out)
      have s_0 := (cell_drewN n_ HH.out)
      clear HH K_ga K_gr hB_52
      generalize World.drewN w_51 n_ = w_53 at q_ hB_54 q_gr s_0 ⊢
      have K_ga := q_; clear q_
      have K_gr := q_gr; clear q_gr
      refine hK.out _ _ (s_0) (fun hHeld => ?_)
      have HH := Lib.hid hHeld
      clear hHeld s_0
      clear hK K
      refine norm_ (a' := ?_) ?_ ?_
      rotate_left
      · show Act.put _ (some 94) _ = _
        simp only [Act.put, List.setIfInBounds_toArray, List.set_cons_zero, List.set_cons_succ, i64_w, i32_w]
        rfl
      refine one_ (i := 3) (N := some 95) #[true, true, true, true, false, false] rfl rfl (by kernel_rfl) (by decide) (fun K hK => ?_)
      refine goes_ Tryd.func38 (by kernel_rfl) rfl #[.int .u64 (h.x 66), .int .u64 17582052945254416380] (by rfl) rfl rfl (by simp only [List.map_toArray, List.map_cons, List.map_nil]; rfl) ?_
      with_reducible refine (table_c (h.x 66) 17582052945254416380 _).mono ?_
      rintro e_ w_ ⟨rfl, ⟨n_, rfl⟩⟩
      refine ⟨_, rfl, ?_⟩
      have q_ := Lib.hid (Hb.drewN n_ K_ga.out)
      have hB_56 := Lib.hid (pw_below_drewN hB_54.out n_)
      have q_gr := Lib.hid (Hb.drewN n_ K_gr.out)
      have s_0 := (cell_drewN n_ HH.out)
      clear HH K_ga K_gr hB_54
      generalize World.drewN w_53 n_ = w_55 at q_ hB_56 q_gr s_0 ⊢
      have K_ga := q_; clear q_
      have K_gr := q_gr; clear q_gr
      refine hK.out _ _ (s_0) (fun hHeld => ?_)
      have HH := Lib.hid hHeld
      clear hHeld s_0
      clear hK K
      refine norm_ (a' := ?_) ?_ ?_
      rotate_left
      · show Act.put _ (some 95) _ = _
        simp only [Act.put, List.setIfInBounds_toArray, List.set_cons_zero, List.set_cons_succ, i64_w, i32_w]
        rfl
      refine pure_ (i := 4) (N := some 96) (v := ?_) (a' := ?_) #[true, true, true, true, true, false] rfl rfl (by kernel_rfl) (fun _ _ _ h => h) (Or.inl ⟨by rfl, ?_⟩) ?_ ?_
      rotate_left
      · intro w'
        go_simp
        with_reducible rfl
      rotate_left
      · simp only [Act.put, List.setIfInBounds_toArray, List.set_cons_zero, List.set_cons_succ, i64_w, i32_w]
        rfl
      refine last_ (i := 5) (N := none) #[true, true, true, true, true, true] rfl rfl (by kernel_rfl) (by decide) (fun K hK => ?_)
      refine skipH (h := _) (v := .int .u64 (tblR (h.x 66) 17582052945254416380)) (by rfl) rfl rfl rfl rfl (by kernel_rfl) rfl rfl K_ga.out (by decide) ?_
      have q_ := Lib.hid (Hb.put 66 ((tblR (h.x 66) 17582052945254416380)) K_ga.out)
      have hB_58 := Lib.hid (below_set (j := 66) (v := (.int .u64 (tblR (h.x 66) 17582052945254416380))) hB_56.out G_ga.out)
      have q_gr := Lib.hid (Hb.far (j := 66) (u := (.int .u64 (tblR (h.x 66) 17582052945254416380))) (Ne.symm N_ga_gr.out) K_gr.out)
      clear HH K_ga K_gr hB_56
      generalize World.setCell w_55 ⟨ga, 66, none⟩ (.int .u64 (tblR (h.x 66) 17582052945254416380)) = w_57 at q_ hB_58 q_gr ⊢
      have K_ga := q_; clear q_
      have K_gr := q_gr; clear q_gr
      refine hK.out _ _ ?_
      clear hK K
      refine done_ (by kernel_rfl) ?_
      try clear HH
      go_upto_region 22 with fail
      have c_ga_68 := (show World.cell? _ ⟨ga, 68, none⟩ = some (.int .u64 (h.x 68)) from (K_ga.out.u 68 rfl).trans rfl); have f_ga_68 := K_ga.out.fr 68
      go_upto_region 23 with fail
      refine world_code ga (by repeat (with_reducible first | exact K_ga.out | apply Hb.put | apply Hb.putP | apply Hb.putV | apply Hb.putW | apply Hb.putH | apply Hb.far N_ga_gr.out | apply Hb.drewN | apply Hb.drew)) (fun w' => Below w.heap.size w w' ∧ Hb w' gr Ht.zero) ⟨(by repeat (first | (with_reducible first | exact hB_58.out | apply pw_below_drewN | apply below_drew1 | refine below_set ?_ G_ga.out | refine below_set ?_ G_gr.out) | exact hB_58.out)), (by repeat (with_reducible first | exact K_gr.out | apply Hb.put | apply Hb.putP | apply Hb.putV | apply Hb.putW | apply Hb.putH | apply Hb.far (Ne.symm N_ga_gr.out) | apply Hb.drewN | apply Hb.drew))⟩ ?_
      clear c_ga_68 f_ga_68
      clear K_ga K_gr hB_58
      rintro w_59 q_ ⟨b_, q_gr⟩
      have K_ga := Lib.hid q_; have hB_60 := Lib.hid b_; have K_gr := Lib.hid q_gr
      clear q_ b_ q_gr
      have c_ga_69 := (show World.cell? _ ⟨ga, 69, none⟩ = some (.int .u64 (h.x 69)) from (K_ga.out.u 69 rfl).trans rfl); have f_ga_69 := K_ga.out.fr 69
      go_upto_region 24 with fail
      refine world_code ga (by repeat (with_reducible first | exact K_ga.out | apply Hb.put | apply Hb.putP | apply Hb.putV | apply Hb.putW | apply Hb.putH | apply Hb.far N_ga_gr.out | apply Hb.drewN | apply Hb.drew)) (fun w' => Below w.heap.size w w' ∧ Hb w' gr Ht.zero) ⟨(by repeat (first | (with_reducible first | exact hB_60.out | apply pw_below_drewN | apply below_drew1 | refine below_set ?_ G_ga.out | refine below_set ?_ G_gr.out) | exact hB_60.out)), (by repeat (with_reducible first | exact K_gr.out | apply Hb.put | apply Hb.putP | apply Hb.putV | apply Hb.putW | apply Hb.putH | apply Hb.far (Ne.symm N_ga_gr.out) | apply Hb.drewN | apply Hb.drew))⟩ ?_
      clear c_ga_69 f_ga_69
      clear K_ga K_gr hB_60
      rintro w_61 q_ ⟨b_, q_gr⟩
      have K_ga := Lib.hid q_; have hB_62 := Lib.hid b_; have K_gr := Lib.hid q_gr
      clear q_ b_ q_gr
      have c_ga_71 := (show World.cell? _ ⟨ga, 71, none⟩ = some (.int .u64 (h.x 71)) from (K_ga.out.u 71 rfl).trans rfl); have f_ga_71 := K_ga.out.fr 71
      go_upto_region 25 with fail
      refine world_code ga (by repeat (with_reducible first | exact K_ga.out | apply Hb.put | apply Hb.putP | apply Hb.putV | apply Hb.putW | apply Hb.putH | apply Hb.far N_ga_gr.out | apply Hb.drewN | apply Hb.drew)) (fun w' => Below w.heap.size w w' ∧ Hb w' gr Ht.zero) ⟨(by repeat (first | (with_reducible first | exact hB_62.out | apply pw_below_drewN | apply below_drew1 | refine below_set ?_ G_ga.out | refine below_set ?_ G_gr.out) | exact hB_62.out)), (by repeat (with_reducible first | exact K_gr.out | apply Hb.put | apply Hb.putP | apply Hb.putV | apply Hb.putW | apply Hb.putH | apply Hb.far (Ne.symm N_ga_gr.out) | apply Hb.drewN | apply Hb.drew))⟩ ?_
      clear c_ga_71 f_ga_71
      clear K_ga K_gr hB_62
      rintro w_63 q_ ⟨b_, q_gr⟩
      have K_ga := Lib.hid q_; have hB_64 := Lib.hid b_; have K_gr := Lib.hid q_gr
      clear q_ b_ q_gr
      have c_ga_74 := (show World.cell? _ ⟨ga, 74, none⟩ = some (.int .u64 (h.x 74)) from (K_ga.out.u 74 rfl).trans rfl); have f_ga_74 := K_ga.out.fr 74
      refine start_ (n := 6) (S := fun w' => w'.cell? ⟨ga, 74, none⟩ = some (.int .u64 (h.x 74))) (ds := [5]) #[false, false, false, false, false, false] (by kernel_rfl) rfl rfl ((show World.cell? _ ⟨ga, 74, none⟩ = some (.int .u64 (h.x 74)) by first | (go_simp; done) | (go_simp; rfl))) (fun hHeld => ?_)
      have HH0 := Lib.hid hHeld
      clear hHeld
      refine world_any ga (by repeat (with_reducible first | exact K_ga.out | apply Hb.put | apply Hb.putP | apply Hb.putV | apply Hb.putW | apply Hb.putH | apply Hb.far N_ga_gr.out | apply Hb.drewN | apply Hb.drew)) (fun w' => Below w.heap.size w w' ∧ Hb w' gr Ht.zero ∧ (w'.cell? ⟨ga, 74, none⟩ = some (.int .u64 (h.x 74)))) ⟨(by repeat (first | (with_reducible first | exact hB_64.out | apply pw_below_drewN | apply below_drew1 | refine below_set ?_ G_ga.out | refine below_set ?_ G_gr.out) | exact hB_64.out)), (by repeat (with_reducible first | exact K_gr.out | apply Hb.put | apply Hb.putP | apply Hb.putV | apply Hb.putW | apply Hb.putH | apply Hb.far (Ne.symm N_ga_gr.out) | apply Hb.drewN | apply Hb.drew)), HH0.out⟩ ?_
      clear HH0
      clear c_ga_74 f_ga_74
      clear K_ga K_gr hB_64
      rintro w_65 q_ ⟨b_, q_gr, hHeld⟩
      have K_ga := Lib.hid q_; have hB_66 := Lib.hid b_; have K_gr := Lib.hid q_gr
      clear q_ b_ q_gr
      refine pure_ (i := 0) (N := some 110) (v := ?_) (a' := ?_) #[true, false, false, false, false, false] rfl rfl (by kernel_rfl) (fun _ _ _ h => h) (Or.inl ⟨by rfl, ?_⟩) ?_ ?_
      rotate_left
      · intro w'
        go_simp
        with_reducible rfl
      rotate_left
      · simp only [Act.put, List.setIfInBounds_toArray, List.set_cons_zero, List.set_cons_succ, i64_w, i32_w]
        rfl
      refine take_ (i := 1) (N := some 111) (v := ?_) (a' := ?_) #[true, true, false, false, false, false] rfl rfl (by kernel_rfl) (fun _ _ _ h => h) (Or.inl ⟨by rfl, ?_⟩) hHeld ?_ ?_
      rotate_left
      · intro w' s0
        go_simp
        with_reducible rfl
      rotate_left
      · simp only [Act.put, List.setIfInBounds_toArray, List.set_cons_zero, List.set_cons_succ, i64_w, i32_w]
        rfl
      have HH := Lib.hid hHeld
      clear hHeld
      refine one_ (i := 2) (N := some 112) #[true, true, true, false, false, false] rfl rfl (by kernel_rfl) (by decide) (fun K hK => ?_)
      refine goes_ Tryd.func36 (by kernel_rfl) rfl #[.int .u64 0] (by rfl) rfl rfl (by simp only [List.map_toArray, List.map_cons, List.map_nil]; rfl) ?_
      with_reducible refine (but_0 _).mono ?_
      rintro e_ w_ ⟨rfl, ⟨n_, rfl⟩⟩
      refine ⟨_, rfl, ?_⟩
      have q_ := Lib.hid (Hb.drewN n_ K_ga.out)
      have hB_68 := Lib.hid (pw_below_drewN hB_66.out n_)
      have q_gr := Lib.hid (Hb.drewN n_ K_gr.out)
      have s_0 := (cell_drewN n_ HH.out)
      clear HH K_ga K_gr hB_66
      generalize World.drewN w_65 n_ = w_67 at q_ hB_68 q_gr s_0 ⊢
      have K_ga := q_; clear q_
      have K_gr := q_gr; clear q_gr
      refine hK.out _ _ (s_0) (fun hHeld => ?_)
      have HH := Lib.hid hHeld
      clear hHeld s_0
      clear hK K
      refine norm_ (a' := ?_) ?_ ?_
      rotate_left
      · show Act.put _ (some 112) _ = _
        simp only [Act.put, List.setIfInBounds_toArray, List.set_cons_zero, List.set_cons_succ, i64_w, i32_w]
        rfl
      refine one_ (i := 3) (N := some 113) #[true, true, true, true, false, false] rfl rfl (by kernel_rfl) (by decide) (fun K hK => ?_)
      refine goes_ Tryd.func38 (by kernel_rfl) rfl #[.int .u64 (h.x 74), .int .u64 18446744073709551615] (by rfl) rfl rfl (by simp only [List.map_toArray, List.map_cons, List.map_nil]; rfl) ?_
      with_reducible refine (table_c (h.x 74) 18446744073709551615 _).mono ?_
      rintro e_ w_ ⟨rfl, ⟨n_, rfl⟩⟩
      refine ⟨_, rfl, ?_⟩
      have q_ := Lib.hid (Hb.drewN n_ K_ga.out)
      have hB_70 := Lib.hid (pw_below_drewN hB_68.out n_)
      have q_gr := Lib.hid (Hb.drewN n_ K_gr.out)
      have s_0 := (cell_drewN n_ HH.out)
      clear HH K_ga K_gr hB_68
      generalize World.drewN w_67 n_ = w_69 at q_ hB_70 q_gr s_0 ⊢
      have K_ga := q_; clear q_
      have K_gr := q_gr; clear q_gr
      refine hK.out _ _ (s_0) (fun hHeld => ?_)
      have HH := Lib.hid hHeld
      clear hHeld s_0
      clear hK K
      refine norm_ (a' := ?_) ?_ ?_
      rotate_left
      · show Act.put _ (some 113) _ = _
        simp only [Act.put, List.setIfInBounds_toArray, List.set_cons_zero, List.set_cons_succ, i64_w, i32_w]
        rfl
      refine pure_ (i := 4) (N := some 114) (v := ?_) (a' := ?_) #[true, true, true, true, true, false] rfl rfl (by kernel_rfl) (fun _ _ _ h => h) (Or.inl ⟨by rfl, ?_⟩) ?_ ?_
      rotate_left
      · intro w'
        go_simp
        with_reducible rfl
      rotate_left
      · simp only [Act.put, List.setIfInBounds_toArray, List.set_cons_zero, List.set_cons_succ, i64_w, i32_w]
        rfl
      refine last_ (i := 5) (N := none) #[true, true, true, true, true, true] rfl rfl (by kernel_rfl) (by decide) (fun K hK => ?_)
      refine skipH (h := _) (v := .int .u64 (tblR (h.x 74) 18446744073709551615)) (by rfl) rfl rfl rfl rfl (by kernel_rfl) rfl rfl K_ga.out (by decide) ?_
      have q_ := Lib.hid (Hb.put 74 ((tblR (h.x 74) 18446744073709551615)) K_ga.out)
      have hB_72 := Lib.hid (below_set (j := 74) (v := (.int .u64 (tblR (h.x 74) 18446744073709551615))) hB_70.out G_ga.out)
      have q_gr := Lib.hid (Hb.far (j := 74) (u := (.int .u64 (tblR (h.x 74) 18446744073709551615))) (Ne.symm N_ga_gr.out) K_gr.out)
      clear HH K_ga K_gr hB_70
      generalize World.setCell w_69 ⟨ga, 74, none⟩ (.int .u64 (tblR (h.x 74) 18446744073709551615)) = w_71 at q_ hB_72 q_gr ⊢
      have K_ga := q_; clear q_
      have K_gr := q_gr; clear q_gr
      refine hK.out _ _ ?_
      clear hK K
      refine done_ (by kernel_rfl) ?_
      try clear HH
      go_upto_region 26 with fail
      have c_ga_1 := (show World.cell? _ ⟨ga, 1, none⟩ = some (.int .u64 (h.x 1)) from (K_ga.out.u 1 rfl).trans rfl); have f_ga_1 := K_ga.out.fr 1
      go_upto_region 27 with fail
      refine world_code ga (by repeat (with_reducible first | exact K_ga.out | apply Hb.put | apply Hb.putP | apply Hb.putV | apply Hb.putW | apply Hb.putH | apply Hb.far N_ga_gr.out | apply Hb.drewN | apply Hb.drew)) (fun w' => Below w.heap.size w w' ∧ Hb w' gr Ht.zero) ⟨(by repeat (first | (with_reducible first | exact hB_72.out | apply pw_below_drewN | apply below_drew1 | refine below_set ?_ G_ga.out | refine below_set ?_ G_gr.out) | exact hB_72.out)), (by repeat (with_reducible first | exact K_gr.out | apply Hb.put | apply Hb.putP | apply Hb.putV | apply Hb.putW | apply Hb.putH | apply Hb.far (Ne.symm N_ga_gr.out) | apply Hb.drewN | apply Hb.drew))⟩ ?_
      clear c_ga_1 f_ga_1
      clear K_ga K_gr hB_72
      rintro w_73 q_ ⟨b_, q_gr⟩
      have K_ga := Lib.hid q_; have hB_74 := Lib.hid b_; have K_gr := Lib.hid q_gr
      clear q_ b_ q_gr
      have c_ga_0 := (show World.cell? _ ⟨ga, 0, none⟩ = some (.int .u64 (h.x 0)) from (K_ga.out.u 0 rfl).trans rfl); have f_ga_0 := K_ga.out.fr 0
      go_upto_region 28 with fail
      refine world_code ga (by repeat (with_reducible first | exact K_ga.out | apply Hb.put | apply Hb.putP | apply Hb.putV | apply Hb.putW | apply Hb.putH | apply Hb.far N_ga_gr.out | apply Hb.drewN | apply Hb.drew)) (fun w' => Below w.heap.size w w' ∧ Hb w' gr Ht.zero) ⟨(by repeat (first | (with_reducible first | exact hB_74.out | apply pw_below_drewN | apply below_drew1 | refine below_set ?_ G_ga.out | refine below_set ?_ G_gr.out) | exact hB_74.out)), (by repeat (with_reducible first | exact K_gr.out | apply Hb.put | apply Hb.putP | apply Hb.putV | apply Hb.putW | apply Hb.putH | apply Hb.far (Ne.symm N_ga_gr.out) | apply Hb.drewN | apply Hb.drew))⟩ ?_
      clear c_ga_0 f_ga_0
      clear K_ga K_gr hB_74
      rintro w_75 q_ ⟨b_, q_gr⟩
      have K_ga := Lib.hid q_; have hB_76 := Lib.hid b_; have K_gr := Lib.hid q_gr
      clear q_ b_ q_gr
      have c_ga_33 := (show World.cell? _ ⟨ga, 33, none⟩ = some (.int .u8 (h.x 33)) from (K_ga.out.p).trans rfl); have f_ga_33 := K_ga.out.fr 33
      have c_ga_36 := (show World.cell? _ ⟨ga, 36, none⟩ = some (.bool h.hl) from (K_ga.out.ch).trans rfl); have f_ga_36 := K_ga.out.fr 36
      have c_ga_37 := (show World.cell? _ ⟨ga, 37, none⟩ = some (.int .u64 (h.x 37)) from (K_ga.out.u 37 rfl).trans rfl); have f_ga_37 := K_ga.out.fr 37
      have e_ : ((((((((((((((((((((((((((h.set 38 (Go.bits .or .u64 (Go.bits .and .u64 (h.x 38) 824641984938) 42949672960)).set 38 (Go.bits .andNot .u64 (Go.bits .or .u64 (Go.bits .and .u64 (h.x 38) 824641984938) 42949672960) 4096)).set 39 (Go.bits .and .u64 (h.x 39) 15775743)).set 40 (Go.bits .or .u64 (Go.bits .and .u64 (h.x 40) 546) 5188)).set 41 (Go.bits .and .u64 (h.x 41) 7918)).set 42 (Go.bits .and .u64 (h.x 42) 546)).set 43 (Go.bits .andNot .u64 (h.x 43) 2)).set 44 (Go.bits .and .u64 (h.x 44) 7)).set 46 (Go.bits .andNot .u64 (h.x 46) 3)).set 51 (Go.bits .andNot .u64 (h.x 51) 2)).set 52 (Go.bits .and .u64 (h.x 52) 7)).set 54 (Go.bits .andNot .u64 (h.x 54) 3)).set 57 (tblR (h.x 57) 18446744073709551615)).set 58 (Go.bits .or .u64 (Go.bits .and .u64 (h.x 58) 7345088) 8589934592)).set 59 (Go.bits .and .u64 (h.x 59) 45567)).set 60 (Go.bits .and .u64 (h.x 60) 1092)).set 61 (Go.bits .and .u64 (h.x 61) 1092)).set 62 (Go.bits .and .u64 (h.x 62) 7)).set 63 (Go.bits .and .u64 (h.x 63) 2)).set 66 (tblR (h.x 66) 17582052945254416380)).set 68 (Go.bits .or .u64 (Go.bits .and .u64 (h.x 68) 786722) 8589934592)).set 69 (Go.bits .andNot .u64 (h.x 69) 2)).set 71 (Go.bits .andNot .u64 (h.x 71) 3)).set 74 (tblR (h.x 74) 18446744073709551615)).set 1 (0)).set 0 (Go.bits .andNot .u64 (h.x 0) 3)) = rfixA h s := by rw [HSX.out]; unfold rfixA; rw [set_set]
      rw [e_] at K_ga
      clear e_
      clear c_ga_33 f_ga_33 c_ga_36 f_ga_36 c_ga_37 f_ga_37
      have c_ga_33 := (show World.cell? _ ⟨ga, 33, none⟩ = some (.int .u8 (h.x 33)) from (K_ga.out.p).trans rfl); have f_ga_33 := K_ga.out.fr 33
      have c_ga_36 := (show World.cell? _ ⟨ga, 36, none⟩ = some (.bool h.hl) from (K_ga.out.ch).trans rfl); have f_ga_36 := K_ga.out.fr 36
      have c_ga_37 := (show World.cell? _ ⟨ga, 37, none⟩ = some (.int .u64 (h.x 37)) from (K_ga.out.u 37 rfl).trans rfl); have f_ga_37 := K_ga.out.fr 37
      have c_ga_34 := (show World.cell? _ ⟨ga, 34, none⟩ = some (.bool h.v) from (K_ga.out.cv).trans rfl); have f_ga_34 := K_ga.out.fr 34
      cases d2 : (h.x 33 != 1)
      · skip
        cases d3 : (h.x 33 != 3)
        · skip
          cases d5 : h.hl
          · skip
            have d3b : (h.x 33 == 3) = true := by rw [← Bool.not_inj_iff]; exact d3
            go_upto_region 35 with (fail)
            refine wp_region_list ?_
            refine load_hart (h := _) rfl (.tmp 1) rfl ga rfl (by repeat (with_reducible first | exact K_ga.out | apply Hb.put | apply Hb.putP | apply Hb.putV | apply Hb.putW | apply Hb.putH | apply Hb.far N_ga_gr.out | apply Hb.drewN | apply Hb.drew)) ?_
            refine store_hart rfl (.tmp 2) (.tmp 143) rfl gr _ rfl rfl Ht.zero (by repeat (with_reducible first | exact K_gr.out | apply Hb.put | apply Hb.putP | apply Hb.putV | apply Hb.putW | apply Hb.putH | apply Hb.far (Ne.symm N_ga_gr.out) | apply Hb.drewN | apply Hb.drew)) ?_
            go_wp2
            refine bodyPost_ret (results_cell_row rfl _ _ gr 25 _ (0, 0) _ rfl (Hb.putAll _ (by repeat (with_reducible first | exact K_gr.out | apply Hb.put | apply Hb.putP | apply Hb.putV | apply Hb.putW | apply Hb.putH | apply Hb.far (Ne.symm N_ga_gr.out) | apply Hb.drewN | apply Hb.drew))) Tryd.underlying25 rfl (by rw [Ht.size]; exact hartSize)) rfl ?_
            exact ⟨congrArg (fun q => Ending.returned (Value.agg q)) (Eq.trans (congrArg Ht.cs (show _ = rfixB h s false false from by unfold rfixB; first | (simp only [d5, if_true, if_false, Bool.false_eq_true]; done) | (simp only [d5, if_true, if_false, Bool.false_eq_true]; rfl))) (HE.out s false false HS.out (by unfold privOut; rw [d2, d3]; rfl) (by unfold privOut; rw [d2, d3]; cases h.v <;> rfl))), setCells_below G_gr.out _ _ _ (by repeat (first | (with_reducible first | exact hB_76.out | apply pw_below_drewN | apply below_drew1 | refine below_set ?_ G_ga.out | refine below_set ?_ G_gr.out) | exact hB_76.out))⟩
          · skip
            have d3b : (h.x 33 == 3) = true := by rw [← Bool.not_inj_iff]; exact d3
            go_upto_region 35 with (fail)
            refine wp_region_list ?_
            refine load_hart (h := _) rfl (.tmp 1) rfl ga rfl (by repeat (with_reducible first | exact K_ga.out | apply Hb.put | apply Hb.putP | apply Hb.putV | apply Hb.putW | apply Hb.putH | apply Hb.far N_ga_gr.out | apply Hb.drewN | apply Hb.drew)) ?_
            refine store_hart rfl (.tmp 2) (.tmp 143) rfl gr _ rfl rfl Ht.zero (by repeat (with_reducible first | exact K_gr.out | apply Hb.put | apply Hb.putP | apply Hb.putV | apply Hb.putW | apply Hb.putH | apply Hb.far (Ne.symm N_ga_gr.out) | apply Hb.drewN | apply Hb.drew)) ?_
            go_wp2
            refine bodyPost_ret (results_cell_row rfl _ _ gr 25 _ (0, 0) _ rfl (Hb.putAll _ (by repeat (with_reducible first | exact K_gr.out | apply Hb.put | apply Hb.putP | apply Hb.putV | apply Hb.putW | apply Hb.putH | apply Hb.far (Ne.symm N_ga_gr.out) | apply Hb.drewN | apply Hb.drew))) Tryd.underlying25 rfl (by rw [Ht.size]; exact hartSize)) rfl ?_
            exact ⟨congrArg (fun q => Ending.returned (Value.agg q)) (Eq.trans (congrArg Ht.cs (show _ = rfixB h s false false from by unfold rfixB; first | (simp only [d5, if_true, if_false, Bool.false_eq_true]; done) | (simp only [d5, if_true, if_false, Bool.false_eq_true]; rfl))) (HE.out s false false HS.out (by unfold privOut; rw [d2, d3]; rfl) (by unfold privOut; rw [d2, d3]; cases h.v <;> rfl))), setCells_below G_gr.out _ _ _ (by repeat (first | (with_reducible first | exact hB_76.out | apply pw_below_drewN | apply below_drew1 | refine below_set ?_ G_ga.out | refine below_set ?_ G_gr.out) | exact hB_76.out))⟩
        · skip
          cases d5 : h.hl
          · skip
            have d3b : (h.x 33 == 3) = false := by rw [← Bool.not_inj_iff]; exact d3
            go_upto_region 35 with (fail)
            refine wp_region_list ?_
            refine load_hart (h := _) rfl (.tmp 1) rfl ga rfl (by repeat (with_reducible first | exact K_ga.out | apply Hb.put | apply Hb.putP | apply Hb.putV | apply Hb.putW | apply Hb.putH | apply Hb.far N_ga_gr.out | apply Hb.drewN | apply Hb.drew)) ?_
            refine store_hart rfl (.tmp 2) (.tmp 143) rfl gr _ rfl rfl Ht.zero (by repeat (with_reducible first | exact K_gr.out | apply Hb.put | apply Hb.putP | apply Hb.putV | apply Hb.putW | apply Hb.putH | apply Hb.far (Ne.symm N_ga_gr.out) | apply Hb.drewN | apply Hb.drew)) ?_
            go_wp2
            refine bodyPost_ret (results_cell_row rfl _ _ gr 25 _ (0, 0) _ rfl (Hb.putAll _ (by repeat (with_reducible first | exact K_gr.out | apply Hb.put | apply Hb.putP | apply Hb.putV | apply Hb.putW | apply Hb.putH | apply Hb.far (Ne.symm N_ga_gr.out) | apply Hb.drewN | apply Hb.drew))) Tryd.underlying25 rfl (by rw [Ht.size]; exact hartSize)) rfl ?_
            exact ⟨congrArg (fun q => Ending.returned (Value.agg q)) (Eq.trans (congrArg Ht.cs (show _ = rfixB h s false h.v from by unfold rfixB; first | (simp only [d5, if_true, if_false, Bool.false_eq_true]; done) | (simp only [d5, if_true, if_false, Bool.false_eq_true]; rfl))) (HE.out s false h.v HS.out (by unfold privOut; rw [d2, d3]; rfl) (by unfold privOut; rw [d2, d3]; cases h.v <;> rfl))), setCells_below G_gr.out _ _ _ (by repeat (first | (with_reducible first | exact hB_76.out | apply pw_below_drewN | apply below_drew1 | refine below_set ?_ G_ga.out | refine below_set ?_ G_gr.out) | exact hB_76.out))⟩
          · skip
            have d3b : (h.x 33 == 3) = false := by rw [← Bool.not_inj_iff]; exact d3
            go_upto_region 35 with (fail)
            refine wp_region_list ?_
            refine load_hart (h := _) rfl (.tmp 1) rfl ga rfl (by repeat (with_reducible first | exact K_ga.out | apply Hb.put | apply Hb.putP | apply Hb.putV | apply Hb.putW | apply Hb.putH | apply Hb.far N_ga_gr.out | apply Hb.drewN | apply Hb.drew)) ?_
            refine store_hart rfl (.tmp 2) (.tmp 143) rfl gr _ rfl rfl Ht.zero (by repeat (with_reducible first | exact K_gr.out | apply Hb.put | apply Hb.putP | apply Hb.putV | apply Hb.putW | apply Hb.putH | apply Hb.far (Ne.symm N_ga_gr.out) | apply Hb.drewN | apply Hb.drew)) ?_
            go_wp2
            refine bodyPost_ret (results_cell_row rfl _ _ gr 25 _ (0, 0) _ rfl (Hb.putAll _ (by repeat (with_reducible first | exact K_gr.out | apply Hb.put | apply Hb.putP | apply Hb.putV | apply Hb.putW | apply Hb.putH | apply Hb.far (Ne.symm N_ga_gr.out) | apply Hb.drewN | apply Hb.drew))) Tryd.underlying25 rfl (by rw [Ht.size]; exact hartSize)) rfl ?_
            exact ⟨congrArg (fun q => Ending.returned (Value.agg q)) (Eq.trans (congrArg Ht.cs (show _ = rfixB h s false h.v from by unfold rfixB; first | (simp only [d5, if_true, if_false, Bool.false_eq_true]; done) | (simp only [d5, if_true, if_false, Bool.false_eq_true]; rfl))) (HE.out s false h.v HS.out (by unfold privOut; rw [d2, d3]; rfl) (by unfold privOut; rw [d2, d3]; cases h.v <;> rfl))), setCells_below G_gr.out _ _ _ (by repeat (first | (with_reducible first | exact hB_76.out | apply pw_below_drewN | apply below_drew1 | refine below_set ?_ G_ga.out | refine below_set ?_ G_gr.out) | exact hB_76.out))⟩
      · skip
        cases d3 : (h.x 33 != 3)
        · skip
          cases d5 : h.hl
          · skip
            have d3b : (h.x 33 == 3) = true := by rw [← Bool.not_inj_iff]; exact d3
            go_upto_region 35 with (fail)
            refine wp_region_list ?_
            refine load_hart (h := _) rfl (.tmp 1) rfl ga rfl (by repeat (with_reducible first | exact K_ga.out | apply Hb.put | apply Hb.putP | apply Hb.putV | apply Hb.putW | apply Hb.putH | apply Hb.far N_ga_gr.out | apply Hb.drewN | apply Hb.drew)) ?_
            refine store_hart rfl (.tmp 2) (.tmp 143) rfl gr _ rfl rfl Ht.zero (by repeat (with_reducible first | exact K_gr.out | apply Hb.put | apply Hb.putP | apply Hb.putV | apply Hb.putW | apply Hb.putH | apply Hb.far (Ne.symm N_ga_gr.out) | apply Hb.drewN | apply Hb.drew)) ?_
            go_wp2
            refine bodyPost_ret (results_cell_row rfl _ _ gr 25 _ (0, 0) _ rfl (Hb.putAll _ (by repeat (with_reducible first | exact K_gr.out | apply Hb.put | apply Hb.putP | apply Hb.putV | apply Hb.putW | apply Hb.putH | apply Hb.far (Ne.symm N_ga_gr.out) | apply Hb.drewN | apply Hb.drew))) Tryd.underlying25 rfl (by rw [Ht.size]; exact hartSize)) rfl ?_
            exact ⟨congrArg (fun q => Ending.returned (Value.agg q)) (Eq.trans (congrArg Ht.cs (show _ = rfixB h s false false from by unfold rfixB; first | (simp only [d5, if_true, if_false, Bool.false_eq_true]; done) | (simp only [d5, if_true, if_false, Bool.false_eq_true]; rfl))) (HE.out s false false HS.out (by unfold privOut; rw [d2, d3]; rfl) (by unfold privOut; rw [d2, d3]; cases h.v <;> rfl))), setCells_below G_gr.out _ _ _ (by repeat (first | (with_reducible first | exact hB_76.out | apply pw_below_drewN | apply below_drew1 | refine below_set ?_ G_ga.out | refine below_set ?_ G_gr.out) | exact hB_76.out))⟩
          · skip
            have d3b : (h.x 33 == 3) = true := by rw [← Bool.not_inj_iff]; exact d3
            go_upto_region 35 with (fail)
            refine wp_region_list ?_
            refine load_hart (h := _) rfl (.tmp 1) rfl ga rfl (by repeat (with_reducible first | exact K_ga.out | apply Hb.put | apply Hb.putP | apply Hb.putV | apply Hb.putW | apply Hb.putH | apply Hb.far N_ga_gr.out | apply Hb.drewN | apply Hb.drew)) ?_
            refine store_hart rfl (.tmp 2) (.tmp 143) rfl gr _ rfl rfl Ht.zero (by repeat (with_reducible first | exact K_gr.out | apply Hb.put | apply Hb.putP | apply Hb.putV | apply Hb.putW | apply Hb.putH | apply Hb.far (Ne.symm N_ga_gr.out) | apply Hb.drewN | apply Hb.drew)) ?_
            go_wp2
            refine bodyPost_ret (results_cell_row rfl _ _ gr 25 _ (0, 0) _ rfl (Hb.putAll _ (by repeat (with_reducible first | exact K_gr.out | apply Hb.put | apply Hb.putP | apply Hb.putV | apply Hb.putW | apply Hb.putH | apply Hb.far (Ne.symm N_ga_gr.out) | apply Hb.drewN | apply Hb.drew))) Tryd.underlying25 rfl (by rw [Ht.size]; exact hartSize)) rfl ?_
            exact ⟨congrArg (fun q => Ending.returned (Value.agg q)) (Eq.trans (congrArg Ht.cs (show _ = rfixB h s false false from by unfold rfixB; first | (simp only [d5, if_true, if_false, Bool.false_eq_true]; done) | (simp only [d5, if_true, if_false, Bool.false_eq_true]; rfl))) (HE.out s false false HS.out (by unfold privOut; rw [d2, d3]; rfl) (by unfold privOut; rw [d2, d3]; cases h.v <;> rfl))), setCells_below G_gr.out _ _ _ (by repeat (first | (with_reducible first | exact hB_76.out | apply pw_below_drewN | apply below_drew1 | refine below_set ?_ G_ga.out | refine below_set ?_ G_gr.out) | exact hB_76.out))⟩
        · skip
          cases d5 : h.hl
          · skip
            have d3b : (h.x 33 == 3) = false := by rw [← Bool.not_inj_iff]; exact d3
            go_upto_region 35 with (fail)
            refine wp_region_list ?_
            refine load_hart (h := _) rfl (.tmp 1) rfl ga rfl (by repeat (with_reducible first | exact K_ga.out | apply Hb.put | apply Hb.putP | apply Hb.putV | apply Hb.putW | apply Hb.putH | apply Hb.far N_ga_gr.out | apply Hb.drewN | apply Hb.drew)) ?_
            refine store_hart rfl (.tmp 2) (.tmp 143) rfl gr _ rfl rfl Ht.zero (by repeat (with_reducible first | exact K_gr.out | apply Hb.put | apply Hb.putP | apply Hb.putV | apply Hb.putW | apply Hb.putH | apply Hb.far (Ne.symm N_ga_gr.out) | apply Hb.drewN | apply Hb.drew)) ?_
            go_wp2
            refine bodyPost_ret (results_cell_row rfl _ _ gr 25 _ (0, 0) _ rfl (Hb.putAll _ (by repeat (with_reducible first | exact K_gr.out | apply Hb.put | apply Hb.putP | apply Hb.putV | apply Hb.putW | apply Hb.putH | apply Hb.far (Ne.symm N_ga_gr.out) | apply Hb.drewN | apply Hb.drew))) Tryd.underlying25 rfl (by rw [Ht.size]; exact hartSize)) rfl ?_
            exact ⟨congrArg (fun q => Ending.returned (Value.agg q)) (Eq.trans (congrArg Ht.cs (show _ = rfixB h s true h.v from by unfold rfixB; first | (simp only [d5, if_true, if_false, Bool.false_eq_true]; done) | (simp only [d5, if_true, if_false, Bool.false_eq_true]; rfl))) (HE.out s true h.v HS.out (by unfold privOut; rw [d2, d3]; rfl) (by unfold privOut; rw [d2, d3]; cases h.v <;> rfl))), setCells_below G_gr.out _ _ _ (by repeat (first | (with_reducible first | exact hB_76.out | apply pw_below_drewN | apply below_drew1 | refine below_set ?_ G_ga.out | refine below_set ?_ G_gr.out) | exact hB_76.out))⟩
          · skip
            have d3b : (h.x 33 == 3) = false := by rw [← Bool.not_inj_iff]; exact d3
            go_upto_region 35 with (fail)
            refine wp_region_list ?_
            refine load_hart (h := _) rfl (.tmp 1) rfl ga rfl (by repeat (with_reducible first | exact K_ga.out | apply Hb.put | apply Hb.putP | apply Hb.putV | apply Hb.putW | apply Hb.putH | apply Hb.far N_ga_gr.out | apply Hb.drewN | apply Hb.drew)) ?_
            refine store_hart rfl (.tmp 2) (.tmp 143) rfl gr _ rfl rfl Ht.zero (by repeat (with_reducible first | exact K_gr.out | apply Hb.put | apply Hb.putP | apply Hb.putV | apply Hb.putW | apply Hb.putH | apply Hb.far (Ne.symm N_ga_gr.out) | apply Hb.drewN | apply Hb.drew)) ?_
            go_wp2
            refine bodyPost_ret (results_cell_row rfl _ _ gr 25 _ (0, 0) _ rfl (Hb.putAll _ (by repeat (with_reducible first | exact K_gr.out | apply Hb.put | apply Hb.putP | apply Hb.putV | apply Hb.putW | apply Hb.putH | apply Hb.far (Ne.symm N_ga_gr.out) | apply Hb.drewN | apply Hb.drew))) Tryd.underlying25 rfl (by rw [Ht.size]; exact hartSize)) rfl ?_
            exact ⟨congrArg (fun q => Ending.returned (Value.agg q)) (Eq.trans (congrArg Ht.cs (show _ = rfixB h s true h.v from by unfold rfixB; first | (simp only [d5, if_true, if_false, Bool.false_eq_true]; done) | (simp only [d5, if_true, if_false, Bool.false_eq_true]; rfl))) (HE.out s true h.v HS.out (by unfold privOut; rw [d2, d3]; rfl) (by unfold privOut; rw [d2, d3]; cases h.v <;> rfl))), setCells_below G_gr.out _ _ _ (by repeat (first | (with_reducible first | exact hB_76.out | apply pw_below_drewN | apply below_drew1 | refine below_set ?_ G_ga.out | refine below_set ?_ G_gr.out) | exact hB_76.out))⟩
    · skip
      obtain ⟨s, hsx⟩ : ∃ s, s = (Go.bits .or .u64 (Go.bits .and .u64 (h.x 38) 824641984938) 42949672960) := ⟨_, rfl⟩
      have hs2 := HS.out
      simp only [if_true, if_false, Bool.false_eq_true] at hs2
      have hs3 := hsx.trans hs2
      clear HS
      have HS := Lib.hid hs3; have HSX := Lib.hid hsx
      clear hs2 hs3 hsx
      have hu25 := Tryd.underlying25
      go_enter Tryd.func21, Tryd.ntmps21
      go_upto_region 2 with (first | ((with_reducible refine gate_dst (N := 1) rfl ?_); refine box_event ?hg (N := 1) ?hd (cs := h.cs) (t := 25) ?hr ?_; (case hd => rfl); (case hg => rfl); (case hr => first | (go_simp; done) | (go_simp; rfl)); intro ga hg w_1 H1 hb; have hB_2 := Lib.hid (below_step (Below.refl w.heap.size w) hb); have G_ga := Lib.hid (show w.heap.size ≤ ga by rw [hg]; exact ((Below.refl w.heap.size w)).size); have K_ga := Lib.hid (show Hb w_1 ga h from H1); clear hg hb H1) | ((with_reducible refine gate_dst (N := 2) rfl ?_); refine box_event ?hg (N := 2) ?hd (cs := Ht.zero.cs) (t := 25) ?hr ?_; (case hd => rfl); (case hg => rfl); (case hr => first | (go_simp; done) | (go_simp; rfl)); intro gr hg w_3 H1 hb; have hB_4 := Lib.hid (below_step hB_2.out hb); have G_gr := Lib.hid (show w.heap.size ≤ gr by rw [hg]; exact (hB_2.out).size); have N_ga_gr := Lib.hid (show ga ≠ gr by rw [hg]; exact Nat.ne_of_lt (K_ga.out.lt)); replace K_ga := Lib.hid (K_ga.out.below hb); have K_gr := Lib.hid (show Hb w_3 gr Ht.zero from H1); clear hg hb H1 hB_2; have c_ga_38 := K_ga.out.u 38 rfl; have f_ga_38 := K_ga.out.fr 38; clear hu25))
      refine world_code ga (by repeat (with_reducible first | exact K_ga.out | apply Hb.put | apply Hb.putP | apply Hb.putV | apply Hb.putW | apply Hb.putH | apply Hb.far N_ga_gr.out | apply Hb.drewN | apply Hb.drew)) (fun w' => Below w.heap.size w w' ∧ Hb w' gr Ht.zero) ⟨(by repeat (first | (with_reducible first | exact hB_4.out | apply pw_below_drewN | apply below_drew1 | refine below_set ?_ G_ga.out | refine below_set ?_ G_gr.out) | exact hB_4.out)), (by repeat (with_reducible first | exact K_gr.out | apply Hb.put | apply Hb.putP | apply Hb.putV | apply Hb.putW | apply Hb.putH | apply Hb.far (Ne.symm N_ga_gr.out) | apply Hb.drewN | apply Hb.drew))⟩ ?_
      clear c_ga_38 f_ga_38
      clear K_ga K_gr hB_4
      rintro w_5 q_ ⟨b_, q_gr⟩
      have K_ga := Lib.hid q_; have hB_6 := Lib.hid b_; have K_gr := Lib.hid q_gr
      clear q_ b_ q_gr
      have c_ga_38 := (show World.cell? _ ⟨ga, 38, none⟩ = some (.int .u64 (Go.bits .or .u64 (Go.bits .and .u64 (h.x 38) 824641984938) 42949672960)) from (K_ga.out.u 38 rfl).trans rfl); have f_ga_38 := K_ga.out.fr 38
      go_wp2_with fail
      refine (HB12.out _).mono ?_
      rintro e3 w3 ⟨rfl, n_, e3⟩
      clear c_ga_38 f_ga_38
      replace K_ga := Lib.hid (Hb.of e3.symm (K_ga.out.drewN n_))
      replace K_gr := Lib.hid (Hb.of e3.symm (K_gr.out.drewN n_))
      have hB_7 := Lib.hid (Below_of e3.symm (pw_below_drewN hB_6.out n_))
      clear e3 hB_6
      have c_ga_38 := (show World.cell? _ ⟨ga, 38, none⟩ = some (.int .u64 (Go.bits .or .u64 (Go.bits .and .u64 (h.x 38) 824641984938) 42949672960)) from (K_ga.out.u 38 rfl).trans rfl); have f_ga_38 := K_ga.out.fr 38
      go_wp2_with fail
      refine (HB11.out _).mono ?_
      rintro e4 w4 ⟨rfl, n_, e4⟩
      clear c_ga_38 f_ga_38
      replace K_ga := Lib.hid (Hb.of e4.symm (K_ga.out.drewN n_))
      replace K_gr := Lib.hid (Hb.of e4.symm (K_gr.out.drewN n_))
      have hB_8 := Lib.hid (Below_of e4.symm (pw_below_drewN hB_7.out n_))
      clear e4 hB_7
      have c_ga_38 := (show World.cell? _ ⟨ga, 38, none⟩ = some (.int .u64 (Go.bits .or .u64 (Go.bits .and .u64 (h.x 38) 824641984938) 42949672960)) from (K_ga.out.u 38 rfl).trans rfl); have f_ga_38 := K_ga.out.fr 38
      go_upto_region 4 with fail
      refine world_code ga (by repeat (with_reducible first | exact K_ga.out | apply Hb.put | apply Hb.putP | apply Hb.putV | apply Hb.putW | apply Hb.putH | apply Hb.far N_ga_gr.out | apply Hb.drewN | apply Hb.drew)) (fun w' => Below w.heap.size w w' ∧ Hb w' gr Ht.zero) ⟨(by repeat (first | (with_reducible first | exact hB_8.out | apply pw_below_drewN | apply below_drew1 | refine below_set ?_ G_ga.out | refine below_set ?_ G_gr.out) | exact hB_8.out)), (by repeat (with_reducible first | exact K_gr.out | apply Hb.put | apply Hb.putP | apply Hb.putV | apply Hb.putW | apply Hb.putH | apply Hb.far (Ne.symm N_ga_gr.out) | apply Hb.drewN | apply Hb.drew))⟩ ?_
      clear c_ga_38 f_ga_38
      clear K_ga K_gr hB_8
      rintro w_9 q_ ⟨b_, q_gr⟩
      have K_ga := Lib.hid q_; have hB_10 := Lib.hid b_; have K_gr := Lib.hid q_gr
      clear q_ b_ q_gr
      have c_ga_39 := (show World.cell? _ ⟨ga, 39, none⟩ = some (.int .u64 (h.x 39)) from (K_ga.out.u 39 rfl).trans rfl); have f_ga_39 := K_ga.out.fr 39
      go_upto_region 5 with fail
      refine world_code ga (by repeat (with_reducible first | exact K_ga.out | apply Hb.put | apply Hb.putP | apply Hb.putV | apply Hb.putW | apply Hb.putH | apply Hb.far N_ga_gr.out | apply Hb.drewN | apply Hb.drew)) (fun w' => Below w.heap.size w w' ∧ Hb w' gr Ht.zero) ⟨(by repeat (first | (with_reducible first | exact hB_10.out | apply pw_below_drewN | apply below_drew1 | refine below_set ?_ G_ga.out | refine below_set ?_ G_gr.out) | exact hB_10.out)), (by repeat (with_reducible first | exact K_gr.out | apply Hb.put | apply Hb.putP | apply Hb.putV | apply Hb.putW | apply Hb.putH | apply Hb.far (Ne.symm N_ga_gr.out) | apply Hb.drewN | apply Hb.drew))⟩ ?_
      clear c_ga_39 f_ga_39
      clear K_ga K_gr hB_10
      rintro w_11 q_ ⟨b_, q_gr⟩
      have K_ga := Lib.hid q_; have hB_12 := Lib.hid b_; have K_gr := Lib.hid q_gr
      clear q_ b_ q_gr
      have c_ga_40 := (show World.cell? _ ⟨ga, 40, none⟩ = some (.int .u64 (h.x 40)) from (K_ga.out.u 40 rfl).trans rfl); have f_ga_40 := K_ga.out.fr 40
      go_upto_region 6 with fail
      refine world_code ga (by repeat (with_reducible first | exact K_ga.out | apply Hb.put | apply Hb.putP | apply Hb.putV | apply Hb.putW | apply Hb.putH | apply Hb.far N_ga_gr.out | apply Hb.drewN | apply Hb.drew)) (fun w' => Below w.heap.size w w' ∧ Hb w' gr Ht.zero) ⟨(by repeat (first | (with_reducible first | exact hB_12.out | apply pw_below_drewN | apply below_drew1 | refine below_set ?_ G_ga.out | refine below_set ?_ G_gr.out) | exact hB_12.out)), (by repeat (with_reducible first | exact K_gr.out | apply Hb.put | apply Hb.putP | apply Hb.putV | apply Hb.putW | apply Hb.putH | apply Hb.far (Ne.symm N_ga_gr.out) | apply Hb.drewN | apply Hb.drew))⟩ ?_
      clear c_ga_40 f_ga_40
      clear K_ga K_gr hB_12
      rintro w_13 q_ ⟨b_, q_gr⟩
      have K_ga := Lib.hid q_; have hB_14 := Lib.hid b_; have K_gr := Lib.hid q_gr
      clear q_ b_ q_gr
      have c_ga_41 := (show World.cell? _ ⟨ga, 41, none⟩ = some (.int .u64 (h.x 41)) from (K_ga.out.u 41 rfl).trans rfl); have f_ga_41 := K_ga.out.fr 41
      go_upto_region 7 with fail
      refine world_code ga (by repeat (with_reducible first | exact K_ga.out | apply Hb.put | apply Hb.putP | apply Hb.putV | apply Hb.putW | apply Hb.putH | apply Hb.far N_ga_gr.out | apply Hb.drewN | apply Hb.drew)) (fun w' => Below w.heap.size w w' ∧ Hb w' gr Ht.zero) ⟨(by repeat (first | (with_reducible first | exact hB_14.out | apply pw_below_drewN | apply below_drew1 | refine below_set ?_ G_ga.out | refine below_set ?_ G_gr.out) | exact hB_14.out)), (by repeat (with_reducible first | exact K_gr.out | apply Hb.put | apply Hb.putP | apply Hb.putV | apply Hb.putW | apply Hb.putH | apply Hb.far (Ne.symm N_ga_gr.out) | apply Hb.drewN | apply Hb.drew))⟩ ?_
      clear c_ga_41 f_ga_41
      clear K_ga K_gr hB_14
      rintro w_15 q_ ⟨b_, q_gr⟩
      have K_ga := Lib.hid q_; have hB_16 := Lib.hid b_; have K_gr := Lib.hid q_gr
      clear q_ b_ q_gr
      have c_ga_42 := (show World.cell? _ ⟨ga, 42, none⟩ = some (.int .u64 (h.x 42)) from (K_ga.out.u 42 rfl).trans rfl); have f_ga_42 := K_ga.out.fr 42
      go_upto_region 8 with fail
      refine world_code ga (by repeat (with_reducible first | exact K_ga.out | apply Hb.put | apply Hb.putP | apply Hb.putV | apply Hb.putW | apply Hb.putH | apply Hb.far N_ga_gr.out | apply Hb.drewN | apply Hb.drew)) (fun w' => Below w.heap.size w w' ∧ Hb w' gr Ht.zero) ⟨(by repeat (first | (with_reducible first | exact hB_16.out | apply pw_below_drewN | apply below_drew1 | refine below_set ?_ G_ga.out | refine below_set ?_ G_gr.out) | exact hB_16.out)), (by repeat (with_reducible first | exact K_gr.out | apply Hb.put | apply Hb.putP | apply Hb.putV | apply Hb.putW | apply Hb.putH | apply Hb.far (Ne.symm N_ga_gr.out) | apply Hb.drewN | apply Hb.drew))⟩ ?_
      clear c_ga_42 f_ga_42
      clear K_ga K_gr hB_16
      rintro w_17 q_ ⟨b_, q_gr⟩
      have K_ga := Lib.hid q_; have hB_18 := Lib.hid b_; have K_gr := Lib.hid q_gr
      clear q_ b_ q_gr
      have c_ga_43 := (show World.cell? _ ⟨ga, 43, none⟩ = some (.int .u64 (h.x 43)) from (K_ga.out.u 43 rfl).trans rfl); have f_ga_43 := K_ga.out.fr 43
      go_upto_region 9 with fail
      refine world_code ga (by repeat (with_reducible first | exact K_ga.out | apply Hb.put | apply Hb.putP | apply Hb.putV | apply Hb.putW | apply Hb.putH | apply Hb.far N_ga_gr.out | apply Hb.drewN | apply Hb.drew)) (fun w' => Below w.heap.size w w' ∧ Hb w' gr Ht.zero) ⟨(by repeat (first | (with_reducible first | exact hB_18.out | apply pw_below_drewN | apply below_drew1 | refine below_set ?_ G_ga.out | refine below_set ?_ G_gr.out) | exact hB_18.out)), (by repeat (with_reducible first | exact K_gr.out | apply Hb.put | apply Hb.putP | apply Hb.putV | apply Hb.putW | apply Hb.putH | apply Hb.far (Ne.symm N_ga_gr.out) | apply Hb.drewN | apply Hb.drew))⟩ ?_
      clear c_ga_43 f_ga_43
      clear K_ga K_gr hB_18
      rintro w_19 q_ ⟨b_, q_gr⟩
      have K_ga := Lib.hid q_; have hB_20 := Lib.hid b_; have K_gr := Lib.hid q_gr
      clear q_ b_ q_gr
      have c_ga_44 := (show World.cell? _ ⟨ga, 44, none⟩ = some (.int .u64 (h.x 44)) from (K_ga.out.u 44 rfl).trans rfl); have f_ga_44 := K_ga.out.fr 44
      go_upto_region 10 with fail
      refine world_code ga (by repeat (with_reducible first | exact K_ga.out | apply Hb.put | apply Hb.putP | apply Hb.putV | apply Hb.putW | apply Hb.putH | apply Hb.far N_ga_gr.out | apply Hb.drewN | apply Hb.drew)) (fun w' => Below w.heap.size w w' ∧ Hb w' gr Ht.zero) ⟨(by repeat (first | (with_reducible first | exact hB_20.out | apply pw_below_drewN | apply below_drew1 | refine below_set ?_ G_ga.out | refine below_set ?_ G_gr.out) | exact hB_20.out)), (by repeat (with_reducible first | exact K_gr.out | apply Hb.put | apply Hb.putP | apply Hb.putV | apply Hb.putW | apply Hb.putH | apply Hb.far (Ne.symm N_ga_gr.out) | apply Hb.drewN | apply Hb.drew))⟩ ?_
      clear c_ga_44 f_ga_44
      clear K_ga K_gr hB_20
      rintro w_21 q_ ⟨b_, q_gr⟩
      have K_ga := Lib.hid q_; have hB_22 := Lib.hid b_; have K_gr := Lib.hid q_gr
      clear q_ b_ q_gr
      have c_ga_46 := (show World.cell? _ ⟨ga, 46, none⟩ = some (.int .u64 (h.x 46)) from (K_ga.out.u 46 rfl).trans rfl); have f_ga_46 := K_ga.out.fr 46
      go_upto_region 11 with fail
      refine world_code ga (by repeat (with_reducible first | exact K_ga.out | apply Hb.put | apply Hb.putP | apply Hb.putV | apply Hb.putW | apply Hb.putH | apply Hb.far N_ga_gr.out | apply Hb.drewN | apply Hb.drew)) (fun w' => Below w.heap.size w w' ∧ Hb w' gr Ht.zero) ⟨(by repeat (first | (with_reducible first | exact hB_22.out | apply pw_below_drewN | apply below_drew1 | refine below_set ?_ G_ga.out | refine below_set ?_ G_gr.out) | exact hB_22.out)), (by repeat (with_reducible first | exact K_gr.out | apply Hb.put | apply Hb.putP | apply Hb.putV | apply Hb.putW | apply Hb.putH | apply Hb.far (Ne.symm N_ga_gr.out) | apply Hb.drewN | apply Hb.drew))⟩ ?_
      clear c_ga_46 f_ga_46
      clear K_ga K_gr hB_22
      rintro w_23 q_ ⟨b_, q_gr⟩
      have K_ga := Lib.hid q_; have hB_24 := Lib.hid b_; have K_gr := Lib.hid q_gr
      clear q_ b_ q_gr
      have c_ga_51 := (show World.cell? _ ⟨ga, 51, none⟩ = some (.int .u64 (h.x 51)) from (K_ga.out.u 51 rfl).trans rfl); have f_ga_51 := K_ga.out.fr 51
      go_upto_region 12 with fail
      refine world_code ga (by repeat (with_reducible first | exact K_ga.out | apply Hb.put | apply Hb.putP | apply Hb.putV | apply Hb.putW | apply Hb.putH | apply Hb.far N_ga_gr.out | apply Hb.drewN | apply Hb.drew)) (fun w' => Below w.heap.size w w' ∧ Hb w' gr Ht.zero) ⟨(by repeat (first | (with_reducible first | exact hB_24.out | apply pw_below_drewN | apply below_drew1 | refine below_set ?_ G_ga.out | refine below_set ?_ G_gr.out) | exact hB_24.out)), (by repeat (with_reducible first | exact K_gr.out | apply Hb.put | apply Hb.putP | apply Hb.putV | apply Hb.putW | apply Hb.putH | apply Hb.far (Ne.symm N_ga_gr.out) | apply Hb.drewN | apply Hb.drew))⟩ ?_
      clear c_ga_51 f_ga_51
      clear K_ga K_gr hB_24
      rintro w_25 q_ ⟨b_, q_gr⟩
      have K_ga := Lib.hid q_; have hB_26 := Lib.hid b_; have K_gr := Lib.hid q_gr
      clear q_ b_ q_gr
      have c_ga_52 := (show World.cell? _ ⟨ga, 52, none⟩ = some (.int .u64 (h.x 52)) from (K_ga.out.u 52 rfl).trans rfl); have f_ga_52 := K_ga.out.fr 52
      go_upto_region 13 with fail
      refine world_code ga (by repeat (with_reducible first | exact K_ga.out | apply Hb.put | apply Hb.putP | apply Hb.putV | apply Hb.putW | apply Hb.putH | apply Hb.far N_ga_gr.out | apply Hb.drewN | apply Hb.drew)) (fun w' => Below w.heap.size w w' ∧ Hb w' gr Ht.zero) ⟨(by repeat (first | (with_reducible first | exact hB_26.out | apply pw_below_drewN | apply below_drew1 | refine below_set ?_ G_ga.out | refine below_set ?_ G_gr.out) | exact hB_26.out)), (by repeat (with_reducible first | exact K_gr.out | apply Hb.put | apply Hb.putP | apply Hb.putV | apply Hb.putW | apply Hb.putH | apply Hb.far (Ne.symm N_ga_gr.out) | apply Hb.drewN | apply Hb.drew))⟩ ?_
      clear c_ga_52 f_ga_52
      clear K_ga K_gr hB_26
      rintro w_27 q_ ⟨b_, q_gr⟩
      have K_ga := Lib.hid q_; have hB_28 := Lib.hid b_; have K_gr := Lib.hid q_gr
      clear q_ b_ q_gr
      have c_ga_54 := (show World.cell? _ ⟨ga, 54, none⟩ = some (.int .u64 (h.x 54)) from (K_ga.out.u 54 rfl).trans rfl); have f_ga_54 := K_ga.out.fr 54
      go_upto_region 14 with fail
      refine world_code ga (by repeat (with_reducible first | exact K_ga.out | apply Hb.put | apply Hb.putP | apply Hb.putV | apply Hb.putW | apply Hb.putH | apply Hb.far N_ga_gr.out | apply Hb.drewN | apply Hb.drew)) (fun w' => Below w.heap.size w w' ∧ Hb w' gr Ht.zero) ⟨(by repeat (first | (with_reducible first | exact hB_28.out | apply pw_below_drewN | apply below_drew1 | refine below_set ?_ G_ga.out | refine below_set ?_ G_gr.out) | exact hB_28.out)), (by repeat (with_reducible first | exact K_gr.out | apply Hb.put | apply Hb.putP | apply Hb.putV | apply Hb.putW | apply Hb.putH | apply Hb.far (Ne.symm N_ga_gr.out) | apply Hb.drewN | apply Hb.drew))⟩ ?_
      clear c_ga_54 f_ga_54
      clear K_ga K_gr hB_28
      rintro w_29 q_ ⟨b_, q_gr⟩
      have K_ga := Lib.hid q_; have hB_30 := Lib.hid b_; have K_gr := Lib.hid q_gr
      clear q_ b_ q_gr
      have c_ga_57 := (show World.cell? _ ⟨ga, 57, none⟩ = some (.int .u64 (h.x 57)) from (K_ga.out.u 57 rfl).trans rfl); have f_ga_57 := K_ga.out.fr 57
      refine start_ (n := 6) (S := fun w' => w'.cell? ⟨ga, 57, none⟩ = some (.int .u64 (h.x 57))) (ds := [5]) #[false, false, false, false, false, false] (by kernel_rfl) rfl rfl ((show World.cell? _ ⟨ga, 57, none⟩ = some (.int .u64 (h.x 57)) by first | (go_simp; done) | (go_simp; rfl))) (fun hHeld => ?_)
      have HH0 := Lib.hid hHeld
      clear hHeld
      refine world_any ga (by repeat (with_reducible first | exact K_ga.out | apply Hb.put | apply Hb.putP | apply Hb.putV | apply Hb.putW | apply Hb.putH | apply Hb.far N_ga_gr.out | apply Hb.drewN | apply Hb.drew)) (fun w' => Below w.heap.size w w' ∧ Hb w' gr Ht.zero ∧ (w'.cell? ⟨ga, 57, none⟩ = some (.int .u64 (h.x 57)))) ⟨(by repeat (first | (with_reducible first | exact hB_30.out | apply pw_below_drewN | apply below_drew1 | refine below_set ?_ G_ga.out | refine below_set ?_ G_gr.out) | exact hB_30.out)), (by repeat (with_reducible first | exact K_gr.out | apply Hb.put | apply Hb.putP | apply Hb.putV | apply Hb.putW | apply Hb.putH | apply Hb.far (Ne.symm N_ga_gr.out) | apply Hb.drewN | apply Hb.drew)), HH0.out⟩ ?_
      clear HH0
      clear c_ga_57 f_ga_57
      clear K_ga K_gr hB_30
      rintro w_31 q_ ⟨b_, q_gr, hHeld⟩
      have K_ga := Lib.hid q_; have hB_32 := Lib.hid b_; have K_gr := Lib.hid q_gr
      clear q_ b_ q_gr
      refine pure_ (i := 0) (N := some 62) (v := ?_) (a' := ?_) #[true, false, false, false, false, false] rfl rfl (by kernel_rfl) (fun _ _ _ h => h) (Or.inl ⟨by rfl, ?_⟩) ?_ ?_
      rotate_left
      · intro w'
        go_simp
        with_reducible rfl
      rotate_left
      · simp only [Act.put, List.setIfInBounds_toArray, List.set_cons_zero, List.set_cons_succ, i64_w, i32_w]
        rfl
      refine take_ (i := 1) (N := some 63) (v := ?_) (a' := ?_) #[true, true, false, false, false, false] rfl rfl (by kernel_rfl) (fun _ _ _ h => h) (Or.inl ⟨by rfl, ?_⟩) hHeld ?_ ?_
      rotate_left
      · intro w' s0
        go_simp
        with_reducible rfl
      rotate_left
      · simp only [Act.put, List.setIfInBounds_toArray, List.set_cons_zero, List.set_cons_succ, i64_w, i32_w]
        rfl
      have HH := Lib.hid hHeld
      clear hHeld
      refine one_ (i := 2) (N := some 64) #[true, true, true, false, false, false] rfl rfl (by kernel_rfl) (by decide) (fun K hK => ?_)
      refine goes_ Tryd.func36 (by kernel_rfl) rfl #[.int .u64 0] (by rfl) rfl rfl (by simp only [List.map_toArray, List.map_cons, List.map_nil]; rfl) ?_
      with_reducible refine (but_0 _).mono ?_
      rintro e_ w_ ⟨rfl, ⟨n_, rfl⟩⟩
      refine ⟨_, rfl, ?_⟩
      have q_ := Lib.hid (Hb.drewN n_ K_ga.out)
      have hB_34 := Lib.hid (pw_below_drewN hB_32.out n_)
      have q_gr := Lib.hid (Hb.drewN n_ K_gr.out)
      have s_0 := (cell_drewN n_ HH.out)
      clear HH K_ga K_gr hB_32
      generalize World.drewN w_31 n_ = w_33 at q_ hB_34 q_gr s_0 ⊢
      have K_ga := q_; clear q_
      have K_gr := q_gr; clear q_gr
      refine hK.out _ _ (s_0) (fun hHeld => ?_)
      have HH := Lib.hid hHeld
      clear hHeld s_0
      clear hK K
      refine norm_ (a' := ?_) ?_ ?_
      rotate_left
      · show Act.put _ (some 64) _ = _
        simp only [Act.put, List.setIfInBounds_toArray, List.set_cons_zero, List.set_cons_succ, i64_w, i32_w]
        rfl
      refine one_ (i := 3) (N := some 65) #[true, true, true, true, false, false] rfl rfl (by kernel_rfl) (by decide) (fun K hK => ?_)
      refine goes_ Tryd.func38 (by kernel_rfl) rfl #[.int .u64 (h.x 57), .int .u64 18446744073709551615] (by rfl) rfl rfl (by simp only [List.map_toArray, List.map_cons, List.map_nil]; rfl) ?_
      with_reducible refine (table_c (h.x 57) 18446744073709551615 _).mono ?_
      rintro e_ w_ ⟨rfl, ⟨n_, rfl⟩⟩
      refine ⟨_, rfl, ?_⟩
      have q_ := Lib.hid (Hb.drewN n_ K_ga.out)
      have hB_36 := Lib.hid (pw_below_drewN hB_34.out n_)
      have q_gr := Lib.hid (Hb.drewN n_ K_gr.out)
      have s_0 := (cell_drewN n_ HH.out)
      clear HH K_ga K_gr hB_34
      generalize World.drewN w_33 n_ = w_35 at q_ hB_36 q_gr s_0 ⊢
      have K_ga := q_; clear q_
      have K_gr := q_gr; clear q_gr
      refine hK.out _ _ (s_0) (fun hHeld => ?_)
      have HH := Lib.hid hHeld
      clear hHeld s_0
      clear hK K
      refine norm_ (a' := ?_) ?_ ?_
      rotate_left
      · show Act.put _ (some 65) _ = _
        simp only [Act.put, List.setIfInBounds_toArray, List.set_cons_zero, List.set_cons_succ, i64_w, i32_w]
        rfl
      refine pure_ (i := 4) (N := some 66) (v := ?_) (a' := ?_) #[true, true, true, true, true, false] rfl rfl (by kernel_rfl) (fun _ _ _ h => h) (Or.inl ⟨by rfl, ?_⟩) ?_ ?_
      rotate_left
      · intro w'
        go_simp
        with_reducible rfl
      rotate_left
      · simp only [Act.put, List.setIfInBounds_toArray, List.set_cons_zero, List.set_cons_succ, i64_w, i32_w]
        rfl
      refine last_ (i := 5) (N := none) #[true, true, true, true, true, true] rfl rfl (by kernel_rfl) (by decide) (fun K hK => ?_)
      refine skipH (h := _) (v := .int .u64 (tblR (h.x 57) 18446744073709551615)) (by rfl) rfl rfl rfl rfl (by kernel_rfl) rfl rfl K_ga.out (by decide) ?_
      have q_ := Lib.hid (Hb.put 57 ((tblR (h.x 57) 18446744073709551615)) K_ga.out)
      have hB_38 := Lib.hid (below_set (j := 57) (v := (.int .u64 (tblR (h.x 57) 18446744073709551615))) hB_36.out G_ga.out)
      have q_gr := Lib.hid (Hb.far (j := 57) (u := (.int .u64 (tblR (h.x 57) 18446744073709551615))) (Ne.symm N_ga_gr.out) K_gr.out)
      clear HH K_ga K_gr hB_36
      generalize World.setCell w_35 ⟨ga, 57, none⟩ (.int .u64 (tblR (h.x 57) 18446744073709551615)) = w_37 at q_ hB_38 q_gr ⊢
      have K_ga := q_; clear q_
      have K_gr := q_gr; clear q_gr
      refine hK.out _ _ ?_
      clear hK K
      refine done_ (by kernel_rfl) ?_
      try clear HH
      go_upto_region 15 with fail
      have c_ga_58 := (show World.cell? _ ⟨ga, 58, none⟩ = some (.int .u64 (h.x 58)) from (K_ga.out.u 58 rfl).trans rfl); have f_ga_58 := K_ga.out.fr 58
      go_upto_region 16 with fail
      refine world_code ga (by repeat (with_reducible first | exact K_ga.out | apply Hb.put | apply Hb.putP | apply Hb.putV | apply Hb.putW | apply Hb.putH | apply Hb.far N_ga_gr.out | apply Hb.drewN | apply Hb.drew)) (fun w' => Below w.heap.size w w' ∧ Hb w' gr Ht.zero) ⟨(by repeat (first | (with_reducible first | exact hB_38.out | apply pw_below_drewN | apply below_drew1 | refine below_set ?_ G_ga.out | refine below_set ?_ G_gr.out) | exact hB_38.out)), (by repeat (with_reducible first | exact K_gr.out | apply Hb.put | apply Hb.putP | apply Hb.putV | apply Hb.putW | apply Hb.putH | apply Hb.far (Ne.symm N_ga_gr.out) | apply Hb.drewN | apply Hb.drew))⟩ ?_
      clear c_ga_58 f_ga_58
      clear K_ga K_gr hB_38
      rintro w_39 q_ ⟨b_, q_gr⟩
      have K_ga := Lib.hid q_; have hB_40 := Lib.hid b_; have K_gr := Lib.hid q_gr
      clear q_ b_ q_gr
      have c_ga_59 := (show World.cell? _ ⟨ga, 59, none⟩ = some (.int .u64 (h.x 59)) from (K_ga.out.u 59 rfl).trans rfl); have f_ga_59 := K_ga.out.fr 59
      go_upto_region 17 with fail
      refine world_code ga (by repeat (with_reducible first | exact K_ga.out | apply Hb.put | apply Hb.putP | apply Hb.putV | apply Hb.putW | apply Hb.putH | apply Hb.far N_ga_gr.out | apply Hb.drewN | apply Hb.drew)) (fun w' => Below w.heap.size w w' ∧ Hb w' gr Ht.zero) ⟨(by repeat (first | (with_reducible first | exact hB_40.out | apply pw_below_drewN | apply below_drew1 | refine below_set ?_ G_ga.out | refine below_set ?_ G_gr.out) | exact hB_40.out)), (by repeat (with_reducible first | exact K_gr.out | apply Hb.put | apply Hb.putP | apply Hb.putV | apply Hb.putW | apply Hb.putH | apply Hb.far (Ne.symm N_ga_gr.out) | apply Hb.drewN | apply Hb.drew))⟩ ?_
      clear c_ga_59 f_ga_59
      clear K_ga K_gr hB_40
      rintro w_41 q_ ⟨b_, q_gr⟩
      have K_ga := Lib.hid q_; have hB_42 := Lib.hid b_; have K_gr := Lib.hid q_gr
      clear q_ b_ q_gr
      have c_ga_60 := (show World.cell? _ ⟨ga, 60, none⟩ = some (.int .u64 (h.x 60)) from (K_ga.out.u 60 rfl).trans rfl); have f_ga_60 := K_ga.out.fr 60
      go_upto_region 18 with fail
      refine world_code ga (by repeat (with_reducible first | exact K_ga.out | apply Hb.put | apply Hb.putP | apply Hb.putV | apply Hb.putW | apply Hb.putH | apply Hb.far N_ga_gr.out | apply Hb.drewN | apply Hb.drew)) (fun w' => Below w.heap.size w w' ∧ Hb w' gr Ht.zero) ⟨(by repeat (first | (with_reducible first | exact hB_42.out | apply pw_below_drewN | apply below_drew1 | refine below_set ?_ G_ga.out | refine below_set ?_ G_gr.out) | exact hB_42.out)), (by repeat (with_reducible first | exact K_gr.out | apply Hb.put | apply Hb.putP | apply Hb.putV | apply Hb.putW | apply Hb.putH | apply Hb.far (Ne.symm N_ga_gr.out) | apply Hb.drewN | apply Hb.drew))⟩ ?_
      clear c_ga_60 f_ga_60
      clear K_ga K_gr hB_42
      rintro w_43 q_ ⟨b_, q_gr⟩
      have K_ga := Lib.hid q_; have hB_44 := Lib.hid b_; have K_gr := Lib.hid q_gr
      clear q_ b_ q_gr
      have c_ga_61 := (show World.cell? _ ⟨ga, 61, none⟩ = some (.int .u64 (h.x 61)) from (K_ga.out.u 61 rfl).trans rfl); have f_ga_61 := K_ga.out.fr 61
      go_upto_region 19 with fail
      refine world_code ga (by repeat (with_reducible first | exact K_ga.out | apply Hb.put | apply Hb.putP | apply Hb.putV | apply Hb.putW | apply Hb.putH | apply Hb.far N_ga_gr.out | apply Hb.drewN | apply Hb.drew)) (fun w' => Below w.heap.size w w' ∧ Hb w' gr Ht.zero) ⟨(by repeat (first | (with_reducible first | exact hB_44.out | apply pw_below_drewN | apply below_drew1 | refine below_set ?_ G_ga.out | refine below_set ?_ G_gr.out) | exact hB_44.out)), (by repeat (with_reducible first | exact K_gr.out | apply Hb.put | apply Hb.putP | apply Hb.putV | apply Hb.putW | apply Hb.putH | apply Hb.far (Ne.symm N_ga_gr.out) | apply Hb.drewN | apply Hb.drew))⟩ ?_
      clear c_ga_61 f_ga_61
      clear K_ga K_gr hB_44
      rintro w_45 q_ ⟨b_, q_gr⟩
      have K_ga := Lib.hid q_; have hB_46 := Lib.hid b_; have K_gr := Lib.hid q_gr
      clear q_ b_ q_gr
      have c_ga_62 := (show World.cell? _ ⟨ga, 62, none⟩ = some (.int .u64 (h.x 62)) from (K_ga.out.u 62 rfl).trans rfl); have f_ga_62 := K_ga.out.fr 62
      go_upto_region 20 with fail
      refine world_code ga (by repeat (with_reducible first | exact K_ga.out | apply Hb.put | apply Hb.putP | apply Hb.putV | apply Hb.putW | apply Hb.putH | apply Hb.far N_ga_gr.out | apply Hb.drewN | apply Hb.drew)) (fun w' => Below w.heap.size w w' ∧ Hb w' gr Ht.zero) ⟨(by repeat (first | (with_reducible first | exact hB_46.out | apply pw_below_drewN | apply below_drew1 | refine below_set ?_ G_ga.out | refine below_set ?_ G_gr.out) | exact hB_46.out)), (by repeat (with_reducible first | exact K_gr.out | apply Hb.put | apply Hb.putP | apply Hb.putV | apply Hb.putW | apply Hb.putH | apply Hb.far (Ne.symm N_ga_gr.out) | apply Hb.drewN | apply Hb.drew))⟩ ?_
      clear c_ga_62 f_ga_62
      clear K_ga K_gr hB_46
      rintro w_47 q_ ⟨b_, q_gr⟩
      have K_ga := Lib.hid q_; have hB_48 := Lib.hid b_; have K_gr := Lib.hid q_gr
      clear q_ b_ q_gr
      have c_ga_63 := (show World.cell? _ ⟨ga, 63, none⟩ = some (.int .u64 (h.x 63)) from (K_ga.out.u 63 rfl).trans rfl); have f_ga_63 := K_ga.out.fr 63
      go_upto_region 21 with fail
      refine world_code ga (by repeat (with_reducible first | exact K_ga.out | apply Hb.put | apply Hb.putP | apply Hb.putV | apply Hb.putW | apply Hb.putH | apply Hb.far N_ga_gr.out | apply Hb.drewN | apply Hb.drew)) (fun w' => Below w.heap.size w w' ∧ Hb w' gr Ht.zero) ⟨(by repeat (first | (with_reducible first | exact hB_48.out | apply pw_below_drewN | apply below_drew1 | refine below_set ?_ G_ga.out | refine below_set ?_ G_gr.out) | exact hB_48.out)), (by repeat (with_reducible first | exact K_gr.out | apply Hb.put | apply Hb.putP | apply Hb.putV | apply Hb.putW | apply Hb.putH | apply Hb.far (Ne.symm N_ga_gr.out) | apply Hb.drewN | apply Hb.drew))⟩ ?_
      clear c_ga_63 f_ga_63
      clear K_ga K_gr hB_48
      rintro w_49 q_ ⟨b_, q_gr⟩
      have K_ga := Lib.hid q_; have hB_50 := Lib.hid b_; have K_gr := Lib.hid q_gr
      clear q_ b_ q_gr
      have c_ga_66 := (show World.cell? _ ⟨ga, 66, none⟩ = some (.int .u64 (h.x 66)) from (K_ga.out.u 66 rfl).trans rfl); have f_ga_66 := K_ga.out.fr 66
      refine start_ (n := 6) (S := fun w' => w'.cell? ⟨ga, 66, none⟩ = some (.int .u64 (h.x 66))) (ds := [5]) #[false, false, false, false, false, false] (by kernel_rfl) rfl rfl ((show World.cell? _ ⟨ga, 66, none⟩ = some (.int .u64 (h.x 66)) by first | (go_simp; done) | (go_simp; rfl))) (fun hHeld => ?_)
      have HH0 := Lib.hid hHeld
      clear hHeld
      refine world_any ga (by repeat (with_reducible first | exact K_ga.out | apply Hb.put | apply Hb.putP | apply Hb.putV | apply Hb.putW | apply Hb.putH | apply Hb.far N_ga_gr.out | apply Hb.drewN | apply Hb.drew)) (fun w' => Below w.heap.size w w' ∧ Hb w' gr Ht.zero ∧ (w'.cell? ⟨ga, 66, none⟩ = some (.int .u64 (h.x 66)))) ⟨(by repeat (first | (with_reducible first | exact hB_50.out | apply pw_below_drewN | apply below_drew1 | refine below_set ?_ G_ga.out | refine below_set ?_ G_gr.out) | exact hB_50.out)), (by repeat (with_reducible first | exact K_gr.out | apply Hb.put | apply Hb.putP | apply Hb.putV | apply Hb.putW | apply Hb.putH | apply Hb.far (Ne.symm N_ga_gr.out) | apply Hb.drewN | apply Hb.drew)), HH0.out⟩ ?_
      clear HH0
      clear c_ga_66 f_ga_66
      clear K_ga K_gr hB_50
      rintro w_51 q_ ⟨b_, q_gr, hHeld⟩
      have K_ga := Lib.hid q_; have hB_52 := Lib.hid b_; have K_gr := Lib.hid q_gr
      clear q_ b_ q_gr
      refine pure_ (i := 0) (N := some 92) (v := ?_) (a' := ?_) #[true, false, false, false, false, false] rfl rfl (by kernel_rfl) (fun _ _ _ h => h) (Or.inl ⟨by rfl, ?_⟩) ?_ ?_
      rotate_left
      · intro w'
        go_simp
        with_reducible rfl
      rotate_left
      · simp only [Act.put, List.setIfInBounds_toArray, List.set_cons_zero, List.set_cons_succ, i64_w, i32_w]
        rfl
      refine take_ (i := 1) (N := some 93) (v := ?_) (a' := ?_) #[true, true, false, false, false, false] rfl rfl (by kernel_rfl) (fun _ _ _ h => h) (Or.inl ⟨by rfl, ?_⟩) hHeld ?_ ?_
      rotate_left
      · intro w' s0
        go_simp
        with_reducible rfl
      rotate_left
      · simp only [Act.put, List.setIfInBounds_toArray, List.set_cons_zero, List.set_cons_succ, i64_w, i32_w]
        rfl
      have HH := Lib.hid hHeld
      clear hHeld
      refine one_ (i := 2) (N := some 94) #[true, true, true, false, false, false] rfl rfl (by kernel_rfl) (by decide) (fun K hK => ?_)
      refine goes_ Tryd.func36 (by kernel_rfl) rfl #[.int .u64 864691128455135235] (by rfl) rfl rfl (by simp only [List.map_toArray, List.map_cons, List.map_nil]; rfl) ?_
      with_reducible refine (but_v _).mono ?_
      rintro e_ w_ ⟨rfl, ⟨n_, rfl⟩⟩
      refine ⟨_, rfl, ?_⟩
      have q_ := Lib.hid (Hb.drewN n_ K_ga.out)
      have hB_54 := Lib.hid (pw_below_drewN hB_52.out n_)
      have q_gr := Lib.hid (Hb.drewN n_ K_gr.out)
      have s_0 := (cell_drewN n_ HH.out)
      clear HH K_ga K_gr hB_52
      generalize World.drewN w_51 n_ = w_53 at q_ hB_54 q_gr s_0 ⊢
      have K_ga := q_; clear q_
      have K_gr := q_gr; clear q_gr
      refine hK.out _ _ (s_0) (fun hHeld => ?_)
      have HH := Lib.hid hHeld
      clear hHeld s_0
      clear hK K
      refine norm_ (a' := ?_) ?_ ?_
      rotate_left
      · show Act.put _ (some 94) _ = _
        simp only [Act.put, List.setIfInBounds_toArray, List.set_cons_zero, List.set_cons_succ, i64_w, i32_w]
        rfl
      refine one_ (i := 3) (N := some 95) #[true, true, true, true, false, false] rfl rfl (by kernel_rfl) (by decide) (fun K hK => ?_)
      refine goes_ Tryd.func38 (by kernel_rfl) rfl #[.int .u64 (h.x 66), .int .u64 17582052945254416380] (by rfl) rfl rfl (by simp only [List.map_toArray, List.map_cons, List.map_nil]; rfl) ?_
      with_reducible refine (table_c (h.x 66) 17582052945254416380 _).mono ?_
      rintro e_ w_ ⟨rfl, ⟨n_, rfl⟩⟩
      refine ⟨_, rfl, ?_⟩
      have q_ := Lib.hid (Hb.drewN n_ K_ga.out)
      have hB_56 := Lib.hid (pw_below_drewN hB_54.out n_)
      have q_gr := Lib.hid (Hb.drewN n_ K_gr.out)
      have s_0 := (cell_drewN n_ HH.out)
      clear HH K_ga K_gr hB_54
      generalize World.drewN w_53 n_ = w_55 at q_ hB_56 q_gr s_0 ⊢
      have K_ga := q_; clear q_
      have K_gr := q_gr; clear q_gr
      refine hK.out _ _ (s_0) (fun hHeld => ?_)
      have HH := Lib.hid hHeld
      clear hHeld s_0
      clear hK K
      refine norm_ (a' := ?_) ?_ ?_
      rotate_left
      · show Act.put _ (some 95) _ = _
        simp only [Act.put, List.setIfInBounds_toArray, List.set_cons_zero, List.set_cons_succ, i64_w, i32_w]
        rfl
      refine pure_ (i := 4) (N := some 96) (v := ?_) (a' := ?_) #[true, true, true, true, true, false] rfl rfl (by kernel_rfl) (fun _ _ _ h => h) (Or.inl ⟨by rfl, ?_⟩) ?_ ?_
      rotate_left
      · intro w'
        go_simp
        with_reducible rfl
      rotate_left
      · simp only [Act.put, List.setIfInBounds_toArray, List.set_cons_zero, List.set_cons_succ, i64_w, i32_w]
        rfl
      refine last_ (i := 5) (N := none) #[true, true, true, true, true, true] rfl rfl (by kernel_rfl) (by decide) (fun K hK => ?_)
      refine skipH (h := _) (v := .int .u64 (tblR (h.x 66) 17582052945254416380)) (by rfl) rfl rfl rfl rfl (by kernel_rfl) rfl rfl K_ga.out (by decide) ?_
      have q_ := Lib.hid (Hb.put 66 ((tblR (h.x 66) 17582052945254416380)) K_ga.out)
      have hB_58 := Lib.hid (below_set (j := 66) (v := (.int .u64 (tblR (h.x 66) 17582052945254416380))) hB_56.out G_ga.out)
      have q_gr := Lib.hid (Hb.far (j := 66) (u := (.int .u64 (tblR (h.x 66) 17582052945254416380))) (Ne.symm N_ga_gr.out) K_gr.out)
      clear HH K_ga K_gr hB_56
      generalize World.setCell w_55 ⟨ga, 66, none⟩ (.int .u64 (tblR (h.x 66) 17582052945254416380)) = w_57 at q_ hB_58 q_gr ⊢
      have K_ga := q_; clear q_
      have K_gr := q_gr; clear q_gr
      refine hK.out _ _ ?_
      clear hK K
      refine done_ (by kernel_rfl) ?_
      try clear HH
      go_upto_region 22 with fail
      have c_ga_68 := (show World.cell? _ ⟨ga, 68, none⟩ = some (.int .u64 (h.x 68)) from (K_ga.out.u 68 rfl).trans rfl); have f_ga_68 := K_ga.out.fr 68
      go_upto_region 23 with fail
      refine world_code ga (by repeat (with_reducible first | exact K_ga.out | apply Hb.put | apply Hb.putP | apply Hb.putV | apply Hb.putW | apply Hb.putH | apply Hb.far N_ga_gr.out | apply Hb.drewN | apply Hb.drew)) (fun w' => Below w.heap.size w w' ∧ Hb w' gr Ht.zero) ⟨(by repeat (first | (with_reducible first | exact hB_58.out | apply pw_below_drewN | apply below_drew1 | refine below_set ?_ G_ga.out | refine below_set ?_ G_gr.out) | exact hB_58.out)), (by repeat (with_reducible first | exact K_gr.out | apply Hb.put | apply Hb.putP | apply Hb.putV | apply Hb.putW | apply Hb.putH | apply Hb.far (Ne.symm N_ga_gr.out) | apply Hb.drewN | apply Hb.drew))⟩ ?_
      clear c_ga_68 f_ga_68
      clear K_ga K_gr hB_58
      rintro w_59 q_ ⟨b_, q_gr⟩
      have K_ga := Lib.hid q_; have hB_60 := Lib.hid b_; have K_gr := Lib.hid q_gr
      clear q_ b_ q_gr
      have c_ga_69 := (show World.cell? _ ⟨ga, 69, none⟩ = some (.int .u64 (h.x 69)) from (K_ga.out.u 69 rfl).trans rfl); have f_ga_69 := K_ga.out.fr 69
      go_upto_region 24 with fail
      refine world_code ga (by repeat (with_reducible first | exact K_ga.out | apply Hb.put | apply Hb.putP | apply Hb.putV | apply Hb.putW | apply Hb.putH | apply Hb.far N_ga_gr.out | apply Hb.drewN | apply Hb.drew)) (fun w' => Below w.heap.size w w' ∧ Hb w' gr Ht.zero) ⟨(by repeat (first | (with_reducible first | exact hB_60.out | apply pw_below_drewN | apply below_drew1 | refine below_set ?_ G_ga.out | refine below_set ?_ G_gr.out) | exact hB_60.out)), (by repeat (with_reducible first | exact K_gr.out | apply Hb.put | apply Hb.putP | apply Hb.putV | apply Hb.putW | apply Hb.putH | apply Hb.far (Ne.symm N_ga_gr.out) | apply Hb.drewN | apply Hb.drew))⟩ ?_
      clear c_ga_69 f_ga_69
      clear K_ga K_gr hB_60
      rintro w_61 q_ ⟨b_, q_gr⟩
      have K_ga := Lib.hid q_; have hB_62 := Lib.hid b_; have K_gr := Lib.hid q_gr
      clear q_ b_ q_gr
      have c_ga_71 := (show World.cell? _ ⟨ga, 71, none⟩ = some (.int .u64 (h.x 71)) from (K_ga.out.u 71 rfl).trans rfl); have f_ga_71 := K_ga.out.fr 71
      go_upto_region 25 with fail
      refine world_code ga (by repeat (with_reducible first | exact K_ga.out | apply Hb.put | apply Hb.putP | apply Hb.putV | apply Hb.putW | apply Hb.putH | apply Hb.far N_ga_gr.out | apply Hb.drewN | apply Hb.drew)) (fun w' => Below w.heap.size w w' ∧ Hb w' gr Ht.zero) ⟨(by repeat (first | (with_reducible first | exact hB_62.out | apply pw_below_drewN | apply below_drew1 | refine below_set ?_ G_ga.out | refine below_set ?_ G_gr.out) | exact hB_62.out)), (by repeat (with_reducible first | exact K_gr.out | apply Hb.put | apply Hb.putP | apply Hb.putV | apply Hb.putW | apply Hb.putH | apply Hb.far (Ne.symm N_ga_gr.out) | apply Hb.drewN | apply Hb.drew))⟩ ?_
      clear c_ga_71 f_ga_71
      clear K_ga K_gr hB_62
      rintro w_63 q_ ⟨b_, q_gr⟩
      have K_ga := Lib.hid q_; have hB_64 := Lib.hid b_; have K_gr := Lib.hid q_gr
      clear q_ b_ q_gr
      have c_ga_74 := (show World.cell? _ ⟨ga, 74, none⟩ = some (.int .u64 (h.x 74)) from (K_ga.out.u 74 rfl).trans rfl); have f_ga_74 := K_ga.out.fr 74
      refine start_ (n := 6) (S := fun w' => w'.cell? ⟨ga, 74, none⟩ = some (.int .u64 (h.x 74))) (ds := [5]) #[false, false, false, false, false, false] (by kernel_rfl) rfl rfl ((show World.cell? _ ⟨ga, 74, none⟩ = some (.int .u64 (h.x 74)) by first | (go_simp; done) | (go_simp; rfl))) (fun hHeld => ?_)
      have HH0 := Lib.hid hHeld
      clear hHeld
      refine world_any ga (by repeat (with_reducible first | exact K_ga.out | apply Hb.put | apply Hb.putP | apply Hb.putV | apply Hb.putW | apply Hb.putH | apply Hb.far N_ga_gr.out | apply Hb.drewN | apply Hb.drew)) (fun w' => Below w.heap.size w w' ∧ Hb w' gr Ht.zero ∧ (w'.cell? ⟨ga, 74, none⟩ = some (.int .u64 (h.x 74)))) ⟨(by repeat (first | (with_reducible first | exact hB_64.out | apply pw_below_drewN | apply below_drew1 | refine below_set ?_ G_ga.out | refine below_set ?_ G_gr.out) | exact hB_64.out)), (by repeat (with_reducible first | exact K_gr.out | apply Hb.put | apply Hb.putP | apply Hb.putV | apply Hb.putW | apply Hb.putH | apply Hb.far (Ne.symm N_ga_gr.out) | apply Hb.drewN | apply Hb.drew)), HH0.out⟩ ?_
      clear HH0
      clear c_ga_74 f_ga_74
      clear K_ga K_gr hB_64
      rintro w_65 q_ ⟨b_, q_gr, hHeld⟩
      have K_ga := Lib.hid q_; have hB_66 := Lib.hid b_; have K_gr := Lib.hid q_gr
      clear q_ b_ q_gr
      refine pure_ (i := 0) (N := some 110) (v := ?_) (a' := ?_) #[true, false, false, false, false, false] rfl rfl (by kernel_rfl) (fun _ _ _ h => h) (Or.inl ⟨by rfl, ?_⟩) ?_ ?_
      rotate_left
      · intro w'
        go_simp
        with_reducible rfl
      rotate_left
      · simp only [Act.put, List.setIfInBounds_toArray, List.set_cons_zero, List.set_cons_succ, i64_w, i32_w]
        rfl
      refine take_ (i := 1) (N := some 111) (v := ?_) (a' := ?_) #[true, true, false, false, false, false] rfl rfl (by kernel_rfl) (fun _ _ _ h => h) (Or.inl ⟨by rfl, ?_⟩) hHeld ?_ ?_
      rotate_left
      · intro w' s0
        go_simp
        with_reducible rfl
      rotate_left
      · simp only [Act.put, List.setIfInBounds_toArray, List.set_cons_zero, List.set_cons_succ, i64_w, i32_w]
        rfl
      have HH := Lib.hid hHeld
      clear hHeld
      refine one_ (i := 2) (N := some 112) #[true, true, true, false, false, false] rfl rfl (by kernel_rfl) (by decide) (fun K hK => ?_)
      refine goes_ Tryd.func36 (by kernel_rfl) rfl #[.int .u64 0] (by rfl) rfl rfl (by simp only [List.map_toArray, List.map_cons, List.map_nil]; rfl) ?_
      with_reducible refine (but_0 _).mono ?_
      rintro e_ w_ ⟨rfl, ⟨n_, rfl⟩⟩
      refine ⟨_, rfl, ?_⟩
      have q_ := Lib.hid (Hb.drewN n_ K_ga.out)
      have hB_68 := Lib.hid (pw_below_drewN hB_66.out n_)
      have q_gr := Lib.hid (Hb.drewN n_ K_gr.out)
      have s_0 := (cell_drewN n_ HH.out)
      clear HH K_ga K_gr hB_66
      generalize World.drewN w_65 n_ = w_67 at q_ hB_68 q_gr s_0 ⊢
      have K_ga := q_; clear q_
      have K_gr := q_gr; clear q_gr
      refine hK.out _ _ (s_0) (fun hHeld => ?_)
      have HH := Lib.hid hHeld
      clear hHeld s_0
      clear hK K
      refine norm_ (a' := ?_) ?_ ?_
      rotate_left
      · show Act.put _ (some 112) _ = _
        simp only [Act.put, List.setIfInBounds_toArray, List.set_cons_zero, List.set_cons_succ, i64_w, i32_w]
        rfl
      refine one_ (i := 3) (N := some 113) #[true, true, true, true, false, false] rfl rfl (by kernel_rfl) (by decide) (fun K hK => ?_)
      refine goes_ Tryd.func38 (by kernel_rfl) rfl #[.int .u64 (h.x 74), .int .u64 18446744073709551615] (by rfl) rfl rfl (by simp only [List.map_toArray, List.map_cons, List.map_nil]; rfl) ?_
      with_reducible refine (table_c (h.x 74) 18446744073709551615 _).mono ?_
      rintro e_ w_ ⟨rfl, ⟨n_, rfl⟩⟩
      refine ⟨_, rfl, ?_⟩
      have q_ := Lib.hid (Hb.drewN n_ K_ga.out)
      have hB_70 := Lib.hid (pw_below_drewN hB_68.out n_)
      have q_gr := Lib.hid (Hb.drewN n_ K_gr.out)
      have s_0 := (cell_drewN n_ HH.out)
      clear HH K_ga K_gr hB_68
      generalize World.drewN w_67 n_ = w_69 at q_ hB_70 q_gr s_0 ⊢
      have K_ga := q_; clear q_
      have K_gr := q_gr; clear q_gr
      refine hK.out _ _ (s_0) (fun hHeld => ?_)
      have HH := Lib.hid hHeld
      clear hHeld s_0
      clear hK K
      refine norm_ (a' := ?_) ?_ ?_
      rotate_left
      · show Act.put _ (some 113) _ = _
        simp only [Act.put, List.setIfInBounds_toArray, List.set_cons_zero, List.set_cons_succ, i64_w, i32_w]
        rfl
      refine pure_ (i := 4) (N := some 114) (v := ?_) (a' := ?_) #[true, true, true, true, true, false] rfl rfl (by kernel_rfl) (fun _ _ _ h => h) (Or.inl ⟨by rfl, ?_⟩) ?_ ?_
      rotate_left
      · intro w'
        go_simp
        with_reducible rfl
      rotate_left
      · simp only [Act.put, List.setIfInBounds_toArray, List.set_cons_zero, List.set_cons_succ, i64_w, i32_w]
        rfl
      refine last_ (i := 5) (N := none) #[true, true, true, true, true, true] rfl rfl (by kernel_rfl) (by decide) (fun K hK => ?_)
      refine skipH (h := _) (v := .int .u64 (tblR (h.x 74) 18446744073709551615)) (by rfl) rfl rfl rfl rfl (by kernel_rfl) rfl rfl K_ga.out (by decide) ?_
      have q_ := Lib.hid (Hb.put 74 ((tblR (h.x 74) 18446744073709551615)) K_ga.out)
      have hB_72 := Lib.hid (below_set (j := 74) (v := (.int .u64 (tblR (h.x 74) 18446744073709551615))) hB_70.out G_ga.out)
      have q_gr := Lib.hid (Hb.far (j := 74) (u := (.int .u64 (tblR (h.x 74) 18446744073709551615))) (Ne.symm N_ga_gr.out) K_gr.out)
      clear HH K_ga K_gr hB_70
      generalize World.setCell w_69 ⟨ga, 74, none⟩ (.int .u64 (tblR (h.x 74) 18446744073709551615)) = w_71 at q_ hB_72 q_gr ⊢
      have K_ga := q_; clear q_
      have K_gr := q_gr; clear q_gr
      refine hK.out _ _ ?_
      clear hK K
      refine done_ (by kernel_rfl) ?_
      try clear HH
      go_upto_region 26 with fail
      have c_ga_1 := (show World.cell? _ ⟨ga, 1, none⟩ = some (.int .u64 (h.x 1)) from (K_ga.out.u 1 rfl).trans rfl); have f_ga_1 := K_ga.out.fr 1
      go_upto_region 27 with fail
      refine world_code ga (by repeat (with_reducible first | exact K_ga.out | apply Hb.put | apply Hb.putP | apply Hb.putV | apply Hb.putW | apply Hb.putH | apply Hb.far N_ga_gr.out | apply Hb.drewN | apply Hb.drew)) (fun w' => Below w.heap.size w w' ∧ Hb w' gr Ht.zero) ⟨(by repeat (first | (with_reducible first | exact hB_72.out | apply pw_below_drewN | apply below_drew1 | refine below_set ?_ G_ga.out | refine below_set ?_ G_gr.out) | exact hB_72.out)), (by repeat (with_reducible first | exact K_gr.out | apply Hb.put | apply Hb.putP | apply Hb.putV | apply Hb.putW | apply Hb.putH | apply Hb.far (Ne.symm N_ga_gr.out) | apply Hb.drewN | apply Hb.drew))⟩ ?_
      clear c_ga_1 f_ga_1
      clear K_ga K_gr hB_72
      rintro w_73 q_ ⟨b_, q_gr⟩
      have K_ga := Lib.hid q_; have hB_74 := Lib.hid b_; have K_gr := Lib.hid q_gr
      clear q_ b_ q_gr
      have c_ga_0 := (show World.cell? _ ⟨ga, 0, none⟩ = some (.int .u64 (h.x 0)) from (K_ga.out.u 0 rfl).trans rfl); have f_ga_0 := K_ga.out.fr 0
      go_upto_region 28 with fail
      refine world_code ga (by repeat (with_reducible first | exact K_ga.out | apply Hb.put | apply Hb.putP | apply Hb.putV | apply Hb.putW | apply Hb.putH | apply Hb.far N_ga_gr.out | apply Hb.drewN | apply Hb.drew)) (fun w' => Below w.heap.size w w' ∧ Hb w' gr Ht.zero) ⟨(by repeat (first | (with_reducible first | exact hB_74.out | apply pw_below_drewN | apply below_drew1 | refine below_set ?_ G_ga.out | refine below_set ?_ G_gr.out) | exact hB_74.out)), (by repeat (with_reducible first | exact K_gr.out | apply Hb.put | apply Hb.putP | apply Hb.putV | apply Hb.putW | apply Hb.putH | apply Hb.far (Ne.symm N_ga_gr.out) | apply Hb.drewN | apply Hb.drew))⟩ ?_
      clear c_ga_0 f_ga_0
      clear K_ga K_gr hB_74
      rintro w_75 q_ ⟨b_, q_gr⟩
      have K_ga := Lib.hid q_; have hB_76 := Lib.hid b_; have K_gr := Lib.hid q_gr
      clear q_ b_ q_gr
      have c_ga_33 := (show World.cell? _ ⟨ga, 33, none⟩ = some (.int .u8 (h.x 33)) from (K_ga.out.p).trans rfl); have f_ga_33 := K_ga.out.fr 33
      have c_ga_36 := (show World.cell? _ ⟨ga, 36, none⟩ = some (.bool h.hl) from (K_ga.out.ch).trans rfl); have f_ga_36 := K_ga.out.fr 36
      have c_ga_37 := (show World.cell? _ ⟨ga, 37, none⟩ = some (.int .u64 (h.x 37)) from (K_ga.out.u 37 rfl).trans rfl); have f_ga_37 := K_ga.out.fr 37
      have e_ : (((((((((((((((((((((((((h.set 38 (Go.bits .or .u64 (Go.bits .and .u64 (h.x 38) 824641984938) 42949672960)).set 39 (Go.bits .and .u64 (h.x 39) 15775743)).set 40 (Go.bits .or .u64 (Go.bits .and .u64 (h.x 40) 546) 5188)).set 41 (Go.bits .and .u64 (h.x 41) 7918)).set 42 (Go.bits .and .u64 (h.x 42) 546)).set 43 (Go.bits .andNot .u64 (h.x 43) 2)).set 44 (Go.bits .and .u64 (h.x 44) 7)).set 46 (Go.bits .andNot .u64 (h.x 46) 3)).set 51 (Go.bits .andNot .u64 (h.x 51) 2)).set 52 (Go.bits .and .u64 (h.x 52) 7)).set 54 (Go.bits .andNot .u64 (h.x 54) 3)).set 57 (tblR (h.x 57) 18446744073709551615)).set 58 (Go.bits .or .u64 (Go.bits .and .u64 (h.x 58) 7345088) 8589934592)).set 59 (Go.bits .and .u64 (h.x 59) 45567)).set 60 (Go.bits .and .u64 (h.x 60) 1092)).set 61 (Go.bits .and .u64 (h.x 61) 1092)).set 62 (Go.bits .and .u64 (h.x 62) 7)).set 63 (Go.bits .and .u64 (h.x 63) 2)).set 66 (tblR (h.x 66) 17582052945254416380)).set 68 (Go.bits .or .u64 (Go.bits .and .u64 (h.x 68) 786722) 8589934592)).set 69 (Go.bits .andNot .u64 (h.x 69) 2)).set 71 (Go.bits .andNot .u64 (h.x 71) 3)).set 74 (tblR (h.x 74) 18446744073709551615)).set 1 (0)).set 0 (Go.bits .andNot .u64 (h.x 0) 3)) = rfixA h s := by rw [HSX.out]; rfl
      rw [e_] at K_ga
      clear e_
      clear c_ga_33 f_ga_33 c_ga_36 f_ga_36 c_ga_37 f_ga_37
      have c_ga_33 := (show World.cell? _ ⟨ga, 33, none⟩ = some (.int .u8 (h.x 33)) from (K_ga.out.p).trans rfl); have f_ga_33 := K_ga.out.fr 33
      have c_ga_36 := (show World.cell? _ ⟨ga, 36, none⟩ = some (.bool h.hl) from (K_ga.out.ch).trans rfl); have f_ga_36 := K_ga.out.fr 36
      have c_ga_37 := (show World.cell? _ ⟨ga, 37, none⟩ = some (.int .u64 (h.x 37)) from (K_ga.out.u 37 rfl).trans rfl); have f_ga_37 := K_ga.out.fr 37
      have c_ga_34 := (show World.cell? _ ⟨ga, 34, none⟩ = some (.bool h.v) from (K_ga.out.cv).trans rfl); have f_ga_34 := K_ga.out.fr 34
      cases d2 : (h.x 33 != 1)
      · skip
        cases d3 : (h.x 33 != 3)
        · skip
          cases d5 : h.hl
          · skip
            have d3b : (h.x 33 == 3) = true := by rw [← Bool.not_inj_iff]; exact d3
            go_upto_region 35 with (fail)
            refine wp_region_list ?_
            refine load_hart (h := _) rfl (.tmp 1) rfl ga rfl (by repeat (with_reducible first | exact K_ga.out | apply Hb.put | apply Hb.putP | apply Hb.putV | apply Hb.putW | apply Hb.putH | apply Hb.far N_ga_gr.out | apply Hb.drewN | apply Hb.drew)) ?_
            refine store_hart rfl (.tmp 2) (.tmp 143) rfl gr _ rfl rfl Ht.zero (by repeat (with_reducible first | exact K_gr.out | apply Hb.put | apply Hb.putP | apply Hb.putV | apply Hb.putW | apply Hb.putH | apply Hb.far (Ne.symm N_ga_gr.out) | apply Hb.drewN | apply Hb.drew)) ?_
            go_wp2
            refine bodyPost_ret (results_cell_row rfl _ _ gr 25 _ (0, 0) _ rfl (Hb.putAll _ (by repeat (with_reducible first | exact K_gr.out | apply Hb.put | apply Hb.putP | apply Hb.putV | apply Hb.putW | apply Hb.putH | apply Hb.far (Ne.symm N_ga_gr.out) | apply Hb.drewN | apply Hb.drew))) Tryd.underlying25 rfl (by rw [Ht.size]; exact hartSize)) rfl ?_
            exact ⟨congrArg (fun q => Ending.returned (Value.agg q)) (Eq.trans (congrArg Ht.cs (show _ = rfixB h s false false from by unfold rfixB; first | (simp only [d5, if_true, if_false, Bool.false_eq_true]; done) | (simp only [d5, if_true, if_false, Bool.false_eq_true]; rfl))) (HE.out s false false HS.out (by unfold privOut; rw [d2, d3]; rfl) (by unfold privOut; rw [d2, d3]; cases h.v <;> rfl))), setCells_below G_gr.out _ _ _ (by repeat (first | (with_reducible first | exact hB_76.out | apply pw_below_drewN | apply below_drew1 | refine below_set ?_ G_ga.out | refine below_set ?_ G_gr.out) | exact hB_76.out))⟩
          · skip
            have d3b : (h.x 33 == 3) = true := by rw [← Bool.not_inj_iff]; exact d3
            go_upto_region 35 with (fail)
            refine wp_region_list ?_
            refine load_hart (h := _) rfl (.tmp 1) rfl ga rfl (by repeat (with_reducible first | exact K_ga.out | apply Hb.put | apply Hb.putP | apply Hb.putV | apply Hb.putW | apply Hb.putH | apply Hb.far N_ga_gr.out | apply Hb.drewN | apply Hb.drew)) ?_
            refine store_hart rfl (.tmp 2) (.tmp 143) rfl gr _ rfl rfl Ht.zero (by repeat (with_reducible first | exact K_gr.out | apply Hb.put | apply Hb.putP | apply Hb.putV | apply Hb.putW | apply Hb.putH | apply Hb.far (Ne.symm N_ga_gr.out) | apply Hb.drewN | apply Hb.drew)) ?_
            go_wp2
            refine bodyPost_ret (results_cell_row rfl _ _ gr 25 _ (0, 0) _ rfl (Hb.putAll _ (by repeat (with_reducible first | exact K_gr.out | apply Hb.put | apply Hb.putP | apply Hb.putV | apply Hb.putW | apply Hb.putH | apply Hb.far (Ne.symm N_ga_gr.out) | apply Hb.drewN | apply Hb.drew))) Tryd.underlying25 rfl (by rw [Ht.size]; exact hartSize)) rfl ?_
            exact ⟨congrArg (fun q => Ending.returned (Value.agg q)) (Eq.trans (congrArg Ht.cs (show _ = rfixB h s false false from by unfold rfixB; first | (simp only [d5, if_true, if_false, Bool.false_eq_true]; done) | (simp only [d5, if_true, if_false, Bool.false_eq_true]; rfl))) (HE.out s false false HS.out (by unfold privOut; rw [d2, d3]; rfl) (by unfold privOut; rw [d2, d3]; cases h.v <;> rfl))), setCells_below G_gr.out _ _ _ (by repeat (first | (with_reducible first | exact hB_76.out | apply pw_below_drewN | apply below_drew1 | refine below_set ?_ G_ga.out | refine below_set ?_ G_gr.out) | exact hB_76.out))⟩
        · skip
          cases d5 : h.hl
          · skip
            have d3b : (h.x 33 == 3) = false := by rw [← Bool.not_inj_iff]; exact d3
            go_upto_region 35 with (fail)
            refine wp_region_list ?_
            refine load_hart (h := _) rfl (.tmp 1) rfl ga rfl (by repeat (with_reducible first | exact K_ga.out | apply Hb.put | apply Hb.putP | apply Hb.putV | apply Hb.putW | apply Hb.putH | apply Hb.far N_ga_gr.out | apply Hb.drewN | apply Hb.drew)) ?_
            refine store_hart rfl (.tmp 2) (.tmp 143) rfl gr _ rfl rfl Ht.zero (by repeat (with_reducible first | exact K_gr.out | apply Hb.put | apply Hb.putP | apply Hb.putV | apply Hb.putW | apply Hb.putH | apply Hb.far (Ne.symm N_ga_gr.out) | apply Hb.drewN | apply Hb.drew)) ?_
            go_wp2
            refine bodyPost_ret (results_cell_row rfl _ _ gr 25 _ (0, 0) _ rfl (Hb.putAll _ (by repeat (with_reducible first | exact K_gr.out | apply Hb.put | apply Hb.putP | apply Hb.putV | apply Hb.putW | apply Hb.putH | apply Hb.far (Ne.symm N_ga_gr.out) | apply Hb.drewN | apply Hb.drew))) Tryd.underlying25 rfl (by rw [Ht.size]; exact hartSize)) rfl ?_
            exact ⟨congrArg (fun q => Ending.returned (Value.agg q)) (Eq.trans (congrArg Ht.cs (show _ = rfixB h s false h.v from by unfold rfixB; first | (simp only [d5, if_true, if_false, Bool.false_eq_true]; done) | (simp only [d5, if_true, if_false, Bool.false_eq_true]; rfl))) (HE.out s false h.v HS.out (by unfold privOut; rw [d2, d3]; rfl) (by unfold privOut; rw [d2, d3]; cases h.v <;> rfl))), setCells_below G_gr.out _ _ _ (by repeat (first | (with_reducible first | exact hB_76.out | apply pw_below_drewN | apply below_drew1 | refine below_set ?_ G_ga.out | refine below_set ?_ G_gr.out) | exact hB_76.out))⟩
          · skip
            have d3b : (h.x 33 == 3) = false := by rw [← Bool.not_inj_iff]; exact d3
            go_upto_region 35 with (fail)
            refine wp_region_list ?_
            refine load_hart (h := _) rfl (.tmp 1) rfl ga rfl (by repeat (with_reducible first | exact K_ga.out | apply Hb.put | apply Hb.putP | apply Hb.putV | apply Hb.putW | apply Hb.putH | apply Hb.far N_ga_gr.out | apply Hb.drewN | apply Hb.drew)) ?_
            refine store_hart rfl (.tmp 2) (.tmp 143) rfl gr _ rfl rfl Ht.zero (by repeat (with_reducible first | exact K_gr.out | apply Hb.put | apply Hb.putP | apply Hb.putV | apply Hb.putW | apply Hb.putH | apply Hb.far (Ne.symm N_ga_gr.out) | apply Hb.drewN | apply Hb.drew)) ?_
            go_wp2
            refine bodyPost_ret (results_cell_row rfl _ _ gr 25 _ (0, 0) _ rfl (Hb.putAll _ (by repeat (with_reducible first | exact K_gr.out | apply Hb.put | apply Hb.putP | apply Hb.putV | apply Hb.putW | apply Hb.putH | apply Hb.far (Ne.symm N_ga_gr.out) | apply Hb.drewN | apply Hb.drew))) Tryd.underlying25 rfl (by rw [Ht.size]; exact hartSize)) rfl ?_
            exact ⟨congrArg (fun q => Ending.returned (Value.agg q)) (Eq.trans (congrArg Ht.cs (show _ = rfixB h s false h.v from by unfold rfixB; first | (simp only [d5, if_true, if_false, Bool.false_eq_true]; done) | (simp only [d5, if_true, if_false, Bool.false_eq_true]; rfl))) (HE.out s false h.v HS.out (by unfold privOut; rw [d2, d3]; rfl) (by unfold privOut; rw [d2, d3]; cases h.v <;> rfl))), setCells_below G_gr.out _ _ _ (by repeat (first | (with_reducible first | exact hB_76.out | apply pw_below_drewN | apply below_drew1 | refine below_set ?_ G_ga.out | refine below_set ?_ G_gr.out) | exact hB_76.out))⟩
      · skip
        cases d3 : (h.x 33 != 3)
        · skip
          cases d5 : h.hl
          · skip
            have d3b : (h.x 33 == 3) = true := by rw [← Bool.not_inj_iff]; exact d3
            go_upto_region 35 with (fail)
            refine wp_region_list ?_
            refine load_hart (h := _) rfl (.tmp 1) rfl ga rfl (by repeat (with_reducible first | exact K_ga.out | apply Hb.put | apply Hb.putP | apply Hb.putV | apply Hb.putW | apply Hb.putH | apply Hb.far N_ga_gr.out | apply Hb.drewN | apply Hb.drew)) ?_
            refine store_hart rfl (.tmp 2) (.tmp 143) rfl gr _ rfl rfl Ht.zero (by repeat (with_reducible first | exact K_gr.out | apply Hb.put | apply Hb.putP | apply Hb.putV | apply Hb.putW | apply Hb.putH | apply Hb.far (Ne.symm N_ga_gr.out) | apply Hb.drewN | apply Hb.drew)) ?_
            go_wp2
            refine bodyPost_ret (results_cell_row rfl _ _ gr 25 _ (0, 0) _ rfl (Hb.putAll _ (by repeat (with_reducible first | exact K_gr.out | apply Hb.put | apply Hb.putP | apply Hb.putV | apply Hb.putW | apply Hb.putH | apply Hb.far (Ne.symm N_ga_gr.out) | apply Hb.drewN | apply Hb.drew))) Tryd.underlying25 rfl (by rw [Ht.size]; exact hartSize)) rfl ?_
            exact ⟨congrArg (fun q => Ending.returned (Value.agg q)) (Eq.trans (congrArg Ht.cs (show _ = rfixB h s false false from by unfold rfixB; first | (simp only [d5, if_true, if_false, Bool.false_eq_true]; done) | (simp only [d5, if_true, if_false, Bool.false_eq_true]; rfl))) (HE.out s false false HS.out (by unfold privOut; rw [d2, d3]; rfl) (by unfold privOut; rw [d2, d3]; cases h.v <;> rfl))), setCells_below G_gr.out _ _ _ (by repeat (first | (with_reducible first | exact hB_76.out | apply pw_below_drewN | apply below_drew1 | refine below_set ?_ G_ga.out | refine below_set ?_ G_gr.out) | exact hB_76.out))⟩
          · skip
            have d3b : (h.x 33 == 3) = true := by rw [← Bool.not_inj_iff]; exact d3
            go_upto_region 35 with (fail)
            refine wp_region_list ?_
            refine load_hart (h := _) rfl (.tmp 1) rfl ga rfl (by repeat (with_reducible first | exact K_ga.out | apply Hb.put | apply Hb.putP | apply Hb.putV | apply Hb.putW | apply Hb.putH | apply Hb.far N_ga_gr.out | apply Hb.drewN | apply Hb.drew)) ?_
            refine store_hart rfl (.tmp 2) (.tmp 143) rfl gr _ rfl rfl Ht.zero (by repeat (with_reducible first | exact K_gr.out | apply Hb.put | apply Hb.putP | apply Hb.putV | apply Hb.putW | apply Hb.putH | apply Hb.far (Ne.symm N_ga_gr.out) | apply Hb.drewN | apply Hb.drew)) ?_
            go_wp2
            refine bodyPost_ret (results_cell_row rfl _ _ gr 25 _ (0, 0) _ rfl (Hb.putAll _ (by repeat (with_reducible first | exact K_gr.out | apply Hb.put | apply Hb.putP | apply Hb.putV | apply Hb.putW | apply Hb.putH | apply Hb.far (Ne.symm N_ga_gr.out) | apply Hb.drewN | apply Hb.drew))) Tryd.underlying25 rfl (by rw [Ht.size]; exact hartSize)) rfl ?_
            exact ⟨congrArg (fun q => Ending.returned (Value.agg q)) (Eq.trans (congrArg Ht.cs (show _ = rfixB h s false false from by unfold rfixB; first | (simp only [d5, if_true, if_false, Bool.false_eq_true]; done) | (simp only [d5, if_true, if_false, Bool.false_eq_true]; rfl))) (HE.out s false false HS.out (by unfold privOut; rw [d2, d3]; rfl) (by unfold privOut; rw [d2, d3]; cases h.v <;> rfl))), setCells_below G_gr.out _ _ _ (by repeat (first | (with_reducible first | exact hB_76.out | apply pw_below_drewN | apply below_drew1 | refine below_set ?_ G_ga.out | refine below_set ?_ G_gr.out) | exact hB_76.out))⟩
        · skip
          cases d5 : h.hl
          · skip
            have d3b : (h.x 33 == 3) = false := by rw [← Bool.not_inj_iff]; exact d3
            go_upto_region 35 with (fail)
            refine wp_region_list ?_
            refine load_hart (h := _) rfl (.tmp 1) rfl ga rfl (by repeat (with_reducible first | exact K_ga.out | apply Hb.put | apply Hb.putP | apply Hb.putV | apply Hb.putW | apply Hb.putH | apply Hb.far N_ga_gr.out | apply Hb.drewN | apply Hb.drew)) ?_
            refine store_hart rfl (.tmp 2) (.tmp 143) rfl gr _ rfl rfl Ht.zero (by repeat (with_reducible first | exact K_gr.out | apply Hb.put | apply Hb.putP | apply Hb.putV | apply Hb.putW | apply Hb.putH | apply Hb.far (Ne.symm N_ga_gr.out) | apply Hb.drewN | apply Hb.drew)) ?_
            go_wp2
            refine bodyPost_ret (results_cell_row rfl _ _ gr 25 _ (0, 0) _ rfl (Hb.putAll _ (by repeat (with_reducible first | exact K_gr.out | apply Hb.put | apply Hb.putP | apply Hb.putV | apply Hb.putW | apply Hb.putH | apply Hb.far (Ne.symm N_ga_gr.out) | apply Hb.drewN | apply Hb.drew))) Tryd.underlying25 rfl (by rw [Ht.size]; exact hartSize)) rfl ?_
            exact ⟨congrArg (fun q => Ending.returned (Value.agg q)) (Eq.trans (congrArg Ht.cs (show _ = rfixB h s true h.v from by unfold rfixB; first | (simp only [d5, if_true, if_false, Bool.false_eq_true]; done) | (simp only [d5, if_true, if_false, Bool.false_eq_true]; rfl))) (HE.out s true h.v HS.out (by unfold privOut; rw [d2, d3]; rfl) (by unfold privOut; rw [d2, d3]; cases h.v <;> rfl))), setCells_below G_gr.out _ _ _ (by repeat (first | (with_reducible first | exact hB_76.out | apply pw_below_drewN | apply below_drew1 | refine below_set ?_ G_ga.out | refine below_set ?_ G_gr.out) | exact hB_76.out))⟩
          · skip
            have d3b : (h.x 33 == 3) = false := by rw [← Bool.not_inj_iff]; exact d3
            go_upto_region 35 with (fail)
            refine wp_region_list ?_
            refine load_hart (h := _) rfl (.tmp 1) rfl ga rfl (by repeat (with_reducible first | exact K_ga.out | apply Hb.put | apply Hb.putP | apply Hb.putV | apply Hb.putW | apply Hb.putH | apply Hb.far N_ga_gr.out | apply Hb.drewN | apply Hb.drew)) ?_
            refine store_hart rfl (.tmp 2) (.tmp 143) rfl gr _ rfl rfl Ht.zero (by repeat (with_reducible first | exact K_gr.out | apply Hb.put | apply Hb.putP | apply Hb.putV | apply Hb.putW | apply Hb.putH | apply Hb.far (Ne.symm N_ga_gr.out) | apply Hb.drewN | apply Hb.drew)) ?_
            go_wp2
            refine bodyPost_ret (results_cell_row rfl _ _ gr 25 _ (0, 0) _ rfl (Hb.putAll _ (by repeat (with_reducible first | exact K_gr.out | apply Hb.put | apply Hb.putP | apply Hb.putV | apply Hb.putW | apply Hb.putH | apply Hb.far (Ne.symm N_ga_gr.out) | apply Hb.drewN | apply Hb.drew))) Tryd.underlying25 rfl (by rw [Ht.size]; exact hartSize)) rfl ?_
            exact ⟨congrArg (fun q => Ending.returned (Value.agg q)) (Eq.trans (congrArg Ht.cs (show _ = rfixB h s true h.v from by unfold rfixB; first | (simp only [d5, if_true, if_false, Bool.false_eq_true]; done) | (simp only [d5, if_true, if_false, Bool.false_eq_true]; rfl))) (HE.out s true h.v HS.out (by unfold privOut; rw [d2, d3]; rfl) (by unfold privOut; rw [d2, d3]; cases h.v <;> rfl))), setCells_below G_gr.out _ _ _ (by repeat (first | (with_reducible first | exact hB_76.out | apply pw_below_drewN | apply below_drew1 | refine below_set ?_ G_ga.out | refine below_set ?_ G_gr.out) | exact hB_76.out))⟩
end Go.Proofs.YtlopmcakfalkpaaDoor.Hx
