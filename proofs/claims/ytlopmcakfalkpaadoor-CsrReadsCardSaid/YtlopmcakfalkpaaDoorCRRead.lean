/- What a register says, by the document. (By a program of this session.) -/
import Derived.Test.YtlopmcakfalkpaaDoorCLegal
import Derived.Test.YtlopmcakfalkpaaDoorBv
import Derived.Test.YtlopmcakfalkpaaDoorQx2
import Derived.Test.YtlopmcakfalkpaaDoorQx3
import Derived.Test.YtlopmcakfalkpaaDoorQx1
set_option linter.unusedSimpArgs false
set_option linter.unusedVariables false
namespace Go.Proofs.YtlopmcakfalkpaaDoor.Hx
open Go.Proofs.YtlopmcakfalkpaaDoor.Bv Go.RowKit Go.Proofs.YtlopmcakfalkpaaDoor.Q Go.Proofs.YtlopmcakfalkpaaDoorW.PrintWords Go.Proofs.YtlopmcakfalkpaaDoorW.PrintLast Go.Proofs.YtlopmcakfalkpaaDoorW.PrintMore Go.Proofs.YtlopmcakfalkpaaDoor.Rg

theorem bsm {α β : Type} (a : α) (f : α → Option β) : (some a).bind f = f a := by cases h : f a <;> simp [h]
theorem half_eq (op : BinOp) (a b : Int) : IntKind.u64.wrap ((Go.bits op .u64 a b).tdiv 2) = Go.bits op .u64 a b / 2 := by
  have e : ∃ y, Go.bits op .u64 a b = U y := ⟨_, bits_u64 op a b⟩
  obtain ⟨y, e⟩ := e
  have := U_range y
  rw [e, Int.tdiv_eq_ediv_of_nonneg this.1, wrap_u64, U_ofInt (by omega) (by omega)]
theorem rmeant_c (h : Ht) (no : Int) (w : World) : Calls Tryd.prog 29 #[.agg h.cs, .int .i64 no] w fun e w' => e = .returned (.int .i64 (meantV h.v no)) ∧ Below w.heap.size w w' := by
  rw [h.cs_lit]
  refine mezzanineref12_Meant.calls (h.x 0) (h.x 1) (h.x 2) (h.x 3) (h.x 4) (h.x 5) (h.x 6) (h.x 7) (h.x 8) (h.x 9) (h.x 10) (h.x 11) (h.x 12) (h.x 13) (h.x 14) (h.x 15) (h.x 16) (h.x 17) (h.x 18) (h.x 19) (h.x 20) (h.x 21) (h.x 22) (h.x 23) (h.x 24) (h.x 25) (h.x 26) (h.x 27) (h.x 28) (h.x 29) (h.x 30) (h.x 31) (h.x 32) (h.x 33) h.v h.wt h.hl (h.x 37) (h.x 38) (h.x 39) (h.x 40) (h.x 41) (h.x 42) (h.x 43) (h.x 44) (h.x 45) (h.x 46) (h.x 47) (h.x 48) (h.x 49) (h.x 50) (h.x 51) (h.x 52) (h.x 53) (h.x 54) (h.x 55) (h.x 56) (h.x 57) (h.x 58) (h.x 59) (h.x 60) (h.x 61) (h.x 62) (h.x 63) (h.x 64) (h.x 65) (h.x 66) (h.x 67) (h.x 68) (h.x 69) (h.x 70) (h.x 71) (h.x 72) (h.x 73) (h.x 74) (h.x 75) (h.x 76) no _ w ?_
  unfold mezzanineref12_Meant.f meantV
  cases h.v
  · rfl
  · rw [if_pos rfl, if_pos rfl]
    repeat' split
    all_goals first | rfl | omega
theorem bitf (a n : Int) (hn : 0 ≤ n) : mezzanineref12_bit.f a n = some (Go.bits .and .u64 (shr .u64 a n) 1 == 1) := by unfold mezzanineref12_bit.f; rw [if_pos hn]
theorem shr_1 {a : Int} (ha : 0 ≤ a ∧ a < 18446744073709551616) : shr .u64 a 1 = a / 2 := by
  obtain ⟨x, rfl⟩ := U_of ha.1 ha.2
  rw [shr_u64, show (2 : Int) = 2 ^ 1 from rfl, U_div_pow]; rfl
theorem shr_12 {a : Int} (ha : 0 ≤ a ∧ a < 18446744073709551616) : shr .u64 a 12 = a / 4096 := by
  obtain ⟨x, rfl⟩ := U_of ha.1 ha.2
  rw [shr_u64, show (4096 : Int) = 2 ^ 12 from rfl, U_div_pow]; rfl
def pG (d4 d5 : Bool) (x : Int) : Int := if d5 = true then Go.bits .or .u64 (if d4 = true then Go.bits .or .u64 x 1024 else x) 4096 else (if d4 = true then Go.bits .or .u64 x 1024 else x)
section
variable (h : Ht) (la lb lc ld : Bool) (lg lt : Int) (k : Nat) (x : Int)
theorem rj4 (b : Bool) : mezzanineref12_Pending.j4 (k + 1) x b (h.x 0) (h.x 1) (h.x 2) (h.x 3) (h.x 4) (h.x 5) (h.x 6) (h.x 7) (h.x 8) (h.x 9) (h.x 10) (h.x 11) (h.x 12) (h.x 13) (h.x 14) (h.x 15) (h.x 16) (h.x 17) (h.x 18) (h.x 19) (h.x 20) (h.x 21) (h.x 22) (h.x 23) (h.x 24) (h.x 25) (h.x 26) (h.x 27) (h.x 28) (h.x 29) (h.x 30) (h.x 31) (h.x 32) (h.x 33) h.v h.wt h.hl (h.x 37) (h.x 38) (h.x 39) (h.x 40) (h.x 41) (h.x 42) (h.x 43) (h.x 44) (h.x 45) (h.x 46) (h.x 47) (h.x 48) (h.x 49) (h.x 50) (h.x 51) (h.x 52) (h.x 53) (h.x 54) (h.x 55) (h.x 56) (h.x 57) (h.x 58) (h.x 59) (h.x 60) (h.x 61) (h.x 62) (h.x 63) (h.x 64) (h.x 65) (h.x 66) (h.x 67) (h.x 68) (h.x 69) (h.x 70) (h.x 71) (h.x 72) (h.x 73) (h.x 74) (h.x 75) (h.x 76) la lb lc ld lg lt = some (pG b (Go.bits .and .u64 lg (h.x 63) != 0) x) := by
  rw [mezzanineref12_Pending.j4]
  by_cases hz : Go.bits .and .u64 lg (h.x 63) = 0
  · rw [hz]; cases b <;> rfl
  · rw [show (Go.bits .and .u64 lg (h.x 63) != 0) = true from bne_iff_ne.2 hz, if_neg hz, if_neg hz]; cases b <;> rfl
theorem rj3 (b1 b2 : Bool) (e1 : mezzanineref12_bit.f (h.x 58) 12 = some b1) (e2 : mezzanineref12_bit.f lg 1 = some b2) : mezzanineref12_Pending.j3 (k + 2) x (h.x 0) (h.x 1) (h.x 2) (h.x 3) (h.x 4) (h.x 5) (h.x 6) (h.x 7) (h.x 8) (h.x 9) (h.x 10) (h.x 11) (h.x 12) (h.x 13) (h.x 14) (h.x 15) (h.x 16) (h.x 17) (h.x 18) (h.x 19) (h.x 20) (h.x 21) (h.x 22) (h.x 23) (h.x 24) (h.x 25) (h.x 26) (h.x 27) (h.x 28) (h.x 29) (h.x 30) (h.x 31) (h.x 32) (h.x 33) h.v h.wt h.hl (h.x 37) (h.x 38) (h.x 39) (h.x 40) (h.x 41) (h.x 42) (h.x 43) (h.x 44) (h.x 45) (h.x 46) (h.x 47) (h.x 48) (h.x 49) (h.x 50) (h.x 51) (h.x 52) (h.x 53) (h.x 54) (h.x 55) (h.x 56) (h.x 57) (h.x 58) (h.x 59) (h.x 60) (h.x 61) (h.x 62) (h.x 63) (h.x 64) (h.x 65) (h.x 66) (h.x 67) (h.x 68) (h.x 69) (h.x 70) (h.x 71) (h.x 72) (h.x 73) (h.x 74) (h.x 75) (h.x 76) la lb lc ld lg lt = some (pG (if b1 = true then b2 else false) (Go.bits .and .u64 lg (h.x 63) != 0) x) := by
  rw [mezzanineref12_Pending.j3, e1, bsm, e2, bsm]
  cases b1
  · rw [if_neg (show ¬ (false = true) by decide), if_neg (show ¬ (false = true) by decide)]; exact rj4 ..
  · rw [if_pos rfl, if_pos rfl]; exact rj4 ..
theorem rj2 (b1 b2 : Bool) (e1 : mezzanineref12_bit.f (h.x 58) 12 = some b1) (e2 : mezzanineref12_bit.f lg 1 = some b2) : mezzanineref12_Pending.j2 (k + 3) x (h.x 0) (h.x 1) (h.x 2) (h.x 3) (h.x 4) (h.x 5) (h.x 6) (h.x 7) (h.x 8) (h.x 9) (h.x 10) (h.x 11) (h.x 12) (h.x 13) (h.x 14) (h.x 15) (h.x 16) (h.x 17) (h.x 18) (h.x 19) (h.x 20) (h.x 21) (h.x 22) (h.x 23) (h.x 24) (h.x 25) (h.x 26) (h.x 27) (h.x 28) (h.x 29) (h.x 30) (h.x 31) (h.x 32) (h.x 33) h.v h.wt h.hl (h.x 37) (h.x 38) (h.x 39) (h.x 40) (h.x 41) (h.x 42) (h.x 43) (h.x 44) (h.x 45) (h.x 46) (h.x 47) (h.x 48) (h.x 49) (h.x 50) (h.x 51) (h.x 52) (h.x 53) (h.x 54) (h.x 55) (h.x 56) (h.x 57) (h.x 58) (h.x 59) (h.x 60) (h.x 61) (h.x 62) (h.x 63) (h.x 64) (h.x 65) (h.x 66) (h.x 67) (h.x 68) (h.x 69) (h.x 70) (h.x 71) (h.x 72) (h.x 73) (h.x 74) (h.x 75) (h.x 76) la lb lc ld lg lt = some (pG (if b1 = true then b2 else false) (Go.bits .and .u64 lg (h.x 63) != 0) (if ld = true then Go.bits .or .u64 x 512 else x)) := by
  rw [mezzanineref12_Pending.j2]
  cases ld
  · rw [if_neg (show ¬ (false = true) by decide), if_neg (show ¬ (false = true) by decide)]; exact rj3 h _ _ _ _ _ _ _ _ b1 b2 e1 e2
  · rw [if_pos rfl, if_pos rfl]; exact rj3 h _ _ _ _ _ _ _ _ b1 b2 e1 e2
theorem rj1 (b1 b2 : Bool) (e1 : mezzanineref12_bit.f (h.x 58) 12 = some b1) (e2 : mezzanineref12_bit.f lg 1 = some b2) : mezzanineref12_Pending.j1 (k + 4) x (h.x 0) (h.x 1) (h.x 2) (h.x 3) (h.x 4) (h.x 5) (h.x 6) (h.x 7) (h.x 8) (h.x 9) (h.x 10) (h.x 11) (h.x 12) (h.x 13) (h.x 14) (h.x 15) (h.x 16) (h.x 17) (h.x 18) (h.x 19) (h.x 20) (h.x 21) (h.x 22) (h.x 23) (h.x 24) (h.x 25) (h.x 26) (h.x 27) (h.x 28) (h.x 29) (h.x 30) (h.x 31) (h.x 32) (h.x 33) h.v h.wt h.hl (h.x 37) (h.x 38) (h.x 39) (h.x 40) (h.x 41) (h.x 42) (h.x 43) (h.x 44) (h.x 45) (h.x 46) (h.x 47) (h.x 48) (h.x 49) (h.x 50) (h.x 51) (h.x 52) (h.x 53) (h.x 54) (h.x 55) (h.x 56) (h.x 57) (h.x 58) (h.x 59) (h.x 60) (h.x 61) (h.x 62) (h.x 63) (h.x 64) (h.x 65) (h.x 66) (h.x 67) (h.x 68) (h.x 69) (h.x 70) (h.x 71) (h.x 72) (h.x 73) (h.x 74) (h.x 75) (h.x 76) la lb lc ld lg lt = some (pG (if b1 = true then b2 else false) (Go.bits .and .u64 lg (h.x 63) != 0) (if ld = true then Go.bits .or .u64 (if lc = true then Go.bits .or .u64 x 2048 else x) 512 else (if lc = true then Go.bits .or .u64 x 2048 else x))) := by
  rw [mezzanineref12_Pending.j1]
  cases lc
  · rw [if_neg (show ¬ (false = true) by decide), if_neg (show ¬ (false = true) by decide)]; exact rj2 h _ _ _ _ _ _ _ _ b1 b2 e1 e2
  · rw [if_pos rfl, if_pos rfl]; exact rj2 h _ _ _ _ _ _ _ _ b1 b2 e1 e2
theorem rj0 (b1 b2 : Bool) (e1 : mezzanineref12_bit.f (h.x 58) 12 = some b1) (e2 : mezzanineref12_bit.f lg 1 = some b2) : ∃ y, mezzanineref12_Pending.j0 (k + 5) x (h.x 0) (h.x 1) (h.x 2) (h.x 3) (h.x 4) (h.x 5) (h.x 6) (h.x 7) (h.x 8) (h.x 9) (h.x 10) (h.x 11) (h.x 12) (h.x 13) (h.x 14) (h.x 15) (h.x 16) (h.x 17) (h.x 18) (h.x 19) (h.x 20) (h.x 21) (h.x 22) (h.x 23) (h.x 24) (h.x 25) (h.x 26) (h.x 27) (h.x 28) (h.x 29) (h.x 30) (h.x 31) (h.x 32) (h.x 33) h.v h.wt h.hl (h.x 37) (h.x 38) (h.x 39) (h.x 40) (h.x 41) (h.x 42) (h.x 43) (h.x 44) (h.x 45) (h.x 46) (h.x 47) (h.x 48) (h.x 49) (h.x 50) (h.x 51) (h.x 52) (h.x 53) (h.x 54) (h.x 55) (h.x 56) (h.x 57) (h.x 58) (h.x 59) (h.x 60) (h.x 61) (h.x 62) (h.x 63) (h.x 64) (h.x 65) (h.x 66) (h.x 67) (h.x 68) (h.x 69) (h.x 70) (h.x 71) (h.x 72) (h.x 73) (h.x 74) (h.x 75) (h.x 76) la lb lc ld lg lt = some (pG (if b1 = true then b2 else false) (Go.bits .and .u64 lg (h.x 63) != 0) (if ld = true then Go.bits .or .u64 (if lc = true then Go.bits .or .u64 y 2048 else y) 512 else (if lc = true then Go.bits .or .u64 y 2048 else y))) ∧ y = (if lb = true then Go.bits .or .u64 x 128 else x) := by
  refine ⟨_, ?_, rfl⟩
  rw [mezzanineref12_Pending.j0]
  cases lb
  · rw [if_neg (show ¬ (false = true) by decide), if_neg (show ¬ (false = true) by decide)]; exact rj1 h _ _ _ _ _ _ _ _ b1 b2 e1 e2
  · rw [if_pos rfl, if_pos rfl]; exact rj1 h _ _ _ _ _ _ _ _ b1 b2 e1 e2
end
theorem rpend_f (h : Ht) (hw : h.wf) (la lb lc ld : Bool) (lg lt : Int) (hg : 0 ≤ lg ∧ lg < 18446744073709551616) : mezzanineref12_Pending.f 5 (h.x 0) (h.x 1) (h.x 2) (h.x 3) (h.x 4) (h.x 5) (h.x 6) (h.x 7) (h.x 8) (h.x 9) (h.x 10) (h.x 11) (h.x 12) (h.x 13) (h.x 14) (h.x 15) (h.x 16) (h.x 17) (h.x 18) (h.x 19) (h.x 20) (h.x 21) (h.x 22) (h.x 23) (h.x 24) (h.x 25) (h.x 26) (h.x 27) (h.x 28) (h.x 29) (h.x 30) (h.x 31) (h.x 32) (h.x 33) h.v h.wt h.hl (h.x 37) (h.x 38) (h.x 39) (h.x 40) (h.x 41) (h.x 42) (h.x 43) (h.x 44) (h.x 45) (h.x 46) (h.x 47) (h.x 48) (h.x 49) (h.x 50) (h.x 51) (h.x 52) (h.x 53) (h.x 54) (h.x 55) (h.x 56) (h.x 57) (h.x 58) (h.x 59) (h.x 60) (h.x 61) (h.x 62) (h.x 63) (h.x 64) (h.x 65) (h.x 66) (h.x 67) (h.x 68) (h.x 69) (h.x 70) (h.x 71) (h.x 72) (h.x 73) (h.x 74) (h.x 75) (h.x 76) la lb lc ld lg lt = some (pendV h la lb lc ld lg lt) := by
  have e1 := bitf (h.x 58) 12 (by decide)
  have e2 := bitf lg 1 (by decide)
  rw [shr_12 (hw.1 58)] at e1
  rw [shr_1 hg] at e2
  have ep : pendV h la lb lc ld lg lt = pG (if (Go.bits .and .u64 (h.x 58 / 4096) 1 == 1) = true then (Go.bits .and .u64 (lg / 2) 1 == 1) else false) (Go.bits .and .u64 lg (h.x 63) != 0) (if ld = true then Go.bits .or .u64 (if lc = true then Go.bits .or .u64 (if lb = true then Go.bits .or .u64 (if la = true then Go.bits .or .u64 (Go.bits .or .u64 (h.x 42) (h.x 61)) 8 else (Go.bits .or .u64 (h.x 42) (h.x 61))) 128 else (if la = true then Go.bits .or .u64 (Go.bits .or .u64 (h.x 42) (h.x 61)) 8 else (Go.bits .or .u64 (h.x 42) (h.x 61)))) 2048 else (if lb = true then Go.bits .or .u64 (if la = true then Go.bits .or .u64 (Go.bits .or .u64 (h.x 42) (h.x 61)) 8 else (Go.bits .or .u64 (h.x 42) (h.x 61))) 128 else (if la = true then Go.bits .or .u64 (Go.bits .or .u64 (h.x 42) (h.x 61)) 8 else (Go.bits .or .u64 (h.x 42) (h.x 61))))) 512 else (if lc = true then Go.bits .or .u64 (if lb = true then Go.bits .or .u64 (if la = true then Go.bits .or .u64 (Go.bits .or .u64 (h.x 42) (h.x 61)) 8 else (Go.bits .or .u64 (h.x 42) (h.x 61))) 128 else (if la = true then Go.bits .or .u64 (Go.bits .or .u64 (h.x 42) (h.x 61)) 8 else (Go.bits .or .u64 (h.x 42) (h.x 61)))) 2048 else (if lb = true then Go.bits .or .u64 (if la = true then Go.bits .or .u64 (Go.bits .or .u64 (h.x 42) (h.x 61)) 8 else (Go.bits .or .u64 (h.x 42) (h.x 61))) 128 else (if la = true then Go.bits .or .u64 (Go.bits .or .u64 (h.x 42) (h.x 61)) 8 else (Go.bits .or .u64 (h.x 42) (h.x 61)))))) := by
    unfold pG; rfl
  unfold mezzanineref12_Pending.f
  cases la
  · rw [if_neg (show ¬ (false = true) by decide)]
    obtain ⟨y, h1, h2⟩ := rj0 h false lb lc ld lg lt 0 (Go.bits .or .u64 (h.x 42) (h.x 61)) _ _ e1 e2
    rw [h1, ep, h2]; rfl
  · rw [if_pos rfl]
    obtain ⟨y, h1, h2⟩ := rj0 h true lb lc ld lg lt 0 (Go.bits .or .u64 (Go.bits .or .u64 (h.x 42) (h.x 61)) 8) _ _ e1 e2
    rw [h1, ep, h2]; rfl

theorem rpend_c (h : Ht) (hw : h.wf) (la lb lc ld : Bool) (lg lt : Int) (hg : 0 ≤ lg ∧ lg < 18446744073709551616) (w : World) : Calls Tryd.prog 12 #[.agg h.cs, .agg #[.bool la, .bool lb, .bool lc, .bool ld, .int .u64 lg, .int .u64 lt]] w fun e w' => e = .returned (.int .u64 (pendV h la lb lc ld lg lt)) ∧ Below w.heap.size w w' := by
  rw [h.cs_lit]
  exact mezzanineref12_Pending.calls 5 (h.x 0) (h.x 1) (h.x 2) (h.x 3) (h.x 4) (h.x 5) (h.x 6) (h.x 7) (h.x 8) (h.x 9) (h.x 10) (h.x 11) (h.x 12) (h.x 13) (h.x 14) (h.x 15) (h.x 16) (h.x 17) (h.x 18) (h.x 19) (h.x 20) (h.x 21) (h.x 22) (h.x 23) (h.x 24) (h.x 25) (h.x 26) (h.x 27) (h.x 28) (h.x 29) (h.x 30) (h.x 31) (h.x 32) (h.x 33) h.v h.wt h.hl (h.x 37) (h.x 38) (h.x 39) (h.x 40) (h.x 41) (h.x 42) (h.x 43) (h.x 44) (h.x 45) (h.x 46) (h.x 47) (h.x 48) (h.x 49) (h.x 50) (h.x 51) (h.x 52) (h.x 53) (h.x 54) (h.x 55) (h.x 56) (h.x 57) (h.x 58) (h.x 59) (h.x 60) (h.x 61) (h.x 62) (h.x 63) (h.x 64) (h.x 65) (h.x 66) (h.x 67) (h.x 68) (h.x 69) (h.x 70) (h.x 71) (h.x 72) (h.x 73) (h.x 74) (h.x 75) (h.x 76) la lb lc ld lg lt _ w (rpend_f h hw la lb lc ld lg lt hg)

set_option maxHeartbeats 16000000 in
set_option maxRecDepth 100000 in
theorem rread_c (h : Ht) (hw : h.wf) (la lb lc ld : Bool) (lg lt : Int) (hg : 0 ≤ lg ∧ lg < 18446744073709551616) (no : Int) (w : World) : Calls Tryd.prog 14 #[.agg h.cs, .agg #[.bool la, .bool lb, .bool lc, .bool ld, .int .u64 lg, .int .u64 lt], .int .i64 no] w fun e w' => e = .returned (.int .u64 (readV h la lb lc ld lg lt no)) ∧ Below w.heap.size w w' := by
  have HM := Lib.hid (rmeant_c h no); have HP := Lib.hid (rpend_c h hw la lb lc ld lg lt hg)
  obtain ⟨z, hz⟩ : ∃ z, readV h la lb lc ld lg lt no = z := ⟨_, rfl⟩
  rw [hz]
  unfold readV at hz
  clear hw hg
  generalize meantV h.v no = no2 at HM hz
  by_cases h_256 : no2 = 256
  · subst h_256
    have hz1 : Go.bits .or .u64 (Go.bits .and .u64 (h.x 38) 786722) 8589934592 = z := hz
    have HZ := Lib.hid hz1
    clear hz hz1
    have hu25 := Tryd.underlying25; have hu27 := Tryd.underlying27
    go_enter Tryd.func14, Tryd.ntmps14
    go_upto_region 1 with (first | ((with_reducible refine gate_dst (N := 3) rfl ?_); refine box_event ?hg (N := 3) ?hd (cs := h.cs) (t := 25) ?hr ?_; (case hd => rfl); (case hg => rfl); (case hr => first | (go_simp; done) | (go_simp; rfl)); intro ga hg w_1 H1 hb; have hB_2 := Lib.hid (below_step (Below.refl w.heap.size w) hb); have G_ga := Lib.hid (show w.heap.size ≤ ga by rw [hg]; exact ((Below.refl w.heap.size w)).size); have K_ga := Lib.hid (show Hb w_1 ga h from H1); clear hg hb H1) | ((with_reducible refine gate_dst (N := 4) rfl ?_); refine box_event ?hg (N := 4) ?hd (cs := #[.bool la, .bool lb, .bool lc, .bool ld, .int .u64 lg, .int .u64 lt]) (t := 27) ?hr ?_; (case hd => rfl); (case hg => rfl); (case hr => first | (go_simp; done) | (go_simp; rfl)); intro gt hg w_3 H1 hb; have hB_4 := Lib.hid (below_step hB_2.out hb); have G_gt := Lib.hid (show w.heap.size ≤ gt by rw [hg]; exact (hB_2.out).size); have N_ga_gt := Lib.hid (show ga ≠ gt by rw [hg]; exact Nat.ne_of_lt (K_ga.out.lt)); replace K_ga := Lib.hid (K_ga.out.below hb); have K_gt := Lib.hid (show w_3.heap[gt]? = some (.cells #[.bool la, .bool lb, .bool lc, .bool ld, .int .u64 lg, .int .u64 lt] 27 (0, 0)) from H1); clear hg hb H1 hB_2; clear hu25 hu27))
    go_wp2_with (first | ((with_reducible refine gate_dst (N := 7) rfl ?_); (first | (refine gate_guard (by kernel_rfl) ?_) | skip); refine Kd.event_run rfl (v := .agg (h).cs) (w1 := w_3) ?hb ?_; (case hb => exact exec_load_hart rfl rfl K_ga.out)))
    refine (HM.out _).mono ?_
    rintro e_5 w_6 ⟨rfl, hb⟩
    have hB_7 := Lib.hid (below_step hB_4.out hb)
    replace K_ga := Lib.hid (K_ga.out.below hb)
    replace K_gt := Lib.hid (blk_below K_gt.out hb)
    clear hb hB_4
    have c_ga_38 := K_ga.out.u 38 rfl; have f_ga_38 := K_ga.out.fr 38
    go_wp2
    go_ret
    exact ⟨by first | (rw [← HZ.out]; done) | (rw [← HZ.out]; rfl), hB_7.out⟩
  by_cases h_260 : no2 = 260
  · subst h_260
    have hz1 : Go.bits .and .u64 (Go.bits .and .u64 (h.x 41) 546) (h.x 40) = z := hz
    have HZ := Lib.hid hz1
    clear hz hz1
    have hu25 := Tryd.underlying25; have hu27 := Tryd.underlying27
    go_enter Tryd.func14, Tryd.ntmps14
    go_upto_region 1 with (first | ((with_reducible refine gate_dst (N := 3) rfl ?_); refine box_event ?hg (N := 3) ?hd (cs := h.cs) (t := 25) ?hr ?_; (case hd => rfl); (case hg => rfl); (case hr => first | (go_simp; done) | (go_simp; rfl)); intro ga hg w_1 H1 hb; have hB_2 := Lib.hid (below_step (Below.refl w.heap.size w) hb); have G_ga := Lib.hid (show w.heap.size ≤ ga by rw [hg]; exact ((Below.refl w.heap.size w)).size); have K_ga := Lib.hid (show Hb w_1 ga h from H1); clear hg hb H1) | ((with_reducible refine gate_dst (N := 4) rfl ?_); refine box_event ?hg (N := 4) ?hd (cs := #[.bool la, .bool lb, .bool lc, .bool ld, .int .u64 lg, .int .u64 lt]) (t := 27) ?hr ?_; (case hd => rfl); (case hg => rfl); (case hr => first | (go_simp; done) | (go_simp; rfl)); intro gt hg w_3 H1 hb; have hB_4 := Lib.hid (below_step hB_2.out hb); have G_gt := Lib.hid (show w.heap.size ≤ gt by rw [hg]; exact (hB_2.out).size); have N_ga_gt := Lib.hid (show ga ≠ gt by rw [hg]; exact Nat.ne_of_lt (K_ga.out.lt)); replace K_ga := Lib.hid (K_ga.out.below hb); have K_gt := Lib.hid (show w_3.heap[gt]? = some (.cells #[.bool la, .bool lb, .bool lc, .bool ld, .int .u64 lg, .int .u64 lt] 27 (0, 0)) from H1); clear hg hb H1 hB_2; clear hu25 hu27))
    go_wp2_with (first | ((with_reducible refine gate_dst (N := 7) rfl ?_); (first | (refine gate_guard (by kernel_rfl) ?_) | skip); refine Kd.event_run rfl (v := .agg (h).cs) (w1 := w_3) ?hb ?_; (case hb => exact exec_load_hart rfl rfl K_ga.out)))
    refine (HM.out _).mono ?_
    rintro e_5 w_6 ⟨rfl, hb⟩
    have hB_7 := Lib.hid (below_step hB_4.out hb)
    replace K_ga := Lib.hid (K_ga.out.below hb)
    replace K_gt := Lib.hid (blk_below K_gt.out hb)
    clear hb hB_4
    have c_ga_40 := K_ga.out.u 40 rfl; have f_ga_40 := K_ga.out.fr 40
    have c_ga_41 := K_ga.out.u 41 rfl; have f_ga_41 := K_ga.out.fr 41
    go_wp2
    go_ret
    exact ⟨by first | (rw [← HZ.out]; done) | (rw [← HZ.out]; rfl), hB_7.out⟩
  by_cases h_261 : no2 = 261
  · subst h_261
    have hz1 : h.x 51 = z := hz
    have HZ := Lib.hid hz1
    clear hz hz1
    have hu25 := Tryd.underlying25; have hu27 := Tryd.underlying27
    go_enter Tryd.func14, Tryd.ntmps14
    go_upto_region 1 with (first | ((with_reducible refine gate_dst (N := 3) rfl ?_); refine box_event ?hg (N := 3) ?hd (cs := h.cs) (t := 25) ?hr ?_; (case hd => rfl); (case hg => rfl); (case hr => first | (go_simp; done) | (go_simp; rfl)); intro ga hg w_1 H1 hb; have hB_2 := Lib.hid (below_step (Below.refl w.heap.size w) hb); have G_ga := Lib.hid (show w.heap.size ≤ ga by rw [hg]; exact ((Below.refl w.heap.size w)).size); have K_ga := Lib.hid (show Hb w_1 ga h from H1); clear hg hb H1) | ((with_reducible refine gate_dst (N := 4) rfl ?_); refine box_event ?hg (N := 4) ?hd (cs := #[.bool la, .bool lb, .bool lc, .bool ld, .int .u64 lg, .int .u64 lt]) (t := 27) ?hr ?_; (case hd => rfl); (case hg => rfl); (case hr => first | (go_simp; done) | (go_simp; rfl)); intro gt hg w_3 H1 hb; have hB_4 := Lib.hid (below_step hB_2.out hb); have G_gt := Lib.hid (show w.heap.size ≤ gt by rw [hg]; exact (hB_2.out).size); have N_ga_gt := Lib.hid (show ga ≠ gt by rw [hg]; exact Nat.ne_of_lt (K_ga.out.lt)); replace K_ga := Lib.hid (K_ga.out.below hb); have K_gt := Lib.hid (show w_3.heap[gt]? = some (.cells #[.bool la, .bool lb, .bool lc, .bool ld, .int .u64 lg, .int .u64 lt] 27 (0, 0)) from H1); clear hg hb H1 hB_2; clear hu25 hu27))
    go_wp2_with (first | ((with_reducible refine gate_dst (N := 7) rfl ?_); (first | (refine gate_guard (by kernel_rfl) ?_) | skip); refine Kd.event_run rfl (v := .agg (h).cs) (w1 := w_3) ?hb ?_; (case hb => exact exec_load_hart rfl rfl K_ga.out)))
    refine (HM.out _).mono ?_
    rintro e_5 w_6 ⟨rfl, hb⟩
    have hB_7 := Lib.hid (below_step hB_4.out hb)
    replace K_ga := Lib.hid (K_ga.out.below hb)
    replace K_gt := Lib.hid (blk_below K_gt.out hb)
    clear hb hB_4
    have c_ga_51 := K_ga.out.u 51 rfl; have f_ga_51 := K_ga.out.fr 51
    go_wp2
    go_ret
    exact ⟨by first | (rw [← HZ.out]; done) | (rw [← HZ.out]; rfl), hB_7.out⟩
  by_cases h_262 : no2 = 262
  · subst h_262
    have hz1 : h.x 52 = z := hz
    have HZ := Lib.hid hz1
    clear hz hz1
    have hu25 := Tryd.underlying25; have hu27 := Tryd.underlying27
    go_enter Tryd.func14, Tryd.ntmps14
    go_upto_region 1 with (first | ((with_reducible refine gate_dst (N := 3) rfl ?_); refine box_event ?hg (N := 3) ?hd (cs := h.cs) (t := 25) ?hr ?_; (case hd => rfl); (case hg => rfl); (case hr => first | (go_simp; done) | (go_simp; rfl)); intro ga hg w_1 H1 hb; have hB_2 := Lib.hid (below_step (Below.refl w.heap.size w) hb); have G_ga := Lib.hid (show w.heap.size ≤ ga by rw [hg]; exact ((Below.refl w.heap.size w)).size); have K_ga := Lib.hid (show Hb w_1 ga h from H1); clear hg hb H1) | ((with_reducible refine gate_dst (N := 4) rfl ?_); refine box_event ?hg (N := 4) ?hd (cs := #[.bool la, .bool lb, .bool lc, .bool ld, .int .u64 lg, .int .u64 lt]) (t := 27) ?hr ?_; (case hd => rfl); (case hg => rfl); (case hr => first | (go_simp; done) | (go_simp; rfl)); intro gt hg w_3 H1 hb; have hB_4 := Lib.hid (below_step hB_2.out hb); have G_gt := Lib.hid (show w.heap.size ≤ gt by rw [hg]; exact (hB_2.out).size); have N_ga_gt := Lib.hid (show ga ≠ gt by rw [hg]; exact Nat.ne_of_lt (K_ga.out.lt)); replace K_ga := Lib.hid (K_ga.out.below hb); have K_gt := Lib.hid (show w_3.heap[gt]? = some (.cells #[.bool la, .bool lb, .bool lc, .bool ld, .int .u64 lg, .int .u64 lt] 27 (0, 0)) from H1); clear hg hb H1 hB_2; clear hu25 hu27))
    go_wp2_with (first | ((with_reducible refine gate_dst (N := 7) rfl ?_); (first | (refine gate_guard (by kernel_rfl) ?_) | skip); refine Kd.event_run rfl (v := .agg (h).cs) (w1 := w_3) ?hb ?_; (case hb => exact exec_load_hart rfl rfl K_ga.out)))
    refine (HM.out _).mono ?_
    rintro e_5 w_6 ⟨rfl, hb⟩
    have hB_7 := Lib.hid (below_step hB_4.out hb)
    replace K_ga := Lib.hid (K_ga.out.below hb)
    replace K_gt := Lib.hid (blk_below K_gt.out hb)
    clear hb hB_4
    have c_ga_52 := K_ga.out.u 52 rfl; have f_ga_52 := K_ga.out.fr 52
    go_wp2
    go_ret
    exact ⟨by first | (rw [← HZ.out]; done) | (rw [← HZ.out]; rfl), hB_7.out⟩
  by_cases h_320 : no2 = 320
  · subst h_320
    have hz1 : h.x 53 = z := hz
    have HZ := Lib.hid hz1
    clear hz hz1
    have hu25 := Tryd.underlying25; have hu27 := Tryd.underlying27
    go_enter Tryd.func14, Tryd.ntmps14
    go_upto_region 1 with (first | ((with_reducible refine gate_dst (N := 3) rfl ?_); refine box_event ?hg (N := 3) ?hd (cs := h.cs) (t := 25) ?hr ?_; (case hd => rfl); (case hg => rfl); (case hr => first | (go_simp; done) | (go_simp; rfl)); intro ga hg w_1 H1 hb; have hB_2 := Lib.hid (below_step (Below.refl w.heap.size w) hb); have G_ga := Lib.hid (show w.heap.size ≤ ga by rw [hg]; exact ((Below.refl w.heap.size w)).size); have K_ga := Lib.hid (show Hb w_1 ga h from H1); clear hg hb H1) | ((with_reducible refine gate_dst (N := 4) rfl ?_); refine box_event ?hg (N := 4) ?hd (cs := #[.bool la, .bool lb, .bool lc, .bool ld, .int .u64 lg, .int .u64 lt]) (t := 27) ?hr ?_; (case hd => rfl); (case hg => rfl); (case hr => first | (go_simp; done) | (go_simp; rfl)); intro gt hg w_3 H1 hb; have hB_4 := Lib.hid (below_step hB_2.out hb); have G_gt := Lib.hid (show w.heap.size ≤ gt by rw [hg]; exact (hB_2.out).size); have N_ga_gt := Lib.hid (show ga ≠ gt by rw [hg]; exact Nat.ne_of_lt (K_ga.out.lt)); replace K_ga := Lib.hid (K_ga.out.below hb); have K_gt := Lib.hid (show w_3.heap[gt]? = some (.cells #[.bool la, .bool lb, .bool lc, .bool ld, .int .u64 lg, .int .u64 lt] 27 (0, 0)) from H1); clear hg hb H1 hB_2; clear hu25 hu27))
    go_wp2_with (first | ((with_reducible refine gate_dst (N := 7) rfl ?_); (first | (refine gate_guard (by kernel_rfl) ?_) | skip); refine Kd.event_run rfl (v := .agg (h).cs) (w1 := w_3) ?hb ?_; (case hb => exact exec_load_hart rfl rfl K_ga.out)))
    refine (HM.out _).mono ?_
    rintro e_5 w_6 ⟨rfl, hb⟩
    have hB_7 := Lib.hid (below_step hB_4.out hb)
    replace K_ga := Lib.hid (K_ga.out.below hb)
    replace K_gt := Lib.hid (blk_below K_gt.out hb)
    clear hb hB_4
    have c_ga_53 := K_ga.out.u 53 rfl; have f_ga_53 := K_ga.out.fr 53
    go_wp2
    go_ret
    exact ⟨by first | (rw [← HZ.out]; done) | (rw [← HZ.out]; rfl), hB_7.out⟩
  by_cases h_321 : no2 = 321
  · subst h_321
    have hz1 : h.x 54 = z := hz
    have HZ := Lib.hid hz1
    clear hz hz1
    have hu25 := Tryd.underlying25; have hu27 := Tryd.underlying27
    go_enter Tryd.func14, Tryd.ntmps14
    go_upto_region 1 with (first | ((with_reducible refine gate_dst (N := 3) rfl ?_); refine box_event ?hg (N := 3) ?hd (cs := h.cs) (t := 25) ?hr ?_; (case hd => rfl); (case hg => rfl); (case hr => first | (go_simp; done) | (go_simp; rfl)); intro ga hg w_1 H1 hb; have hB_2 := Lib.hid (below_step (Below.refl w.heap.size w) hb); have G_ga := Lib.hid (show w.heap.size ≤ ga by rw [hg]; exact ((Below.refl w.heap.size w)).size); have K_ga := Lib.hid (show Hb w_1 ga h from H1); clear hg hb H1) | ((with_reducible refine gate_dst (N := 4) rfl ?_); refine box_event ?hg (N := 4) ?hd (cs := #[.bool la, .bool lb, .bool lc, .bool ld, .int .u64 lg, .int .u64 lt]) (t := 27) ?hr ?_; (case hd => rfl); (case hg => rfl); (case hr => first | (go_simp; done) | (go_simp; rfl)); intro gt hg w_3 H1 hb; have hB_4 := Lib.hid (below_step hB_2.out hb); have G_gt := Lib.hid (show w.heap.size ≤ gt by rw [hg]; exact (hB_2.out).size); have N_ga_gt := Lib.hid (show ga ≠ gt by rw [hg]; exact Nat.ne_of_lt (K_ga.out.lt)); replace K_ga := Lib.hid (K_ga.out.below hb); have K_gt := Lib.hid (show w_3.heap[gt]? = some (.cells #[.bool la, .bool lb, .bool lc, .bool ld, .int .u64 lg, .int .u64 lt] 27 (0, 0)) from H1); clear hg hb H1 hB_2; clear hu25 hu27))
    go_wp2_with (first | ((with_reducible refine gate_dst (N := 7) rfl ?_); (first | (refine gate_guard (by kernel_rfl) ?_) | skip); refine Kd.event_run rfl (v := .agg (h).cs) (w1 := w_3) ?hb ?_; (case hb => exact exec_load_hart rfl rfl K_ga.out)))
    refine (HM.out _).mono ?_
    rintro e_5 w_6 ⟨rfl, hb⟩
    have hB_7 := Lib.hid (below_step hB_4.out hb)
    replace K_ga := Lib.hid (K_ga.out.below hb)
    replace K_gt := Lib.hid (blk_below K_gt.out hb)
    clear hb hB_4
    have c_ga_54 := K_ga.out.u 54 rfl; have f_ga_54 := K_ga.out.fr 54
    go_wp2
    go_ret
    exact ⟨by first | (rw [← HZ.out]; done) | (rw [← HZ.out]; rfl), hB_7.out⟩
  by_cases h_322 : no2 = 322
  · subst h_322
    have hz1 : h.x 55 = z := hz
    have HZ := Lib.hid hz1
    clear hz hz1
    have hu25 := Tryd.underlying25; have hu27 := Tryd.underlying27
    go_enter Tryd.func14, Tryd.ntmps14
    go_upto_region 1 with (first | ((with_reducible refine gate_dst (N := 3) rfl ?_); refine box_event ?hg (N := 3) ?hd (cs := h.cs) (t := 25) ?hr ?_; (case hd => rfl); (case hg => rfl); (case hr => first | (go_simp; done) | (go_simp; rfl)); intro ga hg w_1 H1 hb; have hB_2 := Lib.hid (below_step (Below.refl w.heap.size w) hb); have G_ga := Lib.hid (show w.heap.size ≤ ga by rw [hg]; exact ((Below.refl w.heap.size w)).size); have K_ga := Lib.hid (show Hb w_1 ga h from H1); clear hg hb H1) | ((with_reducible refine gate_dst (N := 4) rfl ?_); refine box_event ?hg (N := 4) ?hd (cs := #[.bool la, .bool lb, .bool lc, .bool ld, .int .u64 lg, .int .u64 lt]) (t := 27) ?hr ?_; (case hd => rfl); (case hg => rfl); (case hr => first | (go_simp; done) | (go_simp; rfl)); intro gt hg w_3 H1 hb; have hB_4 := Lib.hid (below_step hB_2.out hb); have G_gt := Lib.hid (show w.heap.size ≤ gt by rw [hg]; exact (hB_2.out).size); have N_ga_gt := Lib.hid (show ga ≠ gt by rw [hg]; exact Nat.ne_of_lt (K_ga.out.lt)); replace K_ga := Lib.hid (K_ga.out.below hb); have K_gt := Lib.hid (show w_3.heap[gt]? = some (.cells #[.bool la, .bool lb, .bool lc, .bool ld, .int .u64 lg, .int .u64 lt] 27 (0, 0)) from H1); clear hg hb H1 hB_2; clear hu25 hu27))
    go_wp2_with (first | ((with_reducible refine gate_dst (N := 7) rfl ?_); (first | (refine gate_guard (by kernel_rfl) ?_) | skip); refine Kd.event_run rfl (v := .agg (h).cs) (w1 := w_3) ?hb ?_; (case hb => exact exec_load_hart rfl rfl K_ga.out)))
    refine (HM.out _).mono ?_
    rintro e_5 w_6 ⟨rfl, hb⟩
    have hB_7 := Lib.hid (below_step hB_4.out hb)
    replace K_ga := Lib.hid (K_ga.out.below hb)
    replace K_gt := Lib.hid (blk_below K_gt.out hb)
    clear hb hB_4
    have c_ga_55 := K_ga.out.u 55 rfl; have f_ga_55 := K_ga.out.fr 55
    go_wp2
    go_ret
    exact ⟨by first | (rw [← HZ.out]; done) | (rw [← HZ.out]; rfl), hB_7.out⟩
  by_cases h_323 : no2 = 323
  · subst h_323
    have hz1 : h.x 56 = z := hz
    have HZ := Lib.hid hz1
    clear hz hz1
    have hu25 := Tryd.underlying25; have hu27 := Tryd.underlying27
    go_enter Tryd.func14, Tryd.ntmps14
    go_upto_region 1 with (first | ((with_reducible refine gate_dst (N := 3) rfl ?_); refine box_event ?hg (N := 3) ?hd (cs := h.cs) (t := 25) ?hr ?_; (case hd => rfl); (case hg => rfl); (case hr => first | (go_simp; done) | (go_simp; rfl)); intro ga hg w_1 H1 hb; have hB_2 := Lib.hid (below_step (Below.refl w.heap.size w) hb); have G_ga := Lib.hid (show w.heap.size ≤ ga by rw [hg]; exact ((Below.refl w.heap.size w)).size); have K_ga := Lib.hid (show Hb w_1 ga h from H1); clear hg hb H1) | ((with_reducible refine gate_dst (N := 4) rfl ?_); refine box_event ?hg (N := 4) ?hd (cs := #[.bool la, .bool lb, .bool lc, .bool ld, .int .u64 lg, .int .u64 lt]) (t := 27) ?hr ?_; (case hd => rfl); (case hg => rfl); (case hr => first | (go_simp; done) | (go_simp; rfl)); intro gt hg w_3 H1 hb; have hB_4 := Lib.hid (below_step hB_2.out hb); have G_gt := Lib.hid (show w.heap.size ≤ gt by rw [hg]; exact (hB_2.out).size); have N_ga_gt := Lib.hid (show ga ≠ gt by rw [hg]; exact Nat.ne_of_lt (K_ga.out.lt)); replace K_ga := Lib.hid (K_ga.out.below hb); have K_gt := Lib.hid (show w_3.heap[gt]? = some (.cells #[.bool la, .bool lb, .bool lc, .bool ld, .int .u64 lg, .int .u64 lt] 27 (0, 0)) from H1); clear hg hb H1 hB_2; clear hu25 hu27))
    go_wp2_with (first | ((with_reducible refine gate_dst (N := 7) rfl ?_); (first | (refine gate_guard (by kernel_rfl) ?_) | skip); refine Kd.event_run rfl (v := .agg (h).cs) (w1 := w_3) ?hb ?_; (case hb => exact exec_load_hart rfl rfl K_ga.out)))
    refine (HM.out _).mono ?_
    rintro e_5 w_6 ⟨rfl, hb⟩
    have hB_7 := Lib.hid (below_step hB_4.out hb)
    replace K_ga := Lib.hid (K_ga.out.below hb)
    replace K_gt := Lib.hid (blk_below K_gt.out hb)
    clear hb hB_4
    have c_ga_56 := K_ga.out.u 56 rfl; have f_ga_56 := K_ga.out.fr 56
    go_wp2
    go_ret
    exact ⟨by first | (rw [← HZ.out]; done) | (rw [← HZ.out]; rfl), hB_7.out⟩
  by_cases h_324 : no2 = 324
  · subst h_324
    have hz1 : Go.bits .and .u64 (Go.bits .and .u64 (pendV h la lb lc ld lg lt) 546) (h.x 40) = z := hz
    have HZ := Lib.hid hz1
    clear hz hz1
    have hu25 := Tryd.underlying25; have hu27 := Tryd.underlying27
    go_enter Tryd.func14, Tryd.ntmps14
    go_upto_region 1 with (first | ((with_reducible refine gate_dst (N := 3) rfl ?_); refine box_event ?hg (N := 3) ?hd (cs := h.cs) (t := 25) ?hr ?_; (case hd => rfl); (case hg => rfl); (case hr => first | (go_simp; done) | (go_simp; rfl)); intro ga hg w_1 H1 hb; have hB_2 := Lib.hid (below_step (Below.refl w.heap.size w) hb); have G_ga := Lib.hid (show w.heap.size ≤ ga by rw [hg]; exact ((Below.refl w.heap.size w)).size); have K_ga := Lib.hid (show Hb w_1 ga h from H1); clear hg hb H1) | ((with_reducible refine gate_dst (N := 4) rfl ?_); refine box_event ?hg (N := 4) ?hd (cs := #[.bool la, .bool lb, .bool lc, .bool ld, .int .u64 lg, .int .u64 lt]) (t := 27) ?hr ?_; (case hd => rfl); (case hg => rfl); (case hr => first | (go_simp; done) | (go_simp; rfl)); intro gt hg w_3 H1 hb; have hB_4 := Lib.hid (below_step hB_2.out hb); have G_gt := Lib.hid (show w.heap.size ≤ gt by rw [hg]; exact (hB_2.out).size); have N_ga_gt := Lib.hid (show ga ≠ gt by rw [hg]; exact Nat.ne_of_lt (K_ga.out.lt)); replace K_ga := Lib.hid (K_ga.out.below hb); have K_gt := Lib.hid (show w_3.heap[gt]? = some (.cells #[.bool la, .bool lb, .bool lc, .bool ld, .int .u64 lg, .int .u64 lt] 27 (0, 0)) from H1); clear hg hb H1 hB_2; clear hu25 hu27))
    go_wp2_with (first | ((with_reducible refine gate_dst (N := 7) rfl ?_); (first | (refine gate_guard (by kernel_rfl) ?_) | skip); refine Kd.event_run rfl (v := .agg (h).cs) (w1 := w_3) ?hb ?_; (case hb => exact exec_load_hart rfl rfl K_ga.out)))
    refine (HM.out _).mono ?_
    rintro e_5 w_6 ⟨rfl, hb⟩
    have hB_7 := Lib.hid (below_step hB_4.out hb)
    replace K_ga := Lib.hid (K_ga.out.below hb)
    replace K_gt := Lib.hid (blk_below K_gt.out hb)
    clear hb hB_4
    go_upto_region 19 with (fail)
    refine start_ (n := 8) (S := fun w' => Hb w' ga h ∧ w'.heap[gt]? = some (.cells #[.bool la, .bool lb, .bool lc, .bool ld, .int .u64 lg, .int .u64 lt] 27 (0, 0)) ∧ w'.cell? ⟨ga, 40, none⟩ = some (.int .u64 (h.x 40))) (ds := []) #[false, false, false, false, false, false, false, false] (by kernel_rfl) rfl rfl ⟨K_ga.out.drew, blk_drew K_gt.out, (K_ga.out.drew.u 40 rfl)⟩ (fun hHeld => ?_)
    replace K_ga := Lib.hid (K_ga.out.drew)
    replace K_gt := Lib.hid (blk_drew K_gt.out)
    have hB_9 := Lib.hid (below_drew1 hB_7.out)
    clear hB_7
    generalize World.drew w_6 = w_8 at K_ga K_gt hB_9 hHeld ⊢
    refine pure_ (i := 4) (N := some 54) (v := ?_) (a' := ?_) #[false, false, false, false, true, false, false, false] rfl rfl (by kernel_rfl) (fun _ _ _ h => h) (Or.inl ⟨by rfl, ?_⟩) ?_ ?_
    rotate_left
    · intro w'
      go_simp
      with_reducible rfl
    rotate_left
    · simp only [Act.put, List.setIfInBounds_toArray, List.set_cons_zero, List.set_cons_succ, i64_w, i32_w]
      rfl
    refine take_ (i := 0) (N := some 50) (v := .agg h.cs) (a' := ?_) #[true, false, false, false, true, false, false, false] rfl rfl (by kernel_rfl) (fun _ _ _ h => h) (Or.inl ⟨by rfl, ?_⟩) hHeld ?_ ?_
    · rintro w' ⟨s0, s1, s2⟩; exact exec_load_hart rfl rfl s0
    rotate_left
    · simp only [Act.put, List.setIfInBounds_toArray, List.set_cons_zero, List.set_cons_succ, i64_w, i32_w]
      rfl
    refine take_ (i := 1) (N := some 51) (v := .agg #[.bool la, .bool lb, .bool lc, .bool ld, .int .u64 lg, .int .u64 lt]) (a' := ?_) #[true, true, false, false, true, false, false, false] rfl rfl (by kernel_rfl) (fun _ _ _ h => h) (Or.inl ⟨by rfl, ?_⟩) hHeld ?_ ?_
    · rintro w' ⟨s0, s1, s2⟩; exact exec_load_blk rfl rfl s1 Tryd.underlying27 rfl (by kernel_rfl)
    rotate_left
    · simp only [Act.put, List.setIfInBounds_toArray, List.set_cons_zero, List.set_cons_succ, i64_w, i32_w]
      rfl
    refine take_ (i := 5) (N := some 55) (v := ?_) (a' := ?_) #[true, true, false, false, true, true, false, false] rfl rfl (by kernel_rfl) (fun _ _ _ h => h) (Or.inl ⟨by rfl, ?_⟩) hHeld ?_ ?_
    rotate_left
    · rintro w' ⟨s0, s1, s2⟩
      go_simp
      with_reducible rfl
    rotate_left
    · simp only [Act.put, List.setIfInBounds_toArray, List.set_cons_zero, List.set_cons_succ, i64_w, i32_w]
      rfl
    have HH := Lib.hid hHeld
    clear hHeld
    refine one_ (i := 2) (N := some 52) #[true, true, true, false, true, true, false, false] rfl rfl (by kernel_rfl) (by decide) (fun K hK => ?_)
    refine goes_ Tryd.func12 (by kernel_rfl) rfl #[.agg h.cs, .agg #[.bool la, .bool lb, .bool lc, .bool ld, .int .u64 lg, .int .u64 lt]] (by rfl) rfl rfl (by simp only [List.map_toArray, List.map_cons, List.map_nil]; rfl) ?_
    with_reducible refine (HP.out _).mono ?_
    rintro e_ w_10 ⟨rfl, hb⟩
    refine ⟨_, rfl, ?_⟩
    have s_0 := Hb.below (HH.out.1) hb
    have s_1 := blk_below (HH.out.2.1) hb
    have s_2 := (Hb.u s_0 40 rfl)
    replace K_ga := Lib.hid (K_ga.out.below hb)
    replace K_gt := Lib.hid (blk_below K_gt.out hb)
    have hB_11 := Lib.hid (below_step hB_9.out hb)
    clear HH hb hB_9
    refine hK.out _ _ ⟨s_0, s_1, s_2⟩ (fun hHeld => ?_)
    have HH := Lib.hid hHeld
    clear hHeld s_0 s_1 s_2
    clear hK K
    refine norm_ (a' := ?_) ?_ ?_
    rotate_left
    · show Act.put _ (some 52) _ = _
      simp only [Act.put, List.setIfInBounds_toArray, List.set_cons_zero, List.set_cons_succ, i64_w, i32_w]
      rfl
    refine pure_ (i := 3) (N := some 53) (v := ?_) (a' := ?_) #[true, true, true, true, true, true, false, false] rfl rfl (by kernel_rfl) (fun _ _ _ h => h) (Or.inl ⟨by rfl, ?_⟩) ?_ ?_
    rotate_left
    · intro w'
      go_simp
      with_reducible rfl
    rotate_left
    · simp only [Act.put, List.setIfInBounds_toArray, List.set_cons_zero, List.set_cons_succ, i64_w, i32_w]
      rfl
    refine pure_ (i := 6) (N := some 56) (v := ?_) (a' := ?_) #[true, true, true, true, true, true, true, false] rfl rfl (by kernel_rfl) (fun _ _ _ h => h) (Or.inl ⟨by rfl, ?_⟩) ?_ ?_
    rotate_left
    · intro w'
      go_simp
      with_reducible rfl
    rotate_left
    · simp only [Act.put, List.setIfInBounds_toArray, List.set_cons_zero, List.set_cons_succ, i64_w, i32_w]
      rfl
    refine pure_ (i := 7) (N := some 6) (v := ?_) (a' := ?_) #[true, true, true, true, true, true, true, true] rfl rfl (by kernel_rfl) (fun _ _ _ h => h) (Or.inl ⟨by rfl, ?_⟩) ?_ ?_
    rotate_left
    · intro w'
      go_simp
      with_reducible rfl
    rotate_left
    · simp only [Act.put, List.setIfInBounds_toArray, List.set_cons_zero, List.set_cons_succ, i64_w, i32_w]
      rfl
    refine done_ (by kernel_rfl) ?_
    try clear HH
    go_wp2
    go_ret
    exact ⟨by first | (rw [← HZ.out]; done) | (rw [← HZ.out]; rfl), hB_11.out⟩
  by_cases h_384 : no2 = 384
  · subst h_384
    have hz1 : h.x 57 = z := hz
    have HZ := Lib.hid hz1
    clear hz hz1
    have hu25 := Tryd.underlying25; have hu27 := Tryd.underlying27
    go_enter Tryd.func14, Tryd.ntmps14
    go_upto_region 1 with (first | ((with_reducible refine gate_dst (N := 3) rfl ?_); refine box_event ?hg (N := 3) ?hd (cs := h.cs) (t := 25) ?hr ?_; (case hd => rfl); (case hg => rfl); (case hr => first | (go_simp; done) | (go_simp; rfl)); intro ga hg w_1 H1 hb; have hB_2 := Lib.hid (below_step (Below.refl w.heap.size w) hb); have G_ga := Lib.hid (show w.heap.size ≤ ga by rw [hg]; exact ((Below.refl w.heap.size w)).size); have K_ga := Lib.hid (show Hb w_1 ga h from H1); clear hg hb H1) | ((with_reducible refine gate_dst (N := 4) rfl ?_); refine box_event ?hg (N := 4) ?hd (cs := #[.bool la, .bool lb, .bool lc, .bool ld, .int .u64 lg, .int .u64 lt]) (t := 27) ?hr ?_; (case hd => rfl); (case hg => rfl); (case hr => first | (go_simp; done) | (go_simp; rfl)); intro gt hg w_3 H1 hb; have hB_4 := Lib.hid (below_step hB_2.out hb); have G_gt := Lib.hid (show w.heap.size ≤ gt by rw [hg]; exact (hB_2.out).size); have N_ga_gt := Lib.hid (show ga ≠ gt by rw [hg]; exact Nat.ne_of_lt (K_ga.out.lt)); replace K_ga := Lib.hid (K_ga.out.below hb); have K_gt := Lib.hid (show w_3.heap[gt]? = some (.cells #[.bool la, .bool lb, .bool lc, .bool ld, .int .u64 lg, .int .u64 lt] 27 (0, 0)) from H1); clear hg hb H1 hB_2; clear hu25 hu27))
    go_wp2_with (first | ((with_reducible refine gate_dst (N := 7) rfl ?_); (first | (refine gate_guard (by kernel_rfl) ?_) | skip); refine Kd.event_run rfl (v := .agg (h).cs) (w1 := w_3) ?hb ?_; (case hb => exact exec_load_hart rfl rfl K_ga.out)))
    refine (HM.out _).mono ?_
    rintro e_5 w_6 ⟨rfl, hb⟩
    have hB_7 := Lib.hid (below_step hB_4.out hb)
    replace K_ga := Lib.hid (K_ga.out.below hb)
    replace K_gt := Lib.hid (blk_below K_gt.out hb)
    clear hb hB_4
    have c_ga_57 := K_ga.out.u 57 rfl; have f_ga_57 := K_ga.out.fr 57
    go_wp2
    go_ret
    exact ⟨by first | (rw [← HZ.out]; done) | (rw [← HZ.out]; rfl), hB_7.out⟩
  by_cases h_512 : no2 = 512
  · subst h_512
    have hz1 : h.x 68 = z := hz
    have HZ := Lib.hid hz1
    clear hz hz1
    have hu25 := Tryd.underlying25; have hu27 := Tryd.underlying27
    go_enter Tryd.func14, Tryd.ntmps14
    go_upto_region 1 with (first | ((with_reducible refine gate_dst (N := 3) rfl ?_); refine box_event ?hg (N := 3) ?hd (cs := h.cs) (t := 25) ?hr ?_; (case hd => rfl); (case hg => rfl); (case hr => first | (go_simp; done) | (go_simp; rfl)); intro ga hg w_1 H1 hb; have hB_2 := Lib.hid (below_step (Below.refl w.heap.size w) hb); have G_ga := Lib.hid (show w.heap.size ≤ ga by rw [hg]; exact ((Below.refl w.heap.size w)).size); have K_ga := Lib.hid (show Hb w_1 ga h from H1); clear hg hb H1) | ((with_reducible refine gate_dst (N := 4) rfl ?_); refine box_event ?hg (N := 4) ?hd (cs := #[.bool la, .bool lb, .bool lc, .bool ld, .int .u64 lg, .int .u64 lt]) (t := 27) ?hr ?_; (case hd => rfl); (case hg => rfl); (case hr => first | (go_simp; done) | (go_simp; rfl)); intro gt hg w_3 H1 hb; have hB_4 := Lib.hid (below_step hB_2.out hb); have G_gt := Lib.hid (show w.heap.size ≤ gt by rw [hg]; exact (hB_2.out).size); have N_ga_gt := Lib.hid (show ga ≠ gt by rw [hg]; exact Nat.ne_of_lt (K_ga.out.lt)); replace K_ga := Lib.hid (K_ga.out.below hb); have K_gt := Lib.hid (show w_3.heap[gt]? = some (.cells #[.bool la, .bool lb, .bool lc, .bool ld, .int .u64 lg, .int .u64 lt] 27 (0, 0)) from H1); clear hg hb H1 hB_2; clear hu25 hu27))
    go_wp2_with (first | ((with_reducible refine gate_dst (N := 7) rfl ?_); (first | (refine gate_guard (by kernel_rfl) ?_) | skip); refine Kd.event_run rfl (v := .agg (h).cs) (w1 := w_3) ?hb ?_; (case hb => exact exec_load_hart rfl rfl K_ga.out)))
    refine (HM.out _).mono ?_
    rintro e_5 w_6 ⟨rfl, hb⟩
    have hB_7 := Lib.hid (below_step hB_4.out hb)
    replace K_ga := Lib.hid (K_ga.out.below hb)
    replace K_gt := Lib.hid (blk_below K_gt.out hb)
    clear hb hB_4
    have c_ga_68 := K_ga.out.u 68 rfl; have f_ga_68 := K_ga.out.fr 68
    go_wp2
    go_ret
    exact ⟨by first | (rw [← HZ.out]; done) | (rw [← HZ.out]; rfl), hB_7.out⟩
  by_cases h_516 : no2 = 516
  · subst h_516
    have hz1 : Go.bits .and .u64 (Go.bits .and .u64 (h.x 41) 1092) (h.x 60) / 2 = z := hz
    have HZ := Lib.hid hz1
    clear hz hz1
    have hu25 := Tryd.underlying25; have hu27 := Tryd.underlying27
    go_enter Tryd.func14, Tryd.ntmps14
    go_upto_region 1 with (first | ((with_reducible refine gate_dst (N := 3) rfl ?_); refine box_event ?hg (N := 3) ?hd (cs := h.cs) (t := 25) ?hr ?_; (case hd => rfl); (case hg => rfl); (case hr => first | (go_simp; done) | (go_simp; rfl)); intro ga hg w_1 H1 hb; have hB_2 := Lib.hid (below_step (Below.refl w.heap.size w) hb); have G_ga := Lib.hid (show w.heap.size ≤ ga by rw [hg]; exact ((Below.refl w.heap.size w)).size); have K_ga := Lib.hid (show Hb w_1 ga h from H1); clear hg hb H1) | ((with_reducible refine gate_dst (N := 4) rfl ?_); refine box_event ?hg (N := 4) ?hd (cs := #[.bool la, .bool lb, .bool lc, .bool ld, .int .u64 lg, .int .u64 lt]) (t := 27) ?hr ?_; (case hd => rfl); (case hg => rfl); (case hr => first | (go_simp; done) | (go_simp; rfl)); intro gt hg w_3 H1 hb; have hB_4 := Lib.hid (below_step hB_2.out hb); have G_gt := Lib.hid (show w.heap.size ≤ gt by rw [hg]; exact (hB_2.out).size); have N_ga_gt := Lib.hid (show ga ≠ gt by rw [hg]; exact Nat.ne_of_lt (K_ga.out.lt)); replace K_ga := Lib.hid (K_ga.out.below hb); have K_gt := Lib.hid (show w_3.heap[gt]? = some (.cells #[.bool la, .bool lb, .bool lc, .bool ld, .int .u64 lg, .int .u64 lt] 27 (0, 0)) from H1); clear hg hb H1 hB_2; clear hu25 hu27))
    go_wp2_with (first | ((with_reducible refine gate_dst (N := 7) rfl ?_); (first | (refine gate_guard (by kernel_rfl) ?_) | skip); refine Kd.event_run rfl (v := .agg (h).cs) (w1 := w_3) ?hb ?_; (case hb => exact exec_load_hart rfl rfl K_ga.out)))
    refine (HM.out _).mono ?_
    rintro e_5 w_6 ⟨rfl, hb⟩
    have hB_7 := Lib.hid (below_step hB_4.out hb)
    replace K_ga := Lib.hid (K_ga.out.below hb)
    replace K_gt := Lib.hid (blk_below K_gt.out hb)
    clear hb hB_4
    have c_ga_41 := K_ga.out.u 41 rfl; have f_ga_41 := K_ga.out.fr 41
    have c_ga_60 := K_ga.out.u 60 rfl; have f_ga_60 := K_ga.out.fr 60
    go_wp2
    go_ret
    exact ⟨congrArg (fun q => Ending.returned (Value.int .u64 q)) ((half_eq _ _ _).trans HZ.out), hB_7.out⟩
  by_cases h_517 : no2 = 517
  · subst h_517
    have hz1 : h.x 69 = z := hz
    have HZ := Lib.hid hz1
    clear hz hz1
    have hu25 := Tryd.underlying25; have hu27 := Tryd.underlying27
    go_enter Tryd.func14, Tryd.ntmps14
    go_upto_region 1 with (first | ((with_reducible refine gate_dst (N := 3) rfl ?_); refine box_event ?hg (N := 3) ?hd (cs := h.cs) (t := 25) ?hr ?_; (case hd => rfl); (case hg => rfl); (case hr => first | (go_simp; done) | (go_simp; rfl)); intro ga hg w_1 H1 hb; have hB_2 := Lib.hid (below_step (Below.refl w.heap.size w) hb); have G_ga := Lib.hid (show w.heap.size ≤ ga by rw [hg]; exact ((Below.refl w.heap.size w)).size); have K_ga := Lib.hid (show Hb w_1 ga h from H1); clear hg hb H1) | ((with_reducible refine gate_dst (N := 4) rfl ?_); refine box_event ?hg (N := 4) ?hd (cs := #[.bool la, .bool lb, .bool lc, .bool ld, .int .u64 lg, .int .u64 lt]) (t := 27) ?hr ?_; (case hd => rfl); (case hg => rfl); (case hr => first | (go_simp; done) | (go_simp; rfl)); intro gt hg w_3 H1 hb; have hB_4 := Lib.hid (below_step hB_2.out hb); have G_gt := Lib.hid (show w.heap.size ≤ gt by rw [hg]; exact (hB_2.out).size); have N_ga_gt := Lib.hid (show ga ≠ gt by rw [hg]; exact Nat.ne_of_lt (K_ga.out.lt)); replace K_ga := Lib.hid (K_ga.out.below hb); have K_gt := Lib.hid (show w_3.heap[gt]? = some (.cells #[.bool la, .bool lb, .bool lc, .bool ld, .int .u64 lg, .int .u64 lt] 27 (0, 0)) from H1); clear hg hb H1 hB_2; clear hu25 hu27))
    go_wp2_with (first | ((with_reducible refine gate_dst (N := 7) rfl ?_); (first | (refine gate_guard (by kernel_rfl) ?_) | skip); refine Kd.event_run rfl (v := .agg (h).cs) (w1 := w_3) ?hb ?_; (case hb => exact exec_load_hart rfl rfl K_ga.out)))
    refine (HM.out _).mono ?_
    rintro e_5 w_6 ⟨rfl, hb⟩
    have hB_7 := Lib.hid (below_step hB_4.out hb)
    replace K_ga := Lib.hid (K_ga.out.below hb)
    replace K_gt := Lib.hid (blk_below K_gt.out hb)
    clear hb hB_4
    have c_ga_69 := K_ga.out.u 69 rfl; have f_ga_69 := K_ga.out.fr 69
    go_wp2
    go_ret
    exact ⟨by first | (rw [← HZ.out]; done) | (rw [← HZ.out]; rfl), hB_7.out⟩
  by_cases h_576 : no2 = 576
  · subst h_576
    have hz1 : h.x 70 = z := hz
    have HZ := Lib.hid hz1
    clear hz hz1
    have hu25 := Tryd.underlying25; have hu27 := Tryd.underlying27
    go_enter Tryd.func14, Tryd.ntmps14
    go_upto_region 1 with (first | ((with_reducible refine gate_dst (N := 3) rfl ?_); refine box_event ?hg (N := 3) ?hd (cs := h.cs) (t := 25) ?hr ?_; (case hd => rfl); (case hg => rfl); (case hr => first | (go_simp; done) | (go_simp; rfl)); intro ga hg w_1 H1 hb; have hB_2 := Lib.hid (below_step (Below.refl w.heap.size w) hb); have G_ga := Lib.hid (show w.heap.size ≤ ga by rw [hg]; exact ((Below.refl w.heap.size w)).size); have K_ga := Lib.hid (show Hb w_1 ga h from H1); clear hg hb H1) | ((with_reducible refine gate_dst (N := 4) rfl ?_); refine box_event ?hg (N := 4) ?hd (cs := #[.bool la, .bool lb, .bool lc, .bool ld, .int .u64 lg, .int .u64 lt]) (t := 27) ?hr ?_; (case hd => rfl); (case hg => rfl); (case hr => first | (go_simp; done) | (go_simp; rfl)); intro gt hg w_3 H1 hb; have hB_4 := Lib.hid (below_step hB_2.out hb); have G_gt := Lib.hid (show w.heap.size ≤ gt by rw [hg]; exact (hB_2.out).size); have N_ga_gt := Lib.hid (show ga ≠ gt by rw [hg]; exact Nat.ne_of_lt (K_ga.out.lt)); replace K_ga := Lib.hid (K_ga.out.below hb); have K_gt := Lib.hid (show w_3.heap[gt]? = some (.cells #[.bool la, .bool lb, .bool lc, .bool ld, .int .u64 lg, .int .u64 lt] 27 (0, 0)) from H1); clear hg hb H1 hB_2; clear hu25 hu27))
    go_wp2_with (first | ((with_reducible refine gate_dst (N := 7) rfl ?_); (first | (refine gate_guard (by kernel_rfl) ?_) | skip); refine Kd.event_run rfl (v := .agg (h).cs) (w1 := w_3) ?hb ?_; (case hb => exact exec_load_hart rfl rfl K_ga.out)))
    refine (HM.out _).mono ?_
    rintro e_5 w_6 ⟨rfl, hb⟩
    have hB_7 := Lib.hid (below_step hB_4.out hb)
    replace K_ga := Lib.hid (K_ga.out.below hb)
    replace K_gt := Lib.hid (blk_below K_gt.out hb)
    clear hb hB_4
    have c_ga_70 := K_ga.out.u 70 rfl; have f_ga_70 := K_ga.out.fr 70
    go_wp2
    go_ret
    exact ⟨by first | (rw [← HZ.out]; done) | (rw [← HZ.out]; rfl), hB_7.out⟩
  by_cases h_577 : no2 = 577
  · subst h_577
    have hz1 : h.x 71 = z := hz
    have HZ := Lib.hid hz1
    clear hz hz1
    have hu25 := Tryd.underlying25; have hu27 := Tryd.underlying27
    go_enter Tryd.func14, Tryd.ntmps14
    go_upto_region 1 with (first | ((with_reducible refine gate_dst (N := 3) rfl ?_); refine box_event ?hg (N := 3) ?hd (cs := h.cs) (t := 25) ?hr ?_; (case hd => rfl); (case hg => rfl); (case hr => first | (go_simp; done) | (go_simp; rfl)); intro ga hg w_1 H1 hb; have hB_2 := Lib.hid (below_step (Below.refl w.heap.size w) hb); have G_ga := Lib.hid (show w.heap.size ≤ ga by rw [hg]; exact ((Below.refl w.heap.size w)).size); have K_ga := Lib.hid (show Hb w_1 ga h from H1); clear hg hb H1) | ((with_reducible refine gate_dst (N := 4) rfl ?_); refine box_event ?hg (N := 4) ?hd (cs := #[.bool la, .bool lb, .bool lc, .bool ld, .int .u64 lg, .int .u64 lt]) (t := 27) ?hr ?_; (case hd => rfl); (case hg => rfl); (case hr => first | (go_simp; done) | (go_simp; rfl)); intro gt hg w_3 H1 hb; have hB_4 := Lib.hid (below_step hB_2.out hb); have G_gt := Lib.hid (show w.heap.size ≤ gt by rw [hg]; exact (hB_2.out).size); have N_ga_gt := Lib.hid (show ga ≠ gt by rw [hg]; exact Nat.ne_of_lt (K_ga.out.lt)); replace K_ga := Lib.hid (K_ga.out.below hb); have K_gt := Lib.hid (show w_3.heap[gt]? = some (.cells #[.bool la, .bool lb, .bool lc, .bool ld, .int .u64 lg, .int .u64 lt] 27 (0, 0)) from H1); clear hg hb H1 hB_2; clear hu25 hu27))
    go_wp2_with (first | ((with_reducible refine gate_dst (N := 7) rfl ?_); (first | (refine gate_guard (by kernel_rfl) ?_) | skip); refine Kd.event_run rfl (v := .agg (h).cs) (w1 := w_3) ?hb ?_; (case hb => exact exec_load_hart rfl rfl K_ga.out)))
    refine (HM.out _).mono ?_
    rintro e_5 w_6 ⟨rfl, hb⟩
    have hB_7 := Lib.hid (below_step hB_4.out hb)
    replace K_ga := Lib.hid (K_ga.out.below hb)
    replace K_gt := Lib.hid (blk_below K_gt.out hb)
    clear hb hB_4
    have c_ga_71 := K_ga.out.u 71 rfl; have f_ga_71 := K_ga.out.fr 71
    go_wp2
    go_ret
    exact ⟨by first | (rw [← HZ.out]; done) | (rw [← HZ.out]; rfl), hB_7.out⟩
  by_cases h_578 : no2 = 578
  · subst h_578
    have hz1 : h.x 72 = z := hz
    have HZ := Lib.hid hz1
    clear hz hz1
    have hu25 := Tryd.underlying25; have hu27 := Tryd.underlying27
    go_enter Tryd.func14, Tryd.ntmps14
    go_upto_region 1 with (first | ((with_reducible refine gate_dst (N := 3) rfl ?_); refine box_event ?hg (N := 3) ?hd (cs := h.cs) (t := 25) ?hr ?_; (case hd => rfl); (case hg => rfl); (case hr => first | (go_simp; done) | (go_simp; rfl)); intro ga hg w_1 H1 hb; have hB_2 := Lib.hid (below_step (Below.refl w.heap.size w) hb); have G_ga := Lib.hid (show w.heap.size ≤ ga by rw [hg]; exact ((Below.refl w.heap.size w)).size); have K_ga := Lib.hid (show Hb w_1 ga h from H1); clear hg hb H1) | ((with_reducible refine gate_dst (N := 4) rfl ?_); refine box_event ?hg (N := 4) ?hd (cs := #[.bool la, .bool lb, .bool lc, .bool ld, .int .u64 lg, .int .u64 lt]) (t := 27) ?hr ?_; (case hd => rfl); (case hg => rfl); (case hr => first | (go_simp; done) | (go_simp; rfl)); intro gt hg w_3 H1 hb; have hB_4 := Lib.hid (below_step hB_2.out hb); have G_gt := Lib.hid (show w.heap.size ≤ gt by rw [hg]; exact (hB_2.out).size); have N_ga_gt := Lib.hid (show ga ≠ gt by rw [hg]; exact Nat.ne_of_lt (K_ga.out.lt)); replace K_ga := Lib.hid (K_ga.out.below hb); have K_gt := Lib.hid (show w_3.heap[gt]? = some (.cells #[.bool la, .bool lb, .bool lc, .bool ld, .int .u64 lg, .int .u64 lt] 27 (0, 0)) from H1); clear hg hb H1 hB_2; clear hu25 hu27))
    go_wp2_with (first | ((with_reducible refine gate_dst (N := 7) rfl ?_); (first | (refine gate_guard (by kernel_rfl) ?_) | skip); refine Kd.event_run rfl (v := .agg (h).cs) (w1 := w_3) ?hb ?_; (case hb => exact exec_load_hart rfl rfl K_ga.out)))
    refine (HM.out _).mono ?_
    rintro e_5 w_6 ⟨rfl, hb⟩
    have hB_7 := Lib.hid (below_step hB_4.out hb)
    replace K_ga := Lib.hid (K_ga.out.below hb)
    replace K_gt := Lib.hid (blk_below K_gt.out hb)
    clear hb hB_4
    have c_ga_72 := K_ga.out.u 72 rfl; have f_ga_72 := K_ga.out.fr 72
    go_wp2
    go_ret
    exact ⟨by first | (rw [← HZ.out]; done) | (rw [← HZ.out]; rfl), hB_7.out⟩
  by_cases h_579 : no2 = 579
  · subst h_579
    have hz1 : h.x 73 = z := hz
    have HZ := Lib.hid hz1
    clear hz hz1
    have hu25 := Tryd.underlying25; have hu27 := Tryd.underlying27
    go_enter Tryd.func14, Tryd.ntmps14
    go_upto_region 1 with (first | ((with_reducible refine gate_dst (N := 3) rfl ?_); refine box_event ?hg (N := 3) ?hd (cs := h.cs) (t := 25) ?hr ?_; (case hd => rfl); (case hg => rfl); (case hr => first | (go_simp; done) | (go_simp; rfl)); intro ga hg w_1 H1 hb; have hB_2 := Lib.hid (below_step (Below.refl w.heap.size w) hb); have G_ga := Lib.hid (show w.heap.size ≤ ga by rw [hg]; exact ((Below.refl w.heap.size w)).size); have K_ga := Lib.hid (show Hb w_1 ga h from H1); clear hg hb H1) | ((with_reducible refine gate_dst (N := 4) rfl ?_); refine box_event ?hg (N := 4) ?hd (cs := #[.bool la, .bool lb, .bool lc, .bool ld, .int .u64 lg, .int .u64 lt]) (t := 27) ?hr ?_; (case hd => rfl); (case hg => rfl); (case hr => first | (go_simp; done) | (go_simp; rfl)); intro gt hg w_3 H1 hb; have hB_4 := Lib.hid (below_step hB_2.out hb); have G_gt := Lib.hid (show w.heap.size ≤ gt by rw [hg]; exact (hB_2.out).size); have N_ga_gt := Lib.hid (show ga ≠ gt by rw [hg]; exact Nat.ne_of_lt (K_ga.out.lt)); replace K_ga := Lib.hid (K_ga.out.below hb); have K_gt := Lib.hid (show w_3.heap[gt]? = some (.cells #[.bool la, .bool lb, .bool lc, .bool ld, .int .u64 lg, .int .u64 lt] 27 (0, 0)) from H1); clear hg hb H1 hB_2; clear hu25 hu27))
    go_wp2_with (first | ((with_reducible refine gate_dst (N := 7) rfl ?_); (first | (refine gate_guard (by kernel_rfl) ?_) | skip); refine Kd.event_run rfl (v := .agg (h).cs) (w1 := w_3) ?hb ?_; (case hb => exact exec_load_hart rfl rfl K_ga.out)))
    refine (HM.out _).mono ?_
    rintro e_5 w_6 ⟨rfl, hb⟩
    have hB_7 := Lib.hid (below_step hB_4.out hb)
    replace K_ga := Lib.hid (K_ga.out.below hb)
    replace K_gt := Lib.hid (blk_below K_gt.out hb)
    clear hb hB_4
    have c_ga_73 := K_ga.out.u 73 rfl; have f_ga_73 := K_ga.out.fr 73
    go_wp2
    go_ret
    exact ⟨by first | (rw [← HZ.out]; done) | (rw [← HZ.out]; rfl), hB_7.out⟩
  by_cases h_580 : no2 = 580
  · subst h_580
    have hz1 : Go.bits .and .u64 (Go.bits .and .u64 (pendV h la lb lc ld lg lt) 1092) (h.x 60) / 2 = z := hz
    have HZ := Lib.hid hz1
    clear hz hz1
    have hu25 := Tryd.underlying25; have hu27 := Tryd.underlying27
    go_enter Tryd.func14, Tryd.ntmps14
    go_upto_region 1 with (first | ((with_reducible refine gate_dst (N := 3) rfl ?_); refine box_event ?hg (N := 3) ?hd (cs := h.cs) (t := 25) ?hr ?_; (case hd => rfl); (case hg => rfl); (case hr => first | (go_simp; done) | (go_simp; rfl)); intro ga hg w_1 H1 hb; have hB_2 := Lib.hid (below_step (Below.refl w.heap.size w) hb); have G_ga := Lib.hid (show w.heap.size ≤ ga by rw [hg]; exact ((Below.refl w.heap.size w)).size); have K_ga := Lib.hid (show Hb w_1 ga h from H1); clear hg hb H1) | ((with_reducible refine gate_dst (N := 4) rfl ?_); refine box_event ?hg (N := 4) ?hd (cs := #[.bool la, .bool lb, .bool lc, .bool ld, .int .u64 lg, .int .u64 lt]) (t := 27) ?hr ?_; (case hd => rfl); (case hg => rfl); (case hr => first | (go_simp; done) | (go_simp; rfl)); intro gt hg w_3 H1 hb; have hB_4 := Lib.hid (below_step hB_2.out hb); have G_gt := Lib.hid (show w.heap.size ≤ gt by rw [hg]; exact (hB_2.out).size); have N_ga_gt := Lib.hid (show ga ≠ gt by rw [hg]; exact Nat.ne_of_lt (K_ga.out.lt)); replace K_ga := Lib.hid (K_ga.out.below hb); have K_gt := Lib.hid (show w_3.heap[gt]? = some (.cells #[.bool la, .bool lb, .bool lc, .bool ld, .int .u64 lg, .int .u64 lt] 27 (0, 0)) from H1); clear hg hb H1 hB_2; clear hu25 hu27))
    go_wp2_with (first | ((with_reducible refine gate_dst (N := 7) rfl ?_); (first | (refine gate_guard (by kernel_rfl) ?_) | skip); refine Kd.event_run rfl (v := .agg (h).cs) (w1 := w_3) ?hb ?_; (case hb => exact exec_load_hart rfl rfl K_ga.out)))
    refine (HM.out _).mono ?_
    rintro e_5 w_6 ⟨rfl, hb⟩
    have hB_7 := Lib.hid (below_step hB_4.out hb)
    replace K_ga := Lib.hid (K_ga.out.below hb)
    replace K_gt := Lib.hid (blk_below K_gt.out hb)
    clear hb hB_4
    go_upto_region 37 with (fail)
    refine start_ (n := 9) (S := fun w' => Hb w' ga h ∧ w'.heap[gt]? = some (.cells #[.bool la, .bool lb, .bool lc, .bool ld, .int .u64 lg, .int .u64 lt] 27 (0, 0)) ∧ w'.cell? ⟨ga, 60, none⟩ = some (.int .u64 (h.x 60))) (ds := []) #[false, false, false, false, false, false, false, false, false] (by kernel_rfl) rfl rfl ⟨K_ga.out.drew, blk_drew K_gt.out, (K_ga.out.drew.u 60 rfl)⟩ (fun hHeld => ?_)
    replace K_ga := Lib.hid (K_ga.out.drew)
    replace K_gt := Lib.hid (blk_drew K_gt.out)
    have hB_9 := Lib.hid (below_drew1 hB_7.out)
    clear hB_7
    generalize World.drew w_6 = w_8 at K_ga K_gt hB_9 hHeld ⊢
    refine pure_ (i := 4) (N := some 100) (v := ?_) (a' := ?_) #[false, false, false, false, true, false, false, false, false] rfl rfl (by kernel_rfl) (fun _ _ _ h => h) (Or.inl ⟨by rfl, ?_⟩) ?_ ?_
    rotate_left
    · intro w'
      go_simp
      with_reducible rfl
    rotate_left
    · simp only [Act.put, List.setIfInBounds_toArray, List.set_cons_zero, List.set_cons_succ, i64_w, i32_w]
      rfl
    refine take_ (i := 0) (N := some 96) (v := .agg h.cs) (a' := ?_) #[true, false, false, false, true, false, false, false, false] rfl rfl (by kernel_rfl) (fun _ _ _ h => h) (Or.inl ⟨by rfl, ?_⟩) hHeld ?_ ?_
    · rintro w' ⟨s0, s1, s2⟩; exact exec_load_hart rfl rfl s0
    rotate_left
    · simp only [Act.put, List.setIfInBounds_toArray, List.set_cons_zero, List.set_cons_succ, i64_w, i32_w]
      rfl
    refine take_ (i := 1) (N := some 97) (v := .agg #[.bool la, .bool lb, .bool lc, .bool ld, .int .u64 lg, .int .u64 lt]) (a' := ?_) #[true, true, false, false, true, false, false, false, false] rfl rfl (by kernel_rfl) (fun _ _ _ h => h) (Or.inl ⟨by rfl, ?_⟩) hHeld ?_ ?_
    · rintro w' ⟨s0, s1, s2⟩; exact exec_load_blk rfl rfl s1 Tryd.underlying27 rfl (by kernel_rfl)
    rotate_left
    · simp only [Act.put, List.setIfInBounds_toArray, List.set_cons_zero, List.set_cons_succ, i64_w, i32_w]
      rfl
    refine take_ (i := 5) (N := some 101) (v := ?_) (a' := ?_) #[true, true, false, false, true, true, false, false, false] rfl rfl (by kernel_rfl) (fun _ _ _ h => h) (Or.inl ⟨by rfl, ?_⟩) hHeld ?_ ?_
    rotate_left
    · rintro w' ⟨s0, s1, s2⟩
      go_simp
      with_reducible rfl
    rotate_left
    · simp only [Act.put, List.setIfInBounds_toArray, List.set_cons_zero, List.set_cons_succ, i64_w, i32_w]
      rfl
    have HH := Lib.hid hHeld
    clear hHeld
    refine one_ (i := 2) (N := some 98) #[true, true, true, false, true, true, false, false, false] rfl rfl (by kernel_rfl) (by decide) (fun K hK => ?_)
    refine goes_ Tryd.func12 (by kernel_rfl) rfl #[.agg h.cs, .agg #[.bool la, .bool lb, .bool lc, .bool ld, .int .u64 lg, .int .u64 lt]] (by rfl) rfl rfl (by simp only [List.map_toArray, List.map_cons, List.map_nil]; rfl) ?_
    with_reducible refine (HP.out _).mono ?_
    rintro e_ w_10 ⟨rfl, hb⟩
    refine ⟨_, rfl, ?_⟩
    have s_0 := Hb.below (HH.out.1) hb
    have s_1 := blk_below (HH.out.2.1) hb
    have s_2 := (Hb.u s_0 60 rfl)
    replace K_ga := Lib.hid (K_ga.out.below hb)
    replace K_gt := Lib.hid (blk_below K_gt.out hb)
    have hB_11 := Lib.hid (below_step hB_9.out hb)
    clear HH hb hB_9
    refine hK.out _ _ ⟨s_0, s_1, s_2⟩ (fun hHeld => ?_)
    have HH := Lib.hid hHeld
    clear hHeld s_0 s_1 s_2
    clear hK K
    refine norm_ (a' := ?_) ?_ ?_
    rotate_left
    · show Act.put _ (some 98) _ = _
      simp only [Act.put, List.setIfInBounds_toArray, List.set_cons_zero, List.set_cons_succ, i64_w, i32_w]
      rfl
    refine pure_ (i := 3) (N := some 99) (v := ?_) (a' := ?_) #[true, true, true, true, true, true, false, false, false] rfl rfl (by kernel_rfl) (fun _ _ _ h => h) (Or.inl ⟨by rfl, ?_⟩) ?_ ?_
    rotate_left
    · intro w'
      go_simp
      with_reducible rfl
    rotate_left
    · simp only [Act.put, List.setIfInBounds_toArray, List.set_cons_zero, List.set_cons_succ, i64_w, i32_w]
      rfl
    refine pure_ (i := 6) (N := some 102) (v := ?_) (a' := ?_) #[true, true, true, true, true, true, true, false, false] rfl rfl (by kernel_rfl) (fun _ _ _ h => h) (Or.inl ⟨by rfl, ?_⟩) ?_ ?_
    rotate_left
    · intro w'
      go_simp
      with_reducible rfl
    rotate_left
    · simp only [Act.put, List.setIfInBounds_toArray, List.set_cons_zero, List.set_cons_succ, i64_w, i32_w]
      rfl
    refine pure_ (i := 7) (N := some 103) (v := ?_) (a' := ?_) #[true, true, true, true, true, true, true, true, false] rfl rfl (by kernel_rfl) (fun _ _ _ h => h) (Or.inl ⟨by rfl, ?_⟩) ?_ ?_
    rotate_left
    · intro w'
      go_simp
      with_reducible rfl
    rotate_left
    · simp only [Act.put, List.setIfInBounds_toArray, List.set_cons_zero, List.set_cons_succ, i64_w, i32_w]
      rfl
    refine pure_ (i := 8) (N := some 6) (v := ?_) (a' := ?_) #[true, true, true, true, true, true, true, true, true] rfl rfl (by kernel_rfl) (fun _ _ _ h => h) (Or.inl ⟨by rfl, ?_⟩) ?_ ?_
    rotate_left
    · intro w'
      go_simp
      with_reducible rfl
    rotate_left
    · simp only [Act.put, List.setIfInBounds_toArray, List.set_cons_zero, List.set_cons_succ, i64_w, i32_w]
      rfl
    refine done_ (by kernel_rfl) ?_
    try clear HH
    go_wp2
    go_ret
    exact ⟨congrArg (fun q => Ending.returned (Value.int .u64 q)) ((half_eq _ _ _).trans HZ.out), hB_11.out⟩
  by_cases h_640 : no2 = 640
  · subst h_640
    have hz1 : h.x 74 = z := hz
    have HZ := Lib.hid hz1
    clear hz hz1
    have hu25 := Tryd.underlying25; have hu27 := Tryd.underlying27
    go_enter Tryd.func14, Tryd.ntmps14
    go_upto_region 1 with (first | ((with_reducible refine gate_dst (N := 3) rfl ?_); refine box_event ?hg (N := 3) ?hd (cs := h.cs) (t := 25) ?hr ?_; (case hd => rfl); (case hg => rfl); (case hr => first | (go_simp; done) | (go_simp; rfl)); intro ga hg w_1 H1 hb; have hB_2 := Lib.hid (below_step (Below.refl w.heap.size w) hb); have G_ga := Lib.hid (show w.heap.size ≤ ga by rw [hg]; exact ((Below.refl w.heap.size w)).size); have K_ga := Lib.hid (show Hb w_1 ga h from H1); clear hg hb H1) | ((with_reducible refine gate_dst (N := 4) rfl ?_); refine box_event ?hg (N := 4) ?hd (cs := #[.bool la, .bool lb, .bool lc, .bool ld, .int .u64 lg, .int .u64 lt]) (t := 27) ?hr ?_; (case hd => rfl); (case hg => rfl); (case hr => first | (go_simp; done) | (go_simp; rfl)); intro gt hg w_3 H1 hb; have hB_4 := Lib.hid (below_step hB_2.out hb); have G_gt := Lib.hid (show w.heap.size ≤ gt by rw [hg]; exact (hB_2.out).size); have N_ga_gt := Lib.hid (show ga ≠ gt by rw [hg]; exact Nat.ne_of_lt (K_ga.out.lt)); replace K_ga := Lib.hid (K_ga.out.below hb); have K_gt := Lib.hid (show w_3.heap[gt]? = some (.cells #[.bool la, .bool lb, .bool lc, .bool ld, .int .u64 lg, .int .u64 lt] 27 (0, 0)) from H1); clear hg hb H1 hB_2; clear hu25 hu27))
    go_wp2_with (first | ((with_reducible refine gate_dst (N := 7) rfl ?_); (first | (refine gate_guard (by kernel_rfl) ?_) | skip); refine Kd.event_run rfl (v := .agg (h).cs) (w1 := w_3) ?hb ?_; (case hb => exact exec_load_hart rfl rfl K_ga.out)))
    refine (HM.out _).mono ?_
    rintro e_5 w_6 ⟨rfl, hb⟩
    have hB_7 := Lib.hid (below_step hB_4.out hb)
    replace K_ga := Lib.hid (K_ga.out.below hb)
    replace K_gt := Lib.hid (blk_below K_gt.out hb)
    clear hb hB_4
    have c_ga_74 := K_ga.out.u 74 rfl; have f_ga_74 := K_ga.out.fr 74
    go_wp2
    go_ret
    exact ⟨by first | (rw [← HZ.out]; done) | (rw [← HZ.out]; rfl), hB_7.out⟩
  by_cases h_768 : no2 = 768
  · subst h_768
    have hz1 : h.x 38 = z := hz
    have HZ := Lib.hid hz1
    clear hz hz1
    have hu25 := Tryd.underlying25; have hu27 := Tryd.underlying27
    go_enter Tryd.func14, Tryd.ntmps14
    go_upto_region 1 with (first | ((with_reducible refine gate_dst (N := 3) rfl ?_); refine box_event ?hg (N := 3) ?hd (cs := h.cs) (t := 25) ?hr ?_; (case hd => rfl); (case hg => rfl); (case hr => first | (go_simp; done) | (go_simp; rfl)); intro ga hg w_1 H1 hb; have hB_2 := Lib.hid (below_step (Below.refl w.heap.size w) hb); have G_ga := Lib.hid (show w.heap.size ≤ ga by rw [hg]; exact ((Below.refl w.heap.size w)).size); have K_ga := Lib.hid (show Hb w_1 ga h from H1); clear hg hb H1) | ((with_reducible refine gate_dst (N := 4) rfl ?_); refine box_event ?hg (N := 4) ?hd (cs := #[.bool la, .bool lb, .bool lc, .bool ld, .int .u64 lg, .int .u64 lt]) (t := 27) ?hr ?_; (case hd => rfl); (case hg => rfl); (case hr => first | (go_simp; done) | (go_simp; rfl)); intro gt hg w_3 H1 hb; have hB_4 := Lib.hid (below_step hB_2.out hb); have G_gt := Lib.hid (show w.heap.size ≤ gt by rw [hg]; exact (hB_2.out).size); have N_ga_gt := Lib.hid (show ga ≠ gt by rw [hg]; exact Nat.ne_of_lt (K_ga.out.lt)); replace K_ga := Lib.hid (K_ga.out.below hb); have K_gt := Lib.hid (show w_3.heap[gt]? = some (.cells #[.bool la, .bool lb, .bool lc, .bool ld, .int .u64 lg, .int .u64 lt] 27 (0, 0)) from H1); clear hg hb H1 hB_2; clear hu25 hu27))
    go_wp2_with (first | ((with_reducible refine gate_dst (N := 7) rfl ?_); (first | (refine gate_guard (by kernel_rfl) ?_) | skip); refine Kd.event_run rfl (v := .agg (h).cs) (w1 := w_3) ?hb ?_; (case hb => exact exec_load_hart rfl rfl K_ga.out)))
    refine (HM.out _).mono ?_
    rintro e_5 w_6 ⟨rfl, hb⟩
    have hB_7 := Lib.hid (below_step hB_4.out hb)
    replace K_ga := Lib.hid (K_ga.out.below hb)
    replace K_gt := Lib.hid (blk_below K_gt.out hb)
    clear hb hB_4
    have c_ga_38 := K_ga.out.u 38 rfl; have f_ga_38 := K_ga.out.fr 38
    go_wp2
    go_ret
    exact ⟨by first | (rw [← HZ.out]; done) | (rw [← HZ.out]; rfl), hB_7.out⟩
  by_cases h_769 : no2 = 769
  · subst h_769
    have hz1 : 9223372036856091009 = z := hz
    have HZ := Lib.hid hz1
    clear hz hz1
    have hu25 := Tryd.underlying25; have hu27 := Tryd.underlying27
    go_enter Tryd.func14, Tryd.ntmps14
    go_upto_region 1 with (first | ((with_reducible refine gate_dst (N := 3) rfl ?_); refine box_event ?hg (N := 3) ?hd (cs := h.cs) (t := 25) ?hr ?_; (case hd => rfl); (case hg => rfl); (case hr => first | (go_simp; done) | (go_simp; rfl)); intro ga hg w_1 H1 hb; have hB_2 := Lib.hid (below_step (Below.refl w.heap.size w) hb); have G_ga := Lib.hid (show w.heap.size ≤ ga by rw [hg]; exact ((Below.refl w.heap.size w)).size); have K_ga := Lib.hid (show Hb w_1 ga h from H1); clear hg hb H1) | ((with_reducible refine gate_dst (N := 4) rfl ?_); refine box_event ?hg (N := 4) ?hd (cs := #[.bool la, .bool lb, .bool lc, .bool ld, .int .u64 lg, .int .u64 lt]) (t := 27) ?hr ?_; (case hd => rfl); (case hg => rfl); (case hr => first | (go_simp; done) | (go_simp; rfl)); intro gt hg w_3 H1 hb; have hB_4 := Lib.hid (below_step hB_2.out hb); have G_gt := Lib.hid (show w.heap.size ≤ gt by rw [hg]; exact (hB_2.out).size); have N_ga_gt := Lib.hid (show ga ≠ gt by rw [hg]; exact Nat.ne_of_lt (K_ga.out.lt)); replace K_ga := Lib.hid (K_ga.out.below hb); have K_gt := Lib.hid (show w_3.heap[gt]? = some (.cells #[.bool la, .bool lb, .bool lc, .bool ld, .int .u64 lg, .int .u64 lt] 27 (0, 0)) from H1); clear hg hb H1 hB_2; clear hu25 hu27))
    go_wp2_with (first | ((with_reducible refine gate_dst (N := 7) rfl ?_); (first | (refine gate_guard (by kernel_rfl) ?_) | skip); refine Kd.event_run rfl (v := .agg (h).cs) (w1 := w_3) ?hb ?_; (case hb => exact exec_load_hart rfl rfl K_ga.out)))
    refine (HM.out _).mono ?_
    rintro e_5 w_6 ⟨rfl, hb⟩
    have hB_7 := Lib.hid (below_step hB_4.out hb)
    replace K_ga := Lib.hid (K_ga.out.below hb)
    replace K_gt := Lib.hid (blk_below K_gt.out hb)
    clear hb hB_4
    go_wp2
    go_ret
    exact ⟨by first | (rw [← HZ.out]; done) | (rw [← HZ.out]; rfl), hB_7.out⟩
  by_cases h_770 : no2 = 770
  · subst h_770
    have hz1 : h.x 39 = z := hz
    have HZ := Lib.hid hz1
    clear hz hz1
    have hu25 := Tryd.underlying25; have hu27 := Tryd.underlying27
    go_enter Tryd.func14, Tryd.ntmps14
    go_upto_region 1 with (first | ((with_reducible refine gate_dst (N := 3) rfl ?_); refine box_event ?hg (N := 3) ?hd (cs := h.cs) (t := 25) ?hr ?_; (case hd => rfl); (case hg => rfl); (case hr => first | (go_simp; done) | (go_simp; rfl)); intro ga hg w_1 H1 hb; have hB_2 := Lib.hid (below_step (Below.refl w.heap.size w) hb); have G_ga := Lib.hid (show w.heap.size ≤ ga by rw [hg]; exact ((Below.refl w.heap.size w)).size); have K_ga := Lib.hid (show Hb w_1 ga h from H1); clear hg hb H1) | ((with_reducible refine gate_dst (N := 4) rfl ?_); refine box_event ?hg (N := 4) ?hd (cs := #[.bool la, .bool lb, .bool lc, .bool ld, .int .u64 lg, .int .u64 lt]) (t := 27) ?hr ?_; (case hd => rfl); (case hg => rfl); (case hr => first | (go_simp; done) | (go_simp; rfl)); intro gt hg w_3 H1 hb; have hB_4 := Lib.hid (below_step hB_2.out hb); have G_gt := Lib.hid (show w.heap.size ≤ gt by rw [hg]; exact (hB_2.out).size); have N_ga_gt := Lib.hid (show ga ≠ gt by rw [hg]; exact Nat.ne_of_lt (K_ga.out.lt)); replace K_ga := Lib.hid (K_ga.out.below hb); have K_gt := Lib.hid (show w_3.heap[gt]? = some (.cells #[.bool la, .bool lb, .bool lc, .bool ld, .int .u64 lg, .int .u64 lt] 27 (0, 0)) from H1); clear hg hb H1 hB_2; clear hu25 hu27))
    go_wp2_with (first | ((with_reducible refine gate_dst (N := 7) rfl ?_); (first | (refine gate_guard (by kernel_rfl) ?_) | skip); refine Kd.event_run rfl (v := .agg (h).cs) (w1 := w_3) ?hb ?_; (case hb => exact exec_load_hart rfl rfl K_ga.out)))
    refine (HM.out _).mono ?_
    rintro e_5 w_6 ⟨rfl, hb⟩
    have hB_7 := Lib.hid (below_step hB_4.out hb)
    replace K_ga := Lib.hid (K_ga.out.below hb)
    replace K_gt := Lib.hid (blk_below K_gt.out hb)
    clear hb hB_4
    have c_ga_39 := K_ga.out.u 39 rfl; have f_ga_39 := K_ga.out.fr 39
    go_wp2
    go_ret
    exact ⟨by first | (rw [← HZ.out]; done) | (rw [← HZ.out]; rfl), hB_7.out⟩
  by_cases h_771 : no2 = 771
  · subst h_771
    have hz1 : h.x 40 = z := hz
    have HZ := Lib.hid hz1
    clear hz hz1
    have hu25 := Tryd.underlying25; have hu27 := Tryd.underlying27
    go_enter Tryd.func14, Tryd.ntmps14
    go_upto_region 1 with (first | ((with_reducible refine gate_dst (N := 3) rfl ?_); refine box_event ?hg (N := 3) ?hd (cs := h.cs) (t := 25) ?hr ?_; (case hd => rfl); (case hg => rfl); (case hr => first | (go_simp; done) | (go_simp; rfl)); intro ga hg w_1 H1 hb; have hB_2 := Lib.hid (below_step (Below.refl w.heap.size w) hb); have G_ga := Lib.hid (show w.heap.size ≤ ga by rw [hg]; exact ((Below.refl w.heap.size w)).size); have K_ga := Lib.hid (show Hb w_1 ga h from H1); clear hg hb H1) | ((with_reducible refine gate_dst (N := 4) rfl ?_); refine box_event ?hg (N := 4) ?hd (cs := #[.bool la, .bool lb, .bool lc, .bool ld, .int .u64 lg, .int .u64 lt]) (t := 27) ?hr ?_; (case hd => rfl); (case hg => rfl); (case hr => first | (go_simp; done) | (go_simp; rfl)); intro gt hg w_3 H1 hb; have hB_4 := Lib.hid (below_step hB_2.out hb); have G_gt := Lib.hid (show w.heap.size ≤ gt by rw [hg]; exact (hB_2.out).size); have N_ga_gt := Lib.hid (show ga ≠ gt by rw [hg]; exact Nat.ne_of_lt (K_ga.out.lt)); replace K_ga := Lib.hid (K_ga.out.below hb); have K_gt := Lib.hid (show w_3.heap[gt]? = some (.cells #[.bool la, .bool lb, .bool lc, .bool ld, .int .u64 lg, .int .u64 lt] 27 (0, 0)) from H1); clear hg hb H1 hB_2; clear hu25 hu27))
    go_wp2_with (first | ((with_reducible refine gate_dst (N := 7) rfl ?_); (first | (refine gate_guard (by kernel_rfl) ?_) | skip); refine Kd.event_run rfl (v := .agg (h).cs) (w1 := w_3) ?hb ?_; (case hb => exact exec_load_hart rfl rfl K_ga.out)))
    refine (HM.out _).mono ?_
    rintro e_5 w_6 ⟨rfl, hb⟩
    have hB_7 := Lib.hid (below_step hB_4.out hb)
    replace K_ga := Lib.hid (K_ga.out.below hb)
    replace K_gt := Lib.hid (blk_below K_gt.out hb)
    clear hb hB_4
    have c_ga_40 := K_ga.out.u 40 rfl; have f_ga_40 := K_ga.out.fr 40
    go_wp2
    go_ret
    exact ⟨by first | (rw [← HZ.out]; done) | (rw [← HZ.out]; rfl), hB_7.out⟩
  by_cases h_772 : no2 = 772
  · subst h_772
    have hz1 : h.x 41 = z := hz
    have HZ := Lib.hid hz1
    clear hz hz1
    have hu25 := Tryd.underlying25; have hu27 := Tryd.underlying27
    go_enter Tryd.func14, Tryd.ntmps14
    go_upto_region 1 with (first | ((with_reducible refine gate_dst (N := 3) rfl ?_); refine box_event ?hg (N := 3) ?hd (cs := h.cs) (t := 25) ?hr ?_; (case hd => rfl); (case hg => rfl); (case hr => first | (go_simp; done) | (go_simp; rfl)); intro ga hg w_1 H1 hb; have hB_2 := Lib.hid (below_step (Below.refl w.heap.size w) hb); have G_ga := Lib.hid (show w.heap.size ≤ ga by rw [hg]; exact ((Below.refl w.heap.size w)).size); have K_ga := Lib.hid (show Hb w_1 ga h from H1); clear hg hb H1) | ((with_reducible refine gate_dst (N := 4) rfl ?_); refine box_event ?hg (N := 4) ?hd (cs := #[.bool la, .bool lb, .bool lc, .bool ld, .int .u64 lg, .int .u64 lt]) (t := 27) ?hr ?_; (case hd => rfl); (case hg => rfl); (case hr => first | (go_simp; done) | (go_simp; rfl)); intro gt hg w_3 H1 hb; have hB_4 := Lib.hid (below_step hB_2.out hb); have G_gt := Lib.hid (show w.heap.size ≤ gt by rw [hg]; exact (hB_2.out).size); have N_ga_gt := Lib.hid (show ga ≠ gt by rw [hg]; exact Nat.ne_of_lt (K_ga.out.lt)); replace K_ga := Lib.hid (K_ga.out.below hb); have K_gt := Lib.hid (show w_3.heap[gt]? = some (.cells #[.bool la, .bool lb, .bool lc, .bool ld, .int .u64 lg, .int .u64 lt] 27 (0, 0)) from H1); clear hg hb H1 hB_2; clear hu25 hu27))
    go_wp2_with (first | ((with_reducible refine gate_dst (N := 7) rfl ?_); (first | (refine gate_guard (by kernel_rfl) ?_) | skip); refine Kd.event_run rfl (v := .agg (h).cs) (w1 := w_3) ?hb ?_; (case hb => exact exec_load_hart rfl rfl K_ga.out)))
    refine (HM.out _).mono ?_
    rintro e_5 w_6 ⟨rfl, hb⟩
    have hB_7 := Lib.hid (below_step hB_4.out hb)
    replace K_ga := Lib.hid (K_ga.out.below hb)
    replace K_gt := Lib.hid (blk_below K_gt.out hb)
    clear hb hB_4
    have c_ga_41 := K_ga.out.u 41 rfl; have f_ga_41 := K_ga.out.fr 41
    go_wp2
    go_ret
    exact ⟨by first | (rw [← HZ.out]; done) | (rw [← HZ.out]; rfl), hB_7.out⟩
  by_cases h_773 : no2 = 773
  · subst h_773
    have hz1 : h.x 43 = z := hz
    have HZ := Lib.hid hz1
    clear hz hz1
    have hu25 := Tryd.underlying25; have hu27 := Tryd.underlying27
    go_enter Tryd.func14, Tryd.ntmps14
    go_upto_region 1 with (first | ((with_reducible refine gate_dst (N := 3) rfl ?_); refine box_event ?hg (N := 3) ?hd (cs := h.cs) (t := 25) ?hr ?_; (case hd => rfl); (case hg => rfl); (case hr => first | (go_simp; done) | (go_simp; rfl)); intro ga hg w_1 H1 hb; have hB_2 := Lib.hid (below_step (Below.refl w.heap.size w) hb); have G_ga := Lib.hid (show w.heap.size ≤ ga by rw [hg]; exact ((Below.refl w.heap.size w)).size); have K_ga := Lib.hid (show Hb w_1 ga h from H1); clear hg hb H1) | ((with_reducible refine gate_dst (N := 4) rfl ?_); refine box_event ?hg (N := 4) ?hd (cs := #[.bool la, .bool lb, .bool lc, .bool ld, .int .u64 lg, .int .u64 lt]) (t := 27) ?hr ?_; (case hd => rfl); (case hg => rfl); (case hr => first | (go_simp; done) | (go_simp; rfl)); intro gt hg w_3 H1 hb; have hB_4 := Lib.hid (below_step hB_2.out hb); have G_gt := Lib.hid (show w.heap.size ≤ gt by rw [hg]; exact (hB_2.out).size); have N_ga_gt := Lib.hid (show ga ≠ gt by rw [hg]; exact Nat.ne_of_lt (K_ga.out.lt)); replace K_ga := Lib.hid (K_ga.out.below hb); have K_gt := Lib.hid (show w_3.heap[gt]? = some (.cells #[.bool la, .bool lb, .bool lc, .bool ld, .int .u64 lg, .int .u64 lt] 27 (0, 0)) from H1); clear hg hb H1 hB_2; clear hu25 hu27))
    go_wp2_with (first | ((with_reducible refine gate_dst (N := 7) rfl ?_); (first | (refine gate_guard (by kernel_rfl) ?_) | skip); refine Kd.event_run rfl (v := .agg (h).cs) (w1 := w_3) ?hb ?_; (case hb => exact exec_load_hart rfl rfl K_ga.out)))
    refine (HM.out _).mono ?_
    rintro e_5 w_6 ⟨rfl, hb⟩
    have hB_7 := Lib.hid (below_step hB_4.out hb)
    replace K_ga := Lib.hid (K_ga.out.below hb)
    replace K_gt := Lib.hid (blk_below K_gt.out hb)
    clear hb hB_4
    have c_ga_43 := K_ga.out.u 43 rfl; have f_ga_43 := K_ga.out.fr 43
    go_wp2
    go_ret
    exact ⟨by first | (rw [← HZ.out]; done) | (rw [← HZ.out]; rfl), hB_7.out⟩
  by_cases h_774 : no2 = 774
  · subst h_774
    have hz1 : h.x 44 = z := hz
    have HZ := Lib.hid hz1
    clear hz hz1
    have hu25 := Tryd.underlying25; have hu27 := Tryd.underlying27
    go_enter Tryd.func14, Tryd.ntmps14
    go_upto_region 1 with (first | ((with_reducible refine gate_dst (N := 3) rfl ?_); refine box_event ?hg (N := 3) ?hd (cs := h.cs) (t := 25) ?hr ?_; (case hd => rfl); (case hg => rfl); (case hr => first | (go_simp; done) | (go_simp; rfl)); intro ga hg w_1 H1 hb; have hB_2 := Lib.hid (below_step (Below.refl w.heap.size w) hb); have G_ga := Lib.hid (show w.heap.size ≤ ga by rw [hg]; exact ((Below.refl w.heap.size w)).size); have K_ga := Lib.hid (show Hb w_1 ga h from H1); clear hg hb H1) | ((with_reducible refine gate_dst (N := 4) rfl ?_); refine box_event ?hg (N := 4) ?hd (cs := #[.bool la, .bool lb, .bool lc, .bool ld, .int .u64 lg, .int .u64 lt]) (t := 27) ?hr ?_; (case hd => rfl); (case hg => rfl); (case hr => first | (go_simp; done) | (go_simp; rfl)); intro gt hg w_3 H1 hb; have hB_4 := Lib.hid (below_step hB_2.out hb); have G_gt := Lib.hid (show w.heap.size ≤ gt by rw [hg]; exact (hB_2.out).size); have N_ga_gt := Lib.hid (show ga ≠ gt by rw [hg]; exact Nat.ne_of_lt (K_ga.out.lt)); replace K_ga := Lib.hid (K_ga.out.below hb); have K_gt := Lib.hid (show w_3.heap[gt]? = some (.cells #[.bool la, .bool lb, .bool lc, .bool ld, .int .u64 lg, .int .u64 lt] 27 (0, 0)) from H1); clear hg hb H1 hB_2; clear hu25 hu27))
    go_wp2_with (first | ((with_reducible refine gate_dst (N := 7) rfl ?_); (first | (refine gate_guard (by kernel_rfl) ?_) | skip); refine Kd.event_run rfl (v := .agg (h).cs) (w1 := w_3) ?hb ?_; (case hb => exact exec_load_hart rfl rfl K_ga.out)))
    refine (HM.out _).mono ?_
    rintro e_5 w_6 ⟨rfl, hb⟩
    have hB_7 := Lib.hid (below_step hB_4.out hb)
    replace K_ga := Lib.hid (K_ga.out.below hb)
    replace K_gt := Lib.hid (blk_below K_gt.out hb)
    clear hb hB_4
    have c_ga_44 := K_ga.out.u 44 rfl; have f_ga_44 := K_ga.out.fr 44
    go_wp2
    go_ret
    exact ⟨by first | (rw [← HZ.out]; done) | (rw [← HZ.out]; rfl), hB_7.out⟩
  by_cases h_832 : no2 = 832
  · subst h_832
    have hz1 : h.x 45 = z := hz
    have HZ := Lib.hid hz1
    clear hz hz1
    have hu25 := Tryd.underlying25; have hu27 := Tryd.underlying27
    go_enter Tryd.func14, Tryd.ntmps14
    go_upto_region 1 with (first | ((with_reducible refine gate_dst (N := 3) rfl ?_); refine box_event ?hg (N := 3) ?hd (cs := h.cs) (t := 25) ?hr ?_; (case hd => rfl); (case hg => rfl); (case hr => first | (go_simp; done) | (go_simp; rfl)); intro ga hg w_1 H1 hb; have hB_2 := Lib.hid (below_step (Below.refl w.heap.size w) hb); have G_ga := Lib.hid (show w.heap.size ≤ ga by rw [hg]; exact ((Below.refl w.heap.size w)).size); have K_ga := Lib.hid (show Hb w_1 ga h from H1); clear hg hb H1) | ((with_reducible refine gate_dst (N := 4) rfl ?_); refine box_event ?hg (N := 4) ?hd (cs := #[.bool la, .bool lb, .bool lc, .bool ld, .int .u64 lg, .int .u64 lt]) (t := 27) ?hr ?_; (case hd => rfl); (case hg => rfl); (case hr => first | (go_simp; done) | (go_simp; rfl)); intro gt hg w_3 H1 hb; have hB_4 := Lib.hid (below_step hB_2.out hb); have G_gt := Lib.hid (show w.heap.size ≤ gt by rw [hg]; exact (hB_2.out).size); have N_ga_gt := Lib.hid (show ga ≠ gt by rw [hg]; exact Nat.ne_of_lt (K_ga.out.lt)); replace K_ga := Lib.hid (K_ga.out.below hb); have K_gt := Lib.hid (show w_3.heap[gt]? = some (.cells #[.bool la, .bool lb, .bool lc, .bool ld, .int .u64 lg, .int .u64 lt] 27 (0, 0)) from H1); clear hg hb H1 hB_2; clear hu25 hu27))
    go_wp2_with (first | ((with_reducible refine gate_dst (N := 7) rfl ?_); (first | (refine gate_guard (by kernel_rfl) ?_) | skip); refine Kd.event_run rfl (v := .agg (h).cs) (w1 := w_3) ?hb ?_; (case hb => exact exec_load_hart rfl rfl K_ga.out)))
    refine (HM.out _).mono ?_
    rintro e_5 w_6 ⟨rfl, hb⟩
    have hB_7 := Lib.hid (below_step hB_4.out hb)
    replace K_ga := Lib.hid (K_ga.out.below hb)
    replace K_gt := Lib.hid (blk_below K_gt.out hb)
    clear hb hB_4
    have c_ga_45 := K_ga.out.u 45 rfl; have f_ga_45 := K_ga.out.fr 45
    go_wp2
    go_ret
    exact ⟨by first | (rw [← HZ.out]; done) | (rw [← HZ.out]; rfl), hB_7.out⟩
  by_cases h_833 : no2 = 833
  · subst h_833
    have hz1 : h.x 46 = z := hz
    have HZ := Lib.hid hz1
    clear hz hz1
    have hu25 := Tryd.underlying25; have hu27 := Tryd.underlying27
    go_enter Tryd.func14, Tryd.ntmps14
    go_upto_region 1 with (first | ((with_reducible refine gate_dst (N := 3) rfl ?_); refine box_event ?hg (N := 3) ?hd (cs := h.cs) (t := 25) ?hr ?_; (case hd => rfl); (case hg => rfl); (case hr => first | (go_simp; done) | (go_simp; rfl)); intro ga hg w_1 H1 hb; have hB_2 := Lib.hid (below_step (Below.refl w.heap.size w) hb); have G_ga := Lib.hid (show w.heap.size ≤ ga by rw [hg]; exact ((Below.refl w.heap.size w)).size); have K_ga := Lib.hid (show Hb w_1 ga h from H1); clear hg hb H1) | ((with_reducible refine gate_dst (N := 4) rfl ?_); refine box_event ?hg (N := 4) ?hd (cs := #[.bool la, .bool lb, .bool lc, .bool ld, .int .u64 lg, .int .u64 lt]) (t := 27) ?hr ?_; (case hd => rfl); (case hg => rfl); (case hr => first | (go_simp; done) | (go_simp; rfl)); intro gt hg w_3 H1 hb; have hB_4 := Lib.hid (below_step hB_2.out hb); have G_gt := Lib.hid (show w.heap.size ≤ gt by rw [hg]; exact (hB_2.out).size); have N_ga_gt := Lib.hid (show ga ≠ gt by rw [hg]; exact Nat.ne_of_lt (K_ga.out.lt)); replace K_ga := Lib.hid (K_ga.out.below hb); have K_gt := Lib.hid (show w_3.heap[gt]? = some (.cells #[.bool la, .bool lb, .bool lc, .bool ld, .int .u64 lg, .int .u64 lt] 27 (0, 0)) from H1); clear hg hb H1 hB_2; clear hu25 hu27))
    go_wp2_with (first | ((with_reducible refine gate_dst (N := 7) rfl ?_); (first | (refine gate_guard (by kernel_rfl) ?_) | skip); refine Kd.event_run rfl (v := .agg (h).cs) (w1 := w_3) ?hb ?_; (case hb => exact exec_load_hart rfl rfl K_ga.out)))
    refine (HM.out _).mono ?_
    rintro e_5 w_6 ⟨rfl, hb⟩
    have hB_7 := Lib.hid (below_step hB_4.out hb)
    replace K_ga := Lib.hid (K_ga.out.below hb)
    replace K_gt := Lib.hid (blk_below K_gt.out hb)
    clear hb hB_4
    have c_ga_46 := K_ga.out.u 46 rfl; have f_ga_46 := K_ga.out.fr 46
    go_wp2
    go_ret
    exact ⟨by first | (rw [← HZ.out]; done) | (rw [← HZ.out]; rfl), hB_7.out⟩
  by_cases h_834 : no2 = 834
  · subst h_834
    have hz1 : h.x 47 = z := hz
    have HZ := Lib.hid hz1
    clear hz hz1
    have hu25 := Tryd.underlying25; have hu27 := Tryd.underlying27
    go_enter Tryd.func14, Tryd.ntmps14
    go_upto_region 1 with (first | ((with_reducible refine gate_dst (N := 3) rfl ?_); refine box_event ?hg (N := 3) ?hd (cs := h.cs) (t := 25) ?hr ?_; (case hd => rfl); (case hg => rfl); (case hr => first | (go_simp; done) | (go_simp; rfl)); intro ga hg w_1 H1 hb; have hB_2 := Lib.hid (below_step (Below.refl w.heap.size w) hb); have G_ga := Lib.hid (show w.heap.size ≤ ga by rw [hg]; exact ((Below.refl w.heap.size w)).size); have K_ga := Lib.hid (show Hb w_1 ga h from H1); clear hg hb H1) | ((with_reducible refine gate_dst (N := 4) rfl ?_); refine box_event ?hg (N := 4) ?hd (cs := #[.bool la, .bool lb, .bool lc, .bool ld, .int .u64 lg, .int .u64 lt]) (t := 27) ?hr ?_; (case hd => rfl); (case hg => rfl); (case hr => first | (go_simp; done) | (go_simp; rfl)); intro gt hg w_3 H1 hb; have hB_4 := Lib.hid (below_step hB_2.out hb); have G_gt := Lib.hid (show w.heap.size ≤ gt by rw [hg]; exact (hB_2.out).size); have N_ga_gt := Lib.hid (show ga ≠ gt by rw [hg]; exact Nat.ne_of_lt (K_ga.out.lt)); replace K_ga := Lib.hid (K_ga.out.below hb); have K_gt := Lib.hid (show w_3.heap[gt]? = some (.cells #[.bool la, .bool lb, .bool lc, .bool ld, .int .u64 lg, .int .u64 lt] 27 (0, 0)) from H1); clear hg hb H1 hB_2; clear hu25 hu27))
    go_wp2_with (first | ((with_reducible refine gate_dst (N := 7) rfl ?_); (first | (refine gate_guard (by kernel_rfl) ?_) | skip); refine Kd.event_run rfl (v := .agg (h).cs) (w1 := w_3) ?hb ?_; (case hb => exact exec_load_hart rfl rfl K_ga.out)))
    refine (HM.out _).mono ?_
    rintro e_5 w_6 ⟨rfl, hb⟩
    have hB_7 := Lib.hid (below_step hB_4.out hb)
    replace K_ga := Lib.hid (K_ga.out.below hb)
    replace K_gt := Lib.hid (blk_below K_gt.out hb)
    clear hb hB_4
    have c_ga_47 := K_ga.out.u 47 rfl; have f_ga_47 := K_ga.out.fr 47
    go_wp2
    go_ret
    exact ⟨by first | (rw [← HZ.out]; done) | (rw [← HZ.out]; rfl), hB_7.out⟩
  by_cases h_835 : no2 = 835
  · subst h_835
    have hz1 : h.x 48 = z := hz
    have HZ := Lib.hid hz1
    clear hz hz1
    have hu25 := Tryd.underlying25; have hu27 := Tryd.underlying27
    go_enter Tryd.func14, Tryd.ntmps14
    go_upto_region 1 with (first | ((with_reducible refine gate_dst (N := 3) rfl ?_); refine box_event ?hg (N := 3) ?hd (cs := h.cs) (t := 25) ?hr ?_; (case hd => rfl); (case hg => rfl); (case hr => first | (go_simp; done) | (go_simp; rfl)); intro ga hg w_1 H1 hb; have hB_2 := Lib.hid (below_step (Below.refl w.heap.size w) hb); have G_ga := Lib.hid (show w.heap.size ≤ ga by rw [hg]; exact ((Below.refl w.heap.size w)).size); have K_ga := Lib.hid (show Hb w_1 ga h from H1); clear hg hb H1) | ((with_reducible refine gate_dst (N := 4) rfl ?_); refine box_event ?hg (N := 4) ?hd (cs := #[.bool la, .bool lb, .bool lc, .bool ld, .int .u64 lg, .int .u64 lt]) (t := 27) ?hr ?_; (case hd => rfl); (case hg => rfl); (case hr => first | (go_simp; done) | (go_simp; rfl)); intro gt hg w_3 H1 hb; have hB_4 := Lib.hid (below_step hB_2.out hb); have G_gt := Lib.hid (show w.heap.size ≤ gt by rw [hg]; exact (hB_2.out).size); have N_ga_gt := Lib.hid (show ga ≠ gt by rw [hg]; exact Nat.ne_of_lt (K_ga.out.lt)); replace K_ga := Lib.hid (K_ga.out.below hb); have K_gt := Lib.hid (show w_3.heap[gt]? = some (.cells #[.bool la, .bool lb, .bool lc, .bool ld, .int .u64 lg, .int .u64 lt] 27 (0, 0)) from H1); clear hg hb H1 hB_2; clear hu25 hu27))
    go_wp2_with (first | ((with_reducible refine gate_dst (N := 7) rfl ?_); (first | (refine gate_guard (by kernel_rfl) ?_) | skip); refine Kd.event_run rfl (v := .agg (h).cs) (w1 := w_3) ?hb ?_; (case hb => exact exec_load_hart rfl rfl K_ga.out)))
    refine (HM.out _).mono ?_
    rintro e_5 w_6 ⟨rfl, hb⟩
    have hB_7 := Lib.hid (below_step hB_4.out hb)
    replace K_ga := Lib.hid (K_ga.out.below hb)
    replace K_gt := Lib.hid (blk_below K_gt.out hb)
    clear hb hB_4
    have c_ga_48 := K_ga.out.u 48 rfl; have f_ga_48 := K_ga.out.fr 48
    go_wp2
    go_ret
    exact ⟨by first | (rw [← HZ.out]; done) | (rw [← HZ.out]; rfl), hB_7.out⟩
  by_cases h_836 : no2 = 836
  · subst h_836
    have hz1 : pendV h la lb lc ld lg lt = z := hz
    have HZ := Lib.hid hz1
    clear hz hz1
    have hu25 := Tryd.underlying25; have hu27 := Tryd.underlying27
    go_enter Tryd.func14, Tryd.ntmps14
    go_upto_region 1 with (first | ((with_reducible refine gate_dst (N := 3) rfl ?_); refine box_event ?hg (N := 3) ?hd (cs := h.cs) (t := 25) ?hr ?_; (case hd => rfl); (case hg => rfl); (case hr => first | (go_simp; done) | (go_simp; rfl)); intro ga hg w_1 H1 hb; have hB_2 := Lib.hid (below_step (Below.refl w.heap.size w) hb); have G_ga := Lib.hid (show w.heap.size ≤ ga by rw [hg]; exact ((Below.refl w.heap.size w)).size); have K_ga := Lib.hid (show Hb w_1 ga h from H1); clear hg hb H1) | ((with_reducible refine gate_dst (N := 4) rfl ?_); refine box_event ?hg (N := 4) ?hd (cs := #[.bool la, .bool lb, .bool lc, .bool ld, .int .u64 lg, .int .u64 lt]) (t := 27) ?hr ?_; (case hd => rfl); (case hg => rfl); (case hr => first | (go_simp; done) | (go_simp; rfl)); intro gt hg w_3 H1 hb; have hB_4 := Lib.hid (below_step hB_2.out hb); have G_gt := Lib.hid (show w.heap.size ≤ gt by rw [hg]; exact (hB_2.out).size); have N_ga_gt := Lib.hid (show ga ≠ gt by rw [hg]; exact Nat.ne_of_lt (K_ga.out.lt)); replace K_ga := Lib.hid (K_ga.out.below hb); have K_gt := Lib.hid (show w_3.heap[gt]? = some (.cells #[.bool la, .bool lb, .bool lc, .bool ld, .int .u64 lg, .int .u64 lt] 27 (0, 0)) from H1); clear hg hb H1 hB_2; clear hu25 hu27))
    go_wp2_with (first | ((with_reducible refine gate_dst (N := 7) rfl ?_); (first | (refine gate_guard (by kernel_rfl) ?_) | skip); refine Kd.event_run rfl (v := .agg (h).cs) (w1 := w_3) ?hb ?_; (case hb => exact exec_load_hart rfl rfl K_ga.out)))
    refine (HM.out _).mono ?_
    rintro e_5 w_6 ⟨rfl, hb⟩
    have hB_7 := Lib.hid (below_step hB_4.out hb)
    replace K_ga := Lib.hid (K_ga.out.below hb)
    replace K_gt := Lib.hid (blk_below K_gt.out hb)
    clear hb hB_4
    go_wp2_with (first | ((with_reducible refine gate_dst (N := 152) rfl ?_); (first | (refine gate_guard (by kernel_rfl) ?_) | skip); refine Kd.event_run rfl (v := .agg (h).cs) (w1 := w_6) ?hb ?_; (case hb => exact exec_load_hart rfl rfl K_ga.out)) | ((with_reducible refine gate_dst (N := 153) rfl ?_); (first | (refine gate_guard (by kernel_rfl) ?_) | skip); refine Kd.event_run rfl (v := .agg #[.bool la, .bool lb, .bool lc, .bool ld, .int .u64 lg, .int .u64 lt]) (w1 := w_6) ?hb ?_; (case hb => exact exec_load_blk rfl rfl K_gt.out Tryd.underlying27 rfl (by kernel_rfl))))
    refine (HP.out _).mono ?_
    rintro e_8 w_9 ⟨rfl, hb⟩
    have hB_10 := Lib.hid (below_step hB_7.out hb)
    replace K_ga := Lib.hid (K_ga.out.below hb)
    replace K_gt := Lib.hid (blk_below K_gt.out hb)
    clear hb hB_7
    go_wp2
    go_ret
    exact ⟨by first | (rw [← HZ.out]; done) | (rw [← HZ.out]; rfl), hB_10.out⟩
  by_cases h_842 : no2 = 842
  · subst h_842
    have hz1 : h.x 50 = z := hz
    have HZ := Lib.hid hz1
    clear hz hz1
    have hu25 := Tryd.underlying25; have hu27 := Tryd.underlying27
    go_enter Tryd.func14, Tryd.ntmps14
    go_upto_region 1 with (first | ((with_reducible refine gate_dst (N := 3) rfl ?_); refine box_event ?hg (N := 3) ?hd (cs := h.cs) (t := 25) ?hr ?_; (case hd => rfl); (case hg => rfl); (case hr => first | (go_simp; done) | (go_simp; rfl)); intro ga hg w_1 H1 hb; have hB_2 := Lib.hid (below_step (Below.refl w.heap.size w) hb); have G_ga := Lib.hid (show w.heap.size ≤ ga by rw [hg]; exact ((Below.refl w.heap.size w)).size); have K_ga := Lib.hid (show Hb w_1 ga h from H1); clear hg hb H1) | ((with_reducible refine gate_dst (N := 4) rfl ?_); refine box_event ?hg (N := 4) ?hd (cs := #[.bool la, .bool lb, .bool lc, .bool ld, .int .u64 lg, .int .u64 lt]) (t := 27) ?hr ?_; (case hd => rfl); (case hg => rfl); (case hr => first | (go_simp; done) | (go_simp; rfl)); intro gt hg w_3 H1 hb; have hB_4 := Lib.hid (below_step hB_2.out hb); have G_gt := Lib.hid (show w.heap.size ≤ gt by rw [hg]; exact (hB_2.out).size); have N_ga_gt := Lib.hid (show ga ≠ gt by rw [hg]; exact Nat.ne_of_lt (K_ga.out.lt)); replace K_ga := Lib.hid (K_ga.out.below hb); have K_gt := Lib.hid (show w_3.heap[gt]? = some (.cells #[.bool la, .bool lb, .bool lc, .bool ld, .int .u64 lg, .int .u64 lt] 27 (0, 0)) from H1); clear hg hb H1 hB_2; clear hu25 hu27))
    go_wp2_with (first | ((with_reducible refine gate_dst (N := 7) rfl ?_); (first | (refine gate_guard (by kernel_rfl) ?_) | skip); refine Kd.event_run rfl (v := .agg (h).cs) (w1 := w_3) ?hb ?_; (case hb => exact exec_load_hart rfl rfl K_ga.out)))
    refine (HM.out _).mono ?_
    rintro e_5 w_6 ⟨rfl, hb⟩
    have hB_7 := Lib.hid (below_step hB_4.out hb)
    replace K_ga := Lib.hid (K_ga.out.below hb)
    replace K_gt := Lib.hid (blk_below K_gt.out hb)
    clear hb hB_4
    have c_ga_50 := K_ga.out.u 50 rfl; have f_ga_50 := K_ga.out.fr 50
    go_wp2
    go_ret
    exact ⟨by first | (rw [← HZ.out]; done) | (rw [← HZ.out]; rfl), hB_7.out⟩
  by_cases h_843 : no2 = 843
  · subst h_843
    have hz1 : h.x 49 = z := hz
    have HZ := Lib.hid hz1
    clear hz hz1
    have hu25 := Tryd.underlying25; have hu27 := Tryd.underlying27
    go_enter Tryd.func14, Tryd.ntmps14
    go_upto_region 1 with (first | ((with_reducible refine gate_dst (N := 3) rfl ?_); refine box_event ?hg (N := 3) ?hd (cs := h.cs) (t := 25) ?hr ?_; (case hd => rfl); (case hg => rfl); (case hr => first | (go_simp; done) | (go_simp; rfl)); intro ga hg w_1 H1 hb; have hB_2 := Lib.hid (below_step (Below.refl w.heap.size w) hb); have G_ga := Lib.hid (show w.heap.size ≤ ga by rw [hg]; exact ((Below.refl w.heap.size w)).size); have K_ga := Lib.hid (show Hb w_1 ga h from H1); clear hg hb H1) | ((with_reducible refine gate_dst (N := 4) rfl ?_); refine box_event ?hg (N := 4) ?hd (cs := #[.bool la, .bool lb, .bool lc, .bool ld, .int .u64 lg, .int .u64 lt]) (t := 27) ?hr ?_; (case hd => rfl); (case hg => rfl); (case hr => first | (go_simp; done) | (go_simp; rfl)); intro gt hg w_3 H1 hb; have hB_4 := Lib.hid (below_step hB_2.out hb); have G_gt := Lib.hid (show w.heap.size ≤ gt by rw [hg]; exact (hB_2.out).size); have N_ga_gt := Lib.hid (show ga ≠ gt by rw [hg]; exact Nat.ne_of_lt (K_ga.out.lt)); replace K_ga := Lib.hid (K_ga.out.below hb); have K_gt := Lib.hid (show w_3.heap[gt]? = some (.cells #[.bool la, .bool lb, .bool lc, .bool ld, .int .u64 lg, .int .u64 lt] 27 (0, 0)) from H1); clear hg hb H1 hB_2; clear hu25 hu27))
    go_wp2_with (first | ((with_reducible refine gate_dst (N := 7) rfl ?_); (first | (refine gate_guard (by kernel_rfl) ?_) | skip); refine Kd.event_run rfl (v := .agg (h).cs) (w1 := w_3) ?hb ?_; (case hb => exact exec_load_hart rfl rfl K_ga.out)))
    refine (HM.out _).mono ?_
    rintro e_5 w_6 ⟨rfl, hb⟩
    have hB_7 := Lib.hid (below_step hB_4.out hb)
    replace K_ga := Lib.hid (K_ga.out.below hb)
    replace K_gt := Lib.hid (blk_below K_gt.out hb)
    clear hb hB_4
    have c_ga_49 := K_ga.out.u 49 rfl; have f_ga_49 := K_ga.out.fr 49
    go_wp2
    go_ret
    exact ⟨by first | (rw [← HZ.out]; done) | (rw [← HZ.out]; rfl), hB_7.out⟩
  by_cases h_1536 : no2 = 1536
  · subst h_1536
    have hz1 : h.x 58 = z := hz
    have HZ := Lib.hid hz1
    clear hz hz1
    have hu25 := Tryd.underlying25; have hu27 := Tryd.underlying27
    go_enter Tryd.func14, Tryd.ntmps14
    go_upto_region 1 with (first | ((with_reducible refine gate_dst (N := 3) rfl ?_); refine box_event ?hg (N := 3) ?hd (cs := h.cs) (t := 25) ?hr ?_; (case hd => rfl); (case hg => rfl); (case hr => first | (go_simp; done) | (go_simp; rfl)); intro ga hg w_1 H1 hb; have hB_2 := Lib.hid (below_step (Below.refl w.heap.size w) hb); have G_ga := Lib.hid (show w.heap.size ≤ ga by rw [hg]; exact ((Below.refl w.heap.size w)).size); have K_ga := Lib.hid (show Hb w_1 ga h from H1); clear hg hb H1) | ((with_reducible refine gate_dst (N := 4) rfl ?_); refine box_event ?hg (N := 4) ?hd (cs := #[.bool la, .bool lb, .bool lc, .bool ld, .int .u64 lg, .int .u64 lt]) (t := 27) ?hr ?_; (case hd => rfl); (case hg => rfl); (case hr => first | (go_simp; done) | (go_simp; rfl)); intro gt hg w_3 H1 hb; have hB_4 := Lib.hid (below_step hB_2.out hb); have G_gt := Lib.hid (show w.heap.size ≤ gt by rw [hg]; exact (hB_2.out).size); have N_ga_gt := Lib.hid (show ga ≠ gt by rw [hg]; exact Nat.ne_of_lt (K_ga.out.lt)); replace K_ga := Lib.hid (K_ga.out.below hb); have K_gt := Lib.hid (show w_3.heap[gt]? = some (.cells #[.bool la, .bool lb, .bool lc, .bool ld, .int .u64 lg, .int .u64 lt] 27 (0, 0)) from H1); clear hg hb H1 hB_2; clear hu25 hu27))
    go_wp2_with (first | ((with_reducible refine gate_dst (N := 7) rfl ?_); (first | (refine gate_guard (by kernel_rfl) ?_) | skip); refine Kd.event_run rfl (v := .agg (h).cs) (w1 := w_3) ?hb ?_; (case hb => exact exec_load_hart rfl rfl K_ga.out)))
    refine (HM.out _).mono ?_
    rintro e_5 w_6 ⟨rfl, hb⟩
    have hB_7 := Lib.hid (below_step hB_4.out hb)
    replace K_ga := Lib.hid (K_ga.out.below hb)
    replace K_gt := Lib.hid (blk_below K_gt.out hb)
    clear hb hB_4
    have c_ga_58 := K_ga.out.u 58 rfl; have f_ga_58 := K_ga.out.fr 58
    go_wp2
    go_ret
    exact ⟨by first | (rw [← HZ.out]; done) | (rw [← HZ.out]; rfl), hB_7.out⟩
  by_cases h_1538 : no2 = 1538
  · subst h_1538
    have hz1 : h.x 59 = z := hz
    have HZ := Lib.hid hz1
    clear hz hz1
    have hu25 := Tryd.underlying25; have hu27 := Tryd.underlying27
    go_enter Tryd.func14, Tryd.ntmps14
    go_upto_region 1 with (first | ((with_reducible refine gate_dst (N := 3) rfl ?_); refine box_event ?hg (N := 3) ?hd (cs := h.cs) (t := 25) ?hr ?_; (case hd => rfl); (case hg => rfl); (case hr => first | (go_simp; done) | (go_simp; rfl)); intro ga hg w_1 H1 hb; have hB_2 := Lib.hid (below_step (Below.refl w.heap.size w) hb); have G_ga := Lib.hid (show w.heap.size ≤ ga by rw [hg]; exact ((Below.refl w.heap.size w)).size); have K_ga := Lib.hid (show Hb w_1 ga h from H1); clear hg hb H1) | ((with_reducible refine gate_dst (N := 4) rfl ?_); refine box_event ?hg (N := 4) ?hd (cs := #[.bool la, .bool lb, .bool lc, .bool ld, .int .u64 lg, .int .u64 lt]) (t := 27) ?hr ?_; (case hd => rfl); (case hg => rfl); (case hr => first | (go_simp; done) | (go_simp; rfl)); intro gt hg w_3 H1 hb; have hB_4 := Lib.hid (below_step hB_2.out hb); have G_gt := Lib.hid (show w.heap.size ≤ gt by rw [hg]; exact (hB_2.out).size); have N_ga_gt := Lib.hid (show ga ≠ gt by rw [hg]; exact Nat.ne_of_lt (K_ga.out.lt)); replace K_ga := Lib.hid (K_ga.out.below hb); have K_gt := Lib.hid (show w_3.heap[gt]? = some (.cells #[.bool la, .bool lb, .bool lc, .bool ld, .int .u64 lg, .int .u64 lt] 27 (0, 0)) from H1); clear hg hb H1 hB_2; clear hu25 hu27))
    go_wp2_with (first | ((with_reducible refine gate_dst (N := 7) rfl ?_); (first | (refine gate_guard (by kernel_rfl) ?_) | skip); refine Kd.event_run rfl (v := .agg (h).cs) (w1 := w_3) ?hb ?_; (case hb => exact exec_load_hart rfl rfl K_ga.out)))
    refine (HM.out _).mono ?_
    rintro e_5 w_6 ⟨rfl, hb⟩
    have hB_7 := Lib.hid (below_step hB_4.out hb)
    replace K_ga := Lib.hid (K_ga.out.below hb)
    replace K_gt := Lib.hid (blk_below K_gt.out hb)
    clear hb hB_4
    have c_ga_59 := K_ga.out.u 59 rfl; have f_ga_59 := K_ga.out.fr 59
    go_wp2
    go_ret
    exact ⟨by first | (rw [← HZ.out]; done) | (rw [← HZ.out]; rfl), hB_7.out⟩
  by_cases h_1539 : no2 = 1539
  · subst h_1539
    have hz1 : h.x 60 = z := hz
    have HZ := Lib.hid hz1
    clear hz hz1
    have hu25 := Tryd.underlying25; have hu27 := Tryd.underlying27
    go_enter Tryd.func14, Tryd.ntmps14
    go_upto_region 1 with (first | ((with_reducible refine gate_dst (N := 3) rfl ?_); refine box_event ?hg (N := 3) ?hd (cs := h.cs) (t := 25) ?hr ?_; (case hd => rfl); (case hg => rfl); (case hr => first | (go_simp; done) | (go_simp; rfl)); intro ga hg w_1 H1 hb; have hB_2 := Lib.hid (below_step (Below.refl w.heap.size w) hb); have G_ga := Lib.hid (show w.heap.size ≤ ga by rw [hg]; exact ((Below.refl w.heap.size w)).size); have K_ga := Lib.hid (show Hb w_1 ga h from H1); clear hg hb H1) | ((with_reducible refine gate_dst (N := 4) rfl ?_); refine box_event ?hg (N := 4) ?hd (cs := #[.bool la, .bool lb, .bool lc, .bool ld, .int .u64 lg, .int .u64 lt]) (t := 27) ?hr ?_; (case hd => rfl); (case hg => rfl); (case hr => first | (go_simp; done) | (go_simp; rfl)); intro gt hg w_3 H1 hb; have hB_4 := Lib.hid (below_step hB_2.out hb); have G_gt := Lib.hid (show w.heap.size ≤ gt by rw [hg]; exact (hB_2.out).size); have N_ga_gt := Lib.hid (show ga ≠ gt by rw [hg]; exact Nat.ne_of_lt (K_ga.out.lt)); replace K_ga := Lib.hid (K_ga.out.below hb); have K_gt := Lib.hid (show w_3.heap[gt]? = some (.cells #[.bool la, .bool lb, .bool lc, .bool ld, .int .u64 lg, .int .u64 lt] 27 (0, 0)) from H1); clear hg hb H1 hB_2; clear hu25 hu27))
    go_wp2_with (first | ((with_reducible refine gate_dst (N := 7) rfl ?_); (first | (refine gate_guard (by kernel_rfl) ?_) | skip); refine Kd.event_run rfl (v := .agg (h).cs) (w1 := w_3) ?hb ?_; (case hb => exact exec_load_hart rfl rfl K_ga.out)))
    refine (HM.out _).mono ?_
    rintro e_5 w_6 ⟨rfl, hb⟩
    have hB_7 := Lib.hid (below_step hB_4.out hb)
    replace K_ga := Lib.hid (K_ga.out.below hb)
    replace K_gt := Lib.hid (blk_below K_gt.out hb)
    clear hb hB_4
    have c_ga_60 := K_ga.out.u 60 rfl; have f_ga_60 := K_ga.out.fr 60
    go_wp2
    go_ret
    exact ⟨by first | (rw [← HZ.out]; done) | (rw [← HZ.out]; rfl), hB_7.out⟩
  by_cases h_1540 : no2 = 1540
  · subst h_1540
    have hz1 : Go.bits .and .u64 (h.x 41) 5188 = z := hz
    have HZ := Lib.hid hz1
    clear hz hz1
    have hu25 := Tryd.underlying25; have hu27 := Tryd.underlying27
    go_enter Tryd.func14, Tryd.ntmps14
    go_upto_region 1 with (first | ((with_reducible refine gate_dst (N := 3) rfl ?_); refine box_event ?hg (N := 3) ?hd (cs := h.cs) (t := 25) ?hr ?_; (case hd => rfl); (case hg => rfl); (case hr => first | (go_simp; done) | (go_simp; rfl)); intro ga hg w_1 H1 hb; have hB_2 := Lib.hid (below_step (Below.refl w.heap.size w) hb); have G_ga := Lib.hid (show w.heap.size ≤ ga by rw [hg]; exact ((Below.refl w.heap.size w)).size); have K_ga := Lib.hid (show Hb w_1 ga h from H1); clear hg hb H1) | ((with_reducible refine gate_dst (N := 4) rfl ?_); refine box_event ?hg (N := 4) ?hd (cs := #[.bool la, .bool lb, .bool lc, .bool ld, .int .u64 lg, .int .u64 lt]) (t := 27) ?hr ?_; (case hd => rfl); (case hg => rfl); (case hr => first | (go_simp; done) | (go_simp; rfl)); intro gt hg w_3 H1 hb; have hB_4 := Lib.hid (below_step hB_2.out hb); have G_gt := Lib.hid (show w.heap.size ≤ gt by rw [hg]; exact (hB_2.out).size); have N_ga_gt := Lib.hid (show ga ≠ gt by rw [hg]; exact Nat.ne_of_lt (K_ga.out.lt)); replace K_ga := Lib.hid (K_ga.out.below hb); have K_gt := Lib.hid (show w_3.heap[gt]? = some (.cells #[.bool la, .bool lb, .bool lc, .bool ld, .int .u64 lg, .int .u64 lt] 27 (0, 0)) from H1); clear hg hb H1 hB_2; clear hu25 hu27))
    go_wp2_with (first | ((with_reducible refine gate_dst (N := 7) rfl ?_); (first | (refine gate_guard (by kernel_rfl) ?_) | skip); refine Kd.event_run rfl (v := .agg (h).cs) (w1 := w_3) ?hb ?_; (case hb => exact exec_load_hart rfl rfl K_ga.out)))
    refine (HM.out _).mono ?_
    rintro e_5 w_6 ⟨rfl, hb⟩
    have hB_7 := Lib.hid (below_step hB_4.out hb)
    replace K_ga := Lib.hid (K_ga.out.below hb)
    replace K_gt := Lib.hid (blk_below K_gt.out hb)
    clear hb hB_4
    have c_ga_41 := K_ga.out.u 41 rfl; have f_ga_41 := K_ga.out.fr 41
    go_wp2
    go_ret
    exact ⟨by first | (rw [← HZ.out]; done) | (rw [← HZ.out]; rfl), hB_7.out⟩
  by_cases h_1541 : no2 = 1541
  · subst h_1541
    have hz1 : h.x 67 = z := hz
    have HZ := Lib.hid hz1
    clear hz hz1
    have hu25 := Tryd.underlying25; have hu27 := Tryd.underlying27
    go_enter Tryd.func14, Tryd.ntmps14
    go_upto_region 1 with (first | ((with_reducible refine gate_dst (N := 3) rfl ?_); refine box_event ?hg (N := 3) ?hd (cs := h.cs) (t := 25) ?hr ?_; (case hd => rfl); (case hg => rfl); (case hr => first | (go_simp; done) | (go_simp; rfl)); intro ga hg w_1 H1 hb; have hB_2 := Lib.hid (below_step (Below.refl w.heap.size w) hb); have G_ga := Lib.hid (show w.heap.size ≤ ga by rw [hg]; exact ((Below.refl w.heap.size w)).size); have K_ga := Lib.hid (show Hb w_1 ga h from H1); clear hg hb H1) | ((with_reducible refine gate_dst (N := 4) rfl ?_); refine box_event ?hg (N := 4) ?hd (cs := #[.bool la, .bool lb, .bool lc, .bool ld, .int .u64 lg, .int .u64 lt]) (t := 27) ?hr ?_; (case hd => rfl); (case hg => rfl); (case hr => first | (go_simp; done) | (go_simp; rfl)); intro gt hg w_3 H1 hb; have hB_4 := Lib.hid (below_step hB_2.out hb); have G_gt := Lib.hid (show w.heap.size ≤ gt by rw [hg]; exact (hB_2.out).size); have N_ga_gt := Lib.hid (show ga ≠ gt by rw [hg]; exact Nat.ne_of_lt (K_ga.out.lt)); replace K_ga := Lib.hid (K_ga.out.below hb); have K_gt := Lib.hid (show w_3.heap[gt]? = some (.cells #[.bool la, .bool lb, .bool lc, .bool ld, .int .u64 lg, .int .u64 lt] 27 (0, 0)) from H1); clear hg hb H1 hB_2; clear hu25 hu27))
    go_wp2_with (first | ((with_reducible refine gate_dst (N := 7) rfl ?_); (first | (refine gate_guard (by kernel_rfl) ?_) | skip); refine Kd.event_run rfl (v := .agg (h).cs) (w1 := w_3) ?hb ?_; (case hb => exact exec_load_hart rfl rfl K_ga.out)))
    refine (HM.out _).mono ?_
    rintro e_5 w_6 ⟨rfl, hb⟩
    have hB_7 := Lib.hid (below_step hB_4.out hb)
    replace K_ga := Lib.hid (K_ga.out.below hb)
    replace K_gt := Lib.hid (blk_below K_gt.out hb)
    clear hb hB_4
    have c_ga_67 := K_ga.out.u 67 rfl; have f_ga_67 := K_ga.out.fr 67
    go_wp2
    go_ret
    exact ⟨by first | (rw [← HZ.out]; done) | (rw [← HZ.out]; rfl), hB_7.out⟩
  by_cases h_1542 : no2 = 1542
  · subst h_1542
    have hz1 : h.x 62 = z := hz
    have HZ := Lib.hid hz1
    clear hz hz1
    have hu25 := Tryd.underlying25; have hu27 := Tryd.underlying27
    go_enter Tryd.func14, Tryd.ntmps14
    go_upto_region 1 with (first | ((with_reducible refine gate_dst (N := 3) rfl ?_); refine box_event ?hg (N := 3) ?hd (cs := h.cs) (t := 25) ?hr ?_; (case hd => rfl); (case hg => rfl); (case hr => first | (go_simp; done) | (go_simp; rfl)); intro ga hg w_1 H1 hb; have hB_2 := Lib.hid (below_step (Below.refl w.heap.size w) hb); have G_ga := Lib.hid (show w.heap.size ≤ ga by rw [hg]; exact ((Below.refl w.heap.size w)).size); have K_ga := Lib.hid (show Hb w_1 ga h from H1); clear hg hb H1) | ((with_reducible refine gate_dst (N := 4) rfl ?_); refine box_event ?hg (N := 4) ?hd (cs := #[.bool la, .bool lb, .bool lc, .bool ld, .int .u64 lg, .int .u64 lt]) (t := 27) ?hr ?_; (case hd => rfl); (case hg => rfl); (case hr => first | (go_simp; done) | (go_simp; rfl)); intro gt hg w_3 H1 hb; have hB_4 := Lib.hid (below_step hB_2.out hb); have G_gt := Lib.hid (show w.heap.size ≤ gt by rw [hg]; exact (hB_2.out).size); have N_ga_gt := Lib.hid (show ga ≠ gt by rw [hg]; exact Nat.ne_of_lt (K_ga.out.lt)); replace K_ga := Lib.hid (K_ga.out.below hb); have K_gt := Lib.hid (show w_3.heap[gt]? = some (.cells #[.bool la, .bool lb, .bool lc, .bool ld, .int .u64 lg, .int .u64 lt] 27 (0, 0)) from H1); clear hg hb H1 hB_2; clear hu25 hu27))
    go_wp2_with (first | ((with_reducible refine gate_dst (N := 7) rfl ?_); (first | (refine gate_guard (by kernel_rfl) ?_) | skip); refine Kd.event_run rfl (v := .agg (h).cs) (w1 := w_3) ?hb ?_; (case hb => exact exec_load_hart rfl rfl K_ga.out)))
    refine (HM.out _).mono ?_
    rintro e_5 w_6 ⟨rfl, hb⟩
    have hB_7 := Lib.hid (below_step hB_4.out hb)
    replace K_ga := Lib.hid (K_ga.out.below hb)
    replace K_gt := Lib.hid (blk_below K_gt.out hb)
    clear hb hB_4
    have c_ga_62 := K_ga.out.u 62 rfl; have f_ga_62 := K_ga.out.fr 62
    go_wp2
    go_ret
    exact ⟨by first | (rw [← HZ.out]; done) | (rw [← HZ.out]; rfl), hB_7.out⟩
  by_cases h_1543 : no2 = 1543
  · subst h_1543
    have hz1 : h.x 63 = z := hz
    have HZ := Lib.hid hz1
    clear hz hz1
    have hu25 := Tryd.underlying25; have hu27 := Tryd.underlying27
    go_enter Tryd.func14, Tryd.ntmps14
    go_upto_region 1 with (first | ((with_reducible refine gate_dst (N := 3) rfl ?_); refine box_event ?hg (N := 3) ?hd (cs := h.cs) (t := 25) ?hr ?_; (case hd => rfl); (case hg => rfl); (case hr => first | (go_simp; done) | (go_simp; rfl)); intro ga hg w_1 H1 hb; have hB_2 := Lib.hid (below_step (Below.refl w.heap.size w) hb); have G_ga := Lib.hid (show w.heap.size ≤ ga by rw [hg]; exact ((Below.refl w.heap.size w)).size); have K_ga := Lib.hid (show Hb w_1 ga h from H1); clear hg hb H1) | ((with_reducible refine gate_dst (N := 4) rfl ?_); refine box_event ?hg (N := 4) ?hd (cs := #[.bool la, .bool lb, .bool lc, .bool ld, .int .u64 lg, .int .u64 lt]) (t := 27) ?hr ?_; (case hd => rfl); (case hg => rfl); (case hr => first | (go_simp; done) | (go_simp; rfl)); intro gt hg w_3 H1 hb; have hB_4 := Lib.hid (below_step hB_2.out hb); have G_gt := Lib.hid (show w.heap.size ≤ gt by rw [hg]; exact (hB_2.out).size); have N_ga_gt := Lib.hid (show ga ≠ gt by rw [hg]; exact Nat.ne_of_lt (K_ga.out.lt)); replace K_ga := Lib.hid (K_ga.out.below hb); have K_gt := Lib.hid (show w_3.heap[gt]? = some (.cells #[.bool la, .bool lb, .bool lc, .bool ld, .int .u64 lg, .int .u64 lt] 27 (0, 0)) from H1); clear hg hb H1 hB_2; clear hu25 hu27))
    go_wp2_with (first | ((with_reducible refine gate_dst (N := 7) rfl ?_); (first | (refine gate_guard (by kernel_rfl) ?_) | skip); refine Kd.event_run rfl (v := .agg (h).cs) (w1 := w_3) ?hb ?_; (case hb => exact exec_load_hart rfl rfl K_ga.out)))
    refine (HM.out _).mono ?_
    rintro e_5 w_6 ⟨rfl, hb⟩
    have hB_7 := Lib.hid (below_step hB_4.out hb)
    replace K_ga := Lib.hid (K_ga.out.below hb)
    replace K_gt := Lib.hid (blk_below K_gt.out hb)
    clear hb hB_4
    have c_ga_63 := K_ga.out.u 63 rfl; have f_ga_63 := K_ga.out.fr 63
    go_wp2
    go_ret
    exact ⟨by first | (rw [← HZ.out]; done) | (rw [← HZ.out]; rfl), hB_7.out⟩
  by_cases h_1603 : no2 = 1603
  · subst h_1603
    have hz1 : h.x 64 = z := hz
    have HZ := Lib.hid hz1
    clear hz hz1
    have hu25 := Tryd.underlying25; have hu27 := Tryd.underlying27
    go_enter Tryd.func14, Tryd.ntmps14
    go_upto_region 1 with (first | ((with_reducible refine gate_dst (N := 3) rfl ?_); refine box_event ?hg (N := 3) ?hd (cs := h.cs) (t := 25) ?hr ?_; (case hd => rfl); (case hg => rfl); (case hr => first | (go_simp; done) | (go_simp; rfl)); intro ga hg w_1 H1 hb; have hB_2 := Lib.hid (below_step (Below.refl w.heap.size w) hb); have G_ga := Lib.hid (show w.heap.size ≤ ga by rw [hg]; exact ((Below.refl w.heap.size w)).size); have K_ga := Lib.hid (show Hb w_1 ga h from H1); clear hg hb H1) | ((with_reducible refine gate_dst (N := 4) rfl ?_); refine box_event ?hg (N := 4) ?hd (cs := #[.bool la, .bool lb, .bool lc, .bool ld, .int .u64 lg, .int .u64 lt]) (t := 27) ?hr ?_; (case hd => rfl); (case hg => rfl); (case hr => first | (go_simp; done) | (go_simp; rfl)); intro gt hg w_3 H1 hb; have hB_4 := Lib.hid (below_step hB_2.out hb); have G_gt := Lib.hid (show w.heap.size ≤ gt by rw [hg]; exact (hB_2.out).size); have N_ga_gt := Lib.hid (show ga ≠ gt by rw [hg]; exact Nat.ne_of_lt (K_ga.out.lt)); replace K_ga := Lib.hid (K_ga.out.below hb); have K_gt := Lib.hid (show w_3.heap[gt]? = some (.cells #[.bool la, .bool lb, .bool lc, .bool ld, .int .u64 lg, .int .u64 lt] 27 (0, 0)) from H1); clear hg hb H1 hB_2; clear hu25 hu27))
    go_wp2_with (first | ((with_reducible refine gate_dst (N := 7) rfl ?_); (first | (refine gate_guard (by kernel_rfl) ?_) | skip); refine Kd.event_run rfl (v := .agg (h).cs) (w1 := w_3) ?hb ?_; (case hb => exact exec_load_hart rfl rfl K_ga.out)))
    refine (HM.out _).mono ?_
    rintro e_5 w_6 ⟨rfl, hb⟩
    have hB_7 := Lib.hid (below_step hB_4.out hb)
    replace K_ga := Lib.hid (K_ga.out.below hb)
    replace K_gt := Lib.hid (blk_below K_gt.out hb)
    clear hb hB_4
    have c_ga_64 := K_ga.out.u 64 rfl; have f_ga_64 := K_ga.out.fr 64
    go_wp2
    go_ret
    exact ⟨by first | (rw [← HZ.out]; done) | (rw [← HZ.out]; rfl), hB_7.out⟩
  by_cases h_1604 : no2 = 1604
  · subst h_1604
    have hz1 : Go.bits .and .u64 (pendV h la lb lc ld lg lt) 5188 = z := hz
    have HZ := Lib.hid hz1
    clear hz hz1
    have hu25 := Tryd.underlying25; have hu27 := Tryd.underlying27
    go_enter Tryd.func14, Tryd.ntmps14
    go_upto_region 1 with (first | ((with_reducible refine gate_dst (N := 3) rfl ?_); refine box_event ?hg (N := 3) ?hd (cs := h.cs) (t := 25) ?hr ?_; (case hd => rfl); (case hg => rfl); (case hr => first | (go_simp; done) | (go_simp; rfl)); intro ga hg w_1 H1 hb; have hB_2 := Lib.hid (below_step (Below.refl w.heap.size w) hb); have G_ga := Lib.hid (show w.heap.size ≤ ga by rw [hg]; exact ((Below.refl w.heap.size w)).size); have K_ga := Lib.hid (show Hb w_1 ga h from H1); clear hg hb H1) | ((with_reducible refine gate_dst (N := 4) rfl ?_); refine box_event ?hg (N := 4) ?hd (cs := #[.bool la, .bool lb, .bool lc, .bool ld, .int .u64 lg, .int .u64 lt]) (t := 27) ?hr ?_; (case hd => rfl); (case hg => rfl); (case hr => first | (go_simp; done) | (go_simp; rfl)); intro gt hg w_3 H1 hb; have hB_4 := Lib.hid (below_step hB_2.out hb); have G_gt := Lib.hid (show w.heap.size ≤ gt by rw [hg]; exact (hB_2.out).size); have N_ga_gt := Lib.hid (show ga ≠ gt by rw [hg]; exact Nat.ne_of_lt (K_ga.out.lt)); replace K_ga := Lib.hid (K_ga.out.below hb); have K_gt := Lib.hid (show w_3.heap[gt]? = some (.cells #[.bool la, .bool lb, .bool lc, .bool ld, .int .u64 lg, .int .u64 lt] 27 (0, 0)) from H1); clear hg hb H1 hB_2; clear hu25 hu27))
    go_wp2_with (first | ((with_reducible refine gate_dst (N := 7) rfl ?_); (first | (refine gate_guard (by kernel_rfl) ?_) | skip); refine Kd.event_run rfl (v := .agg (h).cs) (w1 := w_3) ?hb ?_; (case hb => exact exec_load_hart rfl rfl K_ga.out)))
    refine (HM.out _).mono ?_
    rintro e_5 w_6 ⟨rfl, hb⟩
    have hB_7 := Lib.hid (below_step hB_4.out hb)
    replace K_ga := Lib.hid (K_ga.out.below hb)
    replace K_gt := Lib.hid (blk_below K_gt.out hb)
    clear hb hB_4
    go_wp2_with (first | ((with_reducible refine gate_dst (N := 198) rfl ?_); (first | (refine gate_guard (by kernel_rfl) ?_) | skip); refine Kd.event_run rfl (v := .agg (h).cs) (w1 := w_6) ?hb ?_; (case hb => exact exec_load_hart rfl rfl K_ga.out)) | ((with_reducible refine gate_dst (N := 199) rfl ?_); (first | (refine gate_guard (by kernel_rfl) ?_) | skip); refine Kd.event_run rfl (v := .agg #[.bool la, .bool lb, .bool lc, .bool ld, .int .u64 lg, .int .u64 lt]) (w1 := w_6) ?hb ?_; (case hb => exact exec_load_blk rfl rfl K_gt.out Tryd.underlying27 rfl (by kernel_rfl))))
    refine (HP.out _).mono ?_
    rintro e_8 w_9 ⟨rfl, hb⟩
    have hB_10 := Lib.hid (below_step hB_7.out hb)
    replace K_ga := Lib.hid (K_ga.out.below hb)
    replace K_gt := Lib.hid (blk_below K_gt.out hb)
    clear hb hB_7
    go_wp2
    go_ret
    exact ⟨by first | (rw [← HZ.out]; done) | (rw [← HZ.out]; rfl), hB_10.out⟩
  by_cases h_1605 : no2 = 1605
  · subst h_1605
    have hz1 : h.x 61 = z := hz
    have HZ := Lib.hid hz1
    clear hz hz1
    have hu25 := Tryd.underlying25; have hu27 := Tryd.underlying27
    go_enter Tryd.func14, Tryd.ntmps14
    go_upto_region 1 with (first | ((with_reducible refine gate_dst (N := 3) rfl ?_); refine box_event ?hg (N := 3) ?hd (cs := h.cs) (t := 25) ?hr ?_; (case hd => rfl); (case hg => rfl); (case hr => first | (go_simp; done) | (go_simp; rfl)); intro ga hg w_1 H1 hb; have hB_2 := Lib.hid (below_step (Below.refl w.heap.size w) hb); have G_ga := Lib.hid (show w.heap.size ≤ ga by rw [hg]; exact ((Below.refl w.heap.size w)).size); have K_ga := Lib.hid (show Hb w_1 ga h from H1); clear hg hb H1) | ((with_reducible refine gate_dst (N := 4) rfl ?_); refine box_event ?hg (N := 4) ?hd (cs := #[.bool la, .bool lb, .bool lc, .bool ld, .int .u64 lg, .int .u64 lt]) (t := 27) ?hr ?_; (case hd => rfl); (case hg => rfl); (case hr => first | (go_simp; done) | (go_simp; rfl)); intro gt hg w_3 H1 hb; have hB_4 := Lib.hid (below_step hB_2.out hb); have G_gt := Lib.hid (show w.heap.size ≤ gt by rw [hg]; exact (hB_2.out).size); have N_ga_gt := Lib.hid (show ga ≠ gt by rw [hg]; exact Nat.ne_of_lt (K_ga.out.lt)); replace K_ga := Lib.hid (K_ga.out.below hb); have K_gt := Lib.hid (show w_3.heap[gt]? = some (.cells #[.bool la, .bool lb, .bool lc, .bool ld, .int .u64 lg, .int .u64 lt] 27 (0, 0)) from H1); clear hg hb H1 hB_2; clear hu25 hu27))
    go_wp2_with (first | ((with_reducible refine gate_dst (N := 7) rfl ?_); (first | (refine gate_guard (by kernel_rfl) ?_) | skip); refine Kd.event_run rfl (v := .agg (h).cs) (w1 := w_3) ?hb ?_; (case hb => exact exec_load_hart rfl rfl K_ga.out)))
    refine (HM.out _).mono ?_
    rintro e_5 w_6 ⟨rfl, hb⟩
    have hB_7 := Lib.hid (below_step hB_4.out hb)
    replace K_ga := Lib.hid (K_ga.out.below hb)
    replace K_gt := Lib.hid (blk_below K_gt.out hb)
    clear hb hB_4
    have c_ga_61 := K_ga.out.u 61 rfl; have f_ga_61 := K_ga.out.fr 61
    go_wp2
    go_ret
    exact ⟨by first | (rw [← HZ.out]; done) | (rw [← HZ.out]; rfl), hB_7.out⟩
  by_cases h_1610 : no2 = 1610
  · subst h_1610
    have hz1 : h.x 65 = z := hz
    have HZ := Lib.hid hz1
    clear hz hz1
    have hu25 := Tryd.underlying25; have hu27 := Tryd.underlying27
    go_enter Tryd.func14, Tryd.ntmps14
    go_upto_region 1 with (first | ((with_reducible refine gate_dst (N := 3) rfl ?_); refine box_event ?hg (N := 3) ?hd (cs := h.cs) (t := 25) ?hr ?_; (case hd => rfl); (case hg => rfl); (case hr => first | (go_simp; done) | (go_simp; rfl)); intro ga hg w_1 H1 hb; have hB_2 := Lib.hid (below_step (Below.refl w.heap.size w) hb); have G_ga := Lib.hid (show w.heap.size ≤ ga by rw [hg]; exact ((Below.refl w.heap.size w)).size); have K_ga := Lib.hid (show Hb w_1 ga h from H1); clear hg hb H1) | ((with_reducible refine gate_dst (N := 4) rfl ?_); refine box_event ?hg (N := 4) ?hd (cs := #[.bool la, .bool lb, .bool lc, .bool ld, .int .u64 lg, .int .u64 lt]) (t := 27) ?hr ?_; (case hd => rfl); (case hg => rfl); (case hr => first | (go_simp; done) | (go_simp; rfl)); intro gt hg w_3 H1 hb; have hB_4 := Lib.hid (below_step hB_2.out hb); have G_gt := Lib.hid (show w.heap.size ≤ gt by rw [hg]; exact (hB_2.out).size); have N_ga_gt := Lib.hid (show ga ≠ gt by rw [hg]; exact Nat.ne_of_lt (K_ga.out.lt)); replace K_ga := Lib.hid (K_ga.out.below hb); have K_gt := Lib.hid (show w_3.heap[gt]? = some (.cells #[.bool la, .bool lb, .bool lc, .bool ld, .int .u64 lg, .int .u64 lt] 27 (0, 0)) from H1); clear hg hb H1 hB_2; clear hu25 hu27))
    go_wp2_with (first | ((with_reducible refine gate_dst (N := 7) rfl ?_); (first | (refine gate_guard (by kernel_rfl) ?_) | skip); refine Kd.event_run rfl (v := .agg (h).cs) (w1 := w_3) ?hb ?_; (case hb => exact exec_load_hart rfl rfl K_ga.out)))
    refine (HM.out _).mono ?_
    rintro e_5 w_6 ⟨rfl, hb⟩
    have hB_7 := Lib.hid (below_step hB_4.out hb)
    replace K_ga := Lib.hid (K_ga.out.below hb)
    replace K_gt := Lib.hid (blk_below K_gt.out hb)
    clear hb hB_4
    have c_ga_65 := K_ga.out.u 65 rfl; have f_ga_65 := K_ga.out.fr 65
    go_wp2
    go_ret
    exact ⟨by first | (rw [← HZ.out]; done) | (rw [← HZ.out]; rfl), hB_7.out⟩
  by_cases h_1664 : no2 = 1664
  · subst h_1664
    have hz1 : h.x 66 = z := hz
    have HZ := Lib.hid hz1
    clear hz hz1
    have hu25 := Tryd.underlying25; have hu27 := Tryd.underlying27
    go_enter Tryd.func14, Tryd.ntmps14
    go_upto_region 1 with (first | ((with_reducible refine gate_dst (N := 3) rfl ?_); refine box_event ?hg (N := 3) ?hd (cs := h.cs) (t := 25) ?hr ?_; (case hd => rfl); (case hg => rfl); (case hr => first | (go_simp; done) | (go_simp; rfl)); intro ga hg w_1 H1 hb; have hB_2 := Lib.hid (below_step (Below.refl w.heap.size w) hb); have G_ga := Lib.hid (show w.heap.size ≤ ga by rw [hg]; exact ((Below.refl w.heap.size w)).size); have K_ga := Lib.hid (show Hb w_1 ga h from H1); clear hg hb H1) | ((with_reducible refine gate_dst (N := 4) rfl ?_); refine box_event ?hg (N := 4) ?hd (cs := #[.bool la, .bool lb, .bool lc, .bool ld, .int .u64 lg, .int .u64 lt]) (t := 27) ?hr ?_; (case hd => rfl); (case hg => rfl); (case hr => first | (go_simp; done) | (go_simp; rfl)); intro gt hg w_3 H1 hb; have hB_4 := Lib.hid (below_step hB_2.out hb); have G_gt := Lib.hid (show w.heap.size ≤ gt by rw [hg]; exact (hB_2.out).size); have N_ga_gt := Lib.hid (show ga ≠ gt by rw [hg]; exact Nat.ne_of_lt (K_ga.out.lt)); replace K_ga := Lib.hid (K_ga.out.below hb); have K_gt := Lib.hid (show w_3.heap[gt]? = some (.cells #[.bool la, .bool lb, .bool lc, .bool ld, .int .u64 lg, .int .u64 lt] 27 (0, 0)) from H1); clear hg hb H1 hB_2; clear hu25 hu27))
    go_wp2_with (first | ((with_reducible refine gate_dst (N := 7) rfl ?_); (first | (refine gate_guard (by kernel_rfl) ?_) | skip); refine Kd.event_run rfl (v := .agg (h).cs) (w1 := w_3) ?hb ?_; (case hb => exact exec_load_hart rfl rfl K_ga.out)))
    refine (HM.out _).mono ?_
    rintro e_5 w_6 ⟨rfl, hb⟩
    have hB_7 := Lib.hid (below_step hB_4.out hb)
    replace K_ga := Lib.hid (K_ga.out.below hb)
    replace K_gt := Lib.hid (blk_below K_gt.out hb)
    clear hb hB_4
    have c_ga_66 := K_ga.out.u 66 rfl; have f_ga_66 := K_ga.out.fr 66
    go_wp2
    go_ret
    exact ⟨by first | (rw [← HZ.out]; done) | (rw [← HZ.out]; rfl), hB_7.out⟩
  by_cases h_2816 : no2 = 2816
  · subst h_2816
    have hz1 : h.x 75 = z := hz
    have HZ := Lib.hid hz1
    clear hz hz1
    have hu25 := Tryd.underlying25; have hu27 := Tryd.underlying27
    go_enter Tryd.func14, Tryd.ntmps14
    go_upto_region 1 with (first | ((with_reducible refine gate_dst (N := 3) rfl ?_); refine box_event ?hg (N := 3) ?hd (cs := h.cs) (t := 25) ?hr ?_; (case hd => rfl); (case hg => rfl); (case hr => first | (go_simp; done) | (go_simp; rfl)); intro ga hg w_1 H1 hb; have hB_2 := Lib.hid (below_step (Below.refl w.heap.size w) hb); have G_ga := Lib.hid (show w.heap.size ≤ ga by rw [hg]; exact ((Below.refl w.heap.size w)).size); have K_ga := Lib.hid (show Hb w_1 ga h from H1); clear hg hb H1) | ((with_reducible refine gate_dst (N := 4) rfl ?_); refine box_event ?hg (N := 4) ?hd (cs := #[.bool la, .bool lb, .bool lc, .bool ld, .int .u64 lg, .int .u64 lt]) (t := 27) ?hr ?_; (case hd => rfl); (case hg => rfl); (case hr => first | (go_simp; done) | (go_simp; rfl)); intro gt hg w_3 H1 hb; have hB_4 := Lib.hid (below_step hB_2.out hb); have G_gt := Lib.hid (show w.heap.size ≤ gt by rw [hg]; exact (hB_2.out).size); have N_ga_gt := Lib.hid (show ga ≠ gt by rw [hg]; exact Nat.ne_of_lt (K_ga.out.lt)); replace K_ga := Lib.hid (K_ga.out.below hb); have K_gt := Lib.hid (show w_3.heap[gt]? = some (.cells #[.bool la, .bool lb, .bool lc, .bool ld, .int .u64 lg, .int .u64 lt] 27 (0, 0)) from H1); clear hg hb H1 hB_2; clear hu25 hu27))
    go_wp2_with (first | ((with_reducible refine gate_dst (N := 7) rfl ?_); (first | (refine gate_guard (by kernel_rfl) ?_) | skip); refine Kd.event_run rfl (v := .agg (h).cs) (w1 := w_3) ?hb ?_; (case hb => exact exec_load_hart rfl rfl K_ga.out)))
    refine (HM.out _).mono ?_
    rintro e_5 w_6 ⟨rfl, hb⟩
    have hB_7 := Lib.hid (below_step hB_4.out hb)
    replace K_ga := Lib.hid (K_ga.out.below hb)
    replace K_gt := Lib.hid (blk_below K_gt.out hb)
    clear hb hB_4
    have c_ga_75 := K_ga.out.u 75 rfl; have f_ga_75 := K_ga.out.fr 75
    go_wp2
    go_ret
    exact ⟨by first | (rw [← HZ.out]; done) | (rw [← HZ.out]; rfl), hB_7.out⟩
  by_cases h_3072 : no2 = 3072
  · subst h_3072
    have hz1 : h.x 75 = z := hz
    have HZ := Lib.hid hz1
    clear hz hz1
    have hu25 := Tryd.underlying25; have hu27 := Tryd.underlying27
    go_enter Tryd.func14, Tryd.ntmps14
    go_upto_region 1 with (first | ((with_reducible refine gate_dst (N := 3) rfl ?_); refine box_event ?hg (N := 3) ?hd (cs := h.cs) (t := 25) ?hr ?_; (case hd => rfl); (case hg => rfl); (case hr => first | (go_simp; done) | (go_simp; rfl)); intro ga hg w_1 H1 hb; have hB_2 := Lib.hid (below_step (Below.refl w.heap.size w) hb); have G_ga := Lib.hid (show w.heap.size ≤ ga by rw [hg]; exact ((Below.refl w.heap.size w)).size); have K_ga := Lib.hid (show Hb w_1 ga h from H1); clear hg hb H1) | ((with_reducible refine gate_dst (N := 4) rfl ?_); refine box_event ?hg (N := 4) ?hd (cs := #[.bool la, .bool lb, .bool lc, .bool ld, .int .u64 lg, .int .u64 lt]) (t := 27) ?hr ?_; (case hd => rfl); (case hg => rfl); (case hr => first | (go_simp; done) | (go_simp; rfl)); intro gt hg w_3 H1 hb; have hB_4 := Lib.hid (below_step hB_2.out hb); have G_gt := Lib.hid (show w.heap.size ≤ gt by rw [hg]; exact (hB_2.out).size); have N_ga_gt := Lib.hid (show ga ≠ gt by rw [hg]; exact Nat.ne_of_lt (K_ga.out.lt)); replace K_ga := Lib.hid (K_ga.out.below hb); have K_gt := Lib.hid (show w_3.heap[gt]? = some (.cells #[.bool la, .bool lb, .bool lc, .bool ld, .int .u64 lg, .int .u64 lt] 27 (0, 0)) from H1); clear hg hb H1 hB_2; clear hu25 hu27))
    go_wp2_with (first | ((with_reducible refine gate_dst (N := 7) rfl ?_); (first | (refine gate_guard (by kernel_rfl) ?_) | skip); refine Kd.event_run rfl (v := .agg (h).cs) (w1 := w_3) ?hb ?_; (case hb => exact exec_load_hart rfl rfl K_ga.out)))
    refine (HM.out _).mono ?_
    rintro e_5 w_6 ⟨rfl, hb⟩
    have hB_7 := Lib.hid (below_step hB_4.out hb)
    replace K_ga := Lib.hid (K_ga.out.below hb)
    replace K_gt := Lib.hid (blk_below K_gt.out hb)
    clear hb hB_4
    have c_ga_75 := K_ga.out.u 75 rfl; have f_ga_75 := K_ga.out.fr 75
    go_wp2
    go_ret
    exact ⟨by first | (rw [← HZ.out]; done) | (rw [← HZ.out]; rfl), hB_7.out⟩
  by_cases h_2818 : no2 = 2818
  · subst h_2818
    have hz1 : h.x 76 = z := hz
    have HZ := Lib.hid hz1
    clear hz hz1
    have hu25 := Tryd.underlying25; have hu27 := Tryd.underlying27
    go_enter Tryd.func14, Tryd.ntmps14
    go_upto_region 1 with (first | ((with_reducible refine gate_dst (N := 3) rfl ?_); refine box_event ?hg (N := 3) ?hd (cs := h.cs) (t := 25) ?hr ?_; (case hd => rfl); (case hg => rfl); (case hr => first | (go_simp; done) | (go_simp; rfl)); intro ga hg w_1 H1 hb; have hB_2 := Lib.hid (below_step (Below.refl w.heap.size w) hb); have G_ga := Lib.hid (show w.heap.size ≤ ga by rw [hg]; exact ((Below.refl w.heap.size w)).size); have K_ga := Lib.hid (show Hb w_1 ga h from H1); clear hg hb H1) | ((with_reducible refine gate_dst (N := 4) rfl ?_); refine box_event ?hg (N := 4) ?hd (cs := #[.bool la, .bool lb, .bool lc, .bool ld, .int .u64 lg, .int .u64 lt]) (t := 27) ?hr ?_; (case hd => rfl); (case hg => rfl); (case hr => first | (go_simp; done) | (go_simp; rfl)); intro gt hg w_3 H1 hb; have hB_4 := Lib.hid (below_step hB_2.out hb); have G_gt := Lib.hid (show w.heap.size ≤ gt by rw [hg]; exact (hB_2.out).size); have N_ga_gt := Lib.hid (show ga ≠ gt by rw [hg]; exact Nat.ne_of_lt (K_ga.out.lt)); replace K_ga := Lib.hid (K_ga.out.below hb); have K_gt := Lib.hid (show w_3.heap[gt]? = some (.cells #[.bool la, .bool lb, .bool lc, .bool ld, .int .u64 lg, .int .u64 lt] 27 (0, 0)) from H1); clear hg hb H1 hB_2; clear hu25 hu27))
    go_wp2_with (first | ((with_reducible refine gate_dst (N := 7) rfl ?_); (first | (refine gate_guard (by kernel_rfl) ?_) | skip); refine Kd.event_run rfl (v := .agg (h).cs) (w1 := w_3) ?hb ?_; (case hb => exact exec_load_hart rfl rfl K_ga.out)))
    refine (HM.out _).mono ?_
    rintro e_5 w_6 ⟨rfl, hb⟩
    have hB_7 := Lib.hid (below_step hB_4.out hb)
    replace K_ga := Lib.hid (K_ga.out.below hb)
    replace K_gt := Lib.hid (blk_below K_gt.out hb)
    clear hb hB_4
    have c_ga_76 := K_ga.out.u 76 rfl; have f_ga_76 := K_ga.out.fr 76
    go_wp2
    go_ret
    exact ⟨by first | (rw [← HZ.out]; done) | (rw [← HZ.out]; rfl), hB_7.out⟩
  by_cases h_3074 : no2 = 3074
  · subst h_3074
    have hz1 : h.x 76 = z := hz
    have HZ := Lib.hid hz1
    clear hz hz1
    have hu25 := Tryd.underlying25; have hu27 := Tryd.underlying27
    go_enter Tryd.func14, Tryd.ntmps14
    go_upto_region 1 with (first | ((with_reducible refine gate_dst (N := 3) rfl ?_); refine box_event ?hg (N := 3) ?hd (cs := h.cs) (t := 25) ?hr ?_; (case hd => rfl); (case hg => rfl); (case hr => first | (go_simp; done) | (go_simp; rfl)); intro ga hg w_1 H1 hb; have hB_2 := Lib.hid (below_step (Below.refl w.heap.size w) hb); have G_ga := Lib.hid (show w.heap.size ≤ ga by rw [hg]; exact ((Below.refl w.heap.size w)).size); have K_ga := Lib.hid (show Hb w_1 ga h from H1); clear hg hb H1) | ((with_reducible refine gate_dst (N := 4) rfl ?_); refine box_event ?hg (N := 4) ?hd (cs := #[.bool la, .bool lb, .bool lc, .bool ld, .int .u64 lg, .int .u64 lt]) (t := 27) ?hr ?_; (case hd => rfl); (case hg => rfl); (case hr => first | (go_simp; done) | (go_simp; rfl)); intro gt hg w_3 H1 hb; have hB_4 := Lib.hid (below_step hB_2.out hb); have G_gt := Lib.hid (show w.heap.size ≤ gt by rw [hg]; exact (hB_2.out).size); have N_ga_gt := Lib.hid (show ga ≠ gt by rw [hg]; exact Nat.ne_of_lt (K_ga.out.lt)); replace K_ga := Lib.hid (K_ga.out.below hb); have K_gt := Lib.hid (show w_3.heap[gt]? = some (.cells #[.bool la, .bool lb, .bool lc, .bool ld, .int .u64 lg, .int .u64 lt] 27 (0, 0)) from H1); clear hg hb H1 hB_2; clear hu25 hu27))
    go_wp2_with (first | ((with_reducible refine gate_dst (N := 7) rfl ?_); (first | (refine gate_guard (by kernel_rfl) ?_) | skip); refine Kd.event_run rfl (v := .agg (h).cs) (w1 := w_3) ?hb ?_; (case hb => exact exec_load_hart rfl rfl K_ga.out)))
    refine (HM.out _).mono ?_
    rintro e_5 w_6 ⟨rfl, hb⟩
    have hB_7 := Lib.hid (below_step hB_4.out hb)
    replace K_ga := Lib.hid (K_ga.out.below hb)
    replace K_gt := Lib.hid (blk_below K_gt.out hb)
    clear hb hB_4
    have c_ga_76 := K_ga.out.u 76 rfl; have f_ga_76 := K_ga.out.fr 76
    go_wp2
    go_ret
    exact ⟨by first | (rw [← HZ.out]; done) | (rw [← HZ.out]; rfl), hB_7.out⟩
  by_cases h_3073 : no2 = 3073
  · subst h_3073
    cases hv : h.v
    · skip
      have hz1 : lt = z := (show (if h.v = true then IntKind.u64.wrap (lt + h.x 67) else lt) = lt by rw [hv]; rfl).symm.trans hz
      have HZ := Lib.hid hz1
      clear hz hz1
      have hu25 := Tryd.underlying25; have hu27 := Tryd.underlying27
      go_enter Tryd.func14, Tryd.ntmps14
      go_upto_region 1 with (first | ((with_reducible refine gate_dst (N := 3) rfl ?_); refine box_event ?hg (N := 3) ?hd (cs := h.cs) (t := 25) ?hr ?_; (case hd => rfl); (case hg => rfl); (case hr => first | (go_simp; done) | (go_simp; rfl)); intro ga hg w_1 H1 hb; have hB_2 := Lib.hid (below_step (Below.refl w.heap.size w) hb); have G_ga := Lib.hid (show w.heap.size ≤ ga by rw [hg]; exact ((Below.refl w.heap.size w)).size); have K_ga := Lib.hid (show Hb w_1 ga h from H1); clear hg hb H1) | ((with_reducible refine gate_dst (N := 4) rfl ?_); refine box_event ?hg (N := 4) ?hd (cs := #[.bool la, .bool lb, .bool lc, .bool ld, .int .u64 lg, .int .u64 lt]) (t := 27) ?hr ?_; (case hd => rfl); (case hg => rfl); (case hr => first | (go_simp; done) | (go_simp; rfl)); intro gt hg w_3 H1 hb; have hB_4 := Lib.hid (below_step hB_2.out hb); have G_gt := Lib.hid (show w.heap.size ≤ gt by rw [hg]; exact (hB_2.out).size); have N_ga_gt := Lib.hid (show ga ≠ gt by rw [hg]; exact Nat.ne_of_lt (K_ga.out.lt)); replace K_ga := Lib.hid (K_ga.out.below hb); have K_gt := Lib.hid (show w_3.heap[gt]? = some (.cells #[.bool la, .bool lb, .bool lc, .bool ld, .int .u64 lg, .int .u64 lt] 27 (0, 0)) from H1); clear hg hb H1 hB_2; clear hu25 hu27))
      go_wp2_with (first | ((with_reducible refine gate_dst (N := 7) rfl ?_); (first | (refine gate_guard (by kernel_rfl) ?_) | skip); refine Kd.event_run rfl (v := .agg (h).cs) (w1 := w_3) ?hb ?_; (case hb => exact exec_load_hart rfl rfl K_ga.out)))
      refine (HM.out _).mono ?_
      rintro e_5 w_6 ⟨rfl, hb⟩
      have hB_7 := Lib.hid (below_step hB_4.out hb)
      replace K_ga := Lib.hid (K_ga.out.below hb)
      replace K_gt := Lib.hid (blk_below K_gt.out hb)
      clear hb hB_4
      have c_ga_34 := K_ga.out.cv; have f_ga_34 := K_ga.out.fr 34
      have c_ga_67 := K_ga.out.u 67 rfl; have f_ga_67 := K_ga.out.fr 67
      have c_gt_5 := (show World.cell? _ ⟨gt, 5, none⟩ = some (.int .u64 lt) from (blk_cell K_gt.out 5).trans rfl); have f_gt_5 := blk_frozen K_gt.out 5
      go_wp2
      go_ret
      exact ⟨by first | (rw [← HZ.out]; done) | (rw [← HZ.out]; rfl), hB_7.out⟩
    · skip
      have hz1 : IntKind.u64.wrap (lt + h.x 67) = z := (show (if h.v = true then IntKind.u64.wrap (lt + h.x 67) else lt) = IntKind.u64.wrap (lt + h.x 67) by rw [hv]; rfl).symm.trans hz
      have HZ := Lib.hid hz1
      clear hz hz1
      have hu25 := Tryd.underlying25; have hu27 := Tryd.underlying27
      go_enter Tryd.func14, Tryd.ntmps14
      go_upto_region 1 with (first | ((with_reducible refine gate_dst (N := 3) rfl ?_); refine box_event ?hg (N := 3) ?hd (cs := h.cs) (t := 25) ?hr ?_; (case hd => rfl); (case hg => rfl); (case hr => first | (go_simp; done) | (go_simp; rfl)); intro ga hg w_1 H1 hb; have hB_2 := Lib.hid (below_step (Below.refl w.heap.size w) hb); have G_ga := Lib.hid (show w.heap.size ≤ ga by rw [hg]; exact ((Below.refl w.heap.size w)).size); have K_ga := Lib.hid (show Hb w_1 ga h from H1); clear hg hb H1) | ((with_reducible refine gate_dst (N := 4) rfl ?_); refine box_event ?hg (N := 4) ?hd (cs := #[.bool la, .bool lb, .bool lc, .bool ld, .int .u64 lg, .int .u64 lt]) (t := 27) ?hr ?_; (case hd => rfl); (case hg => rfl); (case hr => first | (go_simp; done) | (go_simp; rfl)); intro gt hg w_3 H1 hb; have hB_4 := Lib.hid (below_step hB_2.out hb); have G_gt := Lib.hid (show w.heap.size ≤ gt by rw [hg]; exact (hB_2.out).size); have N_ga_gt := Lib.hid (show ga ≠ gt by rw [hg]; exact Nat.ne_of_lt (K_ga.out.lt)); replace K_ga := Lib.hid (K_ga.out.below hb); have K_gt := Lib.hid (show w_3.heap[gt]? = some (.cells #[.bool la, .bool lb, .bool lc, .bool ld, .int .u64 lg, .int .u64 lt] 27 (0, 0)) from H1); clear hg hb H1 hB_2; clear hu25 hu27))
      go_wp2_with (first | ((with_reducible refine gate_dst (N := 7) rfl ?_); (first | (refine gate_guard (by kernel_rfl) ?_) | skip); refine Kd.event_run rfl (v := .agg (h).cs) (w1 := w_3) ?hb ?_; (case hb => exact exec_load_hart rfl rfl K_ga.out)))
      refine (HM.out _).mono ?_
      rintro e_5 w_6 ⟨rfl, hb⟩
      have hB_7 := Lib.hid (below_step hB_4.out hb)
      replace K_ga := Lib.hid (K_ga.out.below hb)
      replace K_gt := Lib.hid (blk_below K_gt.out hb)
      clear hb hB_4
      have c_ga_34 := K_ga.out.cv; have f_ga_34 := K_ga.out.fr 34
      have c_ga_67 := K_ga.out.u 67 rfl; have f_ga_67 := K_ga.out.fr 67
      have c_gt_5 := (show World.cell? _ ⟨gt, 5, none⟩ = some (.int .u64 lt) from (blk_cell K_gt.out 5).trans rfl); have f_gt_5 := blk_frozen K_gt.out 5
      go_wp2
      go_ret
      exact ⟨by first | (rw [← HZ.out]; done) | (rw [← HZ.out]; rfl), hB_7.out⟩
  by_cases h_3602 : no2 = 3602
  · subst h_3602
    have hz1 : Go.bits .and .u64 lg 2 = z := hz
    have HZ := Lib.hid hz1
    clear hz hz1
    have hu25 := Tryd.underlying25; have hu27 := Tryd.underlying27
    go_enter Tryd.func14, Tryd.ntmps14
    go_upto_region 1 with (first | ((with_reducible refine gate_dst (N := 3) rfl ?_); refine box_event ?hg (N := 3) ?hd (cs := h.cs) (t := 25) ?hr ?_; (case hd => rfl); (case hg => rfl); (case hr => first | (go_simp; done) | (go_simp; rfl)); intro ga hg w_1 H1 hb; have hB_2 := Lib.hid (below_step (Below.refl w.heap.size w) hb); have G_ga := Lib.hid (show w.heap.size ≤ ga by rw [hg]; exact ((Below.refl w.heap.size w)).size); have K_ga := Lib.hid (show Hb w_1 ga h from H1); clear hg hb H1) | ((with_reducible refine gate_dst (N := 4) rfl ?_); refine box_event ?hg (N := 4) ?hd (cs := #[.bool la, .bool lb, .bool lc, .bool ld, .int .u64 lg, .int .u64 lt]) (t := 27) ?hr ?_; (case hd => rfl); (case hg => rfl); (case hr => first | (go_simp; done) | (go_simp; rfl)); intro gt hg w_3 H1 hb; have hB_4 := Lib.hid (below_step hB_2.out hb); have G_gt := Lib.hid (show w.heap.size ≤ gt by rw [hg]; exact (hB_2.out).size); have N_ga_gt := Lib.hid (show ga ≠ gt by rw [hg]; exact Nat.ne_of_lt (K_ga.out.lt)); replace K_ga := Lib.hid (K_ga.out.below hb); have K_gt := Lib.hid (show w_3.heap[gt]? = some (.cells #[.bool la, .bool lb, .bool lc, .bool ld, .int .u64 lg, .int .u64 lt] 27 (0, 0)) from H1); clear hg hb H1 hB_2; clear hu25 hu27))
    go_wp2_with (first | ((with_reducible refine gate_dst (N := 7) rfl ?_); (first | (refine gate_guard (by kernel_rfl) ?_) | skip); refine Kd.event_run rfl (v := .agg (h).cs) (w1 := w_3) ?hb ?_; (case hb => exact exec_load_hart rfl rfl K_ga.out)))
    refine (HM.out _).mono ?_
    rintro e_5 w_6 ⟨rfl, hb⟩
    have hB_7 := Lib.hid (below_step hB_4.out hb)
    replace K_ga := Lib.hid (K_ga.out.below hb)
    replace K_gt := Lib.hid (blk_below K_gt.out hb)
    clear hb hB_4
    have c_gt_4 := (show World.cell? _ ⟨gt, 4, none⟩ = some (.int .u64 lg) from (blk_cell K_gt.out 4).trans rfl); have f_gt_4 := blk_frozen K_gt.out 4
    go_wp2
    go_ret
    exact ⟨by first | (rw [← HZ.out]; done) | (rw [← HZ.out]; rfl), hB_7.out⟩
  have e_256 : (no2 == 256) = false := beq_eq_false_iff_ne.2 h_256
  have e_260 : (no2 == 260) = false := beq_eq_false_iff_ne.2 h_260
  have e_261 : (no2 == 261) = false := beq_eq_false_iff_ne.2 h_261
  have e_262 : (no2 == 262) = false := beq_eq_false_iff_ne.2 h_262
  have e_320 : (no2 == 320) = false := beq_eq_false_iff_ne.2 h_320
  have e_321 : (no2 == 321) = false := beq_eq_false_iff_ne.2 h_321
  have e_322 : (no2 == 322) = false := beq_eq_false_iff_ne.2 h_322
  have e_323 : (no2 == 323) = false := beq_eq_false_iff_ne.2 h_323
  have e_324 : (no2 == 324) = false := beq_eq_false_iff_ne.2 h_324
  have e_384 : (no2 == 384) = false := beq_eq_false_iff_ne.2 h_384
  have e_512 : (no2 == 512) = false := beq_eq_false_iff_ne.2 h_512
  have e_516 : (no2 == 516) = false := beq_eq_false_iff_ne.2 h_516
  have e_517 : (no2 == 517) = false := beq_eq_false_iff_ne.2 h_517
  have e_576 : (no2 == 576) = false := beq_eq_false_iff_ne.2 h_576
  have e_577 : (no2 == 577) = false := beq_eq_false_iff_ne.2 h_577
  have e_578 : (no2 == 578) = false := beq_eq_false_iff_ne.2 h_578
  have e_579 : (no2 == 579) = false := beq_eq_false_iff_ne.2 h_579
  have e_580 : (no2 == 580) = false := beq_eq_false_iff_ne.2 h_580
  have e_640 : (no2 == 640) = false := beq_eq_false_iff_ne.2 h_640
  have e_768 : (no2 == 768) = false := beq_eq_false_iff_ne.2 h_768
  have e_769 : (no2 == 769) = false := beq_eq_false_iff_ne.2 h_769
  have e_770 : (no2 == 770) = false := beq_eq_false_iff_ne.2 h_770
  have e_771 : (no2 == 771) = false := beq_eq_false_iff_ne.2 h_771
  have e_772 : (no2 == 772) = false := beq_eq_false_iff_ne.2 h_772
  have e_773 : (no2 == 773) = false := beq_eq_false_iff_ne.2 h_773
  have e_774 : (no2 == 774) = false := beq_eq_false_iff_ne.2 h_774
  have e_832 : (no2 == 832) = false := beq_eq_false_iff_ne.2 h_832
  have e_833 : (no2 == 833) = false := beq_eq_false_iff_ne.2 h_833
  have e_834 : (no2 == 834) = false := beq_eq_false_iff_ne.2 h_834
  have e_835 : (no2 == 835) = false := beq_eq_false_iff_ne.2 h_835
  have e_836 : (no2 == 836) = false := beq_eq_false_iff_ne.2 h_836
  have e_842 : (no2 == 842) = false := beq_eq_false_iff_ne.2 h_842
  have e_843 : (no2 == 843) = false := beq_eq_false_iff_ne.2 h_843
  have e_1536 : (no2 == 1536) = false := beq_eq_false_iff_ne.2 h_1536
  have e_1538 : (no2 == 1538) = false := beq_eq_false_iff_ne.2 h_1538
  have e_1539 : (no2 == 1539) = false := beq_eq_false_iff_ne.2 h_1539
  have e_1540 : (no2 == 1540) = false := beq_eq_false_iff_ne.2 h_1540
  have e_1541 : (no2 == 1541) = false := beq_eq_false_iff_ne.2 h_1541
  have e_1542 : (no2 == 1542) = false := beq_eq_false_iff_ne.2 h_1542
  have e_1543 : (no2 == 1543) = false := beq_eq_false_iff_ne.2 h_1543
  have e_1603 : (no2 == 1603) = false := beq_eq_false_iff_ne.2 h_1603
  have e_1604 : (no2 == 1604) = false := beq_eq_false_iff_ne.2 h_1604
  have e_1605 : (no2 == 1605) = false := beq_eq_false_iff_ne.2 h_1605
  have e_1610 : (no2 == 1610) = false := beq_eq_false_iff_ne.2 h_1610
  have e_1664 : (no2 == 1664) = false := beq_eq_false_iff_ne.2 h_1664
  have e_2816 : (no2 == 2816) = false := beq_eq_false_iff_ne.2 h_2816
  have e_3072 : (no2 == 3072) = false := beq_eq_false_iff_ne.2 h_3072
  have e_2818 : (no2 == 2818) = false := beq_eq_false_iff_ne.2 h_2818
  have e_3074 : (no2 == 3074) = false := beq_eq_false_iff_ne.2 h_3074
  have e_3073 : (no2 == 3073) = false := beq_eq_false_iff_ne.2 h_3073
  have e_3602 : (no2 == 3602) = false := beq_eq_false_iff_ne.2 h_3602
  have z_mOff : mOff no2 = none := by unfold mOff; rw [if_neg h_768, if_neg h_770, if_neg h_771, if_neg h_772, if_neg h_773, if_neg h_774, if_neg h_832, if_neg h_833, if_neg h_834, if_neg h_835, if_neg h_843, if_neg h_842, if_neg h_2816, if_neg h_2818]
  have z_superOff : superOff no2 = none := by unfold superOff; rw [if_neg h_261, if_neg h_262, if_neg h_320, if_neg h_321, if_neg h_322, if_neg h_323, if_neg h_384, if_neg h_512, if_neg h_517, if_neg h_576, if_neg h_577, if_neg h_578, if_neg h_579, if_neg h_640]
  have z_hypOff : hypOff no2 = none := by unfold hypOff; rw [if_neg h_1536, if_neg h_1538, if_neg h_1539, if_neg h_1605, if_neg h_1543, if_neg h_1542, if_neg h_1603, if_neg h_1610, if_neg h_1664, if_neg h_1541]
  have ho : fieldOff no2 = none := by unfold fieldOff; rw [z_mOff]; simp only; rw [z_superOff]; simp only; exact z_hypOff
  rw [ho] at hz
  have hm : readT h la lb lc ld lg lt no2 = 0 := by unfold readT; rw [if_neg h_256, if_neg h_836, if_neg h_324, if_neg h_260, if_neg h_1604, if_neg h_1540, if_neg h_580, if_neg h_516, if_neg h_3602, if_neg h_3072, if_neg h_3074, if_neg h_3073, if_neg h_769]
  have HZ := Lib.hid (hm.symm.trans hz)
  clear hz hm ho z_mOff z_superOff z_hypOff h_256 h_260 h_261 h_262 h_320 h_321 h_322 h_323 h_324 h_384 h_512 h_516 h_517 h_576 h_577 h_578 h_579 h_580 h_640 h_768 h_769 h_770 h_771 h_772 h_773 h_774 h_832 h_833 h_834 h_835 h_836 h_842 h_843 h_1536 h_1538 h_1539 h_1540 h_1541 h_1542 h_1543 h_1603 h_1604 h_1605 h_1610 h_1664 h_2816 h_3072 h_2818 h_3074 h_3073 h_3602
  have hu25 := Tryd.underlying25; have hu27 := Tryd.underlying27
  go_enter Tryd.func14, Tryd.ntmps14
  go_upto_region 1 with (first | ((with_reducible refine gate_dst (N := 3) rfl ?_); refine box_event ?hg (N := 3) ?hd (cs := h.cs) (t := 25) ?hr ?_; (case hd => rfl); (case hg => rfl); (case hr => first | (go_simp; done) | (go_simp; rfl)); intro ga hg w_1 H1 hb; have hB_2 := Lib.hid (below_step (Below.refl w.heap.size w) hb); have G_ga := Lib.hid (show w.heap.size ≤ ga by rw [hg]; exact ((Below.refl w.heap.size w)).size); have K_ga := Lib.hid (show Hb w_1 ga h from H1); clear hg hb H1) | ((with_reducible refine gate_dst (N := 4) rfl ?_); refine box_event ?hg (N := 4) ?hd (cs := #[.bool la, .bool lb, .bool lc, .bool ld, .int .u64 lg, .int .u64 lt]) (t := 27) ?hr ?_; (case hd => rfl); (case hg => rfl); (case hr => first | (go_simp; done) | (go_simp; rfl)); intro gt hg w_3 H1 hb; have hB_4 := Lib.hid (below_step hB_2.out hb); have G_gt := Lib.hid (show w.heap.size ≤ gt by rw [hg]; exact (hB_2.out).size); have N_ga_gt := Lib.hid (show ga ≠ gt by rw [hg]; exact Nat.ne_of_lt (K_ga.out.lt)); replace K_ga := Lib.hid (K_ga.out.below hb); have K_gt := Lib.hid (show w_3.heap[gt]? = some (.cells #[.bool la, .bool lb, .bool lc, .bool ld, .int .u64 lg, .int .u64 lt] 27 (0, 0)) from H1); clear hg hb H1 hB_2; clear hu25 hu27))
  go_wp2_with (first | ((with_reducible refine gate_dst (N := 7) rfl ?_); (first | (refine gate_guard (by kernel_rfl) ?_) | skip); refine Kd.event_run rfl (v := .agg (h).cs) (w1 := w_3) ?hb ?_; (case hb => exact exec_load_hart rfl rfl K_ga.out)))
  refine (HM.out _).mono ?_
  rintro e_5 w_6 ⟨rfl, hb⟩
  have hB_7 := Lib.hid (below_step hB_4.out hb)
  replace K_ga := Lib.hid (K_ga.out.below hb)
  replace K_gt := Lib.hid (blk_below K_gt.out hb)
  clear hb hB_4
  go_wp2
  go_ret
  exact ⟨by first | (rw [← HZ.out]; done) | (rw [← HZ.out]; rfl), hB_7.out⟩
end Go.Proofs.YtlopmcakfalkpaaDoor.Hx
