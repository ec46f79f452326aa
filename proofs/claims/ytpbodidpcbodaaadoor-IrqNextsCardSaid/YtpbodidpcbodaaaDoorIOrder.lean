/- The interrupts of some bits, in their order: irq.inOrder and the iterator that it hands out. -/
import Derived.RangeFuncNested
import Derived.RangeFuncBound
import Derived.RangeFuncCalls
import Derived.RangeFuncLeaves
import Derived.Shelf.Abstract
import Derived.Shelf.RegionOpen
import Derived.WalkKit
import Derived.OwnWalkIn
import Derived.TacticsInMore
import Derived.LoopNIn
import Derived.LoopIn
import Derived.Lib.TrailingZeros
import Derived.Test.YtpbodidpcbodaaaDoorIOpen
set_option linter.unusedSimpArgs false
set_option linter.unusedVariables false
namespace Go.Proofs.YtpbodidpcbodaaaDoor.Hx
open Go.Proofs.YtpbodidpcbodaaaDoor.Bv Go.RowKit Go.Shelf Go.Proofs.YtpbodidpcbodaaaDoor.Q Go.Proofs.YtpbodidpcbodaaaDoorW.PrintWords Go.Proofs.YtpbodidpcbodaaaDoorW.PrintLast Go.Proofs.YtpbodidpcbodaaaDoorW.PrintMore Go.Proofs.YtpbodidpcbodaaaDoor.Rg

attribute [local go_sem] Oper.semAt_some

/-- The library's table of 64 numbers, in its variable. -/
def TabZ (w : World) : Prop := ∀ j, j < 64 → w.cell? ⟨0, j, none⟩ = some (.int .u8 (Lib.deBruijn64tab.getD j 0))
theorem TabZ.from {w w1 : World} (h : TabZ w) (hb : Below w.heap.size w w1) : TabZ w1 := fun j hj => pw_cell_below hb (h j hj)
theorem tz64_key (x a : Nat) (hx : x < 18446744073709551616) (hx0 : x ≠ 0) (hlow : x &&& (18446744073709551616 - x) = a) :
    IntKind.u64.wrap (Go.bits BinOp.and IntKind.u64 (x : Int) (IntKind.u64.wrap (-(x : Int))) * 285870213051353865) / 288230376151711744 = ((a * 285870213051353865 % 18446744073709551616 / 288230376151711744 : Nat) : Int) := by
  have e1 : IntKind.u64.wrap (-(x : Int)) = ((18446744073709551616 - x : Nat) : Int) := by rw [IntKind.wrap_u64]; omega
  rw [e1, u64_and_nat x _ hx (by omega), hlow, IntKind.wrap_u64]
  omega
set_option maxHeartbeats 1000000 in
theorem tz_core (x k idx : Nat) (w : World) (hx0 : ((x : Int) == 0) = false)
    (key : IntKind.u64.wrap (Go.bits BinOp.and IntKind.u64 (x : Int) (IntKind.u64.wrap (-(x : Int))) * 285870213051353865) / 288230376151711744 = (idx : Int))
    (hi : idx < 64) (hk : k < 64) (hcell : w.cell? ⟨0, idx, none⟩ = some (.int .u8 k)) :
    Calls Tryd.prog 25 #[.int .u64 x] w fun e w' => e = .returned (.int .i64 k) ∧ w' = w := by
  go_enter Tryd.func25, Tryd.ntmps25
  go_wp2_with (simp only [key])
  go_ret
  exact ⟨rfl, rfl⟩
theorem tz_x (x : Nat) (w : World) (hx : x < 18446744073709551616) (hx0 : x ≠ 0) (hT : TabZ w) :
    Calls Tryd.prog 25 #[.int .u64 x] w fun e w' => e = .returned (.int .i64 (Lib.ctz 64 x : Nat)) ∧ w' = w := by
  obtain ⟨hlow, hk⟩ := Lib.lowest_bit 64 x hx0 hx
  obtain ⟨hi, htab⟩ := Lib.deBruijn64_at _ hk
  have hcell := hT _ hi
  rw [htab] at hcell
  exact tz_core x _ _ w (by simp; omega) (tz64_key x _ hx hx0 hlow) hi hk hcell

/-- The order of the named interrupts; their masks. -/
def ordI (k : Nat) : Int := [11, 3, 7, 9, 1, 5, 12, 10, 2, 6].getD k 0
def mskI (k : Nat) : Int := [2048, 8, 128, 512, 2, 32, 4096, 1024, 4, 64].getD k 0
/-- What is left when the first k are struck; the first of the first k. -/
def leftTo (x : Int) : Nat → Int
  | 0 => x
  | k + 1 => Go.bits .andNot .u64 (leftTo x k) (mskI k)
def firstTo (x : Int) : Nat → Option Int
  | 0 => none
  | k + 1 => (firstTo x k).or (if onI x (ordI k) = true then some (ordI k) else none)
/-- The first interrupt of some bits. -/
def pickV (x : Int) : Option Int := (firstTo x 10).or (if leftTo x 10 = 0 then none else some (Lib.ctz 64 (leftTo x 10).toNat : Nat))
theorem firstTo_mono (x a : Int) (k : Nat) (h : firstTo x k = some a) : ∀ j, firstTo x (k + j) = some a
  | 0 => h
  | j + 1 => by show (firstTo x (k + j)).or _ = _; rw [firstTo_mono x a k h j]; rfl
theorem head_snoc (pre : List Int) (n : Int) : (pre ++ [n]).head? = pre.head?.or (some n) := by cases pre <;> rfl
theorem pick_lead (x : Int) (pre : List Int) (n : Int) (k : Nat) (hk : k < 10) (h : pre.head? = firstTo x k) (ho : onI x (ordI k) = true) (hn : ordI k = n) :
    (pre ++ [n]).head? = firstTo x (k + 1) ∧ (pre ++ [n] ≠ [] ∧ (pre ++ [n]).head? = pickV x) := by
  have h1 : (pre ++ [n]).head? = firstTo x (k + 1) := by
    show _ = (firstTo x k).or _
    rw [head_snoc, h, if_pos ho, hn]
  refine ⟨h1, by simp, ?_⟩
  obtain ⟨a, ha⟩ : ∃ a, (pre ++ [n]).head? = some a := by cases pre with
    | nil => exact ⟨n, rfl⟩
    | cons y ys => exact ⟨y, rfl⟩
  have h10 := firstTo_mono x a (k + 1) (h1.symm.trans ha) (10 - (k + 1))
  rw [show k + 1 + (10 - (k + 1)) = 10 by omega] at h10
  rw [ha, pickV, h10]; rfl
theorem pick_skip (x : Int) (pre : List Int) (k : Nat) (h : pre.head? = firstTo x k) (ho : onI x (ordI k) = false) : pre.head? = firstTo x (k + 1) := by
  show _ = (firstTo x k).or _
  rw [ho, h]; cases firstTo x k <;> rfl
theorem u64_range_andNot (a b : Int) : 0 ≤ Go.bits .andNot .u64 a b ∧ Go.bits .andNot .u64 a b < 18446744073709551616 := by
  rw [andNot_u64]; exact U_range _
theorem leftTo_range (x : Int) (h : 0 ≤ x ∧ x < 18446744073709551616) : ∀ k, 0 ≤ leftTo x k ∧ leftTo x k < 18446744073709551616
  | 0 => h
  | k + 1 => u64_range_andNot _ _
/-- A bit is struck off. -/
theorem strike (l : Nat) (h0 : l ≠ 0) (hl : l < 18446744073709551616) : ∃ l' : Nat, Go.bits .and .u64 (l : Int) (IntKind.u64.wrap ((l : Int) - 1)) = (l' : Int) ∧ l' < l := by
  have e1 : IntKind.u64.wrap ((l : Int) - 1) = ((l - 1 : Nat) : Int) := by rw [IntKind.wrap_u64]; omega
  refine ⟨l &&& (l - 1), ?_, ?_⟩
  · rw [e1, u64_and_nat l _ hl (by omega)]
  · exact Nat.lt_of_le_of_lt Nat.and_le_right (by omega)

set_option maxHeartbeats 1000000 in
/-- A register's bit, the world as it was. -/
theorem on_x (v b : Int) (w : World) (hb : 0 ≤ b) : Calls Tryd.prog 23 #[.int .u64 v, .int .i64 b] w fun e w' => e = .returned (.bool (onI v b)) ∧ w' = w := by
  have hb' : (b < 0) = False := by simp; omega
  go_enter Tryd.func23, Tryd.ntmps23
  go_wp2
  go_ret
  exact ⟨rfl, rfl⟩

set_option maxHeartbeats 1000000 in
/-- irq.inOrder: its word is boxed; the function value captures the box. -/
theorem inOrder_c (x : Int) (w : World) : Calls Tryd.prog 16 #[.int .u64 x] w fun e w' => e = .returned (.func (.func 24) #[] #[.pointer (some ⟨w.heap.size, 0, none⟩)]) ∧ w' = w.alloc (.cells #[.int .u64 x] 22) := by
  go_enter Tryd.func16, Tryd.ntmps16
  go_wp2
  go_ret
  exact ⟨rfl, rfl⟩

set_option maxRecDepth 100000 in
set_option maxHeartbeats 8000000 in
/-- **The iterator: for every loop body.** -/
theorem order_in (n : Nat) (hn : 1 ≤ n) (l B : Nat) (x : Int) (hx : 0 ≤ x ∧ x < 18446744073709551616) (w : World) (J Jx : List Int → World → Prop)
    (hY : ∀ pre y W, J pre W → pre.length < 18446744073709551626 → YieldAt Fence.wide (n - 1) Tryd.prog l #[.int .i64 y] W fun e W' =>
      (e = .returned (.bool true) ∧ J (pre ++ [y]) W' ∧ Below w.heap.size W W') ∨ (e = .returned (.bool false) ∧ Jx (pre ++ [y]) W'))
    (hBx : w.cell? ⟨B, 0, none⟩ = some (.int .u64 x)) (hT : TabZ w) (W : World) (hW : Below w.heap.size w W) (h0 : J [] W) :
    CallsIn Fence.wide n Tryd.prog 24 #[.func (.yield l) #[] #[], .pointer (some ⟨B, 0, none⟩)] W fun e W' => (∃ v, e = .returned v) ∧
      ((∃ ys : List Int, ys.head? = pickV x ∧ J ys W') ∨ (∃ pre : List Int, (pre ≠ [] ∧ pre.head? = pickV x) ∧ Jx pre W')) := by
  refine callsIn_of_wp Tryd.func24 rfl trivial ?_ rfl
  simp only [Tryd.ntmps24, List.size_toArray, List.length_cons, List.length_nil, Nat.reduceAdd, Nat.reduceSub, Array.replicate_succ, Array.replicate_zero, List.push_toArray, List.append_toArray, List.nil_append, List.cons_append]
  have hcW : W.cell? ⟨B, 0, none⟩ = some (.int .u64 x) := pw_cell_below hW hBx
  gi_wp2
  gi_loopw [3, 8] (fun p3 p8 wr => ∃ (k : Nat) (pre : List Int), k ≤ 10 ∧ p8 = .int .i64 (k : Int) ∧ p3 = .int .u64 (leftTo x k) ∧ pre.head? = firstTo x k ∧ pre.length ≤ k ∧ J pre wr ∧ Below w.heap.size w wr)
    (fun _ p8 _ => 10 - (intOf p8).toNat)
  case atStart => exact ⟨0, [], by omega, rfl, rfl, rfl, Nat.le_refl _, h0, hW⟩
  case round =>
    obtain ⟨k, pre, hk, rfl, rfl, hh, hlen, hJ, hBw⟩ := hrel
    have hcx : wr.cell? ⟨B, 0, none⟩ = some (.int .u64 x) := pw_cell_below hBw hBx
    rcases Nat.eq_or_lt_of_le hk with rfl | hk'
    · have hlen10 := Lib.hid hlen; have hh10 := Lib.hid hh; clear hlen hh hk hcx hcW
      have hrange := Lib.hid (leftTo_range x hx 10)
      gi_wp2
      gi_loopw [3] (fun p3 wr => ∃ (lf : Nat) (pre : List Int), p3 = .int .u64 (lf : Int) ∧ lf < 18446744073709551616 ∧ J pre wr ∧ Below w.heap.size w wr ∧ pre.length + lf ≤ 18446744073709551625 ∧
          ((pre = [] ∧ firstTo x 10 = none ∧ (lf : Int) = leftTo x 10) ∨ (pre ≠ [] ∧ pre.head? = pickV x)))
        (fun p3 _ => (intOf p3).toNat)
      case atStart =>
        obtain ⟨lf, hlf⟩ := Int.eq_ofNat_of_zero_le hrange.out.1
        have hr2 := hrange.out.2
        refine ⟨lf, pre, by rw [hlf], by omega, hJ, hBw, by have := hlen10.out; omega, ?_⟩
        cases pre with
        | nil => exact .inl ⟨rfl, hh10.out.symm, hlf.symm⟩
        | cons y ys =>
          refine .inr ⟨by simp, ?_⟩
          have h1 : firstTo x 10 = some y := hh10.out.symm
          rw [pickV, h1]; rfl
      case round =>
        clear hBw hJ
        obtain ⟨lf, pre2, rfl, hlf, hJ2, hB2, hN, hor⟩ := hrel
        by_cases hz : lf = 0
        · subst hz
          gi_wp2
          go_end0
          refine ⟨⟨_, rfl⟩, .inl ⟨pre2, ?_, hJ2⟩⟩
          rcases hor with ⟨rfl, hf, hl⟩ | ⟨_, hp⟩
          · rw [pickV, hf, if_pos (show leftTo x 10 = 0 from hl.symm)]; rfl
          · exact hp
        · have hne : ((lf : Int) == 0) = false := by simp; omega
          have hT2 := TabZ.from hT hB2
          obtain ⟨l2, hl2, hlt⟩ := strike lf hz hlf
          rw [show IntKind.u64.wrap ((lf : Int) - 1) = (lf : Int) - 1 by rw [IntKind.wrap_u64]; omega] at hl2
          obtain ⟨fn, tmps, assign, body, hy, hR⟩ := hY pre2 (Lib.ctz 64 lf : Nat) wr hJ2 (by omega)
          have hp : (pre2 ++ [((Lib.ctz 64 lf : Nat) : Int)] ≠ [] ∧ (pre2 ++ [((Lib.ctz 64 lf : Nat) : Int)]).head? = pickV x) := by
            refine ⟨by simp, ?_⟩
            rcases hor with ⟨rfl, hf, hl⟩ | ⟨hne2, hp⟩
            · rw [pickV, hf, if_neg (by rw [← hl]; omega), ← hl]; rfl
            · rw [head_snoc, ← hp]
              cases pre2 with
              | nil => exact absurd rfl hne2
              | cons y ys => rfl
          gi_wp2_with (refine ⟨trivial, ?_⟩; gi_at_call 25; refine (callsIn_wide.2 (tz_x lf _ hlf hz hT2)).mono ?_; rintro e w' ⟨rfl, rfl⟩)
          refine hR.mono ?_
          rintro e W3 (⟨rfl, hJ3, hk3⟩ | ⟨rfl, hJx3⟩)
          · gi_wp2
            refine ⟨⟨_, _, _, _, _, _, _, _, _, _, _, _, ?rel, rfl⟩, ?measure⟩
            case rel =>
              exact ⟨l2, _, rfl, Nat.lt_trans hlt hlf, hJ3, hB2.trans hk3, by rw [List.length_append, List.length_singleton]; omega, .inr hp⟩
            case measure =>
              exact hlt
          · gi_wp2
            refine bodyPost_ret (results_none rfl _ _ _) rfl ?_
            exact ⟨⟨_, rfl⟩, .inr ⟨_, hp, hJx3⟩⟩

    · clear hk
      have hk10 : k = 0 ∨ k = 1 ∨ k = 2 ∨ k = 3 ∨ k = 4 ∨ k = 5 ∨ k = 6 ∨ k = 7 ∨ k = 8 ∨ k = 9 := by omega
      rcases hk10 with rfl | rfl | rfl | rfl | rfl | rfl | rfl | rfl | rfl | rfl
      · have hcon : ∀ w', Calls Tryd.prog 23 #[.int .u64 x, .int .i64 11] w' fun e w'' => e = .returned (.bool (onI x 11)) ∧ w'' = w' := fun w' => on_x x 11 w' (by decide)
        have i0 : ∀ w', (Instr.index 49 (.agg #[.int .i64 11, .int .i64 3, .int .i64 7, .int .i64 9, .int .i64 1, .int .i64 5, .int .i64 12, .int .i64 10, .int .i64 2, .int .i64 6]) (.int .i64 0)).run Tryd.prog w' = .ok (.int .i64 11) w' := fun _ => by kernel_rfl
        by_cases ho : onI x 11 = true
        · rw [ho] at hcon
          obtain ⟨fn, tmps, assign, body, hy, hR⟩ := hY pre 11 wr hJ (by omega)
          gi_wp2_with (refine ⟨trivial, ?_⟩; gi_at_call 23; refine (callsIn_wide.2 (hcon _)).mono ?_; rintro e w' ⟨rfl, rfl⟩)
          refine hR.mono ?_
          rintro e W3 (⟨rfl, hJ3, hk3⟩ | ⟨rfl, hJx3⟩)
          · gi_wp2
            go_roundw
            case rel => exact ⟨1, pre ++ [11], by decide, rfl, rfl, (pick_lead x pre 11 0 (by decide) hh ho rfl).1, by rw [List.length_append, List.length_singleton]; omega, hJ3, hBw.trans hk3⟩
            case measure => decide
          · gi_wp2
            refine bodyPost_ret (results_none rfl _ _ _) rfl ?_
            exact ⟨⟨_, rfl⟩, .inr ⟨pre ++ [11], (pick_lead x pre 11 0 (by decide) hh ho rfl).2, hJx3⟩⟩
        · have ho2 : onI x 11 = false := by simpa using ho
          rw [ho2] at hcon
          gi_wp2_with (refine ⟨trivial, ?_⟩; gi_at_call 23; refine (callsIn_wide.2 (hcon _)).mono ?_; rintro e w' ⟨rfl, rfl⟩)
          refine ⟨fun _ h => (by cases h), ?_⟩
          gi_wp2
          go_roundw
          case rel => exact ⟨1, pre, by decide, rfl, rfl, pick_skip x pre 0 hh ho2, by omega, hJ, hBw⟩
          case measure => decide
      · have hcon : ∀ w', Calls Tryd.prog 23 #[.int .u64 x, .int .i64 3] w' fun e w'' => e = .returned (.bool (onI x 3)) ∧ w'' = w' := fun w' => on_x x 3 w' (by decide)
        have i0 : ∀ w', (Instr.index 49 (.agg #[.int .i64 11, .int .i64 3, .int .i64 7, .int .i64 9, .int .i64 1, .int .i64 5, .int .i64 12, .int .i64 10, .int .i64 2, .int .i64 6]) (.int .i64 1)).run Tryd.prog w' = .ok (.int .i64 3) w' := fun _ => by kernel_rfl
        by_cases ho : onI x 3 = true
        · rw [ho] at hcon
          obtain ⟨fn, tmps, assign, body, hy, hR⟩ := hY pre 3 wr hJ (by omega)
          gi_wp2_with (refine ⟨trivial, ?_⟩; gi_at_call 23; refine (callsIn_wide.2 (hcon _)).mono ?_; rintro e w' ⟨rfl, rfl⟩)
          refine hR.mono ?_
          rintro e W3 (⟨rfl, hJ3, hk3⟩ | ⟨rfl, hJx3⟩)
          · gi_wp2
            go_roundw
            case rel => exact ⟨2, pre ++ [3], by decide, rfl, rfl, (pick_lead x pre 3 1 (by decide) hh ho rfl).1, by rw [List.length_append, List.length_singleton]; omega, hJ3, hBw.trans hk3⟩
            case measure => decide
          · gi_wp2
            refine bodyPost_ret (results_none rfl _ _ _) rfl ?_
            exact ⟨⟨_, rfl⟩, .inr ⟨pre ++ [3], (pick_lead x pre 3 1 (by decide) hh ho rfl).2, hJx3⟩⟩
        · have ho2 : onI x 3 = false := by simpa using ho
          rw [ho2] at hcon
          gi_wp2_with (refine ⟨trivial, ?_⟩; gi_at_call 23; refine (callsIn_wide.2 (hcon _)).mono ?_; rintro e w' ⟨rfl, rfl⟩)
          refine ⟨fun _ h => (by cases h), ?_⟩
          gi_wp2
          go_roundw
          case rel => exact ⟨2, pre, by decide, rfl, rfl, pick_skip x pre 1 hh ho2, by omega, hJ, hBw⟩
          case measure => decide
      · have hcon : ∀ w', Calls Tryd.prog 23 #[.int .u64 x, .int .i64 7] w' fun e w'' => e = .returned (.bool (onI x 7)) ∧ w'' = w' := fun w' => on_x x 7 w' (by decide)
        have i0 : ∀ w', (Instr.index 49 (.agg #[.int .i64 11, .int .i64 3, .int .i64 7, .int .i64 9, .int .i64 1, .int .i64 5, .int .i64 12, .int .i64 10, .int .i64 2, .int .i64 6]) (.int .i64 2)).run Tryd.prog w' = .ok (.int .i64 7) w' := fun _ => by kernel_rfl
        by_cases ho : onI x 7 = true
        · rw [ho] at hcon
          obtain ⟨fn, tmps, assign, body, hy, hR⟩ := hY pre 7 wr hJ (by omega)
          gi_wp2_with (refine ⟨trivial, ?_⟩; gi_at_call 23; refine (callsIn_wide.2 (hcon _)).mono ?_; rintro e w' ⟨rfl, rfl⟩)
          refine hR.mono ?_
          rintro e W3 (⟨rfl, hJ3, hk3⟩ | ⟨rfl, hJx3⟩)
          · gi_wp2
            go_roundw
            case rel => exact ⟨3, pre ++ [7], by decide, rfl, rfl, (pick_lead x pre 7 2 (by decide) hh ho rfl).1, by rw [List.length_append, List.length_singleton]; omega, hJ3, hBw.trans hk3⟩
            case measure => decide
          · gi_wp2
            refine bodyPost_ret (results_none rfl _ _ _) rfl ?_
            exact ⟨⟨_, rfl⟩, .inr ⟨pre ++ [7], (pick_lead x pre 7 2 (by decide) hh ho rfl).2, hJx3⟩⟩
        · have ho2 : onI x 7 = false := by simpa using ho
          rw [ho2] at hcon
          gi_wp2_with (refine ⟨trivial, ?_⟩; gi_at_call 23; refine (callsIn_wide.2 (hcon _)).mono ?_; rintro e w' ⟨rfl, rfl⟩)
          refine ⟨fun _ h => (by cases h), ?_⟩
          gi_wp2
          go_roundw
          case rel => exact ⟨3, pre, by decide, rfl, rfl, pick_skip x pre 2 hh ho2, by omega, hJ, hBw⟩
          case measure => decide
      · have hcon : ∀ w', Calls Tryd.prog 23 #[.int .u64 x, .int .i64 9] w' fun e w'' => e = .returned (.bool (onI x 9)) ∧ w'' = w' := fun w' => on_x x 9 w' (by decide)
        have i0 : ∀ w', (Instr.index 49 (.agg #[.int .i64 11, .int .i64 3, .int .i64 7, .int .i64 9, .int .i64 1, .int .i64 5, .int .i64 12, .int .i64 10, .int .i64 2, .int .i64 6]) (.int .i64 3)).run Tryd.prog w' = .ok (.int .i64 9) w' := fun _ => by kernel_rfl
        by_cases ho : onI x 9 = true
        · rw [ho] at hcon
          obtain ⟨fn, tmps, assign, body, hy, hR⟩ := hY pre 9 wr hJ (by omega)
          gi_wp2_with (refine ⟨trivial, ?_⟩; gi_at_call 23; refine (callsIn_wide.2 (hcon _)).mono ?_; rintro e w' ⟨rfl, rfl⟩)
          refine hR.mono ?_
          rintro e W3 (⟨rfl, hJ3, hk3⟩ | ⟨rfl, hJx3⟩)
          · gi_wp2
            go_roundw
            case rel => exact ⟨4, pre ++ [9], by decide, rfl, rfl, (pick_lead x pre 9 3 (by decide) hh ho rfl).1, by rw [List.length_append, List.length_singleton]; omega, hJ3, hBw.trans hk3⟩
            case measure => decide
          · gi_wp2
            refine bodyPost_ret (results_none rfl _ _ _) rfl ?_
            exact ⟨⟨_, rfl⟩, .inr ⟨pre ++ [9], (pick_lead x pre 9 3 (by decide) hh ho rfl).2, hJx3⟩⟩
        · have ho2 : onI x 9 = false := by simpa using ho
          rw [ho2] at hcon
          gi_wp2_with (refine ⟨trivial, ?_⟩; gi_at_call 23; refine (callsIn_wide.2 (hcon _)).mono ?_; rintro e w' ⟨rfl, rfl⟩)
          refine ⟨fun _ h => (by cases h), ?_⟩
          gi_wp2
          go_roundw
          case rel => exact ⟨4, pre, by decide, rfl, rfl, pick_skip x pre 3 hh ho2, by omega, hJ, hBw⟩
          case measure => decide
      · have hcon : ∀ w', Calls Tryd.prog 23 #[.int .u64 x, .int .i64 1] w' fun e w'' => e = .returned (.bool (onI x 1)) ∧ w'' = w' := fun w' => on_x x 1 w' (by decide)
        have i0 : ∀ w', (Instr.index 49 (.agg #[.int .i64 11, .int .i64 3, .int .i64 7, .int .i64 9, .int .i64 1, .int .i64 5, .int .i64 12, .int .i64 10, .int .i64 2, .int .i64 6]) (.int .i64 4)).run Tryd.prog w' = .ok (.int .i64 1) w' := fun _ => by kernel_rfl
        by_cases ho : onI x 1 = true
        · rw [ho] at hcon
          obtain ⟨fn, tmps, assign, body, hy, hR⟩ := hY pre 1 wr hJ (by omega)
          gi_wp2_with (refine ⟨trivial, ?_⟩; gi_at_call 23; refine (callsIn_wide.2 (hcon _)).mono ?_; rintro e w' ⟨rfl, rfl⟩)
          refine hR.mono ?_
          rintro e W3 (⟨rfl, hJ3, hk3⟩ | ⟨rfl, hJx3⟩)
          · gi_wp2
            go_roundw
            case rel => exact ⟨5, pre ++ [1], by decide, rfl, rfl, (pick_lead x pre 1 4 (by decide) hh ho rfl).1, by rw [List.length_append, List.length_singleton]; omega, hJ3, hBw.trans hk3⟩
            case measure => decide
          · gi_wp2
            refine bodyPost_ret (results_none rfl _ _ _) rfl ?_
            exact ⟨⟨_, rfl⟩, .inr ⟨pre ++ [1], (pick_lead x pre 1 4 (by decide) hh ho rfl).2, hJx3⟩⟩
        · have ho2 : onI x 1 = false := by simpa using ho
          rw [ho2] at hcon
          gi_wp2_with (refine ⟨trivial, ?_⟩; gi_at_call 23; refine (callsIn_wide.2 (hcon _)).mono ?_; rintro e w' ⟨rfl, rfl⟩)
          refine ⟨fun _ h => (by cases h), ?_⟩
          gi_wp2
          go_roundw
          case rel => exact ⟨5, pre, by decide, rfl, rfl, pick_skip x pre 4 hh ho2, by omega, hJ, hBw⟩
          case measure => decide
      · have hcon : ∀ w', Calls Tryd.prog 23 #[.int .u64 x, .int .i64 5] w' fun e w'' => e = .returned (.bool (onI x 5)) ∧ w'' = w' := fun w' => on_x x 5 w' (by decide)
        have i0 : ∀ w', (Instr.index 49 (.agg #[.int .i64 11, .int .i64 3, .int .i64 7, .int .i64 9, .int .i64 1, .int .i64 5, .int .i64 12, .int .i64 10, .int .i64 2, .int .i64 6]) (.int .i64 5)).run Tryd.prog w' = .ok (.int .i64 5) w' := fun _ => by kernel_rfl
        by_cases ho : onI x 5 = true
        · rw [ho] at hcon
          obtain ⟨fn, tmps, assign, body, hy, hR⟩ := hY pre 5 wr hJ (by omega)
          gi_wp2_with (refine ⟨trivial, ?_⟩; gi_at_call 23; refine (callsIn_wide.2 (hcon _)).mono ?_; rintro e w' ⟨rfl, rfl⟩)
          refine hR.mono ?_
          rintro e W3 (⟨rfl, hJ3, hk3⟩ | ⟨rfl, hJx3⟩)
          · gi_wp2
            go_roundw
            case rel => exact ⟨6, pre ++ [5], by decide, rfl, rfl, (pick_lead x pre 5 5 (by decide) hh ho rfl).1, by rw [List.length_append, List.length_singleton]; omega, hJ3, hBw.trans hk3⟩
            case measure => decide
          · gi_wp2
            refine bodyPost_ret (results_none rfl _ _ _) rfl ?_
            exact ⟨⟨_, rfl⟩, .inr ⟨pre ++ [5], (pick_lead x pre 5 5 (by decide) hh ho rfl).2, hJx3⟩⟩
        · have ho2 : onI x 5 = false := by simpa using ho
          rw [ho2] at hcon
          gi_wp2_with (refine ⟨trivial, ?_⟩; gi_at_call 23; refine (callsIn_wide.2 (hcon _)).mono ?_; rintro e w' ⟨rfl, rfl⟩)
          refine ⟨fun _ h => (by cases h), ?_⟩
          gi_wp2
          go_roundw
          case rel => exact ⟨6, pre, by decide, rfl, rfl, pick_skip x pre 5 hh ho2, by omega, hJ, hBw⟩
          case measure => decide
      · have hcon : ∀ w', Calls Tryd.prog 23 #[.int .u64 x, .int .i64 12] w' fun e w'' => e = .returned (.bool (onI x 12)) ∧ w'' = w' := fun w' => on_x x 12 w' (by decide)
        have i0 : ∀ w', (Instr.index 49 (.agg #[.int .i64 11, .int .i64 3, .int .i64 7, .int .i64 9, .int .i64 1, .int .i64 5, .int .i64 12, .int .i64 10, .int .i64 2, .int .i64 6]) (.int .i64 6)).run Tryd.prog w' = .ok (.int .i64 12) w' := fun _ => by kernel_rfl
        by_cases ho : onI x 12 = true
        · rw [ho] at hcon
          obtain ⟨fn, tmps, assign, body, hy, hR⟩ := hY pre 12 wr hJ (by omega)
          gi_wp2_with (refine ⟨trivial, ?_⟩; gi_at_call 23; refine (callsIn_wide.2 (hcon _)).mono ?_; rintro e w' ⟨rfl, rfl⟩)
          refine hR.mono ?_
          rintro e W3 (⟨rfl, hJ3, hk3⟩ | ⟨rfl, hJx3⟩)
          · gi_wp2
            go_roundw
            case rel => exact ⟨7, pre ++ [12], by decide, rfl, rfl, (pick_lead x pre 12 6 (by decide) hh ho rfl).1, by rw [List.length_append, List.length_singleton]; omega, hJ3, hBw.trans hk3⟩
            case measure => decide
          · gi_wp2
            refine bodyPost_ret (results_none rfl _ _ _) rfl ?_
            exact ⟨⟨_, rfl⟩, .inr ⟨pre ++ [12], (pick_lead x pre 12 6 (by decide) hh ho rfl).2, hJx3⟩⟩
        · have ho2 : onI x 12 = false := by simpa using ho
          rw [ho2] at hcon
          gi_wp2_with (refine ⟨trivial, ?_⟩; gi_at_call 23; refine (callsIn_wide.2 (hcon _)).mono ?_; rintro e w' ⟨rfl, rfl⟩)
          refine ⟨fun _ h => (by cases h), ?_⟩
          gi_wp2
          go_roundw
          case rel => exact ⟨7, pre, by decide, rfl, rfl, pick_skip x pre 6 hh ho2, by omega, hJ, hBw⟩
          case measure => decide
      · have hcon : ∀ w', Calls Tryd.prog 23 #[.int .u64 x, .int .i64 10] w' fun e w'' => e = .returned (.bool (onI x 10)) ∧ w'' = w' := fun w' => on_x x 10 w' (by decide)
        have i0 : ∀ w', (Instr.index 49 (.agg #[.int .i64 11, .int .i64 3, .int .i64 7, .int .i64 9, .int .i64 1, .int .i64 5, .int .i64 12, .int .i64 10, .int .i64 2, .int .i64 6]) (.int .i64 7)).run Tryd.prog w' = .ok (.int .i64 10) w' := fun _ => by kernel_rfl
        by_cases ho : onI x 10 = true
        · rw [ho] at hcon
          obtain ⟨fn, tmps, assign, body, hy, hR⟩ := hY pre 10 wr hJ (by omega)
          gi_wp2_with (refine ⟨trivial, ?_⟩; gi_at_call 23; refine (callsIn_wide.2 (hcon _)).mono ?_; rintro e w' ⟨rfl, rfl⟩)
          refine hR.mono ?_
          rintro e W3 (⟨rfl, hJ3, hk3⟩ | ⟨rfl, hJx3⟩)
          · gi_wp2
            go_roundw
            case rel => exact ⟨8, pre ++ [10], by decide, rfl, rfl, (pick_lead x pre 10 7 (by decide) hh ho rfl).1, by rw [List.length_append, List.length_singleton]; omega, hJ3, hBw.trans hk3⟩
            case measure => decide
          · gi_wp2
            refine bodyPost_ret (results_none rfl _ _ _) rfl ?_
            exact ⟨⟨_, rfl⟩, .inr ⟨pre ++ [10], (pick_lead x pre 10 7 (by decide) hh ho rfl).2, hJx3⟩⟩
        · have ho2 : onI x 10 = false := by simpa using ho
          rw [ho2] at hcon
          gi_wp2_with (refine ⟨trivial, ?_⟩; gi_at_call 23; refine (callsIn_wide.2 (hcon _)).mono ?_; rintro e w' ⟨rfl, rfl⟩)
          refine ⟨fun _ h => (by cases h), ?_⟩
          gi_wp2
          go_roundw
          case rel => exact ⟨8, pre, by decide, rfl, rfl, pick_skip x pre 7 hh ho2, by omega, hJ, hBw⟩
          case measure => decide
      · have hcon : ∀ w', Calls Tryd.prog 23 #[.int .u64 x, .int .i64 2] w' fun e w'' => e = .returned (.bool (onI x 2)) ∧ w'' = w' := fun w' => on_x x 2 w' (by decide)
        have i0 : ∀ w', (Instr.index 49 (.agg #[.int .i64 11, .int .i64 3, .int .i64 7, .int .i64 9, .int .i64 1, .int .i64 5, .int .i64 12, .int .i64 10, .int .i64 2, .int .i64 6]) (.int .i64 8)).run Tryd.prog w' = .ok (.int .i64 2) w' := fun _ => by kernel_rfl
        by_cases ho : onI x 2 = true
        · rw [ho] at hcon
          obtain ⟨fn, tmps, assign, body, hy, hR⟩ := hY pre 2 wr hJ (by omega)
          gi_wp2_with (refine ⟨trivial, ?_⟩; gi_at_call 23; refine (callsIn_wide.2 (hcon _)).mono ?_; rintro e w' ⟨rfl, rfl⟩)
          refine hR.mono ?_
          rintro e W3 (⟨rfl, hJ3, hk3⟩ | ⟨rfl, hJx3⟩)
          · gi_wp2
            go_roundw
            case rel => exact ⟨9, pre ++ [2], by decide, rfl, rfl, (pick_lead x pre 2 8 (by decide) hh ho rfl).1, by rw [List.length_append, List.length_singleton]; omega, hJ3, hBw.trans hk3⟩
            case measure => decide
          · gi_wp2
            refine bodyPost_ret (results_none rfl _ _ _) rfl ?_
            exact ⟨⟨_, rfl⟩, .inr ⟨pre ++ [2], (pick_lead x pre 2 8 (by decide) hh ho rfl).2, hJx3⟩⟩
        · have ho2 : onI x 2 = false := by simpa using ho
          rw [ho2] at hcon
          gi_wp2_with (refine ⟨trivial, ?_⟩; gi_at_call 23; refine (callsIn_wide.2 (hcon _)).mono ?_; rintro e w' ⟨rfl, rfl⟩)
          refine ⟨fun _ h => (by cases h), ?_⟩
          gi_wp2
          go_roundw
          case rel => exact ⟨9, pre, by decide, rfl, rfl, pick_skip x pre 8 hh ho2, by omega, hJ, hBw⟩
          case measure => decide
      · have hcon : ∀ w', Calls Tryd.prog 23 #[.int .u64 x, .int .i64 6] w' fun e w'' => e = .returned (.bool (onI x 6)) ∧ w'' = w' := fun w' => on_x x 6 w' (by decide)
        have i0 : ∀ w', (Instr.index 49 (.agg #[.int .i64 11, .int .i64 3, .int .i64 7, .int .i64 9, .int .i64 1, .int .i64 5, .int .i64 12, .int .i64 10, .int .i64 2, .int .i64 6]) (.int .i64 9)).run Tryd.prog w' = .ok (.int .i64 6) w' := fun _ => by kernel_rfl
        by_cases ho : onI x 6 = true
        · rw [ho] at hcon
          obtain ⟨fn, tmps, assign, body, hy, hR⟩ := hY pre 6 wr hJ (by omega)
          gi_wp2_with (refine ⟨trivial, ?_⟩; gi_at_call 23; refine (callsIn_wide.2 (hcon _)).mono ?_; rintro e w' ⟨rfl, rfl⟩)
          refine hR.mono ?_
          rintro e W3 (⟨rfl, hJ3, hk3⟩ | ⟨rfl, hJx3⟩)
          · gi_wp2
            go_roundw
            case rel => exact ⟨10, pre ++ [6], by decide, rfl, rfl, (pick_lead x pre 6 9 (by decide) hh ho rfl).1, by rw [List.length_append, List.length_singleton]; omega, hJ3, hBw.trans hk3⟩
            case measure => decide
          · gi_wp2
            refine bodyPost_ret (results_none rfl _ _ _) rfl ?_
            exact ⟨⟨_, rfl⟩, .inr ⟨pre ++ [6], (pick_lead x pre 6 9 (by decide) hh ho rfl).2, hJx3⟩⟩
        · have ho2 : onI x 6 = false := by simpa using ho
          rw [ho2] at hcon
          gi_wp2_with (refine ⟨trivial, ?_⟩; gi_at_call 23; refine (callsIn_wide.2 (hcon _)).mono ?_; rintro e w' ⟨rfl, rfl⟩)
          refine ⟨fun _ h => (by cases h), ?_⟩
          gi_wp2
          go_roundw
          case rel => exact ⟨10, pre, by decide, rfl, rfl, pick_skip x pre 9 hh ho2, by omega, hJ, hBw⟩
          case measure => decide

/-- **What irq.inOrder hands out, as the law of a range over a function wants it.** -/
theorem order_stops (n : Nat) (hn : 1 ≤ n) (B : Nat) (x : Int) (hx : 0 ≤ x ∧ x < 18446744073709551616) (w : World) (hBx : w.cell? ⟨B, 0, none⟩ = some (.int .u64 x)) (hT : TabZ w) :
    SeqStopsK Fence.wide n Tryd.prog 24 #[.pointer (some ⟨B, 0, none⟩)] (fun y : Int => #[Value.int .i64 y]) (Below w.heap.size)
      (fun xs => xs.head? = pickV x) (fun pre => pre ≠ [] ∧ pre.head? = pickV x) 18446744073709551626 w := fun l J Jx W hW _ _ hY h0 =>
  order_in n hn l B x hx w J Jx hY hBx hT W hW h0
end Go.Proofs.YtpbodidpcbodaaaDoor.Hx
