/- Where the Lean function of a Go function gives a value, the Go call returns that value and changes nothing that was there: for every input. (By a program of this session, and by hand.) -/
import Derived.Test.YtdfldddcaeokpaaQx0
import Derived.Test.YtdfldddcaeokpaaQx1
import Derived.Test.YtdfldddcaeokpaaQx4
import Derived.Test.YtdfldddcaeokpaaQx5
import Derived.Test.YtdfldddcaeokpaaQx6
namespace Go.Proofs.Ytdfldddcaeokpaa.Q
open Go.RowKit Go.Proofs.YtdfldddcaeokpaaW.PrintWords Go.Proofs.YtdfldddcaeokpaaW.PrintLast Go.Proofs.YtdfldddcaeokpaaW.PrintMore
attribute [local go_sem] max2_int min2_int max_two min_two max_three min_three max_four min_four   -- for this text's walks alone
set_option linter.unusedVariables false
set_option linter.unusedSimpArgs false

/-! ### arith_table: by hand -/
section
open Go.Proofs.Ytdfldddcaeokpaa.Bv
/-- A function's value. -/
abbrev fnV (f : Nat) : Value := .func (.func f) #[] #[]
def arith_table.cells : Array Value := #[fnV 50, fnV 18, fnV 14, .nilFunc, fnV 13, .nilFunc, fnV 12, .nilFunc,
  fnV 20, fnV 28, fnV 22, fnV 30, fnV 24, fnV 32, fnV 26, fnV 34]
abbrev arith_table.none : Array Value := #[.nilFunc, .nilFunc, .nilFunc, .nilFunc, .nilFunc, .nilFunc, .nilFunc, .nilFunc, .nilFunc, .nilFunc, .nilFunc, .nilFunc, .nilFunc, .nilFunc, .nilFunc, .nilFunc]
theorem arith_table.one : arith_table.cells.all (·.oneCell') = true := by kernel_rfl
theorem arith_table.zero : (Try.prog.info? 45).map (fun i => (i.zero, i.size)) = some (some (.agg arith_table.none), 16) := by kernel_rfl
set_option maxHeartbeats 4000000 in
set_option maxRecDepth 100000 in
theorem arith_table.calls (w : World) : Calls Try.prog 45 #[] w fun e w' => e = .returned (.agg arith_table.cells) ∧ Below w.heap.size w w' := by
  obtain ⟨hz, hi⟩ := zero_of_info arith_table.zero
  have HI := Lib.hid hi
  clear hi
  go_enter Try.func45, Try.ntmps45
  go_wp2_with (refine wpList_store_row rfl 45 _ _ rfl w.heap.size arith_table.cells rfl rfl 45 arith_table.none (heap_alloc_last _ _) HI.out rfl arith_table.one ?_)
  rw [blk_stored]
  refine bodyPost_ret (results_cell_row rfl _ _ w.heap.size 45 arith_table.cells (0, 0) _ rfl (heap_alloc_last _ _) Try.underlying45 rfl HI.out) rfl ⟨rfl, ?_⟩
  exact (Below.refl _ _).alloc (Nat.le_refl _) _
end

/-! ### arith_table_1: by hand -/
def arith_table_1.f (a0 : Int) (a1 : Int) : Option (Int) := some (IntKind.u64.wrap (a0 * a1))
set_option maxHeartbeats 4000000 in
theorem arith_table_1.calls (a0 : Int) (a1 : Int) (r : Int) (w : World) (h : arith_table_1.f a0 a1 = some r) :
    Calls Try.prog 50 #[.int .u64 a0, .int .u64 a1] w fun e w' => e = .returned (.int .u64 r) ∧ Drawn0 w w' := by
  obtain rfl := Option.some.inj h
  go_enter Try.func50, Try.ntmps50
  go_wp2
  go_ret
  exact ⟨rfl, Drawn0.refl _⟩
/-! ### arith_Do: by hand -/
section
open Go.Proofs.Ytdfldddcaeokpaa.Bv
/-- What the operation of a number tells, of words. -/
def arith_Do.whole (a0 : Int) (a2 : Int) (a3 : Int) : Option (Int) :=
  if a0 = 0 then arith_table_1.f a2 a3 else if a0 = 1 then arith_Mulh.f a2 a3 else if a0 = 2 then arith_Mulhsu.f a2 a3 else if a0 = 3 then arith_Mulhu.f a2 a3
  else if a0 = 4 then arith_Div.f a2 a3 else if a0 = 5 then arith_Divu.f a2 a3 else if a0 = 6 then arith_Rem.f a2 a3 else arith_Remu.f a2 a3
/-- Of halves. -/
def arith_Do.half (a0 : Int) (a2 : Int) (a3 : Int) : Option (Int) :=
  if a0 = 0 then arith_Mulw.f a2 a3 else if a0 = 4 then arith_Divw.f a2 a3 else if a0 = 5 then arith_Divuw.f a2 a3 else if a0 = 6 then arith_Remw.f a2 a3 else arith_Remuw.f a2 a3
def arith_Do.f (a0 : Int) (a1 : Bool) (a2 : Int) (a3 : Int) : Option (Int × Int) :=
  if a0 < 0 then some (0, 1) else if a0 > 7 then some (0, 1)
  else if a1 = true then (if a0 = 1 then some (0, 1) else if a0 = 2 then some (0, 1) else if a0 = 3 then some (0, 1) else (arith_Do.half a0 a2 a3).bind fun t => some (t, 0))
  else (arith_Do.whole a0 a2 a3).bind fun t => some (t, 0)
theorem arith_Do.zero : (Try.prog.info? 44).map (fun i => (i.zero, i.size)) = some (some (.agg #[.nilFunc, .nilFunc]), 2) := by kernel_rfl
theorem arith_Do.one {f g : Nat} : (#[fnV f, fnV g] : Array Value).all (·.oneCell') = true := by simp [Value.oneCell']
theorem arith_Do.one' {f : Nat} : (#[fnV f, .nilFunc] : Array Value).all (·.oneCell') = true := by simp [Value.oneCell']
theorem arith_Do.fin {w w1 w2 : World} {o : Obj} (h1 : Below w.heap.size w w1) (h2 : Below (w1.alloc o).heap.size (w1.alloc o) w2) : Below w.heap.size w w2 := below_then (h1.alloc h1.size o) (below_size (h1.alloc h1.size o)) h2
set_option maxHeartbeats 4000000 in
set_option maxRecDepth 100000 in
theorem arith_Do.c0f (a b r : Int) (w : World) (h : arith_table_1.f a b = some r) :
    Calls Try.prog 36 #[.int .i64 0, .bool false, .int .u64 a, .int .u64 b] w fun e w' => e = .returned (.tuple #[.int .u64 r, .int .i64 0]) ∧ Below w.heap.size w w' := by
  obtain ⟨hz, hi⟩ := zero_of_info arith_Do.zero
  have HI := Lib.hid hi
  have HA := Lib.hid h
  clear hi h
  have ix : ∀ W : World, (Instr.index 45 (.agg arith_table.cells) (.int .i64 0)).run Try.prog W = .ok (.agg #[fnV 50, fnV 18]) W := fun _ => by kernel_rfl
  have qn : ∀ W : World, (binOp .eql 24 (fnV 50) .nilFunc).run Try.prog W = .ok (.bool false) W := fun _ => by kernel_rfl
  go_enter Try.func36, Try.ntmps36
  go_wp2_with fail
  refine (arith_table.calls _).mono ?_
  rintro e1 w1 ⟨rfl, hb1⟩
  go_wp2_with (refine wpList_store_row rfl 44 _ _ rfl w1.heap.size #[fnV 50, fnV 18] rfl rfl 44 #[.nilFunc, .nilFunc] (heap_alloc_last _ _) HI.out rfl arith_Do.one ?_; rw [blk_stored])
  refine (arith_table_1.calls a b r _ HA.out).mono ?_
  rintro e2 w2 ⟨rfl, hb2⟩
  go_wp2
  go_ret2
  exact ⟨rfl, arith_Do.fin hb1 (by first | exact hb2 | exact hb2.below)⟩
set_option maxHeartbeats 4000000 in
set_option maxRecDepth 100000 in
theorem arith_Do.c0t (a b r : Int) (w : World) (h : arith_Mulw.f a b = some r) :
    Calls Try.prog 36 #[.int .i64 0, .bool true, .int .u64 a, .int .u64 b] w fun e w' => e = .returned (.tuple #[.int .u64 r, .int .i64 0]) ∧ Below w.heap.size w w' := by
  obtain ⟨hz, hi⟩ := zero_of_info arith_Do.zero
  have HI := Lib.hid hi
  have HA := Lib.hid h
  clear hi h
  have ix : ∀ W : World, (Instr.index 45 (.agg arith_table.cells) (.int .i64 0)).run Try.prog W = .ok (.agg #[fnV 50, fnV 18]) W := fun _ => by kernel_rfl
  have qn : ∀ W : World, (binOp .eql 24 (fnV 18) .nilFunc).run Try.prog W = .ok (.bool false) W := fun _ => by kernel_rfl
  go_enter Try.func36, Try.ntmps36
  go_wp2_with fail
  refine (arith_table.calls _).mono ?_
  rintro e1 w1 ⟨rfl, hb1⟩
  go_wp2_with (refine wpList_store_row rfl 44 _ _ rfl w1.heap.size #[fnV 50, fnV 18] rfl rfl 44 #[.nilFunc, .nilFunc] (heap_alloc_last _ _) HI.out rfl arith_Do.one ?_; rw [blk_stored])
  refine (arith_Mulw.calls a b r _ HA.out).mono ?_
  rintro e2 w2 ⟨rfl, hb2⟩
  go_wp2
  go_ret2
  exact ⟨rfl, arith_Do.fin hb1 (by first | exact hb2 | exact hb2.below)⟩
set_option maxHeartbeats 4000000 in
set_option maxRecDepth 100000 in
theorem arith_Do.c1f (a b r : Int) (w : World) (h : arith_Mulh.f a b = some r) :
    Calls Try.prog 36 #[.int .i64 1, .bool false, .int .u64 a, .int .u64 b] w fun e w' => e = .returned (.tuple #[.int .u64 r, .int .i64 0]) ∧ Below w.heap.size w w' := by
  obtain ⟨hz, hi⟩ := zero_of_info arith_Do.zero
  have HI := Lib.hid hi
  have HA := Lib.hid h
  clear hi h
  have ix : ∀ W : World, (Instr.index 45 (.agg arith_table.cells) (.int .i64 1)).run Try.prog W = .ok (.agg #[fnV 14, .nilFunc]) W := fun _ => by kernel_rfl
  have qn : ∀ W : World, (binOp .eql 24 (fnV 14) .nilFunc).run Try.prog W = .ok (.bool false) W := fun _ => by kernel_rfl
  go_enter Try.func36, Try.ntmps36
  go_wp2_with fail
  refine (arith_table.calls _).mono ?_
  rintro e1 w1 ⟨rfl, hb1⟩
  go_wp2_with (refine wpList_store_row rfl 44 _ _ rfl w1.heap.size #[fnV 14, .nilFunc] rfl rfl 44 #[.nilFunc, .nilFunc] (heap_alloc_last _ _) HI.out rfl arith_Do.one' ?_; rw [blk_stored])
  refine (arith_Mulh.calls a b r _ HA.out).mono ?_
  rintro e2 w2 ⟨rfl, hb2⟩
  go_wp2
  go_ret2
  exact ⟨rfl, arith_Do.fin hb1 (by first | exact hb2 | exact hb2.below)⟩
set_option maxHeartbeats 4000000 in
set_option maxRecDepth 100000 in
theorem arith_Do.c1t (a b : Int) (w : World) :
    Calls Try.prog 36 #[.int .i64 1, .bool true, .int .u64 a, .int .u64 b] w fun e w' => e = .returned (.tuple #[.int .u64 0, .int .i64 1]) ∧ Below w.heap.size w w' := by
  obtain ⟨hz, hi⟩ := zero_of_info arith_Do.zero
  have HI := Lib.hid hi
  clear hi
  have ix : ∀ W : World, (Instr.index 45 (.agg arith_table.cells) (.int .i64 1)).run Try.prog W = .ok (.agg #[fnV 14, .nilFunc]) W := fun _ => by kernel_rfl
  have qn : ∀ W : World, (binOp .eql 24 .nilFunc .nilFunc).run Try.prog W = .ok (.bool true) W := fun _ => by kernel_rfl
  go_enter Try.func36, Try.ntmps36
  go_wp2_with fail
  refine (arith_table.calls _).mono ?_
  rintro e1 w1 ⟨rfl, hb1⟩
  go_wp2_with (refine wpList_store_row rfl 44 _ _ rfl w1.heap.size #[fnV 14, .nilFunc] rfl rfl 44 #[.nilFunc, .nilFunc] (heap_alloc_last _ _) HI.out rfl arith_Do.one' ?_; rw [blk_stored])
  go_ret2
  exact ⟨rfl, hb1.alloc hb1.size _⟩
set_option maxHeartbeats 4000000 in
set_option maxRecDepth 100000 in
theorem arith_Do.c2f (a b r : Int) (w : World) (h : arith_Mulhsu.f a b = some r) :
    Calls Try.prog 36 #[.int .i64 2, .bool false, .int .u64 a, .int .u64 b] w fun e w' => e = .returned (.tuple #[.int .u64 r, .int .i64 0]) ∧ Below w.heap.size w w' := by
  obtain ⟨hz, hi⟩ := zero_of_info arith_Do.zero
  have HI := Lib.hid hi
  have HA := Lib.hid h
  clear hi h
  have ix : ∀ W : World, (Instr.index 45 (.agg arith_table.cells) (.int .i64 2)).run Try.prog W = .ok (.agg #[fnV 13, .nilFunc]) W := fun _ => by kernel_rfl
  have qn : ∀ W : World, (binOp .eql 24 (fnV 13) .nilFunc).run Try.prog W = .ok (.bool false) W := fun _ => by kernel_rfl
  go_enter Try.func36, Try.ntmps36
  go_wp2_with fail
  refine (arith_table.calls _).mono ?_
  rintro e1 w1 ⟨rfl, hb1⟩
  go_wp2_with (refine wpList_store_row rfl 44 _ _ rfl w1.heap.size #[fnV 13, .nilFunc] rfl rfl 44 #[.nilFunc, .nilFunc] (heap_alloc_last _ _) HI.out rfl arith_Do.one' ?_; rw [blk_stored])
  refine (arith_Mulhsu.calls a b r _ HA.out).mono ?_
  rintro e2 w2 ⟨rfl, hb2⟩
  go_wp2
  go_ret2
  exact ⟨rfl, arith_Do.fin hb1 (by first | exact hb2 | exact hb2.below)⟩
set_option maxHeartbeats 4000000 in
set_option maxRecDepth 100000 in
theorem arith_Do.c2t (a b : Int) (w : World) :
    Calls Try.prog 36 #[.int .i64 2, .bool true, .int .u64 a, .int .u64 b] w fun e w' => e = .returned (.tuple #[.int .u64 0, .int .i64 1]) ∧ Below w.heap.size w w' := by
  obtain ⟨hz, hi⟩ := zero_of_info arith_Do.zero
  have HI := Lib.hid hi
  clear hi
  have ix : ∀ W : World, (Instr.index 45 (.agg arith_table.cells) (.int .i64 2)).run Try.prog W = .ok (.agg #[fnV 13, .nilFunc]) W := fun _ => by kernel_rfl
  have qn : ∀ W : World, (binOp .eql 24 .nilFunc .nilFunc).run Try.prog W = .ok (.bool true) W := fun _ => by kernel_rfl
  go_enter Try.func36, Try.ntmps36
  go_wp2_with fail
  refine (arith_table.calls _).mono ?_
  rintro e1 w1 ⟨rfl, hb1⟩
  go_wp2_with (refine wpList_store_row rfl 44 _ _ rfl w1.heap.size #[fnV 13, .nilFunc] rfl rfl 44 #[.nilFunc, .nilFunc] (heap_alloc_last _ _) HI.out rfl arith_Do.one' ?_; rw [blk_stored])
  go_ret2
  exact ⟨rfl, hb1.alloc hb1.size _⟩
set_option maxHeartbeats 4000000 in
set_option maxRecDepth 100000 in
theorem arith_Do.c3f (a b r : Int) (w : World) (h : arith_Mulhu.f a b = some r) :
    Calls Try.prog 36 #[.int .i64 3, .bool false, .int .u64 a, .int .u64 b] w fun e w' => e = .returned (.tuple #[.int .u64 r, .int .i64 0]) ∧ Below w.heap.size w w' := by
  obtain ⟨hz, hi⟩ := zero_of_info arith_Do.zero
  have HI := Lib.hid hi
  have HA := Lib.hid h
  clear hi h
  have ix : ∀ W : World, (Instr.index 45 (.agg arith_table.cells) (.int .i64 3)).run Try.prog W = .ok (.agg #[fnV 12, .nilFunc]) W := fun _ => by kernel_rfl
  have qn : ∀ W : World, (binOp .eql 24 (fnV 12) .nilFunc).run Try.prog W = .ok (.bool false) W := fun _ => by kernel_rfl
  go_enter Try.func36, Try.ntmps36
  go_wp2_with fail
  refine (arith_table.calls _).mono ?_
  rintro e1 w1 ⟨rfl, hb1⟩
  go_wp2_with (refine wpList_store_row rfl 44 _ _ rfl w1.heap.size #[fnV 12, .nilFunc] rfl rfl 44 #[.nilFunc, .nilFunc] (heap_alloc_last _ _) HI.out rfl arith_Do.one' ?_; rw [blk_stored])
  refine (arith_Mulhu.calls a b r _ HA.out).mono ?_
  rintro e2 w2 ⟨rfl, hb2⟩
  go_wp2
  go_ret2
  exact ⟨rfl, arith_Do.fin hb1 (by first | exact hb2 | exact hb2.below)⟩
set_option maxHeartbeats 4000000 in
set_option maxRecDepth 100000 in
theorem arith_Do.c3t (a b : Int) (w : World) :
    Calls Try.prog 36 #[.int .i64 3, .bool true, .int .u64 a, .int .u64 b] w fun e w' => e = .returned (.tuple #[.int .u64 0, .int .i64 1]) ∧ Below w.heap.size w w' := by
  obtain ⟨hz, hi⟩ := zero_of_info arith_Do.zero
  have HI := Lib.hid hi
  clear hi
  have ix : ∀ W : World, (Instr.index 45 (.agg arith_table.cells) (.int .i64 3)).run Try.prog W = .ok (.agg #[fnV 12, .nilFunc]) W := fun _ => by kernel_rfl
  have qn : ∀ W : World, (binOp .eql 24 .nilFunc .nilFunc).run Try.prog W = .ok (.bool true) W := fun _ => by kernel_rfl
  go_enter Try.func36, Try.ntmps36
  go_wp2_with fail
  refine (arith_table.calls _).mono ?_
  rintro e1 w1 ⟨rfl, hb1⟩
  go_wp2_with (refine wpList_store_row rfl 44 _ _ rfl w1.heap.size #[fnV 12, .nilFunc] rfl rfl 44 #[.nilFunc, .nilFunc] (heap_alloc_last _ _) HI.out rfl arith_Do.one' ?_; rw [blk_stored])
  go_ret2
  exact ⟨rfl, hb1.alloc hb1.size _⟩
set_option maxHeartbeats 4000000 in
set_option maxRecDepth 100000 in
theorem arith_Do.c4f (a b r : Int) (w : World) (h : arith_Div.f a b = some r) :
    Calls Try.prog 36 #[.int .i64 4, .bool false, .int .u64 a, .int .u64 b] w fun e w' => e = .returned (.tuple #[.int .u64 r, .int .i64 0]) ∧ Below w.heap.size w w' := by
  obtain ⟨hz, hi⟩ := zero_of_info arith_Do.zero
  have HI := Lib.hid hi
  have HA := Lib.hid h
  clear hi h
  have ix : ∀ W : World, (Instr.index 45 (.agg arith_table.cells) (.int .i64 4)).run Try.prog W = .ok (.agg #[fnV 20, fnV 28]) W := fun _ => by kernel_rfl
  have qn : ∀ W : World, (binOp .eql 24 (fnV 20) .nilFunc).run Try.prog W = .ok (.bool false) W := fun _ => by kernel_rfl
  go_enter Try.func36, Try.ntmps36
  go_wp2_with fail
  refine (arith_table.calls _).mono ?_
  rintro e1 w1 ⟨rfl, hb1⟩
  go_wp2_with (refine wpList_store_row rfl 44 _ _ rfl w1.heap.size #[fnV 20, fnV 28] rfl rfl 44 #[.nilFunc, .nilFunc] (heap_alloc_last _ _) HI.out rfl arith_Do.one ?_; rw [blk_stored])
  refine (arith_Div.calls a b r _ HA.out).mono ?_
  rintro e2 w2 ⟨rfl, hb2⟩
  go_wp2
  go_ret2
  exact ⟨rfl, arith_Do.fin hb1 (by first | exact hb2 | exact hb2.below)⟩
set_option maxHeartbeats 4000000 in
set_option maxRecDepth 100000 in
theorem arith_Do.c4t (a b r : Int) (w : World) (h : arith_Divw.f a b = some r) :
    Calls Try.prog 36 #[.int .i64 4, .bool true, .int .u64 a, .int .u64 b] w fun e w' => e = .returned (.tuple #[.int .u64 r, .int .i64 0]) ∧ Below w.heap.size w w' := by
  obtain ⟨hz, hi⟩ := zero_of_info arith_Do.zero
  have HI := Lib.hid hi
  have HA := Lib.hid h
  clear hi h
  have ix : ∀ W : World, (Instr.index 45 (.agg arith_table.cells) (.int .i64 4)).run Try.prog W = .ok (.agg #[fnV 20, fnV 28]) W := fun _ => by kernel_rfl
  have qn : ∀ W : World, (binOp .eql 24 (fnV 28) .nilFunc).run Try.prog W = .ok (.bool false) W := fun _ => by kernel_rfl
  go_enter Try.func36, Try.ntmps36
  go_wp2_with fail
  refine (arith_table.calls _).mono ?_
  rintro e1 w1 ⟨rfl, hb1⟩
  go_wp2_with (refine wpList_store_row rfl 44 _ _ rfl w1.heap.size #[fnV 20, fnV 28] rfl rfl 44 #[.nilFunc, .nilFunc] (heap_alloc_last _ _) HI.out rfl arith_Do.one ?_; rw [blk_stored])
  refine (arith_Divw.calls a b r _ HA.out).mono ?_
  rintro e2 w2 ⟨rfl, hb2⟩
  go_wp2
  go_ret2
  exact ⟨rfl, arith_Do.fin hb1 (by first | exact hb2 | exact hb2.below)⟩
set_option maxHeartbeats 4000000 in
set_option maxRecDepth 100000 in
theorem arith_Do.c5f (a b r : Int) (w : World) (h : arith_Divu.f a b = some r) :
    Calls Try.prog 36 #[.int .i64 5, .bool false, .int .u64 a, .int .u64 b] w fun e w' => e = .returned (.tuple #[.int .u64 r, .int .i64 0]) ∧ Below w.heap.size w w' := by
  obtain ⟨hz, hi⟩ := zero_of_info arith_Do.zero
  have HI := Lib.hid hi
  have HA := Lib.hid h
  clear hi h
  have ix : ∀ W : World, (Instr.index 45 (.agg arith_table.cells) (.int .i64 5)).run Try.prog W = .ok (.agg #[fnV 22, fnV 30]) W := fun _ => by kernel_rfl
  have qn : ∀ W : World, (binOp .eql 24 (fnV 22) .nilFunc).run Try.prog W = .ok (.bool false) W := fun _ => by kernel_rfl
  go_enter Try.func36, Try.ntmps36
  go_wp2_with fail
  refine (arith_table.calls _).mono ?_
  rintro e1 w1 ⟨rfl, hb1⟩
  go_wp2_with (refine wpList_store_row rfl 44 _ _ rfl w1.heap.size #[fnV 22, fnV 30] rfl rfl 44 #[.nilFunc, .nilFunc] (heap_alloc_last _ _) HI.out rfl arith_Do.one ?_; rw [blk_stored])
  refine (arith_Divu.calls a b r _ HA.out).mono ?_
  rintro e2 w2 ⟨rfl, hb2⟩
  go_wp2
  go_ret2
  exact ⟨rfl, arith_Do.fin hb1 (by first | exact hb2 | exact hb2.below)⟩
set_option maxHeartbeats 4000000 in
set_option maxRecDepth 100000 in
theorem arith_Do.c5t (a b r : Int) (w : World) (h : arith_Divuw.f a b = some r) :
    Calls Try.prog 36 #[.int .i64 5, .bool true, .int .u64 a, .int .u64 b] w fun e w' => e = .returned (.tuple #[.int .u64 r, .int .i64 0]) ∧ Below w.heap.size w w' := by
  obtain ⟨hz, hi⟩ := zero_of_info arith_Do.zero
  have HI := Lib.hid hi
  have HA := Lib.hid h
  clear hi h
  have ix : ∀ W : World, (Instr.index 45 (.agg arith_table.cells) (.int .i64 5)).run Try.prog W = .ok (.agg #[fnV 22, fnV 30]) W := fun _ => by kernel_rfl
  have qn : ∀ W : World, (binOp .eql 24 (fnV 30) .nilFunc).run Try.prog W = .ok (.bool false) W := fun _ => by kernel_rfl
  go_enter Try.func36, Try.ntmps36
  go_wp2_with fail
  refine (arith_table.calls _).mono ?_
  rintro e1 w1 ⟨rfl, hb1⟩
  go_wp2_with (refine wpList_store_row rfl 44 _ _ rfl w1.heap.size #[fnV 22, fnV 30] rfl rfl 44 #[.nilFunc, .nilFunc] (heap_alloc_last _ _) HI.out rfl arith_Do.one ?_; rw [blk_stored])
  refine (arith_Divuw.calls a b r _ HA.out).mono ?_
  rintro e2 w2 ⟨rfl, hb2⟩
  go_wp2
  go_ret2
  exact ⟨rfl, arith_Do.fin hb1 (by first | exact hb2 | exact hb2.below)⟩
set_option maxHeartbeats 4000000 in
set_option maxRecDepth 100000 in
theorem arith_Do.c6f (a b r : Int) (w : World) (h : arith_Rem.f a b = some r) :
    Calls Try.prog 36 #[.int .i64 6, .bool false, .int .u64 a, .int .u64 b] w fun e w' => e = .returned (.tuple #[.int .u64 r, .int .i64 0]) ∧ Below w.heap.size w w' := by
  obtain ⟨hz, hi⟩ := zero_of_info arith_Do.zero
  have HI := Lib.hid hi
  have HA := Lib.hid h
  clear hi h
  have ix : ∀ W : World, (Instr.index 45 (.agg arith_table.cells) (.int .i64 6)).run Try.prog W = .ok (.agg #[fnV 24, fnV 32]) W := fun _ => by kernel_rfl
  have qn : ∀ W : World, (binOp .eql 24 (fnV 24) .nilFunc).run Try.prog W = .ok (.bool false) W := fun _ => by kernel_rfl
  go_enter Try.func36, Try.ntmps36
  go_wp2_with fail
  refine (arith_table.calls _).mono ?_
  rintro e1 w1 ⟨rfl, hb1⟩
  go_wp2_with (refine wpList_store_row rfl 44 _ _ rfl w1.heap.size #[fnV 24, fnV 32] rfl rfl 44 #[.nilFunc, .nilFunc] (heap_alloc_last _ _) HI.out rfl arith_Do.one ?_; rw [blk_stored])
  refine (arith_Rem.calls a b r _ HA.out).mono ?_
  rintro e2 w2 ⟨rfl, hb2⟩
  go_wp2
  go_ret2
  exact ⟨rfl, arith_Do.fin hb1 (by first | exact hb2 | exact hb2.below)⟩
set_option maxHeartbeats 4000000 in
set_option maxRecDepth 100000 in
theorem arith_Do.c6t (a b r : Int) (w : World) (h : arith_Remw.f a b = some r) :
    Calls Try.prog 36 #[.int .i64 6, .bool true, .int .u64 a, .int .u64 b] w fun e w' => e = .returned (.tuple #[.int .u64 r, .int .i64 0]) ∧ Below w.heap.size w w' := by
  obtain ⟨hz, hi⟩ := zero_of_info arith_Do.zero
  have HI := Lib.hid hi
  have HA := Lib.hid h
  clear hi h
  have ix : ∀ W : World, (Instr.index 45 (.agg arith_table.cells) (.int .i64 6)).run Try.prog W = .ok (.agg #[fnV 24, fnV 32]) W := fun _ => by kernel_rfl
  have qn : ∀ W : World, (binOp .eql 24 (fnV 32) .nilFunc).run Try.prog W = .ok (.bool false) W := fun _ => by kernel_rfl
  go_enter Try.func36, Try.ntmps36
  go_wp2_with fail
  refine (arith_table.calls _).mono ?_
  rintro e1 w1 ⟨rfl, hb1⟩
  go_wp2_with (refine wpList_store_row rfl 44 _ _ rfl w1.heap.size #[fnV 24, fnV 32] rfl rfl 44 #[.nilFunc, .nilFunc] (heap_alloc_last _ _) HI.out rfl arith_Do.one ?_; rw [blk_stored])
  refine (arith_Remw.calls a b r _ HA.out).mono ?_
  rintro e2 w2 ⟨rfl, hb2⟩
  go_wp2
  go_ret2
  exact ⟨rfl, arith_Do.fin hb1 (by first | exact hb2 | exact hb2.below)⟩
set_option maxHeartbeats 4000000 in
set_option maxRecDepth 100000 in
theorem arith_Do.c7f (a b r : Int) (w : World) (h : arith_Remu.f a b = some r) :
    Calls Try.prog 36 #[.int .i64 7, .bool false, .int .u64 a, .int .u64 b] w fun e w' => e = .returned (.tuple #[.int .u64 r, .int .i64 0]) ∧ Below w.heap.size w w' := by
  obtain ⟨hz, hi⟩ := zero_of_info arith_Do.zero
  have HI := Lib.hid hi
  have HA := Lib.hid h
  clear hi h
  have ix : ∀ W : World, (Instr.index 45 (.agg arith_table.cells) (.int .i64 7)).run Try.prog W = .ok (.agg #[fnV 26, fnV 34]) W := fun _ => by kernel_rfl
  have qn : ∀ W : World, (binOp .eql 24 (fnV 26) .nilFunc).run Try.prog W = .ok (.bool false) W := fun _ => by kernel_rfl
  go_enter Try.func36, Try.ntmps36
  go_wp2_with fail
  refine (arith_table.calls _).mono ?_
  rintro e1 w1 ⟨rfl, hb1⟩
  go_wp2_with (refine wpList_store_row rfl 44 _ _ rfl w1.heap.size #[fnV 26, fnV 34] rfl rfl 44 #[.nilFunc, .nilFunc] (heap_alloc_last _ _) HI.out rfl arith_Do.one ?_; rw [blk_stored])
  refine (arith_Remu.calls a b r _ HA.out).mono ?_
  rintro e2 w2 ⟨rfl, hb2⟩
  go_wp2
  go_ret2
  exact ⟨rfl, arith_Do.fin hb1 (by first | exact hb2 | exact hb2.below)⟩
set_option maxHeartbeats 4000000 in
set_option maxRecDepth 100000 in
theorem arith_Do.c7t (a b r : Int) (w : World) (h : arith_Remuw.f a b = some r) :
    Calls Try.prog 36 #[.int .i64 7, .bool true, .int .u64 a, .int .u64 b] w fun e w' => e = .returned (.tuple #[.int .u64 r, .int .i64 0]) ∧ Below w.heap.size w w' := by
  obtain ⟨hz, hi⟩ := zero_of_info arith_Do.zero
  have HI := Lib.hid hi
  have HA := Lib.hid h
  clear hi h
  have ix : ∀ W : World, (Instr.index 45 (.agg arith_table.cells) (.int .i64 7)).run Try.prog W = .ok (.agg #[fnV 26, fnV 34]) W := fun _ => by kernel_rfl
  have qn : ∀ W : World, (binOp .eql 24 (fnV 34) .nilFunc).run Try.prog W = .ok (.bool false) W := fun _ => by kernel_rfl
  go_enter Try.func36, Try.ntmps36
  go_wp2_with fail
  refine (arith_table.calls _).mono ?_
  rintro e1 w1 ⟨rfl, hb1⟩
  go_wp2_with (refine wpList_store_row rfl 44 _ _ rfl w1.heap.size #[fnV 26, fnV 34] rfl rfl 44 #[.nilFunc, .nilFunc] (heap_alloc_last _ _) HI.out rfl arith_Do.one ?_; rw [blk_stored])
  refine (arith_Remuw.calls a b r _ HA.out).mono ?_
  rintro e2 w2 ⟨rfl, hb2⟩
  go_wp2
  go_ret2
  exact ⟨rfl, arith_Do.fin hb1 (by first | exact hb2 | exact hb2.below)⟩
set_option maxHeartbeats 4000000 in
set_option maxRecDepth 100000 in
theorem arith_Do.bad (op : Int) (wd : Bool) (a b : Int) (w : World) (h : op < 0 ∨ op > 7) :
    Calls Try.prog 36 #[.int .i64 op, .bool wd, .int .u64 a, .int .u64 b] w fun e w' => e = .returned (.tuple #[.int .u64 0, .int .i64 1]) ∧ Below w.heap.size w w' := by
  by_cases h0 : op < 0
  · have d := decide_eq_true h0
    clear h h0
    go_enter Try.func36, Try.ntmps36
    go_wp2
    go_ret2
    exact ⟨rfl, Below.refl _ _⟩
  · have d := decide_eq_false h0
    have d2 : decide (7 < op) = true := decide_eq_true (by omega)
    clear h h0
    go_enter Try.func36, Try.ntmps36
    go_wp2
    go_ret2
    exact ⟨rfl, Below.refl _ _⟩
theorem arith_Do.calls (a0 : Int) (a1 : Bool) (a2 : Int) (a3 : Int) (r1 : Int) (r2 : Int) (w : World) (h : arith_Do.f a0 a1 a2 a3 = some (r1, r2)) :
    Calls Try.prog 36 #[.int .i64 a0, .bool a1, .int .u64 a2, .int .u64 a3] w fun e w' => e = .returned (.tuple #[.int .u64 r1, .int .i64 r2]) ∧ Below w.heap.size w w' := by
  unfold arith_Do.f at h
  by_cases h0 : a0 < 0
  · rw [if_pos h0] at h
    obtain ⟨rfl, rfl⟩ := Prod.mk.inj (Option.some.inj h)
    exact arith_Do.bad a0 a1 a2 a3 w (.inl h0)
  rw [if_neg h0] at h
  by_cases h7 : a0 > 7
  · rw [if_pos h7] at h
    obtain ⟨rfl, rfl⟩ := Prod.mk.inj (Option.some.inj h)
    exact arith_Do.bad a0 a1 a2 a3 w (.inr h7)
  rw [if_neg h7] at h
  have hc : a0 = 0 ∨ a0 = 1 ∨ a0 = 2 ∨ a0 = 3 ∨ a0 = 4 ∨ a0 = 5 ∨ a0 = 6 ∨ a0 = 7 := by omega
  cases a1
  · rw [if_neg (by decide)] at h
    obtain ⟨t, ht, h⟩ := Option.bind_eq_some_iff.mp h
    obtain ⟨rfl, rfl⟩ := Prod.mk.inj (Option.some.inj h)
    rcases hc with rfl | rfl | rfl | rfl | rfl | rfl | rfl | rfl

    · exact arith_Do.c0f a2 a3 _ w ht
    · exact arith_Do.c1f a2 a3 _ w ht
    · exact arith_Do.c2f a2 a3 _ w ht
    · exact arith_Do.c3f a2 a3 _ w ht
    · exact arith_Do.c4f a2 a3 _ w ht
    · exact arith_Do.c5f a2 a3 _ w ht
    · exact arith_Do.c6f a2 a3 _ w ht
    · exact arith_Do.c7f a2 a3 _ w ht
  · rw [if_pos rfl] at h
    rcases hc with rfl | rfl | rfl | rfl | rfl | rfl | rfl | rfl
    · obtain ⟨t, ht, h⟩ := Option.bind_eq_some_iff.mp h
      obtain ⟨rfl, rfl⟩ := Prod.mk.inj (Option.some.inj h)
      exact arith_Do.c0t a2 a3 _ w ht
    · obtain ⟨rfl, rfl⟩ := Prod.mk.inj (Option.some.inj h)
      exact arith_Do.c1t a2 a3 w
    · obtain ⟨rfl, rfl⟩ := Prod.mk.inj (Option.some.inj h)
      exact arith_Do.c2t a2 a3 w
    · obtain ⟨rfl, rfl⟩ := Prod.mk.inj (Option.some.inj h)
      exact arith_Do.c3t a2 a3 w
    · obtain ⟨t, ht, h⟩ := Option.bind_eq_some_iff.mp h
      obtain ⟨rfl, rfl⟩ := Prod.mk.inj (Option.some.inj h)
      exact arith_Do.c4t a2 a3 _ w ht
    · obtain ⟨t, ht, h⟩ := Option.bind_eq_some_iff.mp h
      obtain ⟨rfl, rfl⟩ := Prod.mk.inj (Option.some.inj h)
      exact arith_Do.c5t a2 a3 _ w ht
    · obtain ⟨t, ht, h⟩ := Option.bind_eq_some_iff.mp h
      obtain ⟨rfl, rfl⟩ := Prod.mk.inj (Option.some.inj h)
      exact arith_Do.c6t a2 a3 _ w ht
    · obtain ⟨t, ht, h⟩ := Option.bind_eq_some_iff.mp h
      obtain ⟨rfl, rfl⟩ := Prod.mk.inj (Option.some.inj h)
      exact arith_Do.c7t a2 a3 _ w ht
end

end Go.Proofs.Ytdfldddcaeokpaa.Q
