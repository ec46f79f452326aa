/- Where the Lean function of a Go function gives a value, the Go call returns that value and changes nothing that was there: for every input. (By a program of this session, and by hand.) -/
import Derived.Test.YtbfdehkejohjhaaQx0
import Derived.Test.YtbfdehkejohjhaaQx1
namespace Go.Proofs.Ytbfdehkejohjhaa.Q
open Go.RowKit Go.Proofs.YtbfdehkejohjhaaW.PrintWords Go.Proofs.YtbfdehkejohjhaaW.PrintLast Go.Proofs.YtbfdehkejohjhaaW.PrintMore
attribute [local go_sem] max2_int min2_int max_two min_two max_three min_three max_four min_four   -- for this text's walks alone
set_option linter.unusedVariables false
set_option linter.unusedSimpArgs false

/-! ### arith_table_1: by hand -/
def arith_table_1.f (a0 : Int) (a1 : Int) : Option (Int) := some (IntKind.u64.wrap (a0 * a1))
set_option maxHeartbeats 4000000 in
theorem arith_table_1.calls (a0 : Int) (a1 : Int) (r : Int) (w : World) (h : arith_table_1.f a0 a1 = some r) :
    Calls Try.prog 58 #[.int .u64 a0, .int .u64 a1] w fun e w' => e = .returned (.int .u64 r) ∧ Drawn0 w w' := by
  obtain rfl := Option.some.inj h
  go_enter Try.func58, Try.ntmps58
  go_wp2
  go_ret
  exact ⟨rfl, Drawn0.refl _⟩
/-! ### arith_Do: by hand -/
section
open Go.Proofs.Ytbfdehkejohjhaa.Bv
/-- What the operation of a number tells, of words. -/
def arith_Do.whole (a0 : Int) (a2 : Int) (a3 : Int) : Option (Int) :=
  if a0 = 0 then arith_table_1.f a2 a3 else if a0 = 1 then arith_Mulh.f a2 a3 else if a0 = 2 then arith_Mulhsu.f a2 a3 else if a0 = 3 then arith_Mulhu.f a2 a3
  else if a0 = 4 then arith_Div.f a2 a3 else if a0 = 5 then arith_Divu.f a2 a3 else if a0 = 6 then arith_Rem.f a2 a3 else arith_Remu.f a2 a3
/-- Of halves. -/
def arith_Do.half (a0 : Int) (a2 : Int) (a3 : Int) : Option (Int) :=
  if a0 = 0 then arith_Mulw.f a2 a3 else if a0 = 4 then arith_Divw.f a2 a3 else if a0 = 5 then arith_Divuw.f a2 a3 else if a0 = 6 then arith_Remw.f a2 a3 else arith_Remuw.f a2 a3
def arith_Do.f (a0 : Int) (a1 : Bool) (a2 : Int) (a3 : Int) : Option (Int × Int) :=
  if a0 < 0 then some (0, 1) else if a0 > 7 then some (0, 1)
  else if a1 = true then (if a0 = 1 then some (0, 1) else if a0 = 2 then some (0, 1) else if a0 = 3 then some (0, 1) else (arith_Do.half a0 a2 a3).bind fun t => some (t, 0))
  else (arith_Do.whole a0 a2 a3).bind fun t => some (t, 0)
theorem arith_Do.zero : (Try.prog.info? 52).map (fun i => (i.zero, i.size)) = some (some (.agg #[.nilFunc, .nilFunc]), 2) := by kernel_rfl
theorem arith_Do.one {f g : Nat} : (#[fnV f, fnV g] : Array Value).all (·.oneCell') = true := by simp [Value.oneCell']
theorem arith_Do.one' {f : Nat} : (#[fnV f, .nilFunc] : Array Value).all (·.oneCell') = true := by simp [Value.oneCell']
theorem arith_Do.fin {w w1 w2 : World} {o : Obj} (h1 : Below w.heap.size w w1) (h2 : Below (w1.alloc o).heap.size (w1.alloc o) w2) : Below w.heap.size w w2 := below_then (h1.alloc h1.size o) (below_size (h1.alloc h1.size o)) h2
set_option maxHeartbeats 4000000 in
set_option maxRecDepth 100000 in
theorem arith_Do.c0f (a b r : Int) (w : World) (h : arith_table_1.f a b = some r) :
    Calls Try.prog 40 #[.int .i64 0, .bool false, .int .u64 a, .int .u64 b] w fun e w' => e = .returned (.tuple #[.int .u64 r, .int .i64 0]) ∧ Below w.heap.size w w' := by
  obtain ⟨hz, hi⟩ := zero_of_info arith_Do.zero
  have HI := Lib.hid hi
  have HA := Lib.hid h
  clear hi h
  have ix : ∀ W : World, (Instr.index 53 (.agg arith_table.cells) (.int .i64 0)).run Try.prog W = .ok (.agg #[fnV 58, fnV 41]) W := fun _ => by kernel_rfl
  have qn : ∀ W : World, (binOp .eql 41 (fnV 58) .nilFunc).run Try.prog W = .ok (.bool false) W := fun _ => by kernel_rfl
  go_enter Try.func40, Try.ntmps40
  go_wp2_with fail
  refine (arith_table.calls _).mono ?_
  rintro e1 w1 ⟨rfl, hb1⟩
  go_wp2_with (refine wpList_store_row rfl 52 _ _ rfl w1.heap.size #[fnV 58, fnV 41] rfl rfl 52 #[.nilFunc, .nilFunc] (heap_alloc_last _ _) HI.out rfl arith_Do.one ?_; rw [blk_stored])
  refine (arith_table_1.calls a b r _ HA.out).mono ?_
  rintro e2 w2 ⟨rfl, hb2⟩
  go_wp2
  go_ret2
  exact ⟨rfl, arith_Do.fin hb1 (by first | exact hb2 | exact hb2.below)⟩
set_option maxHeartbeats 4000000 in
set_option maxRecDepth 100000 in
theorem arith_Do.c0t (a b r : Int) (w : World) (h : arith_Mulw.f a b = some r) :
    Calls Try.prog 40 #[.int .i64 0, .bool true, .int .u64 a, .int .u64 b] w fun e w' => e = .returned (.tuple #[.int .u64 r, .int .i64 0]) ∧ Below w.heap.size w w' := by
  obtain ⟨hz, hi⟩ := zero_of_info arith_Do.zero
  have HI := Lib.hid hi
  have HA := Lib.hid h
  clear hi h
  have ix : ∀ W : World, (Instr.index 53 (.agg arith_table.cells) (.int .i64 0)).run Try.prog W = .ok (.agg #[fnV 58, fnV 41]) W := fun _ => by kernel_rfl
  have qn : ∀ W : World, (binOp .eql 41 (fnV 41) .nilFunc).run Try.prog W = .ok (.bool false) W := fun _ => by kernel_rfl
  go_enter Try.func40, Try.ntmps40
  go_wp2_with fail
  refine (arith_table.calls _).mono ?_
  rintro e1 w1 ⟨rfl, hb1⟩
  go_wp2_with (refine wpList_store_row rfl 52 _ _ rfl w1.heap.size #[fnV 58, fnV 41] rfl rfl 52 #[.nilFunc, .nilFunc] (heap_alloc_last _ _) HI.out rfl arith_Do.one ?_; rw [blk_stored])
  refine (arith_Mulw.calls a b r _ HA.out).mono ?_
  rintro e2 w2 ⟨rfl, hb2⟩
  go_wp2
  go_ret2
  exact ⟨rfl, arith_Do.fin hb1 (by first | exact hb2 | exact hb2.below)⟩
set_option maxHeartbeats 4000000 in
set_option maxRecDepth 100000 in
theorem arith_Do.c1f (a b r : Int) (w : World) (h : arith_Mulh.f a b = some r) :
    Calls Try.prog 40 #[.int .i64 1, .bool false, .int .u64 a, .int .u64 b] w fun e w' => e = .returned (.tuple #[.int .u64 r, .int .i64 0]) ∧ Below w.heap.size w w' := by
  obtain ⟨hz, hi⟩ := zero_of_info arith_Do.zero
  have HI := Lib.hid hi
  have HA := Lib.hid h
  clear hi h
  have ix : ∀ W : World, (Instr.index 53 (.agg arith_table.cells) (.int .i64 1)).run Try.prog W = .ok (.agg #[fnV 59, .nilFunc]) W := fun _ => by kernel_rfl
  have qn : ∀ W : World, (binOp .eql 41 (fnV 59) .nilFunc).run Try.prog W = .ok (.bool false) W := fun _ => by kernel_rfl
  go_enter Try.func40, Try.ntmps40
  go_wp2_with fail
  refine (arith_table.calls _).mono ?_
  rintro e1 w1 ⟨rfl, hb1⟩
  go_wp2_with (refine wpList_store_row rfl 52 _ _ rfl w1.heap.size #[fnV 59, .nilFunc] rfl rfl 52 #[.nilFunc, .nilFunc] (heap_alloc_last _ _) HI.out rfl arith_Do.one' ?_; rw [blk_stored])
  refine (arith_Mulh.calls a b r _ HA.out).mono ?_
  rintro e2 w2 ⟨rfl, hb2⟩
  go_wp2
  go_ret2
  exact ⟨rfl, arith_Do.fin hb1 (by first | exact hb2 | exact hb2.below)⟩
set_option maxHeartbeats 4000000 in
set_option maxRecDepth 100000 in
theorem arith_Do.c1t (a b : Int) (w : World) :
    Calls Try.prog 40 #[.int .i64 1, .bool true, .int .u64 a, .int .u64 b] w fun e w' => e = .returned (.tuple #[.int .u64 0, .int .i64 1]) ∧ Below w.heap.size w w' := by
  obtain ⟨hz, hi⟩ := zero_of_info arith_Do.zero
  have HI := Lib.hid hi
  clear hi
  have ix : ∀ W : World, (Instr.index 53 (.agg arith_table.cells) (.int .i64 1)).run Try.prog W = .ok (.agg #[fnV 59, .nilFunc]) W := fun _ => by kernel_rfl
  have qn : ∀ W : World, (binOp .eql 41 .nilFunc .nilFunc).run Try.prog W = .ok (.bool true) W := fun _ => by kernel_rfl
  go_enter Try.func40, Try.ntmps40
  go_wp2_with fail
  refine (arith_table.calls _).mono ?_
  rintro e1 w1 ⟨rfl, hb1⟩
  go_wp2_with (refine wpList_store_row rfl 52 _ _ rfl w1.heap.size #[fnV 59, .nilFunc] rfl rfl 52 #[.nilFunc, .nilFunc] (heap_alloc_last _ _) HI.out rfl arith_Do.one' ?_; rw [blk_stored])
  go_ret2
  exact ⟨rfl, hb1.alloc hb1.size _⟩
set_option maxHeartbeats 4000000 in
set_option maxRecDepth 100000 in
theorem arith_Do.c2f (a b r : Int) (w : World) (h : arith_Mulhsu.f a b = some r) :
    Calls Try.prog 40 #[.int .i64 2, .bool false, .int .u64 a, .int .u64 b] w fun e w' => e = .returned (.tuple #[.int .u64 r, .int .i64 0]) ∧ Below w.heap.size w w' := by
  obtain ⟨hz, hi⟩ := zero_of_info arith_Do.zero
  have HI := Lib.hid hi
  have HA := Lib.hid h
  clear hi h
  have ix : ∀ W : World, (Instr.index 53 (.agg arith_table.cells) (.int .i64 2)).run Try.prog W = .ok (.agg #[fnV 60, .nilFunc]) W := fun _ => by kernel_rfl
  have qn : ∀ W : World, (binOp .eql 41 (fnV 60) .nilFunc).run Try.prog W = .ok (.bool false) W := fun _ => by kernel_rfl
  go_enter Try.func40, Try.ntmps40
  go_wp2_with fail
  refine (arith_table.calls _).mono ?_
  rintro e1 w1 ⟨rfl, hb1⟩
  go_wp2_with (refine wpList_store_row rfl 52 _ _ rfl w1.heap.size #[fnV 60, .nilFunc] rfl rfl 52 #[.nilFunc, .nilFunc] (heap_alloc_last _ _) HI.out rfl arith_Do.one' ?_; rw [blk_stored])
  refine (arith_Mulhsu.calls a b r _ HA.out).mono ?_
  rintro e2 w2 ⟨rfl, hb2⟩
  go_wp2
  go_ret2
  exact ⟨rfl, arith_Do.fin hb1 (by first | exact hb2 | exact hb2.below)⟩
set_option maxHeartbeats 4000000 in
set_option maxRecDepth 100000 in
theorem arith_Do.c2t (a b : Int) (w : World) :
    Calls Try.prog 40 #[.int .i64 2, .bool true, .int .u64 a, .int .u64 b] w fun e w' => e = .returned (.tuple #[.int .u64 0, .int .i64 1]) ∧ Below w.heap.size w w' := by
  obtain ⟨hz, hi⟩ := zero_of_info arith_Do.zero
  have HI := Lib.hid hi
  clear hi
  have ix : ∀ W : World, (Instr.index 53 (.agg arith_table.cells) (.int .i64 2)).run Try.prog W = .ok (.agg #[fnV 60, .nilFunc]) W := fun _ => by kernel_rfl
  have qn : ∀ W : World, (binOp .eql 41 .nilFunc .nilFunc).run Try.prog W = .ok (.bool true) W := fun _ => by kernel_rfl
  go_enter Try.func40, Try.ntmps40
  go_wp2_with fail
  refine (arith_table.calls _).mono ?_
  rintro e1 w1 ⟨rfl, hb1⟩
  go_wp2_with (refine wpList_store_row rfl 52 _ _ rfl w1.heap.size #[fnV 60, .nilFunc] rfl rfl 52 #[.nilFunc, .nilFunc] (heap_alloc_last _ _) HI.out rfl arith_Do.one' ?_; rw [blk_stored])
  go_ret2
  exact ⟨rfl, hb1.alloc hb1.size _⟩
set_option maxHeartbeats 4000000 in
set_option maxRecDepth 100000 in
theorem arith_Do.c3f (a b r : Int) (w : World) (h : arith_Mulhu.f a b = some r) :
    Calls Try.prog 40 #[.int .i64 3, .bool false, .int .u64 a, .int .u64 b] w fun e w' => e = .returned (.tuple #[.int .u64 r, .int .i64 0]) ∧ Below w.heap.size w w' := by
  obtain ⟨hz, hi⟩ := zero_of_info arith_Do.zero
  have HI := Lib.hid hi
  have HA := Lib.hid h
  clear hi h
  have ix : ∀ W : World, (Instr.index 53 (.agg arith_table.cells) (.int .i64 3)).run Try.prog W = .ok (.agg #[fnV 61, .nilFunc]) W := fun _ => by kernel_rfl
  have qn : ∀ W : World, (binOp .eql 41 (fnV 61) .nilFunc).run Try.prog W = .ok (.bool false) W := fun _ => by kernel_rfl
  go_enter Try.func40, Try.ntmps40
  go_wp2_with fail
  refine (arith_table.calls _).mono ?_
  rintro e1 w1 ⟨rfl, hb1⟩
  go_wp2_with (refine wpList_store_row rfl 52 _ _ rfl w1.heap.size #[fnV 61, .nilFunc] rfl rfl 52 #[.nilFunc, .nilFunc] (heap_alloc_last _ _) HI.out rfl arith_Do.one' ?_; rw [blk_stored])
  refine (arith_Mulhu.calls a b r _ HA.out).mono ?_
  rintro e2 w2 ⟨rfl, hb2⟩
  go_wp2
  go_ret2
  exact ⟨rfl, arith_Do.fin hb1 (by first | exact hb2 | exact hb2.below)⟩
set_option maxHeartbeats 4000000 in
set_option maxRecDepth 100000 in
theorem arith_Do.c3t (a b : Int) (w : World) :
    Calls Try.prog 40 #[.int .i64 3, .bool true, .int .u64 a, .int .u64 b] w fun e w' => e = .returned (.tuple #[.int .u64 0, .int .i64 1]) ∧ Below w.heap.size w w' := by
  obtain ⟨hz, hi⟩ := zero_of_info arith_Do.zero
  have HI := Lib.hid hi
  clear hi
  have ix : ∀ W : World, (Instr.index 53 (.agg arith_table.cells) (.int .i64 3)).run Try.prog W = .ok (.agg #[fnV 61, .nilFunc]) W := fun _ => by kernel_rfl
  have qn : ∀ W : World, (binOp .eql 41 .nilFunc .nilFunc).run Try.prog W = .ok (.bool true) W := fun _ => by kernel_rfl
  go_enter Try.func40, Try.ntmps40
  go_wp2_with fail
  refine (arith_table.calls _).mono ?_
  rintro e1 w1 ⟨rfl, hb1⟩
  go_wp2_with (refine wpList_store_row rfl 52 _ _ rfl w1.heap.size #[fnV 61, .nilFunc] rfl rfl 52 #[.nilFunc, .nilFunc] (heap_alloc_last _ _) HI.out rfl arith_Do.one' ?_; rw [blk_stored])
  go_ret2
  exact ⟨rfl, hb1.alloc hb1.size _⟩
set_option maxHeartbeats 4000000 in
set_option maxRecDepth 100000 in
theorem arith_Do.c4f (a b r : Int) (w : World) (h : arith_Div.f a b = some r) :
    Calls Try.prog 40 #[.int .i64 4, .bool false, .int .u64 a, .int .u64 b] w fun e w' => e = .returned (.tuple #[.int .u64 r, .int .i64 0]) ∧ Below w.heap.size w w' := by
  obtain ⟨hz, hi⟩ := zero_of_info arith_Do.zero
  have HI := Lib.hid hi
  have HA := Lib.hid h
  clear hi h
  have ix : ∀ W : World, (Instr.index 53 (.agg arith_table.cells) (.int .i64 4)).run Try.prog W = .ok (.agg #[fnV 62, fnV 63]) W := fun _ => by kernel_rfl
  have qn : ∀ W : World, (binOp .eql 41 (fnV 62) .nilFunc).run Try.prog W = .ok (.bool false) W := fun _ => by kernel_rfl
  go_enter Try.func40, Try.ntmps40
  go_wp2_with fail
  refine (arith_table.calls _).mono ?_
  rintro e1 w1 ⟨rfl, hb1⟩
  go_wp2_with (refine wpList_store_row rfl 52 _ _ rfl w1.heap.size #[fnV 62, fnV 63] rfl rfl 52 #[.nilFunc, .nilFunc] (heap_alloc_last _ _) HI.out rfl arith_Do.one ?_; rw [blk_stored])
  refine (arith_Div.calls a b r _ HA.out).mono ?_
  rintro e2 w2 ⟨rfl, hb2⟩
  go_wp2
  go_ret2
  exact ⟨rfl, arith_Do.fin hb1 (by first | exact hb2 | exact hb2.below)⟩
set_option maxHeartbeats 4000000 in
set_option maxRecDepth 100000 in
theorem arith_Do.c4t (a b r : Int) (w : World) (h : arith_Divw.f a b = some r) :
    Calls Try.prog 40 #[.int .i64 4, .bool true, .int .u64 a, .int .u64 b] w fun e w' => e = .returned (.tuple #[.int .u64 r, .int .i64 0]) ∧ Below w.heap.size w w' := by
  obtain ⟨hz, hi⟩ := zero_of_info arith_Do.zero
  have HI := Lib.hid hi
  have HA := Lib.hid h
  clear hi h
  have ix : ∀ W : World, (Instr.index 53 (.agg arith_table.cells) (.int .i64 4)).run Try.prog W = .ok (.agg #[fnV 62, fnV 63]) W := fun _ => by kernel_rfl
  have qn : ∀ W : World, (binOp .eql 41 (fnV 63) .nilFunc).run Try.prog W = .ok (.bool false) W := fun _ => by kernel_rfl
  go_enter Try.func40, Try.ntmps40
  go_wp2_with fail
  refine (arith_table.calls _).mono ?_
  rintro e1 w1 ⟨rfl, hb1⟩
  go_wp2_with (refine wpList_store_row rfl 52 _ _ rfl w1.heap.size #[fnV 62, fnV 63] rfl rfl 52 #[.nilFunc, .nilFunc] (heap_alloc_last _ _) HI.out rfl arith_Do.one ?_; rw [blk_stored])
  refine (arith_Divw.calls a b r _ HA.out).mono ?_
  rintro e2 w2 ⟨rfl, hb2⟩
  go_wp2
  go_ret2
  exact ⟨rfl, arith_Do.fin hb1 (by first | exact hb2 | exact hb2.below)⟩
set_option maxHeartbeats 4000000 in
set_option maxRecDepth 100000 in
theorem arith_Do.c5f (a b r : Int) (w : World) (h : arith_Divu.f a b = some r) :
    Calls Try.prog 40 #[.int .i64 5, .bool false, .int .u64 a, .int .u64 b] w fun e w' => e = .returned (.tuple #[.int .u64 r, .int .i64 0]) ∧ Below w.heap.size w w' := by
  obtain ⟨hz, hi⟩ := zero_of_info arith_Do.zero
  have HI := Lib.hid hi
  have HA := Lib.hid h
  clear hi h
  have ix : ∀ W : World, (Instr.index 53 (.agg arith_table.cells) (.int .i64 5)).run Try.prog W = .ok (.agg #[fnV 64, fnV 65]) W := fun _ => by kernel_rfl
  have qn : ∀ W : World, (binOp .eql 41 (fnV 64) .nilFunc).run Try.prog W = .ok (.bool false) W := fun _ => by kernel_rfl
  go_enter Try.func40, Try.ntmps40
  go_wp2_with fail
  refine (arith_table.calls _).mono ?_
  rintro e1 w1 ⟨rfl, hb1⟩
  go_wp2_with (refine wpList_store_row rfl 52 _ _ rfl w1.heap.size #[fnV 64, fnV 65] rfl rfl 52 #[.nilFunc, .nilFunc] (heap_alloc_last _ _) HI.out rfl arith_Do.one ?_; rw [blk_stored])
  refine (arith_Divu.calls a b r _ HA.out).mono ?_
  rintro e2 w2 ⟨rfl, hb2⟩
  go_wp2
  go_ret2
  exact ⟨rfl, arith_Do.fin hb1 (by first | exact hb2 | exact hb2.below)⟩
set_option maxHeartbeats 4000000 in
set_option maxRecDepth 100000 in
theorem arith_Do.c5t (a b r : Int) (w : World) (h : arith_Divuw.f a b = some r) :
    Calls Try.prog 40 #[.int .i64 5, .bool true, .int .u64 a, .int .u64 b] w fun e w' => e = .returned (.tuple #[.int .u64 r, .int .i64 0]) ∧ Below w.heap.size w w' := by
  obtain ⟨hz, hi⟩ := zero_of_info arith_Do.zero
  have HI := Lib.hid hi
  have HA := Lib.hid h
  clear hi h
  have ix : ∀ W : World, (Instr.index 53 (.agg arith_table.cells) (.int .i64 5)).run Try.prog W = .ok (.agg #[fnV 64, fnV 65]) W := fun _ => by kernel_rfl
  have qn : ∀ W : World, (binOp .eql 41 (fnV 65) .nilFunc).run Try.prog W = .ok (.bool false) W := fun _ => by kernel_rfl
  go_enter Try.func40, Try.ntmps40
  go_wp2_with fail
  refine (arith_table.calls _).mono ?_
  rintro e1 w1 ⟨rfl, hb1⟩
  go_wp2_with (refine wpList_store_row rfl 52 _ _ rfl w1.heap.size #[fnV 64, fnV 65] rfl rfl 52 #[.nilFunc, .nilFunc] (heap_alloc_last _ _) HI.out rfl arith_Do.one ?_; rw [blk_stored])
  refine (arith_Divuw.calls a b r _ HA.out).mono ?_
  rintro e2 w2 ⟨rfl, hb2⟩
  go_wp2
  go_ret2
  exact ⟨rfl, arith_Do.fin hb1 (by first | exact hb2 | exact hb2.below)⟩
set_option maxHeartbeats 4000000 in
set_option maxRecDepth 100000 in
theorem arith_Do.c6f (a b r : Int) (w : World) (h : arith_Rem.f a b = some r) :
    Calls Try.prog 40 #[.int .i64 6, .bool false, .int .u64 a, .int .u64 b] w fun e w' => e = .returned (.tuple #[.int .u64 r, .int .i64 0]) ∧ Below w.heap.size w w' := by
  obtain ⟨hz, hi⟩ := zero_of_info arith_Do.zero
  have HI := Lib.hid hi
  have HA := Lib.hid h
  clear hi h
  have ix : ∀ W : World, (Instr.index 53 (.agg arith_table.cells) (.int .i64 6)).run Try.prog W = .ok (.agg #[fnV 66, fnV 67]) W := fun _ => by kernel_rfl
  have qn : ∀ W : World, (binOp .eql 41 (fnV 66) .nilFunc).run Try.prog W = .ok (.bool false) W := fun _ => by kernel_rfl
  go_enter Try.func40, Try.ntmps40
  go_wp2_with fail
  refine (arith_table.calls _).mono ?_
  rintro e1 w1 ⟨rfl, hb1⟩
  go_wp2_with (refine wpList_store_row rfl 52 _ _ rfl w1.heap.size #[fnV 66, fnV 67] rfl rfl 52 #[.nilFunc, .nilFunc] (heap_alloc_last _ _) HI.out rfl arith_Do.one ?_; rw [blk_stored])
  refine (arith_Rem.calls a b r _ HA.out).mono ?_
  rintro e2 w2 ⟨rfl, hb2⟩
  go_wp2
  go_ret2
  exact ⟨rfl, arith_Do.fin hb1 (by first | exact hb2 | exact hb2.below)⟩
set_option maxHeartbeats 4000000 in
set_option maxRecDepth 100000 in
theorem arith_Do.c6t (a b r : Int) (w : World) (h : arith_Remw.f a b = some r) :
    Calls Try.prog 40 #[.int .i64 6, .bool true, .int .u64 a, .int .u64 b] w fun e w' => e = .returned (.tuple #[.int .u64 r, .int .i64 0]) ∧ Below w.heap.size w w' := by
  obtain ⟨hz, hi⟩ := zero_of_info arith_Do.zero
  have HI := Lib.hid hi
  have HA := Lib.hid h
  clear hi h
  have ix : ∀ W : World, (Instr.index 53 (.agg arith_table.cells) (.int .i64 6)).run Try.prog W = .ok (.agg #[fnV 66, fnV 67]) W := fun _ => by kernel_rfl
  have qn : ∀ W : World, (binOp .eql 41 (fnV 67) .nilFunc).run Try.prog W = .ok (.bool false) W := fun _ => by kernel_rfl
  go_enter Try.func40, Try.ntmps40
  go_wp2_with fail
  refine (arith_table.calls _).mono ?_
  rintro e1 w1 ⟨rfl, hb1⟩
  go_wp2_with (refine wpList_store_row rfl 52 _ _ rfl w1.heap.size #[fnV 66, fnV 67] rfl rfl 52 #[.nilFunc, .nilFunc] (heap_alloc_last _ _) HI.out rfl arith_Do.one ?_; rw [blk_stored])
  refine (arith_Remw.calls a b r _ HA.out).mono ?_
  rintro e2 w2 ⟨rfl, hb2⟩
  go_wp2
  go_ret2
  exact ⟨rfl, arith_Do.fin hb1 (by first | exact hb2 | exact hb2.below)⟩
set_option maxHeartbeats 4000000 in
set_option maxRecDepth 100000 in
theorem arith_Do.c7f (a b r : Int) (w : World) (h : arith_Remu.f a b = some r) :
    Calls Try.prog 40 #[.int .i64 7, .bool false, .int .u64 a, .int .u64 b] w fun e w' => e = .returned (.tuple #[.int .u64 r, .int .i64 0]) ∧ Below w.heap.size w w' := by
  obtain ⟨hz, hi⟩ := zero_of_info arith_Do.zero
  have HI := Lib.hid hi
  have HA := Lib.hid h
  clear hi h
  have ix : ∀ W : World, (Instr.index 53 (.agg arith_table.cells) (.int .i64 7)).run Try.prog W = .ok (.agg #[fnV 68, fnV 69]) W := fun _ => by kernel_rfl
  have qn : ∀ W : World, (binOp .eql 41 (fnV 68) .nilFunc).run Try.prog W = .ok (.bool false) W := fun _ => by kernel_rfl
  go_enter Try.func40, Try.ntmps40
  go_wp2_with fail
  refine (arith_table.calls _).mono ?_
  rintro e1 w1 ⟨rfl, hb1⟩
  go_wp2_with (refine wpList_store_row rfl 52 _ _ rfl w1.heap.size #[fnV 68, fnV 69] rfl rfl 52 #[.nilFunc, .nilFunc] (heap_alloc_last _ _) HI.out rfl arith_Do.one ?_; rw [blk_stored])
  refine (arith_Remu.calls a b r _ HA.out).mono ?_
  rintro e2 w2 ⟨rfl, hb2⟩
  go_wp2
  go_ret2
  exact ⟨rfl, arith_Do.fin hb1 (by first | exact hb2 | exact hb2.below)⟩
set_option maxHeartbeats 4000000 in
set_option maxRecDepth 100000 in
theorem arith_Do.c7t (a b r : Int) (w : World) (h : arith_Remuw.f a b = some r) :
    Calls Try.prog 40 #[.int .i64 7, .bool true, .int .u64 a, .int .u64 b] w fun e w' => e = .returned (.tuple #[.int .u64 r, .int .i64 0]) ∧ Below w.heap.size w w' := by
  obtain ⟨hz, hi⟩ := zero_of_info arith_Do.zero
  have HI := Lib.hid hi
  have HA := Lib.hid h
  clear hi h
  have ix : ∀ W : World, (Instr.index 53 (.agg arith_table.cells) (.int .i64 7)).run Try.prog W = .ok (.agg #[fnV 68, fnV 69]) W := fun _ => by kernel_rfl
  have qn : ∀ W : World, (binOp .eql 41 (fnV 69) .nilFunc).run Try.prog W = .ok (.bool false) W := fun _ => by kernel_rfl
  go_enter Try.func40, Try.ntmps40
  go_wp2_with fail
  refine (arith_table.calls _).mono ?_
  rintro e1 w1 ⟨rfl, hb1⟩
  go_wp2_with (refine wpList_store_row rfl 52 _ _ rfl w1.heap.size #[fnV 68, fnV 69] rfl rfl 52 #[.nilFunc, .nilFunc] (heap_alloc_last _ _) HI.out rfl arith_Do.one ?_; rw [blk_stored])
  refine (arith_Remuw.calls a b r _ HA.out).mono ?_
  rintro e2 w2 ⟨rfl, hb2⟩
  go_wp2
  go_ret2
  exact ⟨rfl, arith_Do.fin hb1 (by first | exact hb2 | exact hb2.below)⟩
set_option maxHeartbeats 4000000 in
set_option maxRecDepth 100000 in
theorem arith_Do.bad (op : Int) (wd : Bool) (a b : Int) (w : World) (h : op < 0 ∨ op > 7) :
    Calls Try.prog 40 #[.int .i64 op, .bool wd, .int .u64 a, .int .u64 b] w fun e w' => e = .returned (.tuple #[.int .u64 0, .int .i64 1]) ∧ Below w.heap.size w w' := by
  by_cases h0 : op < 0
  · have d := decide_eq_true h0
    clear h h0
    go_enter Try.func40, Try.ntmps40
    go_wp2
    go_ret2
    exact ⟨rfl, Below.refl _ _⟩
  · have d := decide_eq_false h0
    have d2 : decide (7 < op) = true := decide_eq_true (by omega)
    clear h h0
    go_enter Try.func40, Try.ntmps40
    go_wp2
    go_ret2
    exact ⟨rfl, Below.refl _ _⟩
theorem arith_Do.calls (a0 : Int) (a1 : Bool) (a2 : Int) (a3 : Int) (r1 : Int) (r2 : Int) (w : World) (h : arith_Do.f a0 a1 a2 a3 = some (r1, r2)) :
    Calls Try.prog 40 #[.int .i64 a0, .bool a1, .int .u64 a2, .int .u64 a3] w fun e w' => e = .returned (.tuple #[.int .u64 r1, .int .i64 r2]) ∧ Below w.heap.size w w' := by
  unfold arith_Do.f at h
  by_cases h0 : a0 < 0
  · rw [if_pos h0] at h
    obtain ⟨rfl, rfl⟩ := Prod.mk.inj (Option.some.inj h)
    exact arith_Do.bad a0 a1 a2 a3 w (.inl h0)
  rw [if_neg h0] at h
  by_cases h7 : a0 > 7
  · rw [if_pos h7] at h
    obtain ⟨rfl, rfl⟩ := Prod.mk.inj (Option.some.inj h)
    exact arith_Do.bad a0 a1 a2 a3 w (.inr h7)
  rw [if_neg h7] at h
  have hc : a0 = 0 ∨ a0 = 1 ∨ a0 = 2 ∨ a0 = 3 ∨ a0 = 4 ∨ a0 = 5 ∨ a0 = 6 ∨ a0 = 7 := by omega
  cases a1
  · rw [if_neg (by decide)] at h
    obtain ⟨t, ht, h⟩ := Option.bind_eq_some_iff.mp h
    obtain ⟨rfl, rfl⟩ := Prod.mk.inj (Option.some.inj h)
    rcases hc with rfl | rfl | rfl | rfl | rfl | rfl | rfl | rfl

    · exact arith_Do.c0f a2 a3 _ w ht
    · exact arith_Do.c1f a2 a3 _ w ht
    · exact arith_Do.c2f a2 a3 _ w ht
    · exact arith_Do.c3f a2 a3 _ w ht
    · exact arith_Do.c4f a2 a3 _ w ht
    · exact arith_Do.c5f a2 a3 _ w ht
    · exact arith_Do.c6f a2 a3 _ w ht
    · exact arith_Do.c7f a2 a3 _ w ht
  · rw [if_pos rfl] at h
    rcases hc with rfl | rfl | rfl | rfl | rfl | rfl | rfl | rfl
    · obtain ⟨t, ht, h⟩ := Option.bind_eq_some_iff.mp h
      obtain ⟨rfl, rfl⟩ := Prod.mk.inj (Option.some.inj h)
      exact arith_Do.c0t a2 a3 _ w ht
    · obtain ⟨rfl, rfl⟩ := Prod.mk.inj (Option.some.inj h)
      exact arith_Do.c1t a2 a3 w
    · obtain ⟨rfl, rfl⟩ := Prod.mk.inj (Option.some.inj h)
      exact arith_Do.c2t a2 a3 w
    · obtain ⟨rfl, rfl⟩ := Prod.mk.inj (Option.some.inj h)
      exact arith_Do.c3t a2 a3 w
    · obtain ⟨t, ht, h⟩ := Option.bind_eq_some_iff.mp h
      obtain ⟨rfl, rfl⟩ := Prod.mk.inj (Option.some.inj h)
      exact arith_Do.c4t a2 a3 _ w ht
    · obtain ⟨t, ht, h⟩ := Option.bind_eq_some_iff.mp h
      obtain ⟨rfl, rfl⟩ := Prod.mk.inj (Option.some.inj h)
      exact arith_Do.c5t a2 a3 _ w ht
    · obtain ⟨t, ht, h⟩ := Option.bind_eq_some_iff.mp h
      obtain ⟨rfl, rfl⟩ := Prod.mk.inj (Option.some.inj h)
      exact arith_Do.c6t a2 a3 _ w ht
    · obtain ⟨t, ht, h⟩ := Option.bind_eq_some_iff.mp h
      obtain ⟨rfl, rfl⟩ := Prod.mk.inj (Option.some.inj h)
      exact arith_Do.c7t a2 a3 _ w ht
end

/-! ### alu_times: function 18 -/
def alu_times.f (a0 : Int) (a1 : Int) (a2 : Int) : Option (Int) := if a0 ≤ 57 then ((arith_Do.f (wrap64 (a0 - 50)) false a1 a2).bind fun bt119 => (some bt119.1)) else (if a0 = 58 then ((arith_Mulw.f a1 a2).bind fun t121 => (some t121)) else ((arith_Do.f (wrap64 ((wrap64 (a0 - 59)) + 4)) true a1 a2).bind fun bt122 => (some bt122.1)))
set_option maxHeartbeats 8000000 in
set_option maxRecDepth 100000 in
theorem alu_times.calls (a0 : Int) (a1 : Int) (a2 : Int) (r : Int) (w : World) (h : alu_times.f a0 a1 a2 = some r) :
    Calls Try.prog 18 #[.int .i64 a0, .int .u64 a1, .int .u64 a2] w fun e w' => e = .returned (.int .u64 r) ∧ Below w.heap.size w w' := by
  have HB := Aside0.mk (Below.refl w.heap.size w)
  have H : (if a0 ≤ 57 then ((arith_Do.f (wrap64 (a0 - 50)) false a1 a2).bind fun bt119 => (some bt119.1)) else (if a0 = 58 then ((arith_Mulw.f a1 a2).bind fun t121 => (some t121)) else ((arith_Do.f (wrap64 ((wrap64 (a0 - 59)) + 4)) true a1 a2).bind fun bt122 => (some bt122.1)))) = some r := h
  clear h
  by_cases c4 : a0 ≤ 57
  · rw [if_pos c4] at H
    have c4b0 : decide (a0 ≤ 57) = true := decide_eq_true c4
    clear c4
    replace H := Option.bind_eq_some_iff.mp H
    obtain ⟨⟨t119, t120⟩, A50, H⟩ := H
    replace H : (some t119) = some r := H
    have A5 := Aside0.mk A50
    clear A50
    obtain rfl := Option.some.inj H
    go_enter Try.func18, Try.ntmps18
    go_wp2_with (first | ((with_reducible refine gate_callee (f := 40) rfl ?_); refine goesL_ (some 25) rfl rfl Try.func40 (by kernel_rfl) rfl #[.int .i64 (wrap64 (a0 - 50)), .bool false, .int .u64 a1, .int .u64 a2] rfl (by (try simp only [List.map_toArray, List.map_cons, List.map_nil]); first | done | rfl | (simp only [List.length_drop, List.length_take]; rfl)) ?_; (with_reducible refine (arith_Do.calls (wrap64 (a0 - 50)) false a1 a2 t119 t120 _ A5.out).mono ?_); rintro e w6 ⟨rfl, hb⟩; refine ⟨_, rfl, ?_⟩; have n0_ := Aside0.mk (below_step (by repeat (first | (with_reducible first | exact HB.out | apply below_alloc | apply pw_below_drewN | apply below_drew1) | exact HB.out)) hb); clear HB; have HB := n0_; clear n0_; (try clear hb); (try clear hb2); (try clear hk); (try clear hi)))
    go_ret
    exact ⟨by first | rfl | (simp [errW_none, errW_some] <;> rfl) | (simp [*, errW_none, errW_some] <;> rfl), by repeat (first | (with_reducible first | exact HB.out | apply below_alloc | apply pw_below_drewN | apply below_drew1) | exact HB.out)⟩
  · rw [if_neg c4] at H
    have c4b0 : decide (a0 ≤ 57) = false := decide_eq_false c4
    clear c4
    by_cases c7 : a0 = 58
    · rw [if_pos c7] at H
      have c7b0 : (a0 == 58) = true := beq_iff_eq.mpr c7
      have c7b1 : (a0 != 58) = false := bne_eq_false_iff_eq.mpr c7
      clear c7
      replace H := Option.bind_eq_some_iff.mp H
      obtain ⟨t121, A80, H⟩ := H
      replace H : (some t121) = some r := H
      have A8 := Aside0.mk A80
      clear A80
      obtain rfl := Option.some.inj H
      go_enter Try.func18, Try.ntmps18
      go_wp2_with (first | ((with_reducible refine gate_callee (f := 41) rfl ?_); refine goesL_ (some 33) rfl rfl Try.func41 (by kernel_rfl) rfl #[.int .u64 a1, .int .u64 a2] rfl (by (try simp only [List.map_toArray, List.map_cons, List.map_nil]); first | done | rfl | (simp only [List.length_drop, List.length_take]; rfl)) ?_; (with_reducible refine (arith_Mulw.calls a1 a2 t121 _ A8.out).mono ?_); rintro e w' ⟨rfl, ⟨nd, rfl⟩⟩; refine ⟨_, rfl, ?_⟩))
      go_ret
      exact ⟨by first | rfl | (simp [errW_none, errW_some] <;> rfl) | (simp [*, errW_none, errW_some] <;> rfl), by repeat (first | (with_reducible first | exact HB.out | apply below_alloc | apply pw_below_drewN | apply below_drew1) | exact HB.out)⟩
    · rw [if_neg c7] at H
      have c7b0 : (a0 == 58) = false := beq_eq_false_iff_ne.mpr c7
      have c7b1 : (a0 != 58) = true := bne_iff_ne.mpr c7
      replace H := Option.bind_eq_some_iff.mp H
      obtain ⟨⟨t122, t123⟩, A90, H⟩ := H
      replace H : (some t122) = some r := H
      have A9 := Aside0.mk A90
      clear A90
      obtain rfl := Option.some.inj H
      go_enter Try.func18, Try.ntmps18
      go_wp2_with (first | ((with_reducible refine gate_callee (f := 40) rfl ?_); refine goesL_ (some 14) rfl rfl Try.func40 (by kernel_rfl) rfl #[.int .i64 (wrap64 ((wrap64 (a0 - 59)) + 4)), .bool true, .int .u64 a1, .int .u64 a2] rfl (by (try simp only [List.map_toArray, List.map_cons, List.map_nil]); first | done | rfl | (simp only [List.length_drop, List.length_take]; rfl)) ?_; (with_reducible refine (arith_Do.calls (wrap64 ((wrap64 (a0 - 59)) + 4)) true a1 a2 t122 t123 _ A9.out).mono ?_); rintro e w10 ⟨rfl, hb⟩; refine ⟨_, rfl, ?_⟩; have n0_ := Aside0.mk (below_step (by repeat (first | (with_reducible first | exact HB.out | apply below_alloc | apply pw_below_drewN | apply below_drew1) | exact HB.out)) hb); clear HB; have HB := n0_; clear n0_; (try clear hb); (try clear hb2); (try clear hk); (try clear hi)))
      go_ret
      exact ⟨by first | rfl | (simp [errW_none, errW_some] <;> rfl) | (simp [*, errW_none, errW_some] <;> rfl), by repeat (first | (with_reducible first | exact HB.out | apply below_alloc | apply pw_below_drewN | apply below_drew1) | exact HB.out)⟩

/-! ### alu_one: function 43 -/
def alu_one.f (a0 : Bool) : Option (Int) := if a0 = true then (some 1) else (some 0)
set_option maxHeartbeats 8000000 in
set_option maxRecDepth 100000 in
theorem alu_one.calls (a0 : Bool) (r : Int) (w : World) (h : alu_one.f a0 = some r) :
    Calls Try.prog 43 #[.bool a0] w fun e w' => e = .returned (.int .u64 r) ∧ Drawn0 w w' := by
  have H : (if a0 = true then (some 1) else (some 0)) = some r := h
  clear h
  by_cases c2 : a0 = true
  · subst c2
    have H1 : (some 1) = some r := by rw [if_pos rfl] at H; exact H
    clear H
    have H := H1
    clear H1
    obtain rfl := Option.some.inj H
    go_enter Try.func43, Try.ntmps43
    go_wp2
    go_ret
    exact ⟨by first | rfl | (simp; done) | (simp [*]; done), by repeat (first | exact Drawn0.refl _ | apply Drawn0.step)⟩
  · replace c2 := Bool.eq_false_iff.mpr c2
    subst c2
    have H1 : (some 0) = some r := by rw [if_neg (show ¬ (false = true) by decide)] at H; exact H
    clear H
    have H := H1
    clear H1
    obtain rfl := Option.some.inj H
    go_enter Try.func43, Try.ntmps43
    go_wp2
    go_ret
    exact ⟨by first | rfl | (simp; done) | (simp [*]; done), by repeat (first | exact Drawn0.refl _ | apply Drawn0.step)⟩

end Go.Proofs.Ytbfdehkejohjhaa.Q
