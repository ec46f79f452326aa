/- Where the Lean function of a Go function gives a value, the Go call returns that value and changes nothing that was there: for every input. (By a program of this session, and by hand.) -/
import Derived.Test.YtbfdehkejohjhaaQx0
import Derived.Test.YtbfdehkejohjhaaQx2
namespace Go.Proofs.Ytbfdehkejohjhaa.Q
open Go.RowKit Go.Proofs.YtbfdehkejohjhaaW.PrintWords Go.Proofs.YtbfdehkejohjhaaW.PrintLast Go.Proofs.YtbfdehkejohjhaaW.PrintMore
attribute [local go_sem] max2_int min2_int max_two min_two max_three min_three max_four min_four   -- for this text's walks alone
set_option linter.unusedVariables false
set_option linter.unusedSimpArgs false

/-! ### alu_long: by hand -/
section
open Go.Proofs.Ytbfdehkejohjhaa.Bv
def alu_long.f (op : Int) (a : Int) (b : Int) : Option (Int × Bool) :=
  if op = 22 ∨ op = 35 then some (IntKind.u64.wrap (a + b), true)
  else if op = 36 then some (IntKind.u64.wrap (a - b), true)
  else if op = 23 ∨ op = 38 then (alu_one.f (decide (wrap64 a < wrap64 b))).bind fun t => some (t, true)
  else if op = 24 ∨ op = 39 then (alu_one.f (decide (a < b))).bind fun t => some (t, true)
  else if op = 25 ∨ op = 40 then some (Go.bits .xor .u64 a b, true)
  else if op = 26 ∨ op = 43 then some (Go.bits .or .u64 a b, true)
  else if op = 27 ∨ op = 44 then some (Go.bits .and .u64 a b, true)
  else if op = 28 ∨ op = 37 then some (shl .u64 a (Go.bits .and .u64 b 63), true)
  else if op = 29 ∨ op = 41 then some (shr .u64 a (Go.bits .and .u64 b 63), true)
  else if op = 30 ∨ op = 42 then some (IntKind.u64.wrap (shr .i64 (wrap64 a) (Go.bits .and .u64 b 63)), true)
  else some (0, false)
theorem alu_long.two (w : World) (x y : Obj) : Below w.heap.size w ((w.alloc x).alloc y) := ((Below.refl _ _).alloc (Nat.le_refl _) x).alloc (by simp) y
theorem alu_long.fin {w w1 w2 : World} (h1 : Below w.heap.size w w1) (h2 : Drawn0 w1 w2) : Below w.heap.size w w2 := below_step h1 (h2.below)
set_option maxHeartbeats 4000000 in
set_option maxRecDepth 100000 in
theorem alu_long.c22 (a b : Int) (w : World) :
    Calls Try.prog 19 #[.int .i64 22, .int .u64 a, .int .u64 b] w fun e w' => e = .returned (.tuple #[.int .u64 (IntKind.u64.wrap (a + b)), .bool true]) ∧ Below w.heap.size w w' := by
  have hmf : ∀ (fn : Fn) (first cap : Array Value) (w : World), (Instr.makeFunc fn first cap).run Try.prog w = .ok (.func fn first cap) w := fun _ _ _ _ => rfl
  go_enter Try.func19, Try.ntmps19
  go_wp2
  go_ret2
  exact ⟨rfl, alu_long.two w _ _⟩
set_option maxHeartbeats 4000000 in
set_option maxRecDepth 100000 in
theorem alu_long.c35 (a b : Int) (w : World) :
    Calls Try.prog 19 #[.int .i64 35, .int .u64 a, .int .u64 b] w fun e w' => e = .returned (.tuple #[.int .u64 (IntKind.u64.wrap (a + b)), .bool true]) ∧ Below w.heap.size w w' := by
  have hmf : ∀ (fn : Fn) (first cap : Array Value) (w : World), (Instr.makeFunc fn first cap).run Try.prog w = .ok (.func fn first cap) w := fun _ _ _ _ => rfl
  go_enter Try.func19, Try.ntmps19
  go_wp2
  go_ret2
  exact ⟨rfl, alu_long.two w _ _⟩
set_option maxHeartbeats 4000000 in
set_option maxRecDepth 100000 in
theorem alu_long.c36 (a b : Int) (w : World) :
    Calls Try.prog 19 #[.int .i64 36, .int .u64 a, .int .u64 b] w fun e w' => e = .returned (.tuple #[.int .u64 (IntKind.u64.wrap (a - b)), .bool true]) ∧ Below w.heap.size w w' := by
  have hmf : ∀ (fn : Fn) (first cap : Array Value) (w : World), (Instr.makeFunc fn first cap).run Try.prog w = .ok (.func fn first cap) w := fun _ _ _ _ => rfl
  go_enter Try.func19, Try.ntmps19
  go_wp2
  go_ret2
  exact ⟨rfl, alu_long.two w _ _⟩
set_option maxHeartbeats 4000000 in
set_option maxRecDepth 100000 in
theorem alu_long.c23 (a b r : Int) (w : World) (h : alu_one.f (decide (wrap64 a < wrap64 b)) = some r) :
    Calls Try.prog 19 #[.int .i64 23, .int .u64 a, .int .u64 b] w fun e w' => e = .returned (.tuple #[.int .u64 r, .bool true]) ∧ Below w.heap.size w w' := by
  have hmf : ∀ (fn : Fn) (first cap : Array Value) (w : World), (Instr.makeFunc fn first cap).run Try.prog w = .ok (.func fn first cap) w := fun _ _ _ _ => rfl
  go_enter Try.func19, Try.ntmps19
  go_wp2_with fail
  refine (alu_one.calls _ r _ h).mono ?_
  rintro e1 w1 ⟨rfl, hb1⟩
  go_wp2
  go_ret2
  exact ⟨rfl, alu_long.fin (alu_long.two w _ _) hb1⟩
set_option maxHeartbeats 4000000 in
set_option maxRecDepth 100000 in
theorem alu_long.c38 (a b r : Int) (w : World) (h : alu_one.f (decide (wrap64 a < wrap64 b)) = some r) :
    Calls Try.prog 19 #[.int .i64 38, .int .u64 a, .int .u64 b] w fun e w' => e = .returned (.tuple #[.int .u64 r, .bool true]) ∧ Below w.heap.size w w' := by
  have hmf : ∀ (fn : Fn) (first cap : Array Value) (w : World), (Instr.makeFunc fn first cap).run Try.prog w = .ok (.func fn first cap) w := fun _ _ _ _ => rfl
  go_enter Try.func19, Try.ntmps19
  go_wp2_with fail
  refine (alu_one.calls _ r _ h).mono ?_
  rintro e1 w1 ⟨rfl, hb1⟩
  go_wp2
  go_ret2
  exact ⟨rfl, alu_long.fin (alu_long.two w _ _) hb1⟩
set_option maxHeartbeats 4000000 in
set_option maxRecDepth 100000 in
theorem alu_long.c24 (a b r : Int) (w : World) (h : alu_one.f (decide (a < b)) = some r) :
    Calls Try.prog 19 #[.int .i64 24, .int .u64 a, .int .u64 b] w fun e w' => e = .returned (.tuple #[.int .u64 r, .bool true]) ∧ Below w.heap.size w w' := by
  have hmf : ∀ (fn : Fn) (first cap : Array Value) (w : World), (Instr.makeFunc fn first cap).run Try.prog w = .ok (.func fn first cap) w := fun _ _ _ _ => rfl
  go_enter Try.func19, Try.ntmps19
  go_wp2_with fail
  refine (alu_one.calls _ r _ h).mono ?_
  rintro e1 w1 ⟨rfl, hb1⟩
  go_wp2
  go_ret2
  exact ⟨rfl, alu_long.fin (alu_long.two w _ _) hb1⟩
set_option maxHeartbeats 4000000 in
set_option maxRecDepth 100000 in
theorem alu_long.c39 (a b r : Int) (w : World) (h : alu_one.f (decide (a < b)) = some r) :
    Calls Try.prog 19 #[.int .i64 39, .int .u64 a, .int .u64 b] w fun e w' => e = .returned (.tuple #[.int .u64 r, .bool true]) ∧ Below w.heap.size w w' := by
  have hmf : ∀ (fn : Fn) (first cap : Array Value) (w : World), (Instr.makeFunc fn first cap).run Try.prog w = .ok (.func fn first cap) w := fun _ _ _ _ => rfl
  go_enter Try.func19, Try.ntmps19
  go_wp2_with fail
  refine (alu_one.calls _ r _ h).mono ?_
  rintro e1 w1 ⟨rfl, hb1⟩
  go_wp2
  go_ret2
  exact ⟨rfl, alu_long.fin (alu_long.two w _ _) hb1⟩
set_option maxHeartbeats 4000000 in
set_option maxRecDepth 100000 in
theorem alu_long.c25 (a b : Int) (w : World) :
    Calls Try.prog 19 #[.int .i64 25, .int .u64 a, .int .u64 b] w fun e w' => e = .returned (.tuple #[.int .u64 (Go.bits .xor .u64 a b), .bool true]) ∧ Below w.heap.size w w' := by
  have hmf : ∀ (fn : Fn) (first cap : Array Value) (w : World), (Instr.makeFunc fn first cap).run Try.prog w = .ok (.func fn first cap) w := fun _ _ _ _ => rfl
  go_enter Try.func19, Try.ntmps19
  go_wp2
  go_ret2
  exact ⟨rfl, alu_long.two w _ _⟩
set_option maxHeartbeats 4000000 in
set_option maxRecDepth 100000 in
theorem alu_long.c40 (a b : Int) (w : World) :
    Calls Try.prog 19 #[.int .i64 40, .int .u64 a, .int .u64 b] w fun e w' => e = .returned (.tuple #[.int .u64 (Go.bits .xor .u64 a b), .bool true]) ∧ Below w.heap.size w w' := by
  have hmf : ∀ (fn : Fn) (first cap : Array Value) (w : World), (Instr.makeFunc fn first cap).run Try.prog w = .ok (.func fn first cap) w := fun _ _ _ _ => rfl
  go_enter Try.func19, Try.ntmps19
  go_wp2
  go_ret2
  exact ⟨rfl, alu_long.two w _ _⟩
set_option maxHeartbeats 4000000 in
set_option maxRecDepth 100000 in
theorem alu_long.c26 (a b : Int) (w : World) :
    Calls Try.prog 19 #[.int .i64 26, .int .u64 a, .int .u64 b] w fun e w' => e = .returned (.tuple #[.int .u64 (Go.bits .or .u64 a b), .bool true]) ∧ Below w.heap.size w w' := by
  have hmf : ∀ (fn : Fn) (first cap : Array Value) (w : World), (Instr.makeFunc fn first cap).run Try.prog w = .ok (.func fn first cap) w := fun _ _ _ _ => rfl
  go_enter Try.func19, Try.ntmps19
  go_wp2
  go_ret2
  exact ⟨rfl, alu_long.two w _ _⟩
set_option maxHeartbeats 4000000 in
set_option maxRecDepth 100000 in
theorem alu_long.c43 (a b : Int) (w : World) :
    Calls Try.prog 19 #[.int .i64 43, .int .u64 a, .int .u64 b] w fun e w' => e = .returned (.tuple #[.int .u64 (Go.bits .or .u64 a b), .bool true]) ∧ Below w.heap.size w w' := by
  have hmf : ∀ (fn : Fn) (first cap : Array Value) (w : World), (Instr.makeFunc fn first cap).run Try.prog w = .ok (.func fn first cap) w := fun _ _ _ _ => rfl
  go_enter Try.func19, Try.ntmps19
  go_wp2
  go_ret2
  exact ⟨rfl, alu_long.two w _ _⟩
set_option maxHeartbeats 4000000 in
set_option maxRecDepth 100000 in
theorem alu_long.c27 (a b : Int) (w : World) :
    Calls Try.prog 19 #[.int .i64 27, .int .u64 a, .int .u64 b] w fun e w' => e = .returned (.tuple #[.int .u64 (Go.bits .and .u64 a b), .bool true]) ∧ Below w.heap.size w w' := by
  have hmf : ∀ (fn : Fn) (first cap : Array Value) (w : World), (Instr.makeFunc fn first cap).run Try.prog w = .ok (.func fn first cap) w := fun _ _ _ _ => rfl
  go_enter Try.func19, Try.ntmps19
  go_wp2
  go_ret2
  exact ⟨rfl, alu_long.two w _ _⟩
set_option maxHeartbeats 4000000 in
set_option maxRecDepth 100000 in
theorem alu_long.c44 (a b : Int) (w : World) :
    Calls Try.prog 19 #[.int .i64 44, .int .u64 a, .int .u64 b] w fun e w' => e = .returned (.tuple #[.int .u64 (Go.bits .and .u64 a b), .bool true]) ∧ Below w.heap.size w w' := by
  have hmf : ∀ (fn : Fn) (first cap : Array Value) (w : World), (Instr.makeFunc fn first cap).run Try.prog w = .ok (.func fn first cap) w := fun _ _ _ _ => rfl
  go_enter Try.func19, Try.ntmps19
  go_wp2
  go_ret2
  exact ⟨rfl, alu_long.two w _ _⟩
set_option maxHeartbeats 4000000 in
set_option maxRecDepth 100000 in
theorem alu_long.c28 (a b : Int) (w : World) :
    Calls Try.prog 19 #[.int .i64 28, .int .u64 a, .int .u64 b] w fun e w' => e = .returned (.tuple #[.int .u64 (shl .u64 a (Go.bits .and .u64 b 63)), .bool true]) ∧ Below w.heap.size w w' := by
  have hmf : ∀ (fn : Fn) (first cap : Array Value) (w : World), (Instr.makeFunc fn first cap).run Try.prog w = .ok (.func fn first cap) w := fun _ _ _ _ => rfl
  have h : 0 ≤ Go.bits .and .u64 b 63 := by rw [and_u64]; exact (U_range _).1
  go_enter Try.func19, Try.ntmps19
  go_wp2
  go_ret2
  exact ⟨rfl, alu_long.two w _ _⟩
set_option maxHeartbeats 4000000 in
set_option maxRecDepth 100000 in
theorem alu_long.c37 (a b : Int) (w : World) :
    Calls Try.prog 19 #[.int .i64 37, .int .u64 a, .int .u64 b] w fun e w' => e = .returned (.tuple #[.int .u64 (shl .u64 a (Go.bits .and .u64 b 63)), .bool true]) ∧ Below w.heap.size w w' := by
  have hmf : ∀ (fn : Fn) (first cap : Array Value) (w : World), (Instr.makeFunc fn first cap).run Try.prog w = .ok (.func fn first cap) w := fun _ _ _ _ => rfl
  have h : 0 ≤ Go.bits .and .u64 b 63 := by rw [and_u64]; exact (U_range _).1
  go_enter Try.func19, Try.ntmps19
  go_wp2
  go_ret2
  exact ⟨rfl, alu_long.two w _ _⟩
set_option maxHeartbeats 4000000 in
set_option maxRecDepth 100000 in
theorem alu_long.c29 (a b : Int) (w : World) :
    Calls Try.prog 19 #[.int .i64 29, .int .u64 a, .int .u64 b] w fun e w' => e = .returned (.tuple #[.int .u64 (shr .u64 a (Go.bits .and .u64 b 63)), .bool true]) ∧ Below w.heap.size w w' := by
  have hmf : ∀ (fn : Fn) (first cap : Array Value) (w : World), (Instr.makeFunc fn first cap).run Try.prog w = .ok (.func fn first cap) w := fun _ _ _ _ => rfl
  have h : 0 ≤ Go.bits .and .u64 b 63 := by rw [and_u64]; exact (U_range _).1
  go_enter Try.func19, Try.ntmps19
  go_wp2
  go_ret2
  exact ⟨rfl, alu_long.two w _ _⟩
set_option maxHeartbeats 4000000 in
set_option maxRecDepth 100000 in
theorem alu_long.c41 (a b : Int) (w : World) :
    Calls Try.prog 19 #[.int .i64 41, .int .u64 a, .int .u64 b] w fun e w' => e = .returned (.tuple #[.int .u64 (shr .u64 a (Go.bits .and .u64 b 63)), .bool true]) ∧ Below w.heap.size w w' := by
  have hmf : ∀ (fn : Fn) (first cap : Array Value) (w : World), (Instr.makeFunc fn first cap).run Try.prog w = .ok (.func fn first cap) w := fun _ _ _ _ => rfl
  have h : 0 ≤ Go.bits .and .u64 b 63 := by rw [and_u64]; exact (U_range _).1
  go_enter Try.func19, Try.ntmps19
  go_wp2
  go_ret2
  exact ⟨rfl, alu_long.two w _ _⟩
set_option maxHeartbeats 4000000 in
set_option maxRecDepth 100000 in
theorem alu_long.c30 (a b : Int) (w : World) :
    Calls Try.prog 19 #[.int .i64 30, .int .u64 a, .int .u64 b] w fun e w' => e = .returned (.tuple #[.int .u64 (IntKind.u64.wrap (shr .i64 (wrap64 a) (Go.bits .and .u64 b 63))), .bool true]) ∧ Below w.heap.size w w' := by
  have hmf : ∀ (fn : Fn) (first cap : Array Value) (w : World), (Instr.makeFunc fn first cap).run Try.prog w = .ok (.func fn first cap) w := fun _ _ _ _ => rfl
  have h : 0 ≤ Go.bits .and .u64 b 63 := by rw [and_u64]; exact (U_range _).1
  go_enter Try.func19, Try.ntmps19
  go_wp2
  go_ret2
  exact ⟨rfl, alu_long.two w _ _⟩
set_option maxHeartbeats 4000000 in
set_option maxRecDepth 100000 in
theorem alu_long.c42 (a b : Int) (w : World) :
    Calls Try.prog 19 #[.int .i64 42, .int .u64 a, .int .u64 b] w fun e w' => e = .returned (.tuple #[.int .u64 (IntKind.u64.wrap (shr .i64 (wrap64 a) (Go.bits .and .u64 b 63))), .bool true]) ∧ Below w.heap.size w w' := by
  have hmf : ∀ (fn : Fn) (first cap : Array Value) (w : World), (Instr.makeFunc fn first cap).run Try.prog w = .ok (.func fn first cap) w := fun _ _ _ _ => rfl
  have h : 0 ≤ Go.bits .and .u64 b 63 := by rw [and_u64]; exact (U_range _).1
  go_enter Try.func19, Try.ntmps19
  go_wp2
  go_ret2
  exact ⟨rfl, alu_long.two w _ _⟩
set_option maxHeartbeats 4000000 in
set_option maxRecDepth 100000 in
theorem alu_long.bad (op a b : Int) (w : World) (h22 : ¬op = 22) (h23 : ¬op = 23) (h24 : ¬op = 24) (h25 : ¬op = 25) (h26 : ¬op = 26) (h27 : ¬op = 27) (h28 : ¬op = 28) (h29 : ¬op = 29) (h30 : ¬op = 30) (h35 : ¬op = 35) (h36 : ¬op = 36) (h37 : ¬op = 37) (h38 : ¬op = 38) (h39 : ¬op = 39) (h40 : ¬op = 40) (h41 : ¬op = 41) (h42 : ¬op = 42) (h43 : ¬op = 43) (h44 : ¬op = 44) :
    Calls Try.prog 19 #[.int .i64 op, .int .u64 a, .int .u64 b] w fun e w' => e = .returned (.tuple #[.int .u64 0, .bool false]) ∧ Below w.heap.size w w' := by
  have hmf : ∀ (fn : Fn) (first cap : Array Value) (w : World), (Instr.makeFunc fn first cap).run Try.prog w = .ok (.func fn first cap) w := fun _ _ _ _ => rfl
  have d22 := decide_eq_false h22
  have d23 := decide_eq_false h23
  have d24 := decide_eq_false h24
  have d25 := decide_eq_false h25
  have d26 := decide_eq_false h26
  have d27 := decide_eq_false h27
  have d28 := decide_eq_false h28
  have d29 := decide_eq_false h29
  have d30 := decide_eq_false h30
  have d35 := decide_eq_false h35
  have d36 := decide_eq_false h36
  have d37 := decide_eq_false h37
  have d38 := decide_eq_false h38
  have d39 := decide_eq_false h39
  have d40 := decide_eq_false h40
  have d41 := decide_eq_false h41
  have d42 := decide_eq_false h42
  have d43 := decide_eq_false h43
  have d44 := decide_eq_false h44
  go_enter Try.func19, Try.ntmps19
  go_wp2
  go_ret2
  exact ⟨rfl, alu_long.two w _ _⟩
theorem alu_long.calls (a0 a1 a2 r1 : Int) (r2 : Bool) (w : World) (h : alu_long.f a0 a1 a2 = some (r1, r2)) :
    Calls Try.prog 19 #[.int .i64 a0, .int .u64 a1, .int .u64 a2] w fun e w' => e = .returned (.tuple #[.int .u64 r1, .bool r2]) ∧ Below w.heap.size w w' := by
  unfold alu_long.f at h
  by_cases h_add : a0 = 22 ∨ a0 = 35
  · rw [if_pos h_add] at h
    obtain ⟨rfl, rfl⟩ := Prod.mk.inj (Option.some.inj h)
    rcases h_add with rfl | rfl
    · exact alu_long.c22 a1 a2 w
    · exact alu_long.c35 a1 a2 w
  rw [if_neg h_add] at h
  by_cases h_sub : a0 = 36
  · rw [if_pos h_sub] at h
    obtain ⟨rfl, rfl⟩ := Prod.mk.inj (Option.some.inj h)
    subst h_sub
    exact alu_long.c36 a1 a2 w
  rw [if_neg h_sub] at h
  by_cases h_slt : a0 = 23 ∨ a0 = 38
  · rw [if_pos h_slt] at h
    obtain ⟨t, ht, h⟩ := Option.bind_eq_some_iff.mp h
    obtain ⟨rfl, rfl⟩ := Prod.mk.inj (Option.some.inj h)
    rcases h_slt with rfl | rfl
    · exact alu_long.c23 a1 a2 _ w ht
    · exact alu_long.c38 a1 a2 _ w ht
  rw [if_neg h_slt] at h
  by_cases h_sltu : a0 = 24 ∨ a0 = 39
  · rw [if_pos h_sltu] at h
    obtain ⟨t, ht, h⟩ := Option.bind_eq_some_iff.mp h
    obtain ⟨rfl, rfl⟩ := Prod.mk.inj (Option.some.inj h)
    rcases h_sltu with rfl | rfl
    · exact alu_long.c24 a1 a2 _ w ht
    · exact alu_long.c39 a1 a2 _ w ht
  rw [if_neg h_sltu] at h
  by_cases h_xor : a0 = 25 ∨ a0 = 40
  · rw [if_pos h_xor] at h
    obtain ⟨rfl, rfl⟩ := Prod.mk.inj (Option.some.inj h)
    rcases h_xor with rfl | rfl
    · exact alu_long.c25 a1 a2 w
    · exact alu_long.c40 a1 a2 w
  rw [if_neg h_xor] at h
  by_cases h_or : a0 = 26 ∨ a0 = 43
  · rw [if_pos h_or] at h
    obtain ⟨rfl, rfl⟩ := Prod.mk.inj (Option.some.inj h)
    rcases h_or with rfl | rfl
    · exact alu_long.c26 a1 a2 w
    · exact alu_long.c43 a1 a2 w
  rw [if_neg h_or] at h
  by_cases h_and : a0 = 27 ∨ a0 = 44
  · rw [if_pos h_and] at h
    obtain ⟨rfl, rfl⟩ := Prod.mk.inj (Option.some.inj h)
    rcases h_and with rfl | rfl
    · exact alu_long.c27 a1 a2 w
    · exact alu_long.c44 a1 a2 w
  rw [if_neg h_and] at h
  by_cases h_sll : a0 = 28 ∨ a0 = 37
  · rw [if_pos h_sll] at h
    obtain ⟨rfl, rfl⟩ := Prod.mk.inj (Option.some.inj h)
    rcases h_sll with rfl | rfl
    · exact alu_long.c28 a1 a2 w
    · exact alu_long.c37 a1 a2 w
  rw [if_neg h_sll] at h
  by_cases h_srl : a0 = 29 ∨ a0 = 41
  · rw [if_pos h_srl] at h
    obtain ⟨rfl, rfl⟩ := Prod.mk.inj (Option.some.inj h)
    rcases h_srl with rfl | rfl
    · exact alu_long.c29 a1 a2 w
    · exact alu_long.c41 a1 a2 w
  rw [if_neg h_srl] at h
  by_cases h_sra : a0 = 30 ∨ a0 = 42
  · rw [if_pos h_sra] at h
    obtain ⟨rfl, rfl⟩ := Prod.mk.inj (Option.some.inj h)
    rcases h_sra with rfl | rfl
    · exact alu_long.c30 a1 a2 w
    · exact alu_long.c42 a1 a2 w
  rw [if_neg h_sra] at h
  obtain ⟨rfl, rfl⟩ := Prod.mk.inj (Option.some.inj h)
  exact alu_long.bad a0 a1 a2 w (by omega) (by omega) (by omega) (by omega) (by omega) (by omega) (by omega) (by omega) (by omega) (by omega) (by omega) (by omega) (by omega) (by omega) (by omega) (by omega) (by omega) (by omega) (by omega)
end

/-! ### alu_low: function 47 -/
def alu_low.f (a0 : Int) : Option (Int) := some (IntKind.u64.wrap (wrap64 (wrap32 (a0))))
set_option maxHeartbeats 8000000 in
set_option maxRecDepth 100000 in
theorem alu_low.calls (a0 : Int) (r : Int) (w : World) (h : alu_low.f a0 = some r) :
    Calls Try.prog 47 #[.int .u64 a0] w fun e w' => e = .returned (.int .u64 r) ∧ Drawn0 w w' := by
  have H : (some (IntKind.u64.wrap (wrap64 (wrap32 (a0))))) = some r := h
  clear h
  obtain rfl := Option.some.inj H
  go_enter Try.func47, Try.ntmps47
  go_wp2
  go_ret
  exact ⟨by first | rfl | (simp; done) | (simp [*]; done), by repeat (first | exact Drawn0.refl _ | apply Drawn0.step)⟩

end Go.Proofs.Ytbfdehkejohjhaa.Q
