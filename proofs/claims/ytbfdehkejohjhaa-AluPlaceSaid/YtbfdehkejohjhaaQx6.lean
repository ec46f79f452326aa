/- Where the Lean function of a Go function gives a value, the Go call returns that value and changes nothing that was there: for every input. (By a program of this session, and by hand.) -/
import Derived.Test.YtbfdehkejohjhaaQx0
namespace Go.Proofs.Ytbfdehkejohjhaa.Q
open Go.RowKit Go.Proofs.YtbfdehkejohjhaaW.PrintWords Go.Proofs.YtbfdehkejohjhaaW.PrintLast Go.Proofs.YtbfdehkejohjhaaW.PrintMore
attribute [local go_sem] max2_int min2_int max_two min_two max_three min_three max_four min_four   -- for this text's walks alone
set_option linter.unusedVariables false
set_option linter.unusedSimpArgs false

/-! ### mezzanineref21_one: function 21 -/
def mezzanineref21_one.f (a0 : Bool) : Option (Int) := if a0 = true then (some 1) else (some 0)
set_option maxHeartbeats 8000000 in
set_option maxRecDepth 100000 in
theorem mezzanineref21_one.calls (a0 : Bool) (r : Int) (w : World) (h : mezzanineref21_one.f a0 = some r) :
    Calls Try.prog 21 #[.bool a0] w fun e w' => e = .returned (.int .u64 r) ∧ Drawn0 w w' := by
  have H : (if a0 = true then (some 1) else (some 0)) = some r := h
  clear h
  by_cases c2 : a0 = true
  · subst c2
    have H1 : (some 1) = some r := by rw [if_pos rfl] at H; exact H
    clear H
    have H := H1
    clear H1
    obtain rfl := Option.some.inj H
    go_enter Try.func21, Try.ntmps21
    go_wp2
    go_ret
    exact ⟨by first | rfl | (simp; done) | (simp [*]; done), by repeat (first | exact Drawn0.refl _ | apply Drawn0.step)⟩
  · replace c2 := Bool.eq_false_iff.mpr c2
    subst c2
    have H1 : (some 0) = some r := by rw [if_neg (show ¬ (false = true) by decide)] at H; exact H
    clear H
    have H := H1
    clear H1
    obtain rfl := Option.some.inj H
    go_enter Try.func21, Try.ntmps21
    go_wp2
    go_ret
    exact ⟨by first | rfl | (simp; done) | (simp [*]; done), by repeat (first | exact Drawn0.refl _ | apply Drawn0.step)⟩

/-! ### mezzanineref21_Less: function 22 -/
def mezzanineref21_Less.f (a0 : Int) (a1 : Int) : Option (Bool) := if ((decide (a0 ≥ 9223372036854775808)) != (decide (a1 ≥ 9223372036854775808))) = true then (some (decide (a0 ≥ 9223372036854775808))) else (some (decide (a0 < a1)))
set_option maxHeartbeats 8000000 in
set_option maxRecDepth 100000 in
theorem mezzanineref21_Less.calls (a0 : Int) (a1 : Int) (r : Bool) (w : World) (h : mezzanineref21_Less.f a0 a1 = some r) :
    Calls Try.prog 22 #[.int .u64 a0, .int .u64 a1] w fun e w' => e = .returned (.bool r) ∧ Drawn0 w w' := by
  have H : (if ((decide (a0 ≥ 9223372036854775808)) != (decide (a1 ≥ 9223372036854775808))) = true then (some (decide (a0 ≥ 9223372036854775808))) else (some (decide (a0 < a1)))) = some r := h
  clear h
  by_cases c3 : ((decide (a0 ≥ 9223372036854775808)) != (decide (a1 ≥ 9223372036854775808))) = true
  · rw [if_pos c3] at H
    have c3b0 : ((decide (a0 ≥ 9223372036854775808)) != (decide (a1 ≥ 9223372036854775808))) = true := c3
    (try (have c3b1 : decide ((decide (a0 ≥ 9223372036854775808)) = (decide (a1 ≥ 9223372036854775808))) = false := by simpa using c3))
    (try (have c3b2 : ((decide (a0 ≥ 9223372036854775808)) == (decide (a1 ≥ 9223372036854775808))) = false := by simpa using c3))
    (try (have c3b3 : ¬ ((decide (a0 ≥ 9223372036854775808)) = (decide (a1 ≥ 9223372036854775808))) := by simpa using c3))
    clear c3
    obtain rfl := Option.some.inj H
    go_enter Try.func22, Try.ntmps22
    go_wp2
    go_ret
    exact ⟨by first | rfl | (simp; done) | (simp [*]; done), by repeat (first | exact Drawn0.refl _ | apply Drawn0.step)⟩
  · rw [if_neg c3] at H
    have c3b0 : ((decide (a0 ≥ 9223372036854775808)) != (decide (a1 ≥ 9223372036854775808))) = false := by simpa using c3
    (try (have c3b1 : decide ((decide (a0 ≥ 9223372036854775808)) = (decide (a1 ≥ 9223372036854775808))) = true := by simpa using c3))
    (try (have c3b2 : ((decide (a0 ≥ 9223372036854775808)) == (decide (a1 ≥ 9223372036854775808))) = true := by simpa using c3))
    clear c3
    obtain rfl := Option.some.inj H
    go_enter Try.func22, Try.ntmps22
    go_wp2
    go_ret
    exact ⟨by first | rfl | (simp; done) | (simp [*]; done), by repeat (first | exact Drawn0.refl _ | apply Drawn0.step)⟩

/-! ### mezzanineref21_Left: function 23 -/
def mezzanineref21_Left.l0 : Nat → Int → Int → Int → Option (Int)
  | 0, _, _, _ => none
  | k + 1, x0, x1, x5 => if x5 < x1 then (mezzanineref21_Left.l0 k (IntKind.u64.wrap (2 * x0)) x1 (wrap64 (x5 + 1))) else (some x0)
def mezzanineref21_Left.f (k : Nat) (a0 : Int) (a1 : Int) : Option (Int) := mezzanineref21_Left.l0 k a0 a1 0
theorem mezzanineref21_Left.mono_l : ∀ k, (∀ y0 y1 y2, LeO (mezzanineref21_Left.l0 k y0 y1 y2) (mezzanineref21_Left.l0 (k + 1) y0 y1 y2))
  | 0 => fun _ _ _ r h => by simp [mezzanineref21_Left.l0] at h
  | k + 1 => by
    have ih0 := mezzanineref21_Left.mono_l k
    · intro y0 y1 y2
      unfold mezzanineref21_Left.l0
      repeat' first
      | (with_reducible exact ih0 _ _ _)
      | (with_reducible exact LeO.refl _)
      | (with_reducible exact LeO.none _)
      | (with_reducible refine LeO.ite ?_ ?_)
      | (with_reducible refine LeO.bind ?_ (fun _ => ?_))
      | exact ih0 _ _ _
      | exact LeO.none _
      | refine LeO.ite ?_ ?_
      | refine LeO.bind ?_ (fun _ => ?_)
theorem mezzanineref21_Left.mono : ∀ a0 a1 k, LeO (mezzanineref21_Left.f k a0 a1) (mezzanineref21_Left.f (k + 1) a0 a1) := by
  intro a0 a1 k
  have ih0 := mezzanineref21_Left.mono_l k
  unfold mezzanineref21_Left.f
  repeat' first
      | (with_reducible exact ih0 _ _ _)
      | (with_reducible exact LeO.refl _)
      | (with_reducible exact LeO.none _)
      | (with_reducible refine LeO.ite ?_ ?_)
      | (with_reducible refine LeO.bind ?_ (fun _ => ?_))
      | exact ih0 _ _ _
      | exact LeO.none _
      | refine LeO.ite ?_ ?_
      | refine LeO.bind ?_ (fun _ => ?_)
set_option maxHeartbeats 8000000 in
set_option maxRecDepth 100000 in
theorem mezzanineref21_Left.calls (k : Nat) (a0 : Int) (a1 : Int) (r : Int) (w : World) (h : mezzanineref21_Left.f k a0 a1 = some r) :
    Calls Try.prog 23 #[.int .u64 a0, .int .i64 a1] w fun e w' => e = .returned (.int .u64 r) ∧ Drawn0 w w' := by
  have H : (mezzanineref21_Left.l0 k a0 a1 0) = some r := h
  clear h
  have H' := Aside0.mk H
  clear H
  go_enter Try.func23, Try.ntmps23
  go_wp2
  go_loopg [0, 5] k (fun kq v0 v5 w' => ∃ (x0_1 : Int) (x5_1 : Int), v0 = .int .u64 x0_1 ∧ v5 = .int .i64 x5_1 ∧ Aside0 (mezzanineref21_Left.l0 kq x0_1 a1 x5_1 = some r) ∧ Aside0 (kq ≤ k) ∧ Drawn0 w w')
  case atStart => exact ⟨(a0), (0), (by first | rfl | (simp; done) | (simp [*]; done)), (by first | rfl | (simp; done) | (simp [*]; done)), H', ⟨Nat.le_refl _⟩, by repeat (first | exact Drawn0.refl _ | apply Drawn0.step)⟩
  case round =>
    clear H'
    try clear c2
    try clear p2
    obtain ⟨x0_1, x5_1, rfl, rfl, HA, HK1, ⟨m1, rfl⟩⟩ := hrel
    cases gk with
    | zero => exact absurd HA.out (by simp [mezzanineref21_Left.l0])
    | succ k1 =>
      have H := HA.out
      clear HA
      simp only [mezzanineref21_Left.l0] at H
      by_cases c3 : x5_1 < a1
      · rw [if_pos c3] at H
        have c3b0 : decide (x5_1 < a1) = true := decide_eq_true c3
        clear c3
        have H' := Aside0.mk H
        clear H
        go_wp2
        go_roundg k1
        case measure => have := HK1.out; omega
        case rel => exact ⟨(IntKind.u64.wrap (2 * x0_1)), (wrap64 (x5_1 + 1)), (by first | rfl | (simp; done) | (simp [*]; done)), (by first | rfl | (simp; done) | (simp [*]; done)), H', ⟨by have := HK1.out; omega⟩, by repeat (first | exact Drawn0.refl _ | apply Drawn0.step)⟩
      · rw [if_neg c3] at H
        have c3b0 : decide (x5_1 < a1) = false := decide_eq_false c3
        clear c3
        obtain rfl := Option.some.inj H
        go_wp2
        go_ret
        exact ⟨by first | rfl | (simp; done) | (simp [*]; done), by repeat (first | exact Drawn0.refl _ | apply Drawn0.step)⟩

/-! ### mezzanineref21_Right: function 24 -/
def mezzanineref21_Right.l0 : Nat → Int → Int → Int → Option (Int)
  | 0, _, _, _ => none
  | k + 1, x0, x1, x5 => if x5 < x1 then (mezzanineref21_Right.l0 k (IntKind.u64.wrap (Int.tdiv x0 2)) x1 (wrap64 (x5 + 1))) else (some x0)
def mezzanineref21_Right.f (k : Nat) (a0 : Int) (a1 : Int) : Option (Int) := mezzanineref21_Right.l0 k a0 a1 0
theorem mezzanineref21_Right.mono_l : ∀ k, (∀ y0 y1 y2, LeO (mezzanineref21_Right.l0 k y0 y1 y2) (mezzanineref21_Right.l0 (k + 1) y0 y1 y2))
  | 0 => fun _ _ _ r h => by simp [mezzanineref21_Right.l0] at h
  | k + 1 => by
    have ih0 := mezzanineref21_Right.mono_l k
    · intro y0 y1 y2
      unfold mezzanineref21_Right.l0
      repeat' first
      | (with_reducible exact ih0 _ _ _)
      | (with_reducible exact LeO.refl _)
      | (with_reducible exact LeO.none _)
      | (with_reducible refine LeO.ite ?_ ?_)
      | (with_reducible refine LeO.bind ?_ (fun _ => ?_))
      | exact ih0 _ _ _
      | exact LeO.none _
      | refine LeO.ite ?_ ?_
      | refine LeO.bind ?_ (fun _ => ?_)
theorem mezzanineref21_Right.mono : ∀ a0 a1 k, LeO (mezzanineref21_Right.f k a0 a1) (mezzanineref21_Right.f (k + 1) a0 a1) := by
  intro a0 a1 k
  have ih0 := mezzanineref21_Right.mono_l k
  unfold mezzanineref21_Right.f
  repeat' first
      | (with_reducible exact ih0 _ _ _)
      | (with_reducible exact LeO.refl _)
      | (with_reducible exact LeO.none _)
      | (with_reducible refine LeO.ite ?_ ?_)
      | (with_reducible refine LeO.bind ?_ (fun _ => ?_))
      | exact ih0 _ _ _
      | exact LeO.none _
      | refine LeO.ite ?_ ?_
      | refine LeO.bind ?_ (fun _ => ?_)
set_option maxHeartbeats 8000000 in
set_option maxRecDepth 100000 in
theorem mezzanineref21_Right.calls (k : Nat) (a0 : Int) (a1 : Int) (r : Int) (w : World) (h : mezzanineref21_Right.f k a0 a1 = some r) :
    Calls Try.prog 24 #[.int .u64 a0, .int .i64 a1] w fun e w' => e = .returned (.int .u64 r) ∧ Drawn0 w w' := by
  have H : (mezzanineref21_Right.l0 k a0 a1 0) = some r := h
  clear h
  have H' := Aside0.mk H
  clear H
  go_enter Try.func24, Try.ntmps24
  go_wp2
  go_loopg [0, 5] k (fun kq v0 v5 w' => ∃ (x0_1 : Int) (x5_1 : Int), v0 = .int .u64 x0_1 ∧ v5 = .int .i64 x5_1 ∧ Aside0 (mezzanineref21_Right.l0 kq x0_1 a1 x5_1 = some r) ∧ Aside0 (kq ≤ k) ∧ Drawn0 w w')
  case atStart => exact ⟨(a0), (0), (by first | rfl | (simp; done) | (simp [*]; done)), (by first | rfl | (simp; done) | (simp [*]; done)), H', ⟨Nat.le_refl _⟩, by repeat (first | exact Drawn0.refl _ | apply Drawn0.step)⟩
  case round =>
    clear H'
    try clear c2
    try clear p2
    obtain ⟨x0_1, x5_1, rfl, rfl, HA, HK1, ⟨m1, rfl⟩⟩ := hrel
    cases gk with
    | zero => exact absurd HA.out (by simp [mezzanineref21_Right.l0])
    | succ k1 =>
      have H := HA.out
      clear HA
      simp only [mezzanineref21_Right.l0] at H
      by_cases c3 : x5_1 < a1
      · rw [if_pos c3] at H
        have c3b0 : decide (x5_1 < a1) = true := decide_eq_true c3
        clear c3
        have H' := Aside0.mk H
        clear H
        go_wp2
        go_roundg k1
        case measure => have := HK1.out; omega
        case rel => exact ⟨(IntKind.u64.wrap (Int.tdiv x0_1 2)), (wrap64 (x5_1 + 1)), (by first | rfl | (simp; done) | (simp [*]; done)), (by first | rfl | (simp; done) | (simp [*]; done)), H', ⟨by have := HK1.out; omega⟩, by repeat (first | exact Drawn0.refl _ | apply Drawn0.step)⟩
      · rw [if_neg c3] at H
        have c3b0 : decide (x5_1 < a1) = false := decide_eq_false c3
        clear c3
        obtain rfl := Option.some.inj H
        go_wp2
        go_ret
        exact ⟨by first | rfl | (simp; done) | (simp [*]; done), by repeat (first | exact Drawn0.refl _ | apply Drawn0.step)⟩

/-! ### mezzanineref21_Signed: function 25 -/
def mezzanineref21_Signed.l0 : Nat → Int → Int → Int → Option (Int)
  | 0, _, _, _ => none
  | k + 1, x0, x1, x5 => if x5 < x1 then (if x0 ≥ 9223372036854775808 then (mezzanineref21_Signed.l0 k (IntKind.u64.wrap ((IntKind.u64.wrap (Int.tdiv x0 2)) + 9223372036854775808)) x1 (wrap64 (x5 + 1))) else (mezzanineref21_Signed.l0 k (IntKind.u64.wrap (Int.tdiv x0 2)) x1 (wrap64 (x5 + 1)))) else (some x0)
def mezzanineref21_Signed.f (k : Nat) (a0 : Int) (a1 : Int) : Option (Int) := mezzanineref21_Signed.l0 k a0 a1 0
theorem mezzanineref21_Signed.mono_l : ∀ k, (∀ y0 y1 y2, LeO (mezzanineref21_Signed.l0 k y0 y1 y2) (mezzanineref21_Signed.l0 (k + 1) y0 y1 y2))
  | 0 => fun _ _ _ r h => by simp [mezzanineref21_Signed.l0] at h
  | k + 1 => by
    have ih0 := mezzanineref21_Signed.mono_l k
    · intro y0 y1 y2
      unfold mezzanineref21_Signed.l0
      repeat' first
      | (with_reducible exact ih0 _ _ _)
      | (with_reducible exact LeO.refl _)
      | (with_reducible exact LeO.none _)
      | (with_reducible refine LeO.ite ?_ ?_)
      | (with_reducible refine LeO.bind ?_ (fun _ => ?_))
      | exact ih0 _ _ _
      | exact LeO.none _
      | refine LeO.ite ?_ ?_
      | refine LeO.bind ?_ (fun _ => ?_)
theorem mezzanineref21_Signed.mono : ∀ a0 a1 k, LeO (mezzanineref21_Signed.f k a0 a1) (mezzanineref21_Signed.f (k + 1) a0 a1) := by
  intro a0 a1 k
  have ih0 := mezzanineref21_Signed.mono_l k
  unfold mezzanineref21_Signed.f
  repeat' first
      | (with_reducible exact ih0 _ _ _)
      | (with_reducible exact LeO.refl _)
      | (with_reducible exact LeO.none _)
      | (with_reducible refine LeO.ite ?_ ?_)
      | (with_reducible refine LeO.bind ?_ (fun _ => ?_))
      | exact ih0 _ _ _
      | exact LeO.none _
      | refine LeO.ite ?_ ?_
      | refine LeO.bind ?_ (fun _ => ?_)
set_option maxHeartbeats 8000000 in
set_option maxRecDepth 100000 in
theorem mezzanineref21_Signed.calls (k : Nat) (a0 : Int) (a1 : Int) (r : Int) (w : World) (h : mezzanineref21_Signed.f k a0 a1 = some r) :
    Calls Try.prog 25 #[.int .u64 a0, .int .i64 a1] w fun e w' => e = .returned (.int .u64 r) ∧ Drawn0 w w' := by
  have H : (mezzanineref21_Signed.l0 k a0 a1 0) = some r := h
  clear h
  have H' := Aside0.mk H
  clear H
  go_enter Try.func25, Try.ntmps25
  go_wp2
  go_loopg [0, 5] k (fun kq v0 v5 w' => ∃ (x0_1 : Int) (x5_1 : Int), v0 = .int .u64 x0_1 ∧ v5 = .int .i64 x5_1 ∧ Aside0 (mezzanineref21_Signed.l0 kq x0_1 a1 x5_1 = some r) ∧ Aside0 (kq ≤ k) ∧ Drawn0 w w')
  case atStart => exact ⟨(a0), (0), (by first | rfl | (simp; done) | (simp [*]; done)), (by first | rfl | (simp; done) | (simp [*]; done)), H', ⟨Nat.le_refl _⟩, by repeat (first | exact Drawn0.refl _ | apply Drawn0.step)⟩
  case round =>
    clear H'
    try clear c2
    try clear p2
    obtain ⟨x0_1, x5_1, rfl, rfl, HA, HK1, ⟨m1, rfl⟩⟩ := hrel
    cases gk with
    | zero => exact absurd HA.out (by simp [mezzanineref21_Signed.l0])
    | succ k1 =>
      have H := HA.out
      clear HA
      simp only [mezzanineref21_Signed.l0] at H
      by_cases c3 : x5_1 < a1
      · rw [if_pos c3] at H
        have c3b0 : decide (x5_1 < a1) = true := decide_eq_true c3
        clear c3
        by_cases c4 : x0_1 ≥ 9223372036854775808
        · rw [if_pos c4] at H
          have c4b0 : decide (9223372036854775808 ≤ x0_1) = true := decide_eq_true c4
          clear c4
          have H' := Aside0.mk H
          clear H
          go_wp2
          go_roundg k1
          case measure => have := HK1.out; omega
          case rel => exact ⟨(IntKind.u64.wrap ((IntKind.u64.wrap (Int.tdiv x0_1 2)) + 9223372036854775808)), (wrap64 (x5_1 + 1)), (by first | rfl | (simp; done) | (simp [*]; done)), (by first | rfl | (simp; done) | (simp [*]; done)), H', ⟨by have := HK1.out; omega⟩, by repeat (first | exact Drawn0.refl _ | apply Drawn0.step)⟩
        · rw [if_neg c4] at H
          have c4b0 : decide (9223372036854775808 ≤ x0_1) = false := decide_eq_false c4
          clear c4
          have H' := Aside0.mk H
          clear H
          go_wp2
          go_roundg k1
          case measure => have := HK1.out; omega
          case rel => exact ⟨(IntKind.u64.wrap (Int.tdiv x0_1 2)), (wrap64 (x5_1 + 1)), (by first | rfl | (simp; done) | (simp [*]; done)), (by first | rfl | (simp; done) | (simp [*]; done)), H', ⟨by have := HK1.out; omega⟩, by repeat (first | exact Drawn0.refl _ | apply Drawn0.step)⟩
      · rw [if_neg c3] at H
        have c3b0 : decide (x5_1 < a1) = false := decide_eq_false c3
        clear c3
        obtain rfl := Option.some.inj H
        go_wp2
        go_ret
        exact ⟨by first | rfl | (simp; done) | (simp [*]; done), by repeat (first | exact Drawn0.refl _ | apply Drawn0.step)⟩

/-! ### mezzanineref21_Low: function 26 -/
def mezzanineref21_Low.f (a0 : Int) : Option (Int) := if (Int.tmod a0 4294967296) ≥ 2147483648 then (some (IntKind.u64.wrap ((Int.tmod a0 4294967296) - 4294967296))) else (some (Int.tmod a0 4294967296))
set_option maxHeartbeats 8000000 in
set_option maxRecDepth 100000 in
theorem mezzanineref21_Low.calls (a0 : Int) (r : Int) (w : World) (h : mezzanineref21_Low.f a0 = some r) :
    Calls Try.prog 26 #[.int .u64 a0] w fun e w' => e = .returned (.int .u64 r) ∧ Drawn0 w w' := by
  have H : (if (Int.tmod a0 4294967296) ≥ 2147483648 then (some (IntKind.u64.wrap ((Int.tmod a0 4294967296) - 4294967296))) else (some (Int.tmod a0 4294967296))) = some r := h
  clear h
  by_cases c2 : (Int.tmod a0 4294967296) ≥ 2147483648
  · rw [if_pos c2] at H
    have c2b0 : decide (2147483648 ≤ (Int.tmod a0 4294967296)) = true := decide_eq_true c2
    clear c2
    obtain rfl := Option.some.inj H
    go_enter Try.func26, Try.ntmps26
    go_wp2
    go_ret
    exact ⟨by first | rfl | (simp; done) | (simp [*]; done), by repeat (first | exact Drawn0.refl _ | apply Drawn0.step)⟩
  · rw [if_neg c2] at H
    have c2b0 : decide (2147483648 ≤ (Int.tmod a0 4294967296)) = false := decide_eq_false c2
    clear c2
    obtain rfl := Option.some.inj H
    go_enter Try.func26, Try.ntmps26
    go_wp2
    go_ret
    exact ⟨by first | rfl | (simp; done) | (simp [*]; done), by repeat (first | exact Drawn0.refl _ | apply Drawn0.step)⟩

/-! ### mezzanineref01_Split: by hand -/
section
open Go.Proofs.Ytbfdehkejohjhaa.Bv
theorem mezzanineref01_Split.zero : (Try.prog.info? 55).map (fun i => (i.zero, i.size)) = some (some (.agg (bArr fun _ => false)), 64) := by kernel_rfl
set_option maxHeartbeats 4000000 in
set_option maxRecDepth 100000 in
theorem mezzanineref01_Split.calls (x : BitVec 64) (w : World) : Calls Try.prog 55 #[.int .u64 (U x)] w fun e w' => e = .returned (.agg (wArr x)) ∧ Below w.heap.size w w' := by
  obtain ⟨hz, hi⟩ := zero_of_info mezzanineref01_Split.zero
  have HI := Lib.hid hi
  clear hi
  go_enter Try.func55, Try.ntmps55
  go_wp2
  go_loopw [0, 4] (fun v0 v4 wr => ∃ k : Nat, k ≤ 64 ∧ v4 = .int .i64 k ∧ v0 = .int .u64 (U (x >>> k)) ∧ wr = (w.alloc (.cells (bArr fun _ => false) 55)).alloc (.cells (bArr fun i => decide (i < k) && x.getLsbD i) 55)) (fun _ v4 _ => 64 - (intOf v4).toNat)
  case atStart => exact ⟨0, by omega, rfl, by simp, by simp⟩
  case round =>
    obtain ⟨k, hk, rfl, rfl, rfl⟩ := hrel
    by_cases hlt : k < 64
    · have hg : (bArr fun i => decide (i < k) && x.getLsbD i)[k]? = some (.bool false) := by rw [bArr_get _ k hlt]; simp
      have hb := U_range (x >>> k)
      go_wp2
      go_roundw
      case rel => exact ⟨k + 1, by omega, by go_num, by rw [U_half, shr_succ], by rw [bArr_set, split_step]⟩
      case measure => first | (simp [intOf]; done) | (simp [intOf]; omega)
    · obtain rfl : k = 64 := by omega
      have hi := HI.out
      have e : (bArr fun i => decide (i < 64) && x.getLsbD i) = wArr x := bArr_congr fun i h => by simp [h, bitOf]
      go_wp2_with (first | (refine wpList_load_row rfl 55 _ rfl (w.heap.size + 1) rfl 55 (bArr fun i => decide (i < 64) && x.getLsbD i) (0, 0) _ (heap_alloc2_new _ _ _) Try.underlying55 rfl (by rw [bArr_size]; exact hi) ?_) | (refine wpList_store_row rfl 55 _ _ rfl w.heap.size (bArr fun i => decide (i < 64) && x.getLsbD i) rfl rfl 55 (bArr fun _ => false) (heap_alloc2_old _ _ _) (by rw [bArr_size]; exact hi) (by rw [bArr_size, bArr_size]) (bArr_one _) ?_))
      refine bodyPost_ret (results_cell_row rfl _ _ w.heap.size 55 (bArr fun i => decide (i < 64) && x.getLsbD i) (0, 0) _ rfl (setRow_heap _ _ _ _ _ _ (heap_alloc2_old _ _ _)) Try.underlying55 rfl (by rw [bArr_size]; exact hi)) rfl ⟨by rw [e], ?_⟩
      exact below_setRow (((Below.refl _ _).alloc (Nat.le_refl _) _).alloc (by simp) _) (Nat.le_refl _) _
end

end Go.Proofs.Ytbfdehkejohjhaa.Q
