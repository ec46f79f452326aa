/- Where the Lean function of a Go function gives a value, the Go call returns that value and changes nothing that was there: for every input. (By a program of this session, and by hand.) -/
import Derived.Test.YtbfdehkejohjhaaQx0
import Derived.Test.YtbfdehkejohjhaaQx3
namespace Go.Proofs.Ytbfdehkejohjhaa.Q
open Go.RowKit Go.Proofs.YtbfdehkejohjhaaW.PrintWords Go.Proofs.YtbfdehkejohjhaaW.PrintLast Go.Proofs.YtbfdehkejohjhaaW.PrintMore
attribute [local go_sem] max2_int min2_int max_two min_two max_three min_three max_four min_four   -- for this text's walks alone
set_option linter.unusedVariables false
set_option linter.unusedSimpArgs false

/-! ### alu_short: function 20 -/
mutual
def alu_short.j0 : Nat → Int → Int → Bool → Int → Int → Int → Bool → Option (Int × Bool)
  | 0, _, _, _, _, _, _, _ => none
  | k + 1, x1, x2, x7, x8, x9, x14, x17 => if x17 = true then ((alu_low.f (IntKind.u64.wrap (x1 + x2))).bind fun t125 => (some (t125, x7))) else (if x14 = 32 then (alu_short.j1 k x7 x8 x9 x14 (x14 == 32)) else (alu_short.j1 k x7 x8 x9 x14 (x14 == 47)))
def alu_short.j1 : Nat → Bool → Int → Int → Int → Bool → Option (Int × Bool)
  | 0, _, _, _, _, _ => none
  | k + 1, x7, x8, x9, x14, x20 => if x20 = true then (if 0 ≤ x9 then ((alu_low.f (IntKind.u64.wrap (shl .u32 x8 x9))).bind fun t126 => (some (t126, x7))) else (none)) else (if x14 = 33 then (alu_short.j2 k x7 x8 x9 x14 (x14 == 33)) else (alu_short.j2 k x7 x8 x9 x14 (x14 == 48)))
def alu_short.j2 : Nat → Bool → Int → Int → Int → Bool → Option (Int × Bool)
  | 0, _, _, _, _, _ => none
  | k + 1, x7, x8, x9, x14, x23 => if x23 = true then (if 0 ≤ x9 then ((alu_low.f (IntKind.u64.wrap (shr .u32 x8 x9))).bind fun t127 => (some (t127, x7))) else (none)) else (if x14 = 34 then (if 0 ≤ x9 then ((alu_low.f (IntKind.u64.wrap (shr .i32 (wrap32 (x8)) x9))).bind fun t128 => (some (t128, x7))) else (none)) else (if x14 = 49 then (if 0 ≤ x9 then ((alu_low.f (IntKind.u64.wrap (shr .i32 (wrap32 (x8)) x9))).bind fun t129 => (some (t129, x7))) else (none)) else (some (0, false))))
end
def alu_short.f (k : Nat) (a0 : Int) (a1 : Int) (a2 : Int) : Option (Int × Bool) := if a0 = 46 then ((alu_low.f (IntKind.u64.wrap (a1 + (IntKind.u64.wrap (-a2))))).bind fun t124 => (some (t124, true))) else (if a0 = 31 then (alu_short.j0 k a1 a2 true ((a1) % 4294967296) (Go.bits .and .u64 a2 31) a0 (a0 == 31)) else (alu_short.j0 k a1 a2 true ((a1) % 4294967296) (Go.bits .and .u64 a2 31) a0 (a0 == 45)))
theorem alu_short.mono_l : ∀ k, (∀ y0 y1 y2 y3 y4 y5 y6, LeO (alu_short.j0 k y0 y1 y2 y3 y4 y5 y6) (alu_short.j0 (k + 1) y0 y1 y2 y3 y4 y5 y6)) ∧ (∀ y0 y1 y2 y3 y4, LeO (alu_short.j1 k y0 y1 y2 y3 y4) (alu_short.j1 (k + 1) y0 y1 y2 y3 y4)) ∧ (∀ y0 y1 y2 y3 y4, LeO (alu_short.j2 k y0 y1 y2 y3 y4) (alu_short.j2 (k + 1) y0 y1 y2 y3 y4))
  | 0 => ⟨fun _ _ _ _ _ _ _ r h => by simp [alu_short.j0] at h, fun _ _ _ _ _ r h => by simp [alu_short.j1] at h, fun _ _ _ _ _ r h => by simp [alu_short.j2] at h⟩
  | k + 1 => by
    obtain ⟨ih0, ih1, ih2⟩ := alu_short.mono_l k
    refine ⟨?_, ?_, ?_⟩
    · intro y0 y1 y2 y3 y4 y5 y6
      unfold alu_short.j0
      repeat' first
      | (with_reducible exact ih0 _ _ _ _ _ _ _)
      | (with_reducible exact ih1 _ _ _ _ _)
      | (with_reducible exact ih2 _ _ _ _ _)
      | (with_reducible exact LeO.refl _)
      | (with_reducible exact LeO.none _)
      | (with_reducible refine LeO.ite ?_ ?_)
      | (with_reducible refine LeO.bind ?_ (fun _ => ?_))
      | exact ih0 _ _ _ _ _ _ _
      | exact ih1 _ _ _ _ _
      | exact ih2 _ _ _ _ _
      | exact LeO.none _
      | refine LeO.ite ?_ ?_
      | refine LeO.bind ?_ (fun _ => ?_)
    · intro y0 y1 y2 y3 y4
      unfold alu_short.j1
      repeat' first
      | (with_reducible exact ih0 _ _ _ _ _ _ _)
      | (with_reducible exact ih1 _ _ _ _ _)
      | (with_reducible exact ih2 _ _ _ _ _)
      | (with_reducible exact LeO.refl _)
      | (with_reducible exact LeO.none _)
      | (with_reducible refine LeO.ite ?_ ?_)
      | (with_reducible refine LeO.bind ?_ (fun _ => ?_))
      | exact ih0 _ _ _ _ _ _ _
      | exact ih1 _ _ _ _ _
      | exact ih2 _ _ _ _ _
      | exact LeO.none _
      | refine LeO.ite ?_ ?_
      | refine LeO.bind ?_ (fun _ => ?_)
    · intro y0 y1 y2 y3 y4
      unfold alu_short.j2
      repeat' first
      | (with_reducible exact ih0 _ _ _ _ _ _ _)
      | (with_reducible exact ih1 _ _ _ _ _)
      | (with_reducible exact ih2 _ _ _ _ _)
      | (with_reducible exact LeO.refl _)
      | (with_reducible exact LeO.none _)
      | (with_reducible refine LeO.ite ?_ ?_)
      | (with_reducible refine LeO.bind ?_ (fun _ => ?_))
      | exact ih0 _ _ _ _ _ _ _
      | exact ih1 _ _ _ _ _
      | exact ih2 _ _ _ _ _
      | exact LeO.none _
      | refine LeO.ite ?_ ?_
      | refine LeO.bind ?_ (fun _ => ?_)
theorem alu_short.mono : ∀ a0 a1 a2 k, LeO (alu_short.f k a0 a1 a2) (alu_short.f (k + 1) a0 a1 a2) := by
  intro a0 a1 a2 k
  obtain ⟨ih0, ih1, ih2⟩ := alu_short.mono_l k
  unfold alu_short.f
  repeat' first
      | (with_reducible exact ih0 _ _ _ _ _ _ _)
      | (with_reducible exact ih1 _ _ _ _ _)
      | (with_reducible exact ih2 _ _ _ _ _)
      | (with_reducible exact LeO.refl _)
      | (with_reducible exact LeO.none _)
      | (with_reducible refine LeO.ite ?_ ?_)
      | (with_reducible refine LeO.bind ?_ (fun _ => ?_))
      | exact ih0 _ _ _ _ _ _ _
      | exact ih1 _ _ _ _ _
      | exact ih2 _ _ _ _ _
      | exact LeO.none _
      | refine LeO.ite ?_ ?_
      | refine LeO.bind ?_ (fun _ => ?_)
set_option maxHeartbeats 8000000 in
set_option maxRecDepth 100000 in
theorem alu_short.calls (k : Nat) (a0 : Int) (a1 : Int) (a2 : Int) (r1 : Int) (r2 : Bool) (w : World) (h : alu_short.f k a0 a1 a2 = some (r1, r2)) :
    Calls Try.prog 20 #[.int .i64 a0, .int .u64 a1, .int .u64 a2] w fun e w' => e = .returned (.tuple #[.int .u64 r1, .bool r2]) ∧ Drawn0 w w' := by
  have H : (if a0 = 46 then ((alu_low.f (IntKind.u64.wrap (a1 + (IntKind.u64.wrap (-a2))))).bind fun t124 => (some (t124, true))) else (if a0 = 31 then (alu_short.j0 k a1 a2 true ((a1) % 4294967296) (Go.bits .and .u64 a2 31) a0 (a0 == 31)) else (alu_short.j0 k a1 a2 true ((a1) % 4294967296) (Go.bits .and .u64 a2 31) a0 (a0 == 45)))) = some (r1, r2) := h
  clear h
  by_cases c4 : a0 = 46
  · rw [if_pos c4] at H
    have c4b0 : (a0 == 46) = true := beq_iff_eq.mpr c4
    have c4b1 : (a0 != 46) = false := bne_eq_false_iff_eq.mpr c4
    clear c4
    replace H := Option.bind_eq_some_iff.mp H
    obtain ⟨t124, A50, H⟩ := H
    replace H : (some (t124, true)) = some (r1, r2) := H
    have A5 := Aside0.mk A50
    clear A50
    simp only [Option.some.injEq, Prod.mk.injEq] at H
    obtain ⟨rfl, rfl⟩ := H
    go_enter Try.func20, Try.ntmps20
    go_wp2_with (first | ((with_reducible refine gate_callee (f := 47) rfl ?_); refine goesL_ (some 48) rfl rfl Try.func47 (by kernel_rfl) rfl #[.int .u64 (IntKind.u64.wrap (a1 + (IntKind.u64.wrap (-a2))))] rfl (by (try simp only [List.map_toArray, List.map_cons, List.map_nil]); first | done | rfl | (simp only [List.length_drop, List.length_take]; rfl)) ?_; (with_reducible refine (alu_low.calls (IntKind.u64.wrap (a1 + (IntKind.u64.wrap (-a2)))) t124 _ A5.out).mono ?_); rintro e w' ⟨rfl, ⟨nd, rfl⟩⟩; refine ⟨_, rfl, ?_⟩))
    go_ret2
    exact ⟨by first | rfl | (simp; done) | (simp [*]; done), by repeat (first | exact Drawn0.refl _ | apply Drawn0.step)⟩
  · rw [if_neg c4] at H
    have c4b0 : (a0 == 46) = false := beq_eq_false_iff_ne.mpr c4
    have c4b1 : (a0 != 46) = true := bne_iff_ne.mpr c4
    have HC6 := Aside0.mk H
    clear H
    go_enter Try.func20, Try.ntmps20
    go_upto_if 17 with (fail)
    go_cut [17] (fun v17 wc => ∃ (kq : Nat) (x17_5 : Bool), v17 = .bool x17_5 ∧ Aside0 (alu_short.j0 kq a1 a2 true ((a1) % 4294967296) (Go.bits .and .u64 a2 31) a0 x17_5 = some (r1, r2)) ∧ Aside0 (kq ≤ k) ∧ Drawn0 w wc)
    case first =>
      have H := HC6.out
      clear HC6
      by_cases c7 : a0 = 31
      · rw [if_pos c7] at H
        have c7b0 : (a0 == 31) = true := beq_iff_eq.mpr c7
        have c7b1 : (a0 != 31) = false := bne_eq_false_iff_eq.mpr c7
        clear c7
        (first | rw [c7b0] | (simp only [i64_w, i32_w]; rw [c7b0]) | skip)
        have H' := Aside0.mk H
        clear H
        go_wp2
        go_meet
        case rel => exact ⟨_, ((a0 == 31)), (by first | rfl | (simp; done) | (simp [*]; done)), H', ⟨by first | omega | exact Nat.le_refl _⟩, by repeat (first | exact Drawn0.refl _ | apply Drawn0.step)⟩
      · rw [if_neg c7] at H
        have c7b0 : (a0 == 31) = false := beq_eq_false_iff_ne.mpr c7
        have c7b1 : (a0 != 31) = true := bne_iff_ne.mpr c7
        (first | rw [c7b0] | (simp only [i64_w, i32_w]; rw [c7b0]) | skip)
        have H' := Aside0.mk H
        clear H
        go_wp2
        go_meet
        case rel => exact ⟨_, ((a0 == 45)), (by first | rfl | (simp; done) | (simp [*]; done)), H', ⟨by first | omega | exact Nat.le_refl _⟩, by repeat (first | exact Drawn0.refl _ | apply Drawn0.step)⟩
    case rest =>
      clear HC6
      try clear c2
      try clear p2
      try clear c4
      try clear c4b0
      try clear c4b1
      try clear c7
      try clear c7b0
      try clear c7b1
      obtain ⟨kq, x17_5, rfl, HA, HJ5, ⟨mc5, rfl⟩⟩ := hcut
      cases kq with
      | zero => exact absurd HA.out (by simp [alu_short.j0])
      | succ kj5 =>
        have H := HA.out
        clear HA
        simp only [alu_short.j0] at H
        by_cases c8 : x17_5 = true
        · subst c8
          have H1 : ((alu_low.f (IntKind.u64.wrap (a1 + a2))).bind fun t125 => (some (t125, true))) = some (r1, r2) := by rw [if_pos rfl] at H; exact H
          clear H
          have H := H1
          clear H1
          replace H := Option.bind_eq_some_iff.mp H
          obtain ⟨t125, A90, H⟩ := H
          replace H : (some (t125, true)) = some (r1, r2) := H
          have A9 := Aside0.mk A90
          clear A90
          simp only [Option.some.injEq, Prod.mk.injEq] at H
          obtain ⟨rfl, rfl⟩ := H
          go_wp2_with (first | ((with_reducible refine gate_callee (f := 47) rfl ?_); refine goesL_ (some 48) rfl rfl Try.func47 (by kernel_rfl) rfl #[.int .u64 (IntKind.u64.wrap (a1 + a2))] rfl (by (try simp only [List.map_toArray, List.map_cons, List.map_nil]); first | done | rfl | (simp only [List.length_drop, List.length_take]; rfl)) ?_; (with_reducible refine (alu_low.calls (IntKind.u64.wrap (a1 + a2)) t125 _ A9.out).mono ?_); rintro e w' ⟨rfl, ⟨nd, rfl⟩⟩; refine ⟨_, rfl, ?_⟩))
          go_ret2
          exact ⟨by first | rfl | (simp; done) | (simp [*]; done), by repeat (first | exact Drawn0.refl _ | apply Drawn0.step)⟩
        · replace c8 := Bool.eq_false_iff.mpr c8
          subst c8
          have H1 : (if a0 = 32 then (alu_short.j1 kj5 true ((a1) % 4294967296) (Go.bits .and .u64 a2 31) a0 (a0 == 32)) else (alu_short.j1 kj5 true ((a1) % 4294967296) (Go.bits .and .u64 a2 31) a0 (a0 == 47))) = some (r1, r2) := by rw [if_neg (show ¬ (false = true) by decide)] at H; exact H
          clear H
          have H := H1
          clear H1
          have HC10 := Aside0.mk H
          clear H
          go_upto_if 20 with (fail)
          go_cut [20] (fun v20 wc => ∃ (kq : Nat) (x20_9 : Bool), v20 = .bool x20_9 ∧ Aside0 (alu_short.j1 kq true ((a1) % 4294967296) (Go.bits .and .u64 a2 31) a0 x20_9 = some (r1, r2)) ∧ Aside0 (kq ≤ kj5) ∧ Drawn0 w wc)
          case first =>
            have H := HC10.out
            clear HC10
            by_cases c11 : a0 = 32
            · rw [if_pos c11] at H
              have c11b0 : (a0 == 32) = true := beq_iff_eq.mpr c11
              have c11b1 : (a0 != 32) = false := bne_eq_false_iff_eq.mpr c11
              clear c11
              (first | rw [c11b0] | (simp only [i64_w, i32_w]; rw [c11b0]) | skip)
              have H' := Aside0.mk H
              clear H
              go_wp2
              go_meet
              case rel => exact ⟨_, ((a0 == 32)), (by first | rfl | (simp; done) | (simp [*]; done)), H', ⟨by have := HJ5.out; first | omega | exact Nat.le_refl _⟩, by repeat (first | exact Drawn0.refl _ | apply Drawn0.step)⟩
            · rw [if_neg c11] at H
              have c11b0 : (a0 == 32) = false := beq_eq_false_iff_ne.mpr c11
              have c11b1 : (a0 != 32) = true := bne_iff_ne.mpr c11
              (first | rw [c11b0] | (simp only [i64_w, i32_w]; rw [c11b0]) | skip)
              have H' := Aside0.mk H
              clear H
              go_wp2
              go_meet
              case rel => exact ⟨_, ((a0 == 47)), (by first | rfl | (simp; done) | (simp [*]; done)), H', ⟨by have := HJ5.out; first | omega | exact Nat.le_refl _⟩, by repeat (first | exact Drawn0.refl _ | apply Drawn0.step)⟩
          case rest =>
            clear HC10
            try clear c1
            try clear c2
            try clear p2
            try clear c4
            try clear c4b0
            try clear c4b1
            try clear c5
            try clear c7
            try clear c7b0
            try clear c7b1
            try clear c8
            try clear c11
            try clear c11b0
            try clear c11b1
            try clear p2
            obtain ⟨kq, x20_9, rfl, HA, HJ9, ⟨mc9, rfl⟩⟩ := hcut
            cases kq with
            | zero => exact absurd HA.out (by simp [alu_short.j1])
            | succ kj9 =>
              have H := HA.out
              clear HA
              simp only [alu_short.j1] at H
              by_cases c12 : x20_9 = true
              · subst c12
                have H1 : (if 0 ≤ (Go.bits .and .u64 a2 31) then ((alu_low.f (IntKind.u64.wrap (shl .u32 ((a1) % 4294967296) (Go.bits .and .u64 a2 31)))).bind fun t126 => (some (t126, true))) else (none)) = some (r1, r2) := by rw [if_pos rfl] at H; exact H
                clear H
                have H := H1
                clear H1
                by_cases c13 : 0 ≤ (Go.bits .and .u64 a2 31)
                · rw [if_pos c13] at H
                  have c13b0 := eq_true c13
                  have c13b1 : decide (0 ≤ (Go.bits .and .u64 a2 31)) = true := decide_eq_true c13
                  clear c13
                  obtain ⟨ji14, hji14⟩ : ∃ j_ : Int, (shl .u32 ((a1) % 4294967296) (Go.bits .and .u64 a2 31)) = j_ := ⟨_, rfl⟩
                  replace H : ((alu_low.f (IntKind.u64.wrap (ji14))).bind fun t126 => (some (t126, true))) = some (r1, r2) := by first | (rw [hji14] at H; exact H) | (simp only [hji14] at H ⊢; exact H)
                  have hji14_ : (IntKind.u32.wrap (((a1) % 4294967296) * 2 ^ min (Go.bits .and .u64 a2 31).toNat 32)) = ji14 := hji14
                  have hji14z : (Go.bits .and .u64 a2 31) ≤ 32 → (IntKind.u32.wrap (((a1) % 4294967296) * 2 ^ (Go.bits .and .u64 a2 31).toNat)) = ji14 := shl_small hji14
                  replace H := Option.bind_eq_some_iff.mp H
                  obtain ⟨t126, A150, H⟩ := H
                  replace H : (some (t126, true)) = some (r1, r2) := H
                  have A15 := Aside0.mk A150
                  clear A150
                  simp only [Option.some.injEq, Prod.mk.injEq] at H
                  obtain ⟨rfl, rfl⟩ := H
                  go_wp2_with (first | ((with_reducible refine gate_callee (f := 47) rfl ?_); refine goesL_ (some 48) rfl rfl Try.func47 (by kernel_rfl) rfl #[.int .u64 (IntKind.u64.wrap (ji14))] rfl (by (try simp only [List.map_toArray, List.map_cons, List.map_nil]); first | done | (simp only [hji14]; rfl) | rfl | (simp only [List.length_drop, List.length_take]; rfl)) ?_; (with_reducible refine (alu_low.calls (IntKind.u64.wrap (ji14)) t126 _ A15.out).mono ?_); rintro e w' ⟨rfl, ⟨nd, rfl⟩⟩; refine ⟨_, rfl, ?_⟩))
                  go_ret2
                  exact ⟨by first | rfl | (simp; done) | (simp only [← hji14] <;> (first | rfl | simp)) | (simp [*]; done), by repeat (first | exact Drawn0.refl _ | apply Drawn0.step)⟩
                · rw [if_neg c13] at H
                  exact absurd H (by simp)
              · replace c12 := Bool.eq_false_iff.mpr c12
                subst c12
                have H1 : (if a0 = 33 then (alu_short.j2 kj9 true ((a1) % 4294967296) (Go.bits .and .u64 a2 31) a0 (a0 == 33)) else (alu_short.j2 kj9 true ((a1) % 4294967296) (Go.bits .and .u64 a2 31) a0 (a0 == 48))) = some (r1, r2) := by rw [if_neg (show ¬ (false = true) by decide)] at H; exact H
                clear H
                have H := H1
                clear H1
                have HC16 := Aside0.mk H
                clear H
                go_upto_if 23 with (fail)
                go_cut [23] (fun v23 wc => ∃ (kq : Nat) (x23_15 : Bool), v23 = .bool x23_15 ∧ Aside0 (alu_short.j2 kq true ((a1) % 4294967296) (Go.bits .and .u64 a2 31) a0 x23_15 = some (r1, r2)) ∧ Aside0 (kq ≤ kj9) ∧ Drawn0 w wc)
                case first =>
                  have H := HC16.out
                  clear HC16
                  by_cases c17 : a0 = 33
                  · rw [if_pos c17] at H
                    have c17b0 : (a0 == 33) = true := beq_iff_eq.mpr c17
                    have c17b1 : (a0 != 33) = false := bne_eq_false_iff_eq.mpr c17
                    clear c17
                    (first | rw [c17b0] | (simp only [i64_w, i32_w]; rw [c17b0]) | skip)
                    have H' := Aside0.mk H
                    clear H
                    go_wp2
                    go_meet
                    case rel => exact ⟨_, ((a0 == 33)), (by first | rfl | (simp; done) | (simp [*]; done)), H', ⟨by have := HJ5.out; have := HJ9.out; first | omega | exact Nat.le_refl _⟩, by repeat (first | exact Drawn0.refl _ | apply Drawn0.step)⟩
                  · rw [if_neg c17] at H
                    have c17b0 : (a0 == 33) = false := beq_eq_false_iff_ne.mpr c17
                    have c17b1 : (a0 != 33) = true := bne_iff_ne.mpr c17
                    (first | rw [c17b0] | (simp only [i64_w, i32_w]; rw [c17b0]) | skip)
                    have H' := Aside0.mk H
                    clear H
                    go_wp2
                    go_meet
                    case rel => exact ⟨_, ((a0 == 48)), (by first | rfl | (simp; done) | (simp [*]; done)), H', ⟨by have := HJ5.out; have := HJ9.out; first | omega | exact Nat.le_refl _⟩, by repeat (first | exact Drawn0.refl _ | apply Drawn0.step)⟩
                case rest =>
                  clear HC16
                  try clear c1
                  try clear c2
                  try clear p2
                  try clear c4
                  try clear c4b0
                  try clear c4b1
                  try clear c5
                  try clear c7
                  try clear c7b0
                  try clear c7b1
                  try clear c8
                  try clear c9
                  try clear c11
                  try clear c11b0
                  try clear c11b1
                  try clear c12
                  try clear c13
                  try clear c13b0
                  try clear c13b1
                  try clear c17
                  try clear c17b0
                  try clear c17b1
                  try clear p2
                  obtain ⟨kq, x23_15, rfl, HA, HJ15, ⟨mc15, rfl⟩⟩ := hcut
                  cases kq with
                  | zero => exact absurd HA.out (by simp [alu_short.j2])
                  | succ kj15 =>
                    have H := HA.out
                    clear HA
                    simp only [alu_short.j2] at H
                    by_cases c18 : x23_15 = true
                    · subst c18
                      have H1 : (if 0 ≤ (Go.bits .and .u64 a2 31) then ((alu_low.f (IntKind.u64.wrap (shr .u32 ((a1) % 4294967296) (Go.bits .and .u64 a2 31)))).bind fun t127 => (some (t127, true))) else (none)) = some (r1, r2) := by rw [if_pos rfl] at H; exact H
                      clear H
                      have H := H1
                      clear H1
                      by_cases c19 : 0 ≤ (Go.bits .and .u64 a2 31)
                      · rw [if_pos c19] at H
                        have c19b0 := eq_true c19
                        have c19b1 : decide (0 ≤ (Go.bits .and .u64 a2 31)) = true := decide_eq_true c19
                        clear c19
                        obtain ⟨ji20, hji20⟩ : ∃ j_ : Int, (shr .u32 ((a1) % 4294967296) (Go.bits .and .u64 a2 31)) = j_ := ⟨_, rfl⟩
                        replace H : ((alu_low.f (IntKind.u64.wrap (ji20))).bind fun t127 => (some (t127, true))) = some (r1, r2) := by first | (rw [hji20] at H; exact H) | (simp only [hji20] at H ⊢; exact H)
                        have hji20_ : (((a1) % 4294967296) / 2 ^ min (Go.bits .and .u64 a2 31).toNat 32) = ji20 := hji20
                        have hji20z : (Go.bits .and .u64 a2 31) ≤ 32 → (((a1) % 4294967296) / 2 ^ (Go.bits .and .u64 a2 31).toNat) = ji20 := shr_small hji20
                        replace H := Option.bind_eq_some_iff.mp H
                        obtain ⟨t127, A210, H⟩ := H
                        replace H : (some (t127, true)) = some (r1, r2) := H
                        have A21 := Aside0.mk A210
                        clear A210
                        simp only [Option.some.injEq, Prod.mk.injEq] at H
                        obtain ⟨rfl, rfl⟩ := H
                        go_wp2_with (first | ((with_reducible refine gate_callee (f := 47) rfl ?_); refine goesL_ (some 48) rfl rfl Try.func47 (by kernel_rfl) rfl #[.int .u64 (IntKind.u64.wrap (ji20))] rfl (by (try simp only [List.map_toArray, List.map_cons, List.map_nil]); first | done | (simp only [hji20]; rfl) | rfl | (simp only [List.length_drop, List.length_take]; rfl)) ?_; (with_reducible refine (alu_low.calls (IntKind.u64.wrap (ji20)) t127 _ A21.out).mono ?_); rintro e w' ⟨rfl, ⟨nd, rfl⟩⟩; refine ⟨_, rfl, ?_⟩))
                        go_ret2
                        exact ⟨by first | rfl | (simp; done) | (simp only [← hji20] <;> (first | rfl | simp)) | (simp [*]; done), by repeat (first | exact Drawn0.refl _ | apply Drawn0.step)⟩
                      · rw [if_neg c19] at H
                        exact absurd H (by simp)
                    · replace c18 := Bool.eq_false_iff.mpr c18
                      subst c18
                      have H1 : (if a0 = 34 then (if 0 ≤ (Go.bits .and .u64 a2 31) then ((alu_low.f (IntKind.u64.wrap (shr .i32 (wrap32 (((a1) % 4294967296))) (Go.bits .and .u64 a2 31)))).bind fun t128 => (some (t128, true))) else (none)) else (if a0 = 49 then (if 0 ≤ (Go.bits .and .u64 a2 31) then ((alu_low.f (IntKind.u64.wrap (shr .i32 (wrap32 (((a1) % 4294967296))) (Go.bits .and .u64 a2 31)))).bind fun t129 => (some (t129, true))) else (none)) else (some (0, false)))) = some (r1, r2) := by rw [if_neg (show ¬ (false = true) by decide)] at H; exact H
                      clear H
                      have H := H1
                      clear H1
                      by_cases c22 : a0 = 34
                      · rw [if_pos c22] at H
                        have c22b0 : (a0 == 34) = true := beq_iff_eq.mpr c22
                        have c22b1 : (a0 != 34) = false := bne_eq_false_iff_eq.mpr c22
                        clear c22
                        by_cases c23 : 0 ≤ (Go.bits .and .u64 a2 31)
                        · rw [if_pos c23] at H
                          have c23b0 := eq_true c23
                          have c23b1 : decide (0 ≤ (Go.bits .and .u64 a2 31)) = true := decide_eq_true c23
                          clear c23
                          obtain ⟨ji24, hji24⟩ : ∃ j_ : Int, (shr .i32 (wrap32 (((a1) % 4294967296))) (Go.bits .and .u64 a2 31)) = j_ := ⟨_, rfl⟩
                          replace H : ((alu_low.f (IntKind.u64.wrap (ji24))).bind fun t128 => (some (t128, true))) = some (r1, r2) := by first | (rw [hji24] at H; exact H) | (simp only [hji24] at H ⊢; exact H)
                          have hji24_ : ((wrap32 (((a1) % 4294967296))) / 2 ^ min (Go.bits .and .u64 a2 31).toNat 32) = ji24 := hji24
                          have hji24z : (Go.bits .and .u64 a2 31) ≤ 32 → ((wrap32 (((a1) % 4294967296))) / 2 ^ (Go.bits .and .u64 a2 31).toNat) = ji24 := shr_small hji24
                          replace H := Option.bind_eq_some_iff.mp H
                          obtain ⟨t128, A250, H⟩ := H
                          replace H : (some (t128, true)) = some (r1, r2) := H
                          have A25 := Aside0.mk A250
                          clear A250
                          simp only [Option.some.injEq, Prod.mk.injEq] at H
                          obtain ⟨rfl, rfl⟩ := H
                          go_wp2_with (first | ((with_reducible refine gate_callee (f := 47) rfl ?_); refine goesL_ (some 48) rfl rfl Try.func47 (by kernel_rfl) rfl #[.int .u64 (IntKind.u64.wrap (ji24))] rfl (by (try simp only [List.map_toArray, List.map_cons, List.map_nil]); first | done | (simp only [hji24]; rfl) | rfl | (simp only [List.length_drop, List.length_take]; rfl)) ?_; (with_reducible refine (alu_low.calls (IntKind.u64.wrap (ji24)) t128 _ A25.out).mono ?_); rintro e w' ⟨rfl, ⟨nd, rfl⟩⟩; refine ⟨_, rfl, ?_⟩))
                          go_ret2
                          exact ⟨by first | rfl | (simp; done) | (simp only [← hji24] <;> (first | rfl | simp)) | (simp [*]; done), by repeat (first | exact Drawn0.refl _ | apply Drawn0.step)⟩
                        · rw [if_neg c23] at H
                          exact absurd H (by simp)
                      · rw [if_neg c22] at H
                        have c22b0 : (a0 == 34) = false := beq_eq_false_iff_ne.mpr c22
                        have c22b1 : (a0 != 34) = true := bne_iff_ne.mpr c22
                        by_cases c26 : a0 = 49
                        · rw [if_pos c26] at H
                          have c26b0 : (a0 == 49) = true := beq_iff_eq.mpr c26
                          have c26b1 : (a0 != 49) = false := bne_eq_false_iff_eq.mpr c26
                          clear c26
                          by_cases c27 : 0 ≤ (Go.bits .and .u64 a2 31)
                          · rw [if_pos c27] at H
                            have c27b0 := eq_true c27
                            have c27b1 : decide (0 ≤ (Go.bits .and .u64 a2 31)) = true := decide_eq_true c27
                            clear c27
                            obtain ⟨ji28, hji28⟩ : ∃ j_ : Int, (shr .i32 (wrap32 (((a1) % 4294967296))) (Go.bits .and .u64 a2 31)) = j_ := ⟨_, rfl⟩
                            replace H : ((alu_low.f (IntKind.u64.wrap (ji28))).bind fun t129 => (some (t129, true))) = some (r1, r2) := by first | (rw [hji28] at H; exact H) | (simp only [hji28] at H ⊢; exact H)
                            have hji28_ : ((wrap32 (((a1) % 4294967296))) / 2 ^ min (Go.bits .and .u64 a2 31).toNat 32) = ji28 := hji28
                            have hji28z : (Go.bits .and .u64 a2 31) ≤ 32 → ((wrap32 (((a1) % 4294967296))) / 2 ^ (Go.bits .and .u64 a2 31).toNat) = ji28 := shr_small hji28
                            replace H := Option.bind_eq_some_iff.mp H
                            obtain ⟨t129, A290, H⟩ := H
                            replace H : (some (t129, true)) = some (r1, r2) := H
                            have A29 := Aside0.mk A290
                            clear A290
                            simp only [Option.some.injEq, Prod.mk.injEq] at H
                            obtain ⟨rfl, rfl⟩ := H
                            go_wp2_with (first | ((with_reducible refine gate_callee (f := 47) rfl ?_); refine goesL_ (some 48) rfl rfl Try.func47 (by kernel_rfl) rfl #[.int .u64 (IntKind.u64.wrap (ji28))] rfl (by (try simp only [List.map_toArray, List.map_cons, List.map_nil]); first | done | (simp only [hji28]; rfl) | rfl | (simp only [List.length_drop, List.length_take]; rfl)) ?_; (with_reducible refine (alu_low.calls (IntKind.u64.wrap (ji28)) t129 _ A29.out).mono ?_); rintro e w' ⟨rfl, ⟨nd, rfl⟩⟩; refine ⟨_, rfl, ?_⟩))
                            go_ret2
                            exact ⟨by first | rfl | (simp; done) | (simp only [← hji28] <;> (first | rfl | simp)) | (simp [*]; done), by repeat (first | exact Drawn0.refl _ | apply Drawn0.step)⟩
                          · rw [if_neg c27] at H
                            exact absurd H (by simp)
                        · rw [if_neg c26] at H
                          have c26b0 : (a0 == 49) = false := beq_eq_false_iff_ne.mpr c26
                          have c26b1 : (a0 != 49) = true := bne_iff_ne.mpr c26
                          simp only [Option.some.injEq, Prod.mk.injEq] at H
                          obtain ⟨rfl, rfl⟩ := H
                          go_wp2
                          go_ret2
                          exact ⟨by first | rfl | (simp; done) | (simp [*]; done), by repeat (first | exact Drawn0.refl _ | apply Drawn0.step)⟩

end Go.Proofs.Ytbfdehkejohjhaa.Q
