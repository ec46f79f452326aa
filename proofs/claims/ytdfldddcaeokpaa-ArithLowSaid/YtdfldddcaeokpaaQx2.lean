/- Where the Lean function of a Go function gives a value, the Go call returns that value and changes nothing that was there: for every input. (By a program of this session, and by hand.) -/
import Derived.Test.YtdfldddcaeokpaaQx0
import Derived.Test.YtdfldddcaeokpaaQx1
namespace Go.Proofs.Ytdfldddcaeokpaa.Q
open Go.RowKit Go.Proofs.YtdfldddcaeokpaaW.PrintWords Go.Proofs.YtdfldddcaeokpaaW.PrintLast Go.Proofs.YtdfldddcaeokpaaW.PrintMore
attribute [local go_sem] max2_int min2_int max_two min_two max_three min_three max_four min_four   -- for this text's walks alone
set_option linter.unusedVariables false
set_option linter.unusedSimpArgs false

/-! ### mezzaninelaw02_ArithHighs: function 3 -/
mutual
def mezzaninelaw02_ArithHighs.j0 : Nat → Int → Int → Int → Int → Int → Int → Option (Bool)
  | 0, _, _, _, _, _, _ => none
  | k + 1, x0, x1, x2, x7, x8, x9 => if (wrap64 (x1)) < 0 then (mezzaninelaw02_ArithHighs.j1 k x0 x1 x2 x7 x8 (IntKind.u64.wrap (x9 + x0))) else (mezzaninelaw02_ArithHighs.j1 k x0 x1 x2 x7 x8 x9)
def mezzaninelaw02_ArithHighs.j1 : Nat → Int → Int → Int → Int → Int → Int → Option (Bool)
  | 0, _, _, _, _, _, _ => none
  | k + 1, x0, x1, x2, x7, x8, x9 => if x8 = x7 then (if x9 = x7 then ((arith_Mulhu.f x1 x0).bind fun t115 => (if t115 = x7 then ((arith_Mulh.f x1 x0).bind fun t116 => ((arith_Mulh.f x0 x1).bind fun t117 => (mezzaninelaw02_ArithHighs.j2 k x0 x1 x2 x7 (t116 != t117)))) else (mezzaninelaw02_ArithHighs.j2 k x0 x1 x2 x7 true))) else (mezzaninelaw02_ArithHighs.j2 k x0 x1 x2 x7 true)) else (mezzaninelaw02_ArithHighs.j2 k x0 x1 x2 x7 true)
def mezzaninelaw02_ArithHighs.j2 : Nat → Int → Int → Int → Int → Bool → Option (Bool)
  | 0, _, _, _, _, _ => none
  | k + 1, x0, x1, x2, x7, x59 => if x59 = true then (some false) else (if x0 = 0 then (if x7 = 0 then (if x1 = 0 then (if x1 > x2 then (some true) else ((arith_Mulhu.f x0 x2).bind fun t118 => (some (decide (x7 ≤ t118))))) else (if x1 > x2 then (some true) else ((arith_Mulhu.f x0 x2).bind fun t119 => (some (decide (x7 ≤ t119)))))) else (some false)) else (if x1 = 0 then (if x7 = 0 then (if x1 > x2 then (some true) else ((arith_Mulhu.f x0 x2).bind fun t120 => (some (decide (x7 ≤ t120))))) else (some false)) else (if x7 ≥ x0 then (some false) else (if x7 ≥ x1 then (some false) else (if x1 > x2 then (some true) else ((arith_Mulhu.f x0 x2).bind fun t121 => (some (decide (x7 ≤ t121)))))))))
end
def mezzaninelaw02_ArithHighs.f (k : Nat) (a0 : Int) (a1 : Int) (a2 : Int) : Option (Bool) := (mezzaninelaw02_awake.f).bind fun t111 => (if t111 = true then ((arith_Mulhu.f a0 a1).bind fun t112 => ((arith_Mulhsu.f a0 a1).bind fun t113 => ((arith_Mulh.f a0 a1).bind fun t114 => (if (wrap64 (a0)) < 0 then (mezzaninelaw02_ArithHighs.j0 k a0 a1 a2 t112 (IntKind.u64.wrap (t113 + a1)) (IntKind.u64.wrap (t114 + a1))) else (mezzaninelaw02_ArithHighs.j0 k a0 a1 a2 t112 t113 t114))))) else (some false))
theorem mezzaninelaw02_ArithHighs.mono_l : ∀ k, (∀ y0 y1 y2 y3 y4 y5, LeO (mezzaninelaw02_ArithHighs.j0 k y0 y1 y2 y3 y4 y5) (mezzaninelaw02_ArithHighs.j0 (k + 1) y0 y1 y2 y3 y4 y5)) ∧ (∀ y0 y1 y2 y3 y4 y5, LeO (mezzaninelaw02_ArithHighs.j1 k y0 y1 y2 y3 y4 y5) (mezzaninelaw02_ArithHighs.j1 (k + 1) y0 y1 y2 y3 y4 y5)) ∧ (∀ y0 y1 y2 y3 y4, LeO (mezzaninelaw02_ArithHighs.j2 k y0 y1 y2 y3 y4) (mezzaninelaw02_ArithHighs.j2 (k + 1) y0 y1 y2 y3 y4))
  | 0 => ⟨fun _ _ _ _ _ _ r h => by simp [mezzaninelaw02_ArithHighs.j0] at h, fun _ _ _ _ _ _ r h => by simp [mezzaninelaw02_ArithHighs.j1] at h, fun _ _ _ _ _ r h => by simp [mezzaninelaw02_ArithHighs.j2] at h⟩
  | k + 1 => by
    obtain ⟨ih0, ih1, ih2⟩ := mezzaninelaw02_ArithHighs.mono_l k
    refine ⟨?_, ?_, ?_⟩
    · intro y0 y1 y2 y3 y4 y5
      unfold mezzaninelaw02_ArithHighs.j0
      repeat' first
      | (with_reducible exact ih0 _ _ _ _ _ _)
      | (with_reducible exact ih1 _ _ _ _ _ _)
      | (with_reducible exact ih2 _ _ _ _ _)
      | (with_reducible exact LeO.refl _)
      | (with_reducible exact LeO.none _)
      | (with_reducible refine LeO.ite ?_ ?_)
      | (with_reducible refine LeO.bind ?_ (fun _ => ?_))
      | exact ih0 _ _ _ _ _ _
      | exact ih1 _ _ _ _ _ _
      | exact ih2 _ _ _ _ _
      | exact LeO.none _
      | refine LeO.ite ?_ ?_
      | refine LeO.bind ?_ (fun _ => ?_)
    · intro y0 y1 y2 y3 y4 y5
      unfold mezzaninelaw02_ArithHighs.j1
      repeat' first
      | (with_reducible exact ih0 _ _ _ _ _ _)
      | (with_reducible exact ih1 _ _ _ _ _ _)
      | (with_reducible exact ih2 _ _ _ _ _)
      | (with_reducible exact LeO.refl _)
      | (with_reducible exact LeO.none _)
      | (with_reducible refine LeO.ite ?_ ?_)
      | (with_reducible refine LeO.bind ?_ (fun _ => ?_))
      | exact ih0 _ _ _ _ _ _
      | exact ih1 _ _ _ _ _ _
      | exact ih2 _ _ _ _ _
      | exact LeO.none _
      | refine LeO.ite ?_ ?_
      | refine LeO.bind ?_ (fun _ => ?_)
    · intro y0 y1 y2 y3 y4
      unfold mezzaninelaw02_ArithHighs.j2
      repeat' first
      | (with_reducible exact ih0 _ _ _ _ _ _)
      | (with_reducible exact ih1 _ _ _ _ _ _)
      | (with_reducible exact ih2 _ _ _ _ _)
      | (with_reducible exact LeO.refl _)
      | (with_reducible exact LeO.none _)
      | (with_reducible refine LeO.ite ?_ ?_)
      | (with_reducible refine LeO.bind ?_ (fun _ => ?_))
      | exact ih0 _ _ _ _ _ _
      | exact ih1 _ _ _ _ _ _
      | exact ih2 _ _ _ _ _
      | exact LeO.none _
      | refine LeO.ite ?_ ?_
      | refine LeO.bind ?_ (fun _ => ?_)
theorem mezzaninelaw02_ArithHighs.mono : ∀ a0 a1 a2 k, LeO (mezzaninelaw02_ArithHighs.f k a0 a1 a2) (mezzaninelaw02_ArithHighs.f (k + 1) a0 a1 a2) := by
  intro a0 a1 a2 k
  obtain ⟨ih0, ih1, ih2⟩ := mezzaninelaw02_ArithHighs.mono_l k
  unfold mezzaninelaw02_ArithHighs.f
  repeat' first
      | (with_reducible exact ih0 _ _ _ _ _ _)
      | (with_reducible exact ih1 _ _ _ _ _ _)
      | (with_reducible exact ih2 _ _ _ _ _)
      | (with_reducible exact LeO.refl _)
      | (with_reducible exact LeO.none _)
      | (with_reducible refine LeO.ite ?_ ?_)
      | (with_reducible refine LeO.bind ?_ (fun _ => ?_))
      | exact ih0 _ _ _ _ _ _
      | exact ih1 _ _ _ _ _ _
      | exact ih2 _ _ _ _ _
      | exact LeO.none _
      | refine LeO.ite ?_ ?_
      | refine LeO.bind ?_ (fun _ => ?_)
set_option maxHeartbeats 8000000 in
set_option maxRecDepth 100000 in
theorem mezzaninelaw02_ArithHighs.calls (k : Nat) (a0 : Int) (a1 : Int) (a2 : Int) (r : Bool) (w : World) (ht : r = true) (h : mezzaninelaw02_ArithHighs.f k a0 a1 a2 = some r) :
    Calls Try.prog 3 #[.int .u64 a0, .int .u64 a1, .int .u64 a2] w fun e w' => e = .returned (.bool r) ∧ Drawn0 w w' := by
  have HT := Aside0.mk ht
  clear ht
  have H : ((mezzaninelaw02_awake.f).bind fun t111 => (if t111 = true then ((arith_Mulhu.f a0 a1).bind fun t112 => ((arith_Mulhsu.f a0 a1).bind fun t113 => ((arith_Mulh.f a0 a1).bind fun t114 => (if (wrap64 (a0)) < 0 then (mezzaninelaw02_ArithHighs.j0 k a0 a1 a2 t112 (IntKind.u64.wrap (t113 + a1)) (IntKind.u64.wrap (t114 + a1))) else (mezzaninelaw02_ArithHighs.j0 k a0 a1 a2 t112 t113 t114))))) else (some false))) = some r := h
  clear h
  replace H := Option.bind_eq_some_iff.mp H
  obtain ⟨t111, A40, H⟩ := H
  replace H : (if t111 = true then ((arith_Mulhu.f a0 a1).bind fun t112 => ((arith_Mulhsu.f a0 a1).bind fun t113 => ((arith_Mulh.f a0 a1).bind fun t114 => (if (wrap64 (a0)) < 0 then (mezzaninelaw02_ArithHighs.j0 k a0 a1 a2 t112 (IntKind.u64.wrap (t113 + a1)) (IntKind.u64.wrap (t114 + a1))) else (mezzaninelaw02_ArithHighs.j0 k a0 a1 a2 t112 t113 t114))))) else (some false)) = some r := H
  have A4 := Aside0.mk A40
  clear A40
  by_cases c5 : t111 = true
  · subst c5
    have H1 : ((arith_Mulhu.f a0 a1).bind fun t112 => ((arith_Mulhsu.f a0 a1).bind fun t113 => ((arith_Mulh.f a0 a1).bind fun t114 => (if (wrap64 (a0)) < 0 then (mezzaninelaw02_ArithHighs.j0 k a0 a1 a2 t112 (IntKind.u64.wrap (t113 + a1)) (IntKind.u64.wrap (t114 + a1))) else (mezzaninelaw02_ArithHighs.j0 k a0 a1 a2 t112 t113 t114))))) = some r := by rw [if_pos rfl] at H; exact H
    clear H
    have H := H1
    clear H1
    replace H := Option.bind_eq_some_iff.mp H
    obtain ⟨t112, A60, H⟩ := H
    replace H : ((arith_Mulhsu.f a0 a1).bind fun t113 => ((arith_Mulh.f a0 a1).bind fun t114 => (if (wrap64 (a0)) < 0 then (mezzaninelaw02_ArithHighs.j0 k a0 a1 a2 t112 (IntKind.u64.wrap (t113 + a1)) (IntKind.u64.wrap (t114 + a1))) else (mezzaninelaw02_ArithHighs.j0 k a0 a1 a2 t112 t113 t114)))) = some r := H
    have A6 := Aside0.mk A60
    clear A60
    replace H := Option.bind_eq_some_iff.mp H
    obtain ⟨t113, A70, H⟩ := H
    replace H : ((arith_Mulh.f a0 a1).bind fun t114 => (if (wrap64 (a0)) < 0 then (mezzaninelaw02_ArithHighs.j0 k a0 a1 a2 t112 (IntKind.u64.wrap (t113 + a1)) (IntKind.u64.wrap (t114 + a1))) else (mezzaninelaw02_ArithHighs.j0 k a0 a1 a2 t112 t113 t114))) = some r := H
    have A7 := Aside0.mk A70
    clear A70
    replace H := Option.bind_eq_some_iff.mp H
    obtain ⟨t114, A80, H⟩ := H
    replace H : (if (wrap64 (a0)) < 0 then (mezzaninelaw02_ArithHighs.j0 k a0 a1 a2 t112 (IntKind.u64.wrap (t113 + a1)) (IntKind.u64.wrap (t114 + a1))) else (mezzaninelaw02_ArithHighs.j0 k a0 a1 a2 t112 t113 t114)) = some r := H
    have A8 := Aside0.mk A80
    clear A80
    have HC9 := Aside0.mk H
    clear H
    go_enter Try.func3, Try.ntmps3
    go_upto_if 23 with (first | ((with_reducible refine gate_callee (f := 11) rfl ?_); refine goesL_ (some 10) rfl rfl Try.func11 (by kernel_rfl) rfl #[] rfl (by (try simp only [List.map_toArray, List.map_cons, List.map_nil]); first | done | rfl | (simp only [List.length_drop, List.length_take]; rfl)) ?_; (with_reducible refine (mezzaninelaw02_awake.calls  true _ A4.out).mono ?_); rintro e w' ⟨rfl, ⟨nd, rfl⟩⟩; refine ⟨_, rfl, ?_⟩) | ((with_reducible refine gate_callee (f := 12) rfl ?_); refine goesL_ (some 14) rfl rfl Try.func12 (by kernel_rfl) rfl #[.int .u64 a0, .int .u64 a1] rfl (by (try simp only [List.map_toArray, List.map_cons, List.map_nil]); first | done | rfl | (simp only [List.length_drop, List.length_take]; rfl)) ?_; (with_reducible refine (arith_Mulhu.calls a0 a1 t112 _ A6.out).mono ?_); rintro e w' ⟨rfl, ⟨nd, rfl⟩⟩; refine ⟨_, rfl, ?_⟩) | ((with_reducible refine gate_callee (f := 13) rfl ?_); refine goesL_ (some 17) rfl rfl Try.func13 (by kernel_rfl) rfl #[.int .u64 a0, .int .u64 a1] rfl (by (try simp only [List.map_toArray, List.map_cons, List.map_nil]); first | done | rfl | (simp only [List.length_drop, List.length_take]; rfl)) ?_; (with_reducible refine (arith_Mulhsu.calls a0 a1 t113 _ A7.out).mono ?_); rintro e w' ⟨rfl, ⟨nd, rfl⟩⟩; refine ⟨_, rfl, ?_⟩) | ((with_reducible refine gate_callee (f := 14) rfl ?_); refine goesL_ (some 20) rfl rfl Try.func14 (by kernel_rfl) rfl #[.int .u64 a0, .int .u64 a1] rfl (by (try simp only [List.map_toArray, List.map_cons, List.map_nil]); first | done | rfl | (simp only [List.length_drop, List.length_take]; rfl)) ?_; (with_reducible refine (arith_Mulh.calls a0 a1 t114 _ A8.out).mono ?_); rintro e w' ⟨rfl, ⟨nd, rfl⟩⟩; refine ⟨_, rfl, ?_⟩))
    (try simp only [Act.put, List.setIfInBounds_toArray, List.set_cons_zero, List.set_cons_succ])
    go_cut [8, 9] (fun v8 v9 wc => ∃ (kq : Nat) (x8_8 : Int) (x9_8 : Int), v8 = .int .u64 x8_8 ∧ v9 = .int .u64 x9_8 ∧ Aside0 (mezzaninelaw02_ArithHighs.j0 kq a0 a1 a2 t112 x8_8 x9_8 = some r) ∧ Aside0 (kq ≤ k) ∧ Drawn0 w wc)
    case first =>
      have H := HC9.out
      clear HC9
      by_cases c10 : (wrap64 (a0)) < 0
      · rw [if_pos c10] at H
        have c10b0 : decide ((wrap64 (a0)) < 0) = true := decide_eq_true c10
        clear c10
        (first | rw [c10b0] | (simp only [i64_w, i32_w]; rw [c10b0]) | skip)
        have H' := Aside0.mk H
        clear H
        go_wp2
        go_meet
        case rel => exact ⟨_, (IntKind.u64.wrap (t113 + a1)), (IntKind.u64.wrap (t114 + a1)), (by first | rfl | (simp; done) | (simp [*]; done)), (by first | rfl | (simp; done) | (simp [*]; done)), H', ⟨by first | omega | exact Nat.le_refl _⟩, by repeat (first | exact Drawn0.refl _ | apply Drawn0.step)⟩
      · rw [if_neg c10] at H
        have c10b0 : decide ((wrap64 (a0)) < 0) = false := decide_eq_false c10
        clear c10
        (first | rw [c10b0] | (simp only [i64_w, i32_w]; rw [c10b0]) | skip)
        have H' := Aside0.mk H
        clear H
        go_wp2
        go_meet
        case rel => exact ⟨_, (t113), (t114), (by first | rfl | (simp; done) | (simp [*]; done)), (by first | rfl | (simp; done) | (simp [*]; done)), H', ⟨by first | omega | exact Nat.le_refl _⟩, by repeat (first | exact Drawn0.refl _ | apply Drawn0.step)⟩
    case rest =>
      clear HC9
      try clear c1
      try clear p2
      try clear c3
      try clear c5
      try clear p6
      try clear c10
      try clear c10b0
      obtain ⟨kq, x8_8, x9_8, rfl, rfl, HA, HJ8, ⟨mc8, rfl⟩⟩ := hcut
      cases kq with
      | zero => exact absurd HA.out (by simp [mezzaninelaw02_ArithHighs.j0])
      | succ kj8 =>
        have H := HA.out
        clear HA
        simp only [mezzaninelaw02_ArithHighs.j0] at H
        have HC11 := Aside0.mk H
        clear H
        go_upto_if 32 with (fail)
        go_cut [9] (fun v9 wc => ∃ (kq : Nat) (x9_10 : Int), v9 = .int .u64 x9_10 ∧ Aside0 (mezzaninelaw02_ArithHighs.j1 kq a0 a1 a2 t112 x8_8 x9_10 = some r) ∧ Aside0 (kq ≤ kj8) ∧ Drawn0 w wc)
        case first =>
          have H := HC11.out
          clear HC11
          by_cases c12 : (wrap64 (a1)) < 0
          · rw [if_pos c12] at H
            have c12b0 : decide ((wrap64 (a1)) < 0) = true := decide_eq_true c12
            clear c12
            (first | rw [c12b0] | (simp only [i64_w, i32_w]; rw [c12b0]) | skip)
            have H' := Aside0.mk H
            clear H
            go_wp2
            go_meet
            case rel => exact ⟨_, (IntKind.u64.wrap (x9_8 + a0)), (by first | rfl | (simp; done) | (simp [*]; done)), H', ⟨by have := HJ8.out; first | omega | exact Nat.le_refl _⟩, by repeat (first | exact Drawn0.refl _ | apply Drawn0.step)⟩
          · rw [if_neg c12] at H
            have c12b0 : decide ((wrap64 (a1)) < 0) = false := decide_eq_false c12
            clear c12
            (first | rw [c12b0] | (simp only [i64_w, i32_w]; rw [c12b0]) | skip)
            have H' := Aside0.mk H
            clear H
            go_wp2
            go_meet
            case rel => exact ⟨_, (x9_8), (by first | rfl | (simp; done) | (simp [*]; done)), H', ⟨by have := HJ8.out; first | omega | exact Nat.le_refl _⟩, by repeat (first | exact Drawn0.refl _ | apply Drawn0.step)⟩
        case rest =>
          clear HC11
          try clear c1
          try clear p2
          try clear c3
          try clear c5
          try clear p6
          try clear c8
          try clear c10
          try clear c10b0
          try clear c11
          try clear c12
          try clear c12b0
          try clear p2
          try clear p6
          obtain ⟨kq, x9_10, rfl, HA, HJ10, ⟨mc10, rfl⟩⟩ := hcut
          cases kq with
          | zero => exact absurd HA.out (by simp [mezzaninelaw02_ArithHighs.j1])
          | succ kj10 =>
            have H := HA.out
            clear HA
            simp only [mezzaninelaw02_ArithHighs.j1] at H
            have HC13 := Aside0.mk H
            clear H
            go_upto_region 11 with (fail)
            go_cut [59] (fun v59 wc => ∃ (kq : Nat) (x59_12 : Bool), v59 = .bool x59_12 ∧ Aside0 (mezzaninelaw02_ArithHighs.j2 kq a0 a1 a2 t112 x59_12 = some r) ∧ Aside0 (kq ≤ kj10) ∧ Drawn0 w wc)
            case first =>
              have H := HC13.out
              clear HC13
              by_cases c14 : x8_8 = t112
              · rw [if_pos c14] at H
                have c14b0 : (x8_8 == t112) = true := beq_iff_eq.mpr c14
                have c14b1 : (x8_8 != t112) = false := bne_eq_false_iff_eq.mpr c14
                clear c14
                (first | rw [c14b0] | (simp only [i64_w, i32_w]; rw [c14b0]) | skip)
                by_cases c15 : x9_10 = t112
                · rw [if_pos c15] at H
                  have c15b0 : (x9_10 == t112) = true := beq_iff_eq.mpr c15
                  have c15b1 : (x9_10 != t112) = false := bne_eq_false_iff_eq.mpr c15
                  clear c15
                  replace H := Option.bind_eq_some_iff.mp H
                  obtain ⟨t115, A160, H⟩ := H
                  replace H : (if t115 = t112 then ((arith_Mulh.f a1 a0).bind fun t116 => ((arith_Mulh.f a0 a1).bind fun t117 => (mezzaninelaw02_ArithHighs.j2 kj10 a0 a1 a2 t112 (t116 != t117)))) else (mezzaninelaw02_ArithHighs.j2 kj10 a0 a1 a2 t112 true)) = some r := H
                  have A16 := Aside0.mk A160
                  clear A160
                  by_cases c17 : t115 = t112
                  · rw [if_pos c17] at H
                    have c17b0 : (t115 == t112) = true := beq_iff_eq.mpr c17
                    have c17b1 : (t115 != t112) = false := bne_eq_false_iff_eq.mpr c17
                    clear c17
                    replace H := Option.bind_eq_some_iff.mp H
                    obtain ⟨t116, A180, H⟩ := H
                    replace H : ((arith_Mulh.f a0 a1).bind fun t117 => (mezzaninelaw02_ArithHighs.j2 kj10 a0 a1 a2 t112 (t116 != t117))) = some r := H
                    have A18 := Aside0.mk A180
                    clear A180
                    replace H := Option.bind_eq_some_iff.mp H
                    obtain ⟨t117, A190, H⟩ := H
                    replace H : (mezzaninelaw02_ArithHighs.j2 kj10 a0 a1 a2 t112 (t116 != t117)) = some r := H
                    have A19 := Aside0.mk A190
                    clear A190
                    have H' := Aside0.mk H
                    clear H
                    go_wp2_with (first | (go_at_call 12; (with_reducible refine (arith_Mulhu.calls a1 a0 t115 _ A16.out).mono ?_); rintro e w' ⟨rfl, ⟨nd, rfl⟩⟩) | (go_at_call 14; (with_reducible refine (arith_Mulh.calls a1 a0 t116 _ A18.out).mono ?_); rintro e w' ⟨rfl, ⟨nd, rfl⟩⟩) | (go_at_call 14; (with_reducible refine (arith_Mulh.calls a0 a1 t117 _ A19.out).mono ?_); rintro e w' ⟨rfl, ⟨nd, rfl⟩⟩))
                    go_meet
                    case rel => exact ⟨_, ((t116 != t117)), (by first | rfl | (simp; done) | (simp [*]; done)), H', ⟨by have := HJ8.out; have := HJ10.out; first | omega | exact Nat.le_refl _⟩, by repeat (first | exact Drawn0.refl _ | apply Drawn0.step)⟩
                  · rw [if_neg c17] at H
                    have c17b0 : (t115 == t112) = false := beq_eq_false_iff_ne.mpr c17
                    have c17b1 : (t115 != t112) = true := bne_iff_ne.mpr c17
                    exact absurd H (by rw [HT.out]; cases kj10 <;> simp [mezzaninelaw02_ArithHighs.j2])
                · rw [if_neg c15] at H
                  have c15b0 : (x9_10 == t112) = false := beq_eq_false_iff_ne.mpr c15
                  have c15b1 : (x9_10 != t112) = true := bne_iff_ne.mpr c15
                  exact absurd H (by rw [HT.out]; cases kj10 <;> simp [mezzaninelaw02_ArithHighs.j2])
              · rw [if_neg c14] at H
                have c14b0 : (x8_8 == t112) = false := beq_eq_false_iff_ne.mpr c14
                have c14b1 : (x8_8 != t112) = true := bne_iff_ne.mpr c14
                (first | rw [c14b0] | (simp only [i64_w, i32_w]; rw [c14b0]) | skip)
                exact absurd H (by rw [HT.out]; cases kj10 <;> simp [mezzaninelaw02_ArithHighs.j2])
            case rest =>
              clear HC13
              try clear c1
              try clear p2
              try clear c3
              try clear c5
              try clear p6
              try clear c8
              try clear c10
              try clear c10b0
              try clear c11
              try clear c12
              try clear c12b0
              try clear c13
              try clear c14
              try clear c14b0
              try clear c14b1
              try clear c15
              try clear c15b0
              try clear c15b1
              try clear c17
              try clear c17b0
              try clear c17b1
              try clear p2
              try clear p6
              obtain ⟨kq, x59_12, rfl, HA, HJ12, ⟨mc12, rfl⟩⟩ := hcut
              cases kq with
              | zero => exact absurd HA.out (by simp [mezzaninelaw02_ArithHighs.j2])
              | succ kj12 =>
                have H := HA.out
                clear HA
                simp only [mezzaninelaw02_ArithHighs.j2] at H
                by_cases c20 : x59_12 = true
                · subst c20
                  have H1 : (some false) = some r := by rw [if_pos rfl] at H; exact H
                  clear H
                  have H := H1
                  clear H1
                  exact absurd (Option.some.inj H) (by rw [HT.out]; decide)
                · replace c20 := Bool.eq_false_iff.mpr c20
                  subst c20
                  have H1 : (if a0 = 0 then (if t112 = 0 then (if a1 = 0 then (if a1 > a2 then (some true) else ((arith_Mulhu.f a0 a2).bind fun t118 => (some (decide (t112 ≤ t118))))) else (if a1 > a2 then (some true) else ((arith_Mulhu.f a0 a2).bind fun t119 => (some (decide (t112 ≤ t119)))))) else (some false)) else (if a1 = 0 then (if t112 = 0 then (if a1 > a2 then (some true) else ((arith_Mulhu.f a0 a2).bind fun t120 => (some (decide (t112 ≤ t120))))) else (some false)) else (if t112 ≥ a0 then (some false) else (if t112 ≥ a1 then (some false) else (if a1 > a2 then (some true) else ((arith_Mulhu.f a0 a2).bind fun t121 => (some (decide (t112 ≤ t121))))))))) = some r := by rw [if_neg (show ¬ (false = true) by decide)] at H; exact H
                  clear H
                  have H := H1
                  clear H1
                  by_cases c21 : a0 = 0
                  · rw [if_pos c21] at H
                    have c21b0 : (a0 == 0) = true := beq_iff_eq.mpr c21
                    have c21b1 : (a0 != 0) = false := bne_eq_false_iff_eq.mpr c21
                    clear c21
                    by_cases c22 : t112 = 0
                    · rw [if_pos c22] at H
                      have c22b0 : (t112 == 0) = true := beq_iff_eq.mpr c22
                      have c22b1 : (t112 != 0) = false := bne_eq_false_iff_eq.mpr c22
                      clear c22
                      by_cases c23 : a1 = 0
                      · rw [if_pos c23] at H
                        have c23b0 : (a1 == 0) = true := beq_iff_eq.mpr c23
                        have c23b1 : (a1 != 0) = false := bne_eq_false_iff_eq.mpr c23
                        clear c23
                        by_cases c24 : a1 > a2
                        · rw [if_pos c24] at H
                          have c24b0 : decide (a2 < a1) = true := decide_eq_true c24
                          clear c24
                          obtain rfl := Option.some.inj H
                          go_wp2
                          go_ret
                          exact ⟨by first | rfl | (simp; done) | (simp [*]; done), by repeat (first | exact Drawn0.refl _ | apply Drawn0.step)⟩
                        · rw [if_neg c24] at H
                          have c24b0 : decide (a2 < a1) = false := decide_eq_false c24
                          clear c24
                          replace H := Option.bind_eq_some_iff.mp H
                          obtain ⟨t118, A250, H⟩ := H
                          replace H : (some (decide (t112 ≤ t118))) = some r := H
                          have A25 := Aside0.mk A250
                          clear A250
                          obtain rfl := Option.some.inj H
                          go_wp2_with (first | (go_at_call 12; (with_reducible refine (arith_Mulhu.calls a0 a2 t118 _ A25.out).mono ?_); rintro e w' ⟨rfl, ⟨nd, rfl⟩⟩))
                          go_ret
                          exact ⟨by first | rfl | (simp; done) | (simp [*]; done), by repeat (first | exact Drawn0.refl _ | apply Drawn0.step)⟩
                      · rw [if_neg c23] at H
                        have c23b0 : (a1 == 0) = false := beq_eq_false_iff_ne.mpr c23
                        have c23b1 : (a1 != 0) = true := bne_iff_ne.mpr c23
                        by_cases c26 : a1 > a2
                        · rw [if_pos c26] at H
                          have c26b0 : decide (a2 < a1) = true := decide_eq_true c26
                          clear c26
                          obtain rfl := Option.some.inj H
                          go_wp2
                          go_ret
                          exact ⟨by first | rfl | (simp; done) | (simp [*]; done), by repeat (first | exact Drawn0.refl _ | apply Drawn0.step)⟩
                        · rw [if_neg c26] at H
                          have c26b0 : decide (a2 < a1) = false := decide_eq_false c26
                          clear c26
                          replace H := Option.bind_eq_some_iff.mp H
                          obtain ⟨t119, A270, H⟩ := H
                          replace H : (some (decide (t112 ≤ t119))) = some r := H
                          have A27 := Aside0.mk A270
                          clear A270
                          obtain rfl := Option.some.inj H
                          go_wp2_with (first | (go_at_call 12; (with_reducible refine (arith_Mulhu.calls a0 a2 t119 _ A27.out).mono ?_); rintro e w' ⟨rfl, ⟨nd, rfl⟩⟩))
                          go_ret
                          exact ⟨by first | rfl | (simp; done) | (simp [*]; done), by repeat (first | exact Drawn0.refl _ | apply Drawn0.step)⟩
                    · rw [if_neg c22] at H
                      have c22b0 : (t112 == 0) = false := beq_eq_false_iff_ne.mpr c22
                      have c22b1 : (t112 != 0) = true := bne_iff_ne.mpr c22
                      exact absurd (Option.some.inj H) (by rw [HT.out]; decide)
                  · rw [if_neg c21] at H
                    have c21b0 : (a0 == 0) = false := beq_eq_false_iff_ne.mpr c21
                    have c21b1 : (a0 != 0) = true := bne_iff_ne.mpr c21
                    by_cases c28 : a1 = 0
                    · rw [if_pos c28] at H
                      have c28b0 : (a1 == 0) = true := beq_iff_eq.mpr c28
                      have c28b1 : (a1 != 0) = false := bne_eq_false_iff_eq.mpr c28
                      clear c28
                      by_cases c29 : t112 = 0
                      · rw [if_pos c29] at H
                        have c29b0 : (t112 == 0) = true := beq_iff_eq.mpr c29
                        have c29b1 : (t112 != 0) = false := bne_eq_false_iff_eq.mpr c29
                        clear c29
                        by_cases c30 : a1 > a2
                        · rw [if_pos c30] at H
                          have c30b0 : decide (a2 < a1) = true := decide_eq_true c30
                          clear c30
                          obtain rfl := Option.some.inj H
                          go_wp2
                          go_ret
                          exact ⟨by first | rfl | (simp; done) | (simp [*]; done), by repeat (first | exact Drawn0.refl _ | apply Drawn0.step)⟩
                        · rw [if_neg c30] at H
                          have c30b0 : decide (a2 < a1) = false := decide_eq_false c30
                          clear c30
                          replace H := Option.bind_eq_some_iff.mp H
                          obtain ⟨t120, A310, H⟩ := H
                          replace H : (some (decide (t112 ≤ t120))) = some r := H
                          have A31 := Aside0.mk A310
                          clear A310
                          obtain rfl := Option.some.inj H
                          go_wp2_with (first | (go_at_call 12; (with_reducible refine (arith_Mulhu.calls a0 a2 t120 _ A31.out).mono ?_); rintro e w' ⟨rfl, ⟨nd, rfl⟩⟩))
                          go_ret
                          exact ⟨by first | rfl | (simp; done) | (simp [*]; done), by repeat (first | exact Drawn0.refl _ | apply Drawn0.step)⟩
                      · rw [if_neg c29] at H
                        have c29b0 : (t112 == 0) = false := beq_eq_false_iff_ne.mpr c29
                        have c29b1 : (t112 != 0) = true := bne_iff_ne.mpr c29
                        exact absurd (Option.some.inj H) (by rw [HT.out]; decide)
                    · rw [if_neg c28] at H
                      have c28b0 : (a1 == 0) = false := beq_eq_false_iff_ne.mpr c28
                      have c28b1 : (a1 != 0) = true := bne_iff_ne.mpr c28
                      by_cases c32 : t112 ≥ a0
                      · rw [if_pos c32] at H
                        have c32b0 : decide (a0 ≤ t112) = true := decide_eq_true c32
                        clear c32
                        exact absurd (Option.some.inj H) (by rw [HT.out]; decide)
                      · rw [if_neg c32] at H
                        have c32b0 : decide (a0 ≤ t112) = false := decide_eq_false c32
                        clear c32
                        by_cases c33 : t112 ≥ a1
                        · rw [if_pos c33] at H
                          have c33b0 : decide (a1 ≤ t112) = true := decide_eq_true c33
                          clear c33
                          exact absurd (Option.some.inj H) (by rw [HT.out]; decide)
                        · rw [if_neg c33] at H
                          have c33b0 : decide (a1 ≤ t112) = false := decide_eq_false c33
                          clear c33
                          by_cases c34 : a1 > a2
                          · rw [if_pos c34] at H
                            have c34b0 : decide (a2 < a1) = true := decide_eq_true c34
                            clear c34
                            obtain rfl := Option.some.inj H
                            go_wp2
                            go_ret
                            exact ⟨by first | rfl | (simp; done) | (simp [*]; done), by repeat (first | exact Drawn0.refl _ | apply Drawn0.step)⟩
                          · rw [if_neg c34] at H
                            have c34b0 : decide (a2 < a1) = false := decide_eq_false c34
                            clear c34
                            replace H := Option.bind_eq_some_iff.mp H
                            obtain ⟨t121, A350, H⟩ := H
                            replace H : (some (decide (t112 ≤ t121))) = some r := H
                            have A35 := Aside0.mk A350
                            clear A350
                            obtain rfl := Option.some.inj H
                            go_wp2_with (first | (go_at_call 12; (with_reducible refine (arith_Mulhu.calls a0 a2 t121 _ A35.out).mono ?_); rintro e w' ⟨rfl, ⟨nd, rfl⟩⟩))
                            go_ret
                            exact ⟨by first | rfl | (simp; done) | (simp [*]; done), by repeat (first | exact Drawn0.refl _ | apply Drawn0.step)⟩
  · replace c5 := Bool.eq_false_iff.mpr c5
    subst c5
    have H1 : (some false) = some r := by rw [if_neg (show ¬ (false = true) by decide)] at H; exact H
    clear H
    have H := H1
    clear H1
    exact absurd (Option.some.inj H) (by rw [HT.out]; decide)

/-- THE ONE PURE STATEMENT of mezzaninelaw02_ArithHighs: yours. -/
def mezzaninelaw02_ArithHighs.Pure : Prop := ∀ (a0 : Int) (a1 : Int) (a2 : Int), (Lit.int .u64 a0).wf = true → (Lit.int .u64 a1).wf = true → (Lit.int .u64 a2).wf = true → ∃ k, mezzaninelaw02_ArithHighs.f k a0 a1 a2 = some true
theorem mezzaninelaw02_ArithHighs.walk (P : mezzaninelaw02_ArithHighs.Pure) (a0 : Int) (a1 : Int) (a2 : Int) (w : World) (w0 : (Lit.int .u64 a0).wf = true) (w1 : (Lit.int .u64 a1).wf = true) (w2 : (Lit.int .u64 a2).wf = true) :
    Calls Try.prog 3 #[.int .u64 a0, .int .u64 a1, .int .u64 a2] w fun e w' => e = .returned (.bool true) ∧ Below w.heap.size w w' := by
  obtain ⟨k, h⟩ := P a0 a1 a2 w0 w1 w2
  refine (mezzaninelaw02_ArithHighs.calls k a0 a1 a2 true w rfl h).mono ?_
  rintro e w' ⟨rfl, hd⟩
  exact ⟨rfl, hd.below⟩

/-! ### mezzanineref02_size: function 44 -/
def mezzanineref02_size.f (a0 : Int) : Option (Int × Bool) := if a0 ≥ 9223372036854775808 then (some (IntKind.u64.wrap (-a0), true)) else (some (a0, false))
set_option maxHeartbeats 8000000 in
set_option maxRecDepth 100000 in
theorem mezzanineref02_size.calls (a0 : Int) (r1 : Int) (r2 : Bool) (w : World) (h : mezzanineref02_size.f a0 = some (r1, r2)) :
    Calls Try.prog 44 #[.int .u64 a0] w fun e w' => e = .returned (.tuple #[.int .u64 r1, .bool r2]) ∧ Drawn0 w w' := by
  have H : (if a0 ≥ 9223372036854775808 then (some (IntKind.u64.wrap (-a0), true)) else (some (a0, false))) = some (r1, r2) := h
  clear h
  by_cases c2 : a0 ≥ 9223372036854775808
  · rw [if_pos c2] at H
    have c2b0 : decide (9223372036854775808 ≤ a0) = true := decide_eq_true c2
    clear c2
    simp only [Option.some.injEq, Prod.mk.injEq] at H
    obtain ⟨rfl, rfl⟩ := H
    go_enter Try.func44, Try.ntmps44
    go_wp2
    go_ret2
    exact ⟨by first | rfl | (simp; done) | (simp [*]; done), by repeat (first | exact Drawn0.refl _ | apply Drawn0.step)⟩
  · rw [if_neg c2] at H
    have c2b0 : decide (9223372036854775808 ≤ a0) = false := decide_eq_false c2
    clear c2
    simp only [Option.some.injEq, Prod.mk.injEq] at H
    obtain ⟨rfl, rfl⟩ := H
    go_enter Try.func44, Try.ntmps44
    go_wp2
    go_ret2
    exact ⟨by first | rfl | (simp; done) | (simp [*]; done), by repeat (first | exact Drawn0.refl _ | apply Drawn0.step)⟩

end Go.Proofs.Ytdfldddcaeokpaa.Q
