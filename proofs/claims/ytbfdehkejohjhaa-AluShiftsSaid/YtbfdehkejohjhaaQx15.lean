/- Where the Lean function of a Go function gives a value, the Go call returns that value and changes nothing that was there: for every input. (By a program of this session, and by hand.) -/
import Derived.Test.YtbfdehkejohjhaaQx0
import Derived.Test.YtbfdehkejohjhaaQx11
import Derived.Test.YtbfdehkejohjhaaQx13
namespace Go.Proofs.Ytbfdehkejohjhaa.Q
open Go.RowKit Go.Proofs.YtbfdehkejohjhaaW.PrintWords Go.Proofs.YtbfdehkejohjhaaW.PrintLast Go.Proofs.YtbfdehkejohjhaaW.PrintMore
attribute [local go_sem] max2_int min2_int max_two min_two max_three min_three max_four min_four   -- for this text's walks alone
set_option linter.unusedVariables false
set_option linter.unusedSimpArgs false

/-! ### mezzaninelaw21_AluShifts: function 6 -/
def mezzaninelaw21_AluShifts.j0 : Nat → Int → Int → Bool → Option (Bool)
  | 0, _, _, _ => none
  | k + 1, x0, x1, x38 => if x38 = true then (some false) else ((mezzaninelaw21_value.f k 42 x0 x1).bind fun t277 => ((mezzaninelaw21_value.f k 41 x0 x1).bind fun t278 => (if (x0 / 9223372036854775808) = 0 then (if t277 = t278 then (if (x0 / 9223372036854775808) = 1 then ((mezzaninelaw21_value.f k 41 (Go.bits .xor .u64 IntKind.u64.max x0) x1).bind fun t279 => (if (Go.bits .xor .u64 IntKind.u64.max t277) = t279 then ((mezzaninelaw21_wakes.f k).bind fun t280 => (some t280)) else (some false))) else ((mezzaninelaw21_wakes.f k).bind fun t281 => (some t281))) else (some false)) else (if (x0 / 9223372036854775808) = 1 then ((mezzaninelaw21_value.f k 41 (Go.bits .xor .u64 IntKind.u64.max x0) x1).bind fun t282 => (if (Go.bits .xor .u64 IntKind.u64.max t277) = t282 then ((mezzaninelaw21_wakes.f k).bind fun t283 => (some t283)) else (some false))) else ((mezzaninelaw21_wakes.f k).bind fun t284 => (some t284))))))
def mezzaninelaw21_AluShifts.f (k : Nat) (a0 : Int) (a1 : Int) : Option (Bool) := (mezzaninelaw21_value.f k 37 a0 a1).bind fun t275 => ((mezzaninelaw21_value.f k 41 t275 a1).bind fun t276 => (if 0 ≤ (IntKind.u64.wrap (64 - (Go.bits .and .u64 a1 63))) then (if t276 = (Go.bits .and .u64 a0 (IntKind.u64.wrap ((shl .u64 1 (IntKind.u64.wrap (64 - (Go.bits .and .u64 a1 63)))) - 1))) then (if (Go.bits .and .u64 a1 63) = 0 then (mezzaninelaw21_AluShifts.j0 k a0 a1 (t276 != a0)) else (mezzaninelaw21_AluShifts.j0 k a0 a1 false)) else (if (Go.bits .and .u64 a1 63) = 0 then (mezzaninelaw21_AluShifts.j0 k a0 a1 (t276 != a0)) else (mezzaninelaw21_AluShifts.j0 k a0 a1 true))) else (none)))
theorem mezzaninelaw21_AluShifts.mono_l : ∀ k, (∀ y0 y1 y2, LeO (mezzaninelaw21_AluShifts.j0 k y0 y1 y2) (mezzaninelaw21_AluShifts.j0 (k + 1) y0 y1 y2))
  | 0 => fun _ _ _ r h => by simp [mezzaninelaw21_AluShifts.j0] at h
  | k + 1 => by
    have ih0 := mezzaninelaw21_AluShifts.mono_l k
    · intro y0 y1 y2
      unfold mezzaninelaw21_AluShifts.j0
      repeat' first
      | (with_reducible exact ih0 _ _ _)
      | (with_reducible exact mezzaninelaw21_value.mono _ _ _ _)
      | (with_reducible exact mezzaninelaw21_wakes.mono _)
      | (with_reducible exact LeO.refl _)
      | (with_reducible exact LeO.none _)
      | (with_reducible refine LeO.ite ?_ ?_)
      | (with_reducible refine LeO.bind ?_ (fun _ => ?_))
      | exact ih0 _ _ _
      | exact mezzaninelaw21_value.mono _ _ _ _
      | exact mezzaninelaw21_wakes.mono _
      | exact LeO.none _
      | refine LeO.ite ?_ ?_
      | refine LeO.bind ?_ (fun _ => ?_)
theorem mezzaninelaw21_AluShifts.mono : ∀ a0 a1 k, LeO (mezzaninelaw21_AluShifts.f k a0 a1) (mezzaninelaw21_AluShifts.f (k + 1) a0 a1) := by
  intro a0 a1 k
  have ih0 := mezzaninelaw21_AluShifts.mono_l k
  unfold mezzaninelaw21_AluShifts.f
  repeat' first
      | (with_reducible exact ih0 _ _ _)
      | (with_reducible exact mezzaninelaw21_value.mono _ _ _ _)
      | (with_reducible exact mezzaninelaw21_wakes.mono _)
      | (with_reducible exact LeO.refl _)
      | (with_reducible exact LeO.none _)
      | (with_reducible refine LeO.ite ?_ ?_)
      | (with_reducible refine LeO.bind ?_ (fun _ => ?_))
      | exact ih0 _ _ _
      | exact mezzaninelaw21_value.mono _ _ _ _
      | exact mezzaninelaw21_wakes.mono _
      | exact LeO.none _
      | refine LeO.ite ?_ ?_
      | refine LeO.bind ?_ (fun _ => ?_)
set_option maxHeartbeats 8000000 in
set_option maxRecDepth 100000 in
theorem mezzaninelaw21_AluShifts.calls (k : Nat) (a0 : Int) (a1 : Int) (r : Bool) (w : World) (ht : r = true) (h : mezzaninelaw21_AluShifts.f k a0 a1 = some r) :
    Calls Try.prog 6 #[.int .u64 a0, .int .u64 a1] w fun e w' => e = .returned (.bool r) ∧ Below w.heap.size w w' := by
  have HB := Aside0.mk (Below.refl w.heap.size w)
  have HT := Aside0.mk ht
  clear ht
  have H : ((mezzaninelaw21_value.f k 37 a0 a1).bind fun t275 => ((mezzaninelaw21_value.f k 41 t275 a1).bind fun t276 => (if 0 ≤ (IntKind.u64.wrap (64 - (Go.bits .and .u64 a1 63))) then (if t276 = (Go.bits .and .u64 a0 (IntKind.u64.wrap ((shl .u64 1 (IntKind.u64.wrap (64 - (Go.bits .and .u64 a1 63)))) - 1))) then (if (Go.bits .and .u64 a1 63) = 0 then (mezzaninelaw21_AluShifts.j0 k a0 a1 (t276 != a0)) else (mezzaninelaw21_AluShifts.j0 k a0 a1 false)) else (if (Go.bits .and .u64 a1 63) = 0 then (mezzaninelaw21_AluShifts.j0 k a0 a1 (t276 != a0)) else (mezzaninelaw21_AluShifts.j0 k a0 a1 true))) else (none)))) = some r := h
  clear h
  replace H := Option.bind_eq_some_iff.mp H
  obtain ⟨t275, A30, H⟩ := H
  replace H : ((mezzaninelaw21_value.f k 41 t275 a1).bind fun t276 => (if 0 ≤ (IntKind.u64.wrap (64 - (Go.bits .and .u64 a1 63))) then (if t276 = (Go.bits .and .u64 a0 (IntKind.u64.wrap ((shl .u64 1 (IntKind.u64.wrap (64 - (Go.bits .and .u64 a1 63)))) - 1))) then (if (Go.bits .and .u64 a1 63) = 0 then (mezzaninelaw21_AluShifts.j0 k a0 a1 (t276 != a0)) else (mezzaninelaw21_AluShifts.j0 k a0 a1 false)) else (if (Go.bits .and .u64 a1 63) = 0 then (mezzaninelaw21_AluShifts.j0 k a0 a1 (t276 != a0)) else (mezzaninelaw21_AluShifts.j0 k a0 a1 true))) else (none))) = some r := H
  have A3 := Aside0.mk A30
  clear A30
  replace H := Option.bind_eq_some_iff.mp H
  obtain ⟨t276, A40, H⟩ := H
  replace H : (if 0 ≤ (IntKind.u64.wrap (64 - (Go.bits .and .u64 a1 63))) then (if t276 = (Go.bits .and .u64 a0 (IntKind.u64.wrap ((shl .u64 1 (IntKind.u64.wrap (64 - (Go.bits .and .u64 a1 63)))) - 1))) then (if (Go.bits .and .u64 a1 63) = 0 then (mezzaninelaw21_AluShifts.j0 k a0 a1 (t276 != a0)) else (mezzaninelaw21_AluShifts.j0 k a0 a1 false)) else (if (Go.bits .and .u64 a1 63) = 0 then (mezzaninelaw21_AluShifts.j0 k a0 a1 (t276 != a0)) else (mezzaninelaw21_AluShifts.j0 k a0 a1 true))) else (none)) = some r := H
  have A4 := Aside0.mk A40
  clear A40
  have HC5 := Aside0.mk H
  clear H
  go_enter Try.func6, Try.ntmps6
  go_upto_region 4 with (first | ((with_reducible refine gate_callee (f := 16) rfl ?_); refine goesL_ (some 14) rfl rfl Try.func16 (by kernel_rfl) rfl #[.int .i64 37, .int .u64 a0, .int .u64 a1] rfl (by (try simp only [List.map_toArray, List.map_cons, List.map_nil]); first | done | rfl | (simp only [List.length_drop, List.length_take]; rfl)) ?_; (with_reducible refine (mezzaninelaw21_value.calls k 37 a0 a1 t275 _ A3.out).mono ?_); rintro e w6 ⟨rfl, hb⟩; refine ⟨_, rfl, ?_⟩; have n0_ := Aside0.mk (below_step (by repeat (first | (with_reducible first | exact HB.out | apply below_alloc | apply pw_below_drewN | apply below_drew1) | exact HB.out)) hb); clear HB; have HB := n0_; clear n0_; (try clear hb); (try clear hb2); (try clear hk); (try clear hi)) | ((with_reducible refine gate_callee (f := 16) rfl ?_); refine goesL_ (some 17) rfl rfl Try.func16 (by kernel_rfl) rfl #[.int .i64 41, .int .u64 t275, .int .u64 a1] rfl (by (try simp only [List.map_toArray, List.map_cons, List.map_nil]); first | done | rfl | (simp only [List.length_drop, List.length_take]; rfl)) ?_; (with_reducible refine (mezzaninelaw21_value.calls k 41 t275 a1 t276 _ A4.out).mono ?_); rintro e w7 ⟨rfl, hb⟩; refine ⟨_, rfl, ?_⟩; have n0_ := Aside0.mk (below_step (by repeat (first | (with_reducible first | exact HB.out | apply below_alloc | apply pw_below_drewN | apply below_drew1) | exact HB.out)) hb); clear HB; have HB := n0_; clear n0_; (try clear hb); (try clear hb2); (try clear hk); (try clear hi)))
  (try simp only [Act.put, List.setIfInBounds_toArray, List.set_cons_zero, List.set_cons_succ])
  go_cut [38] (fun v38 wc => ∃ (kq : Nat) (x38_4 : Bool), v38 = .bool x38_4 ∧ Aside0 (mezzaninelaw21_AluShifts.j0 kq a0 a1 x38_4 = some r) ∧ Aside0 (kq ≤ k) ∧ Aside0 (Below w.heap.size w wc))
  case first =>
    have H := HC5.out
    clear HC5
    obtain ⟨ji8, hji8⟩ : ∃ j_ : Int, (IntKind.u64.wrap (64 - (Go.bits .and .u64 a1 63))) = j_ := ⟨_, rfl⟩
    replace H : (if 0 ≤ (ji8) then (if t276 = (Go.bits .and .u64 a0 (IntKind.u64.wrap ((shl .u64 1 (ji8)) - 1))) then (if (Go.bits .and .u64 a1 63) = 0 then (mezzaninelaw21_AluShifts.j0 k a0 a1 (t276 != a0)) else (mezzaninelaw21_AluShifts.j0 k a0 a1 false)) else (if (Go.bits .and .u64 a1 63) = 0 then (mezzaninelaw21_AluShifts.j0 k a0 a1 (t276 != a0)) else (mezzaninelaw21_AluShifts.j0 k a0 a1 true))) else (none)) = some r := by first | (rw [hji8] at H; exact H) | (simp only [hji8] at H ⊢; exact H)
    by_cases c9 : 0 ≤ (ji8)
    · rw [if_pos c9] at H
      have c9b0 := eq_true c9
      have c9b1 : decide (0 ≤ (ji8)) = true := decide_eq_true c9
      clear c9
      obtain ⟨ji10, hji10⟩ : ∃ j_ : Int, (shl .u64 1 (ji8)) = j_ := ⟨_, rfl⟩
      replace H : (if t276 = (Go.bits .and .u64 a0 (IntKind.u64.wrap ((ji10) - 1))) then (if (Go.bits .and .u64 a1 63) = 0 then (mezzaninelaw21_AluShifts.j0 k a0 a1 (t276 != a0)) else (mezzaninelaw21_AluShifts.j0 k a0 a1 false)) else (if (Go.bits .and .u64 a1 63) = 0 then (mezzaninelaw21_AluShifts.j0 k a0 a1 (t276 != a0)) else (mezzaninelaw21_AluShifts.j0 k a0 a1 true))) = some r := by first | (rw [hji10] at H; exact H) | (simp only [hji10] at H ⊢; exact H)
      have hji10_ : (IntKind.u64.wrap (1 * 2 ^ min (ji8).toNat 64)) = ji10 := hji10
      have hji10z : (ji8) ≤ 64 → (IntKind.u64.wrap (1 * 2 ^ (ji8).toNat)) = ji10 := shl_small hji10
      have hji10u : (IntKind.u64.wrap (2 ^ min (ji8).toNat 64)) = ji10 := by have h_ := hji10_; rw [Int.one_mul] at h_; exact h_
      have hji10v : (ji8) ≤ 64 → (IntKind.u64.wrap (2 ^ (ji8).toNat)) = ji10 := fun hle_ => by have h_ := hji10z hle_; rw [Int.one_mul] at h_; exact h_
      by_cases c11 : t276 = (Go.bits .and .u64 a0 (IntKind.u64.wrap ((ji10) - 1)))
      · rw [if_pos c11] at H
        have c11b0 : (t276 == (Go.bits .and .u64 a0 (IntKind.u64.wrap ((ji10) - 1)))) = true := beq_iff_eq.mpr c11
        have c11b1 : (t276 != (Go.bits .and .u64 a0 (IntKind.u64.wrap ((ji10) - 1)))) = false := bne_eq_false_iff_eq.mpr c11
        clear c11
        (first | rw [c11b0] | (simp only [i64_w, i32_w]; rw [c11b0]) | skip)
        by_cases c12 : (Go.bits .and .u64 a1 63) = 0
        · rw [if_pos c12] at H
          have c12b0 : ((Go.bits .and .u64 a1 63) == 0) = true := beq_iff_eq.mpr c12
          have c12b1 : ((Go.bits .and .u64 a1 63) != 0) = false := bne_eq_false_iff_eq.mpr c12
          clear c12
          have H' := Aside0.mk H
          clear H
          go_wp2
          go_meet
          case rel => exact ⟨_, ((t276 != a0)), (by first | rfl | (simp; done) | (simp [*]; done)), H', ⟨by first | omega | exact Nat.le_refl _⟩, ⟨by repeat (first | (with_reducible first | exact HB.out | apply below_alloc | apply pw_below_drewN | apply below_drew1) | exact HB.out)⟩⟩
        · rw [if_neg c12] at H
          have c12b0 : ((Go.bits .and .u64 a1 63) == 0) = false := beq_eq_false_iff_ne.mpr c12
          have c12b1 : ((Go.bits .and .u64 a1 63) != 0) = true := bne_iff_ne.mpr c12
          have H' := Aside0.mk H
          clear H
          go_wp2
          go_meet
          case rel => exact ⟨_, (false), (by first | rfl | (simp; done) | (simp [*]; done)), H', ⟨by first | omega | exact Nat.le_refl _⟩, ⟨by repeat (first | (with_reducible first | exact HB.out | apply below_alloc | apply pw_below_drewN | apply below_drew1) | exact HB.out)⟩⟩
      · rw [if_neg c11] at H
        have c11b0 : (t276 == (Go.bits .and .u64 a0 (IntKind.u64.wrap ((ji10) - 1)))) = false := beq_eq_false_iff_ne.mpr c11
        have c11b1 : (t276 != (Go.bits .and .u64 a0 (IntKind.u64.wrap ((ji10) - 1)))) = true := bne_iff_ne.mpr c11
        (first | rw [c11b0] | (simp only [i64_w, i32_w]; rw [c11b0]) | skip)
        by_cases c13 : (Go.bits .and .u64 a1 63) = 0
        · rw [if_pos c13] at H
          have c13b0 : ((Go.bits .and .u64 a1 63) == 0) = true := beq_iff_eq.mpr c13
          have c13b1 : ((Go.bits .and .u64 a1 63) != 0) = false := bne_eq_false_iff_eq.mpr c13
          clear c13
          have H' := Aside0.mk H
          clear H
          go_wp2
          go_meet
          case rel => exact ⟨_, ((t276 != a0)), (by first | rfl | (simp; done) | (simp [*]; done)), H', ⟨by first | omega | exact Nat.le_refl _⟩, ⟨by repeat (first | (with_reducible first | exact HB.out | apply below_alloc | apply pw_below_drewN | apply below_drew1) | exact HB.out)⟩⟩
        · rw [if_neg c13] at H
          have c13b0 : ((Go.bits .and .u64 a1 63) == 0) = false := beq_eq_false_iff_ne.mpr c13
          have c13b1 : ((Go.bits .and .u64 a1 63) != 0) = true := bne_iff_ne.mpr c13
          exact absurd H (by rw [HT.out]; cases k <;> simp [mezzaninelaw21_AluShifts.j0])
    · rw [if_neg c9] at H
      exact absurd H (by simp)
  case rest =>
    clear HC5
    try clear c1
    try clear p2
    try clear c6
    try clear c9
    try clear c9b0
    try clear c9b1
    try clear c11
    try clear c11b0
    try clear c11b1
    try clear c12
    try clear c12b0
    try clear c12b1
    try clear c13
    try clear c13b0
    try clear c13b1
    obtain ⟨kq, x38_4, rfl, HA, HJ4, HB⟩ := hcut
    cases kq with
    | zero => exact absurd HA.out (by simp [mezzaninelaw21_AluShifts.j0])
    | succ kj4 =>
      have H := HA.out
      clear HA
      simp only [mezzaninelaw21_AluShifts.j0] at H
      by_cases c14 : x38_4 = true
      · subst c14
        have H1 : (some false) = some r := by rw [if_pos rfl] at H; exact H
        clear H
        have H := H1
        clear H1
        exact absurd (Option.some.inj H) (by rw [HT.out]; decide)
      · replace c14 := Bool.eq_false_iff.mpr c14
        subst c14
        have H1 : ((mezzaninelaw21_value.f kj4 42 a0 a1).bind fun t277 => ((mezzaninelaw21_value.f kj4 41 a0 a1).bind fun t278 => (if (a0 / 9223372036854775808) = 0 then (if t277 = t278 then (if (a0 / 9223372036854775808) = 1 then ((mezzaninelaw21_value.f kj4 41 (Go.bits .xor .u64 IntKind.u64.max a0) a1).bind fun t279 => (if (Go.bits .xor .u64 IntKind.u64.max t277) = t279 then ((mezzaninelaw21_wakes.f kj4).bind fun t280 => (some t280)) else (some false))) else ((mezzaninelaw21_wakes.f kj4).bind fun t281 => (some t281))) else (some false)) else (if (a0 / 9223372036854775808) = 1 then ((mezzaninelaw21_value.f kj4 41 (Go.bits .xor .u64 IntKind.u64.max a0) a1).bind fun t282 => (if (Go.bits .xor .u64 IntKind.u64.max t277) = t282 then ((mezzaninelaw21_wakes.f kj4).bind fun t283 => (some t283)) else (some false))) else ((mezzaninelaw21_wakes.f kj4).bind fun t284 => (some t284)))))) = some r := by rw [if_neg (show ¬ (false = true) by decide)] at H; exact H
        clear H
        have H := H1
        clear H1
        replace H := Option.bind_eq_some_iff.mp H
        obtain ⟨t277, A150, H⟩ := H
        replace H : ((mezzaninelaw21_value.f kj4 41 a0 a1).bind fun t278 => (if (a0 / 9223372036854775808) = 0 then (if t277 = t278 then (if (a0 / 9223372036854775808) = 1 then ((mezzaninelaw21_value.f kj4 41 (Go.bits .xor .u64 IntKind.u64.max a0) a1).bind fun t279 => (if (Go.bits .xor .u64 IntKind.u64.max t277) = t279 then ((mezzaninelaw21_wakes.f kj4).bind fun t280 => (some t280)) else (some false))) else ((mezzaninelaw21_wakes.f kj4).bind fun t281 => (some t281))) else (some false)) else (if (a0 / 9223372036854775808) = 1 then ((mezzaninelaw21_value.f kj4 41 (Go.bits .xor .u64 IntKind.u64.max a0) a1).bind fun t282 => (if (Go.bits .xor .u64 IntKind.u64.max t277) = t282 then ((mezzaninelaw21_wakes.f kj4).bind fun t283 => (some t283)) else (some false))) else ((mezzaninelaw21_wakes.f kj4).bind fun t284 => (some t284))))) = some r := H
        have A15 := Aside0.mk A150
        clear A150
        replace H := Option.bind_eq_some_iff.mp H
        obtain ⟨t278, A160, H⟩ := H
        replace H : (if (a0 / 9223372036854775808) = 0 then (if t277 = t278 then (if (a0 / 9223372036854775808) = 1 then ((mezzaninelaw21_value.f kj4 41 (Go.bits .xor .u64 IntKind.u64.max a0) a1).bind fun t279 => (if (Go.bits .xor .u64 IntKind.u64.max t277) = t279 then ((mezzaninelaw21_wakes.f kj4).bind fun t280 => (some t280)) else (some false))) else ((mezzaninelaw21_wakes.f kj4).bind fun t281 => (some t281))) else (some false)) else (if (a0 / 9223372036854775808) = 1 then ((mezzaninelaw21_value.f kj4 41 (Go.bits .xor .u64 IntKind.u64.max a0) a1).bind fun t282 => (if (Go.bits .xor .u64 IntKind.u64.max t277) = t282 then ((mezzaninelaw21_wakes.f kj4).bind fun t283 => (some t283)) else (some false))) else ((mezzaninelaw21_wakes.f kj4).bind fun t284 => (some t284)))) = some r := H
        have A16 := Aside0.mk A160
        clear A160
        by_cases c17 : (a0 / 9223372036854775808) = 0
        · rw [if_pos c17] at H
          have c17b0 : ((a0 / 9223372036854775808) == 0) = true := beq_iff_eq.mpr c17
          have c17b1 : ((a0 / 9223372036854775808) != 0) = false := bne_eq_false_iff_eq.mpr c17
          clear c17
          by_cases c18 : t277 = t278
          · rw [if_pos c18] at H
            have c18b0 : (t277 == t278) = true := beq_iff_eq.mpr c18
            have c18b1 : (t277 != t278) = false := bne_eq_false_iff_eq.mpr c18
            clear c18
            by_cases c19 : (a0 / 9223372036854775808) = 1
            · rw [if_pos c19] at H
              have c19b0 : ((a0 / 9223372036854775808) == 1) = true := beq_iff_eq.mpr c19
              have c19b1 : ((a0 / 9223372036854775808) != 1) = false := bne_eq_false_iff_eq.mpr c19
              clear c19
              replace H := Option.bind_eq_some_iff.mp H
              obtain ⟨t279, A200, H⟩ := H
              replace H : (if (Go.bits .xor .u64 IntKind.u64.max t277) = t279 then ((mezzaninelaw21_wakes.f kj4).bind fun t280 => (some t280)) else (some false)) = some r := H
              have A20 := Aside0.mk A200
              clear A200
              by_cases c21 : (Go.bits .xor .u64 IntKind.u64.max t277) = t279
              · rw [if_pos c21] at H
                have c21b0 : ((Go.bits .xor .u64 IntKind.u64.max t277) == t279) = true := beq_iff_eq.mpr c21
                have c21b1 : ((Go.bits .xor .u64 IntKind.u64.max t277) != t279) = false := bne_eq_false_iff_eq.mpr c21
                clear c21
                replace H := Option.bind_eq_some_iff.mp H
                obtain ⟨t280, A220, H⟩ := H
                replace H : (some t280) = some r := H
                have A22 := Aside0.mk A220
                clear A220
                obtain rfl := Option.some.inj H
                go_wp2_with (first | ((with_reducible refine gate_callee (f := 16) rfl ?_); refine goesL_ (some 41) rfl rfl Try.func16 (by kernel_rfl) rfl #[.int .i64 42, .int .u64 a0, .int .u64 a1] rfl (by (try simp only [List.map_toArray, List.map_cons, List.map_nil]); first | done | rfl | (simp only [List.length_drop, List.length_take]; rfl)) ?_; (with_reducible refine (mezzaninelaw21_value.calls kj4 42 a0 a1 t277 _ A15.out).mono ?_); rintro e w23 ⟨rfl, hb⟩; refine ⟨_, rfl, ?_⟩; have n0_ := Aside0.mk (below_step (by repeat (first | (with_reducible first | exact HB.out | apply below_alloc | apply pw_below_drewN | apply below_drew1) | exact HB.out)) hb); clear HB; have HB := n0_; clear n0_; (try clear hb); (try clear hb2); (try clear hk); (try clear hi)) | ((with_reducible refine gate_callee (f := 16) rfl ?_); refine goesL_ (some 44) rfl rfl Try.func16 (by kernel_rfl) rfl #[.int .i64 41, .int .u64 a0, .int .u64 a1] rfl (by (try simp only [List.map_toArray, List.map_cons, List.map_nil]); first | done | rfl | (simp only [List.length_drop, List.length_take]; rfl)) ?_; (with_reducible refine (mezzaninelaw21_value.calls kj4 41 a0 a1 t278 _ A16.out).mono ?_); rintro e w24 ⟨rfl, hb⟩; refine ⟨_, rfl, ?_⟩; have n0_ := Aside0.mk (below_step (by repeat (first | (with_reducible first | exact HB.out | apply below_alloc | apply pw_below_drewN | apply below_drew1) | exact HB.out)) hb); clear HB; have HB := n0_; clear n0_; (try clear hb); (try clear hb2); (try clear hk); (try clear hi)) | (go_at_call 16; (with_reducible refine (mezzaninelaw21_value.calls kj4 41 (Go.bits .xor .u64 IntKind.u64.max a0) a1 t279 _ A20.out).mono ?_); rintro e w25 ⟨rfl, hb⟩; have n0_ := Aside0.mk (below_step (by repeat (first | (with_reducible first | exact HB.out | apply below_alloc | apply pw_below_drewN | apply below_drew1) | exact HB.out)) hb); clear HB; have HB := n0_; clear n0_; (try clear hb); (try clear hb2); (try clear hk); (try clear hi)) | ((with_reducible refine gate_callee (f := 11) rfl ?_); refine goesL_ (some 67) rfl rfl Try.func11 (by kernel_rfl) rfl #[] rfl (by (try simp only [List.map_toArray, List.map_cons, List.map_nil]); first | done | rfl | (simp only [List.length_drop, List.length_take]; rfl)) ?_; (with_reducible refine (mezzaninelaw21_wakes.calls kj4  t280 _ A22.out).mono ?_); rintro e w26 ⟨rfl, hb⟩; refine ⟨_, rfl, ?_⟩; have n0_ := Aside0.mk (below_step (by repeat (first | (with_reducible first | exact HB.out | apply below_alloc | apply pw_below_drewN | apply below_drew1) | exact HB.out)) hb); clear HB; have HB := n0_; clear n0_; (try clear hb); (try clear hb2); (try clear hk); (try clear hi)))
                go_ret
                exact ⟨by first | rfl | (simp [errW_none, errW_some] <;> rfl) | (simp [*, errW_none, errW_some] <;> rfl), by repeat (first | (with_reducible first | exact HB.out | apply below_alloc | apply pw_below_drewN | apply below_drew1) | exact HB.out)⟩
              · rw [if_neg c21] at H
                have c21b0 : ((Go.bits .xor .u64 IntKind.u64.max t277) == t279) = false := beq_eq_false_iff_ne.mpr c21
                have c21b1 : ((Go.bits .xor .u64 IntKind.u64.max t277) != t279) = true := bne_iff_ne.mpr c21
                exact absurd (Option.some.inj H) (by rw [HT.out]; decide)
            · rw [if_neg c19] at H
              have c19b0 : ((a0 / 9223372036854775808) == 1) = false := beq_eq_false_iff_ne.mpr c19
              have c19b1 : ((a0 / 9223372036854775808) != 1) = true := bne_iff_ne.mpr c19
              replace H := Option.bind_eq_some_iff.mp H
              obtain ⟨t281, A270, H⟩ := H
              replace H : (some t281) = some r := H
              have A27 := Aside0.mk A270
              clear A270
              obtain rfl := Option.some.inj H
              go_wp2_with (first | ((with_reducible refine gate_callee (f := 16) rfl ?_); refine goesL_ (some 41) rfl rfl Try.func16 (by kernel_rfl) rfl #[.int .i64 42, .int .u64 a0, .int .u64 a1] rfl (by (try simp only [List.map_toArray, List.map_cons, List.map_nil]); first | done | rfl | (simp only [List.length_drop, List.length_take]; rfl)) ?_; (with_reducible refine (mezzaninelaw21_value.calls kj4 42 a0 a1 t277 _ A15.out).mono ?_); rintro e w28 ⟨rfl, hb⟩; refine ⟨_, rfl, ?_⟩; have n0_ := Aside0.mk (below_step (by repeat (first | (with_reducible first | exact HB.out | apply below_alloc | apply pw_below_drewN | apply below_drew1) | exact HB.out)) hb); clear HB; have HB := n0_; clear n0_; (try clear hb); (try clear hb2); (try clear hk); (try clear hi)) | ((with_reducible refine gate_callee (f := 16) rfl ?_); refine goesL_ (some 44) rfl rfl Try.func16 (by kernel_rfl) rfl #[.int .i64 41, .int .u64 a0, .int .u64 a1] rfl (by (try simp only [List.map_toArray, List.map_cons, List.map_nil]); first | done | rfl | (simp only [List.length_drop, List.length_take]; rfl)) ?_; (with_reducible refine (mezzaninelaw21_value.calls kj4 41 a0 a1 t278 _ A16.out).mono ?_); rintro e w29 ⟨rfl, hb⟩; refine ⟨_, rfl, ?_⟩; have n0_ := Aside0.mk (below_step (by repeat (first | (with_reducible first | exact HB.out | apply below_alloc | apply pw_below_drewN | apply below_drew1) | exact HB.out)) hb); clear HB; have HB := n0_; clear n0_; (try clear hb); (try clear hb2); (try clear hk); (try clear hi)) | ((with_reducible refine gate_callee (f := 11) rfl ?_); refine goesL_ (some 67) rfl rfl Try.func11 (by kernel_rfl) rfl #[] rfl (by (try simp only [List.map_toArray, List.map_cons, List.map_nil]); first | done | rfl | (simp only [List.length_drop, List.length_take]; rfl)) ?_; (with_reducible refine (mezzaninelaw21_wakes.calls kj4  t281 _ A27.out).mono ?_); rintro e w30 ⟨rfl, hb⟩; refine ⟨_, rfl, ?_⟩; have n0_ := Aside0.mk (below_step (by repeat (first | (with_reducible first | exact HB.out | apply below_alloc | apply pw_below_drewN | apply below_drew1) | exact HB.out)) hb); clear HB; have HB := n0_; clear n0_; (try clear hb); (try clear hb2); (try clear hk); (try clear hi)))
              go_ret
              exact ⟨by first | rfl | (simp [errW_none, errW_some] <;> rfl) | (simp [*, errW_none, errW_some] <;> rfl), by repeat (first | (with_reducible first | exact HB.out | apply below_alloc | apply pw_below_drewN | apply below_drew1) | exact HB.out)⟩
          · rw [if_neg c18] at H
            have c18b0 : (t277 == t278) = false := beq_eq_false_iff_ne.mpr c18
            have c18b1 : (t277 != t278) = true := bne_iff_ne.mpr c18
            exact absurd (Option.some.inj H) (by rw [HT.out]; decide)
        · rw [if_neg c17] at H
          have c17b0 : ((a0 / 9223372036854775808) == 0) = false := beq_eq_false_iff_ne.mpr c17
          have c17b1 : ((a0 / 9223372036854775808) != 0) = true := bne_iff_ne.mpr c17
          by_cases c31 : (a0 / 9223372036854775808) = 1
          · rw [if_pos c31] at H
            have c31b0 : ((a0 / 9223372036854775808) == 1) = true := beq_iff_eq.mpr c31
            have c31b1 : ((a0 / 9223372036854775808) != 1) = false := bne_eq_false_iff_eq.mpr c31
            clear c31
            replace H := Option.bind_eq_some_iff.mp H
            obtain ⟨t282, A320, H⟩ := H
            replace H : (if (Go.bits .xor .u64 IntKind.u64.max t277) = t282 then ((mezzaninelaw21_wakes.f kj4).bind fun t283 => (some t283)) else (some false)) = some r := H
            have A32 := Aside0.mk A320
            clear A320
            by_cases c33 : (Go.bits .xor .u64 IntKind.u64.max t277) = t282
            · rw [if_pos c33] at H
              have c33b0 : ((Go.bits .xor .u64 IntKind.u64.max t277) == t282) = true := beq_iff_eq.mpr c33
              have c33b1 : ((Go.bits .xor .u64 IntKind.u64.max t277) != t282) = false := bne_eq_false_iff_eq.mpr c33
              clear c33
              replace H := Option.bind_eq_some_iff.mp H
              obtain ⟨t283, A340, H⟩ := H
              replace H : (some t283) = some r := H
              have A34 := Aside0.mk A340
              clear A340
              obtain rfl := Option.some.inj H
              go_wp2_with (first | ((with_reducible refine gate_callee (f := 16) rfl ?_); refine goesL_ (some 41) rfl rfl Try.func16 (by kernel_rfl) rfl #[.int .i64 42, .int .u64 a0, .int .u64 a1] rfl (by (try simp only [List.map_toArray, List.map_cons, List.map_nil]); first | done | rfl | (simp only [List.length_drop, List.length_take]; rfl)) ?_; (with_reducible refine (mezzaninelaw21_value.calls kj4 42 a0 a1 t277 _ A15.out).mono ?_); rintro e w35 ⟨rfl, hb⟩; refine ⟨_, rfl, ?_⟩; have n0_ := Aside0.mk (below_step (by repeat (first | (with_reducible first | exact HB.out | apply below_alloc | apply pw_below_drewN | apply below_drew1) | exact HB.out)) hb); clear HB; have HB := n0_; clear n0_; (try clear hb); (try clear hb2); (try clear hk); (try clear hi)) | ((with_reducible refine gate_callee (f := 16) rfl ?_); refine goesL_ (some 44) rfl rfl Try.func16 (by kernel_rfl) rfl #[.int .i64 41, .int .u64 a0, .int .u64 a1] rfl (by (try simp only [List.map_toArray, List.map_cons, List.map_nil]); first | done | rfl | (simp only [List.length_drop, List.length_take]; rfl)) ?_; (with_reducible refine (mezzaninelaw21_value.calls kj4 41 a0 a1 t278 _ A16.out).mono ?_); rintro e w36 ⟨rfl, hb⟩; refine ⟨_, rfl, ?_⟩; have n0_ := Aside0.mk (below_step (by repeat (first | (with_reducible first | exact HB.out | apply below_alloc | apply pw_below_drewN | apply below_drew1) | exact HB.out)) hb); clear HB; have HB := n0_; clear n0_; (try clear hb); (try clear hb2); (try clear hk); (try clear hi)) | (go_at_call 16; (with_reducible refine (mezzaninelaw21_value.calls kj4 41 (Go.bits .xor .u64 IntKind.u64.max a0) a1 t282 _ A32.out).mono ?_); rintro e w37 ⟨rfl, hb⟩; have n0_ := Aside0.mk (below_step (by repeat (first | (with_reducible first | exact HB.out | apply below_alloc | apply pw_below_drewN | apply below_drew1) | exact HB.out)) hb); clear HB; have HB := n0_; clear n0_; (try clear hb); (try clear hb2); (try clear hk); (try clear hi)) | ((with_reducible refine gate_callee (f := 11) rfl ?_); refine goesL_ (some 67) rfl rfl Try.func11 (by kernel_rfl) rfl #[] rfl (by (try simp only [List.map_toArray, List.map_cons, List.map_nil]); first | done | rfl | (simp only [List.length_drop, List.length_take]; rfl)) ?_; (with_reducible refine (mezzaninelaw21_wakes.calls kj4  t283 _ A34.out).mono ?_); rintro e w38 ⟨rfl, hb⟩; refine ⟨_, rfl, ?_⟩; have n0_ := Aside0.mk (below_step (by repeat (first | (with_reducible first | exact HB.out | apply below_alloc | apply pw_below_drewN | apply below_drew1) | exact HB.out)) hb); clear HB; have HB := n0_; clear n0_; (try clear hb); (try clear hb2); (try clear hk); (try clear hi)))
              go_ret
              exact ⟨by first | rfl | (simp [errW_none, errW_some] <;> rfl) | (simp [*, errW_none, errW_some] <;> rfl), by repeat (first | (with_reducible first | exact HB.out | apply below_alloc | apply pw_below_drewN | apply below_drew1) | exact HB.out)⟩
            · rw [if_neg c33] at H
              have c33b0 : ((Go.bits .xor .u64 IntKind.u64.max t277) == t282) = false := beq_eq_false_iff_ne.mpr c33
              have c33b1 : ((Go.bits .xor .u64 IntKind.u64.max t277) != t282) = true := bne_iff_ne.mpr c33
              exact absurd (Option.some.inj H) (by rw [HT.out]; decide)
          · rw [if_neg c31] at H
            have c31b0 : ((a0 / 9223372036854775808) == 1) = false := beq_eq_false_iff_ne.mpr c31
            have c31b1 : ((a0 / 9223372036854775808) != 1) = true := bne_iff_ne.mpr c31
            replace H := Option.bind_eq_some_iff.mp H
            obtain ⟨t284, A390, H⟩ := H
            replace H : (some t284) = some r := H
            have A39 := Aside0.mk A390
            clear A390
            obtain rfl := Option.some.inj H
            go_wp2_with (first | ((with_reducible refine gate_callee (f := 16) rfl ?_); refine goesL_ (some 41) rfl rfl Try.func16 (by kernel_rfl) rfl #[.int .i64 42, .int .u64 a0, .int .u64 a1] rfl (by (try simp only [List.map_toArray, List.map_cons, List.map_nil]); first | done | rfl | (simp only [List.length_drop, List.length_take]; rfl)) ?_; (with_reducible refine (mezzaninelaw21_value.calls kj4 42 a0 a1 t277 _ A15.out).mono ?_); rintro e w40 ⟨rfl, hb⟩; refine ⟨_, rfl, ?_⟩; have n0_ := Aside0.mk (below_step (by repeat (first | (with_reducible first | exact HB.out | apply below_alloc | apply pw_below_drewN | apply below_drew1) | exact HB.out)) hb); clear HB; have HB := n0_; clear n0_; (try clear hb); (try clear hb2); (try clear hk); (try clear hi)) | ((with_reducible refine gate_callee (f := 16) rfl ?_); refine goesL_ (some 44) rfl rfl Try.func16 (by kernel_rfl) rfl #[.int .i64 41, .int .u64 a0, .int .u64 a1] rfl (by (try simp only [List.map_toArray, List.map_cons, List.map_nil]); first | done | rfl | (simp only [List.length_drop, List.length_take]; rfl)) ?_; (with_reducible refine (mezzaninelaw21_value.calls kj4 41 a0 a1 t278 _ A16.out).mono ?_); rintro e w41 ⟨rfl, hb⟩; refine ⟨_, rfl, ?_⟩; have n0_ := Aside0.mk (below_step (by repeat (first | (with_reducible first | exact HB.out | apply below_alloc | apply pw_below_drewN | apply below_drew1) | exact HB.out)) hb); clear HB; have HB := n0_; clear n0_; (try clear hb); (try clear hb2); (try clear hk); (try clear hi)) | ((with_reducible refine gate_callee (f := 11) rfl ?_); refine goesL_ (some 67) rfl rfl Try.func11 (by kernel_rfl) rfl #[] rfl (by (try simp only [List.map_toArray, List.map_cons, List.map_nil]); first | done | rfl | (simp only [List.length_drop, List.length_take]; rfl)) ?_; (with_reducible refine (mezzaninelaw21_wakes.calls kj4  t284 _ A39.out).mono ?_); rintro e w42 ⟨rfl, hb⟩; refine ⟨_, rfl, ?_⟩; have n0_ := Aside0.mk (below_step (by repeat (first | (with_reducible first | exact HB.out | apply below_alloc | apply pw_below_drewN | apply below_drew1) | exact HB.out)) hb); clear HB; have HB := n0_; clear n0_; (try clear hb); (try clear hb2); (try clear hk); (try clear hi)))
            go_ret
            exact ⟨by first | rfl | (simp [errW_none, errW_some] <;> rfl) | (simp [*, errW_none, errW_some] <;> rfl), by repeat (first | (with_reducible first | exact HB.out | apply below_alloc | apply pw_below_drewN | apply below_drew1) | exact HB.out)⟩

/-- THE ONE PURE STATEMENT of mezzaninelaw21_AluShifts: yours. -/
def mezzaninelaw21_AluShifts.Pure : Prop := ∀ (a0 : Int) (a1 : Int), (Lit.int .u64 a0).wf = true → (Lit.int .u64 a1).wf = true → ∃ k, mezzaninelaw21_AluShifts.f k a0 a1 = some true
theorem mezzaninelaw21_AluShifts.walk (P : mezzaninelaw21_AluShifts.Pure) (a0 : Int) (a1 : Int) (w : World) (w0 : (Lit.int .u64 a0).wf = true) (w1 : (Lit.int .u64 a1).wf = true) :
    Calls Try.prog 6 #[.int .u64 a0, .int .u64 a1] w fun e w' => e = .returned (.bool true) ∧ Below w.heap.size w w' := by
  obtain ⟨k, h⟩ := P a0 a1 w0 w1
  refine (mezzaninelaw21_AluShifts.calls k a0 a1 true w rfl h).mono ?_
  rintro e w' ⟨rfl, hd⟩
  exact ⟨rfl, hd⟩

end Go.Proofs.Ytbfdehkejohjhaa.Q
