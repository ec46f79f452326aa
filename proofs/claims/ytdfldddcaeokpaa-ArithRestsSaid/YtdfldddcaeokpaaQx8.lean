/- Where the Lean function of a Go function gives a value, the Go call returns that value and changes nothing that was there: for every input. (By a program of this session, and by hand.) -/
import Derived.Test.YtdfldddcaeokpaaQx0
import Derived.Test.YtdfldddcaeokpaaQx1
import Derived.Test.YtdfldddcaeokpaaQx5
import Derived.Test.YtdfldddcaeokpaaQx6
namespace Go.Proofs.Ytdfldddcaeokpaa.Q
open Go.RowKit Go.Proofs.YtdfldddcaeokpaaW.PrintWords Go.Proofs.YtdfldddcaeokpaaW.PrintLast Go.Proofs.YtdfldddcaeokpaaW.PrintMore
attribute [local go_sem] max2_int min2_int max_two min_two max_three min_three max_four min_four   -- for this text's walks alone
set_option linter.unusedVariables false
set_option linter.unusedSimpArgs false

/-! ### mezzaninelaw02_ArithRests: function 7 -/
mutual
def mezzaninelaw02_ArithRests.j0 : Nat → Int → Int → Bool → Option (Bool)
  | 0, _, _, _ => none
  | k + 1, x0, x1, x43 => if x43 = true then (some false) else ((arith_Rem.f x0 x1).bind fun t212 => (if (wrap64 (t212)) < 0 then (if (wrap64 (x0)) ≥ 0 then (mezzaninelaw02_ArithRests.j1 k x0 x1 (wrap64 (t212)) true) else (if (wrap64 (t212)) > 0 then (mezzaninelaw02_ArithRests.j1 k x0 x1 (wrap64 (t212)) (decide ((wrap64 (x0)) ≤ 0))) else (mezzaninelaw02_ArithRests.j1 k x0 x1 (wrap64 (t212)) false))) else (if (wrap64 (t212)) > 0 then (mezzaninelaw02_ArithRests.j1 k x0 x1 (wrap64 (t212)) (decide ((wrap64 (x0)) ≤ 0))) else (mezzaninelaw02_ArithRests.j1 k x0 x1 (wrap64 (t212)) false))))
def mezzaninelaw02_ArithRests.j1 : Nat → Int → Int → Int → Bool → Option (Bool)
  | 0, _, _, _, _ => none
  | k + 1, x0, x1, x5, x63 => if x63 = true then (some false) else (if x1 = 0 then (mezzaninelaw02_ArithRests.j2 k x0 x1 x5 false) else (mezzaninelaw02_ArithRests.j2 k x0 x1 x5 (x1 != 9223372036854775808)))
def mezzaninelaw02_ArithRests.j2 : Nat → Int → Int → Int → Bool → Option (Bool)
  | 0, _, _, _, _ => none
  | k + 1, x0, x1, x5, x69 => if x69 = true then (if (wrap64 (x1)) < 0 then (if x5 ≥ (wrap64 (-(wrap64 (x1)))) then (some false) else (if x5 ≤ (wrap64 (-(wrap64 (-(wrap64 (x1)))))) then (some false) else (mezzaninelaw02_ArithRests.j3 k x0 x1))) else (if x5 ≥ (wrap64 (x1)) then (some false) else (if x5 ≤ (wrap64 (-(wrap64 (x1)))) then (some false) else (mezzaninelaw02_ArithRests.j3 k x0 x1)))) else (mezzaninelaw02_ArithRests.j3 k x0 x1)
def mezzaninelaw02_ArithRests.j3 : Nat → Int → Int → Option (Bool)
  | 0, _, _ => none
  | k + 1, x0, x1 => (arith_Divw.f x0 x1).bind fun t213 => ((arith_Remw.f x0 x1).bind fun t214 => (if ((IntKind.u64.wrap ((IntKind.u64.wrap (t213 * x1)) + t214)) % 4294967296) = ((x0) % 4294967296) then ((arith_Divuw.f x0 x1).bind fun t215 => ((arith_Remuw.f x0 x1).bind fun t216 => (some (((IntKind.u64.wrap ((IntKind.u64.wrap (t215 * x1)) + t216)) % 4294967296) == ((x0) % 4294967296))))) else (some false)))
end
def mezzaninelaw02_ArithRests.f (k : Nat) (a0 : Int) (a1 : Int) : Option (Bool) := (mezzaninelaw02_awake.f).bind fun t206 => (if t206 = true then ((arith_Divu.f a0 a1).bind fun t207 => ((arith_Remu.f a0 a1).bind fun t208 => (if (IntKind.u64.wrap ((IntKind.u64.wrap (t207 * a1)) + t208)) = a0 then ((arith_Div.f a0 a1).bind fun t209 => ((arith_Rem.f a0 a1).bind fun t210 => (if (IntKind.u64.wrap ((IntKind.u64.wrap (t209 * a1)) + t210)) = a0 then (if a1 = 0 then (mezzaninelaw02_ArithRests.j0 k a0 a1 false) else ((arith_Remu.f a0 a1).bind fun t211 => (mezzaninelaw02_ArithRests.j0 k a0 a1 (decide (t211 ≥ a1))))) else (mezzaninelaw02_ArithRests.j0 k a0 a1 true)))) else (mezzaninelaw02_ArithRests.j0 k a0 a1 true)))) else (some false))
theorem mezzaninelaw02_ArithRests.mono_l : ∀ k, (∀ y0 y1 y2, LeO (mezzaninelaw02_ArithRests.j0 k y0 y1 y2) (mezzaninelaw02_ArithRests.j0 (k + 1) y0 y1 y2)) ∧ (∀ y0 y1 y2 y3, LeO (mezzaninelaw02_ArithRests.j1 k y0 y1 y2 y3) (mezzaninelaw02_ArithRests.j1 (k + 1) y0 y1 y2 y3)) ∧ (∀ y0 y1 y2 y3, LeO (mezzaninelaw02_ArithRests.j2 k y0 y1 y2 y3) (mezzaninelaw02_ArithRests.j2 (k + 1) y0 y1 y2 y3)) ∧ (∀ y0 y1, LeO (mezzaninelaw02_ArithRests.j3 k y0 y1) (mezzaninelaw02_ArithRests.j3 (k + 1) y0 y1))
  | 0 => ⟨fun _ _ _ r h => by simp [mezzaninelaw02_ArithRests.j0] at h, fun _ _ _ _ r h => by simp [mezzaninelaw02_ArithRests.j1] at h, fun _ _ _ _ r h => by simp [mezzaninelaw02_ArithRests.j2] at h, fun _ _ r h => by simp [mezzaninelaw02_ArithRests.j3] at h⟩
  | k + 1 => by
    obtain ⟨ih0, ih1, ih2, ih3⟩ := mezzaninelaw02_ArithRests.mono_l k
    refine ⟨?_, ?_, ?_, ?_⟩
    · intro y0 y1 y2
      unfold mezzaninelaw02_ArithRests.j0
      repeat' first
      | (with_reducible exact ih0 _ _ _)
      | (with_reducible exact ih1 _ _ _ _)
      | (with_reducible exact ih2 _ _ _ _)
      | (with_reducible exact ih3 _ _)
      | (with_reducible exact LeO.refl _)
      | (with_reducible exact LeO.none _)
      | (with_reducible refine LeO.ite ?_ ?_)
      | (with_reducible refine LeO.bind ?_ (fun _ => ?_))
      | exact ih0 _ _ _
      | exact ih1 _ _ _ _
      | exact ih2 _ _ _ _
      | exact ih3 _ _
      | exact LeO.none _
      | refine LeO.ite ?_ ?_
      | refine LeO.bind ?_ (fun _ => ?_)
    · intro y0 y1 y2 y3
      unfold mezzaninelaw02_ArithRests.j1
      repeat' first
      | (with_reducible exact ih0 _ _ _)
      | (with_reducible exact ih1 _ _ _ _)
      | (with_reducible exact ih2 _ _ _ _)
      | (with_reducible exact ih3 _ _)
      | (with_reducible exact LeO.refl _)
      | (with_reducible exact LeO.none _)
      | (with_reducible refine LeO.ite ?_ ?_)
      | (with_reducible refine LeO.bind ?_ (fun _ => ?_))
      | exact ih0 _ _ _
      | exact ih1 _ _ _ _
      | exact ih2 _ _ _ _
      | exact ih3 _ _
      | exact LeO.none _
      | refine LeO.ite ?_ ?_
      | refine LeO.bind ?_ (fun _ => ?_)
    · intro y0 y1 y2 y3
      unfold mezzaninelaw02_ArithRests.j2
      repeat' first
      | (with_reducible exact ih0 _ _ _)
      | (with_reducible exact ih1 _ _ _ _)
      | (with_reducible exact ih2 _ _ _ _)
      | (with_reducible exact ih3 _ _)
      | (with_reducible exact LeO.refl _)
      | (with_reducible exact LeO.none _)
      | (with_reducible refine LeO.ite ?_ ?_)
      | (with_reducible refine LeO.bind ?_ (fun _ => ?_))
      | exact ih0 _ _ _
      | exact ih1 _ _ _ _
      | exact ih2 _ _ _ _
      | exact ih3 _ _
      | exact LeO.none _
      | refine LeO.ite ?_ ?_
      | refine LeO.bind ?_ (fun _ => ?_)
    · intro y0 y1
      unfold mezzaninelaw02_ArithRests.j3
      repeat' first
      | (with_reducible exact ih0 _ _ _)
      | (with_reducible exact ih1 _ _ _ _)
      | (with_reducible exact ih2 _ _ _ _)
      | (with_reducible exact ih3 _ _)
      | (with_reducible exact LeO.refl _)
      | (with_reducible exact LeO.none _)
      | (with_reducible refine LeO.ite ?_ ?_)
      | (with_reducible refine LeO.bind ?_ (fun _ => ?_))
      | exact ih0 _ _ _
      | exact ih1 _ _ _ _
      | exact ih2 _ _ _ _
      | exact ih3 _ _
      | exact LeO.none _
      | refine LeO.ite ?_ ?_
      | refine LeO.bind ?_ (fun _ => ?_)
theorem mezzaninelaw02_ArithRests.mono : ∀ a0 a1 k, LeO (mezzaninelaw02_ArithRests.f k a0 a1) (mezzaninelaw02_ArithRests.f (k + 1) a0 a1) := by
  intro a0 a1 k
  obtain ⟨ih0, ih1, ih2, ih3⟩ := mezzaninelaw02_ArithRests.mono_l k
  unfold mezzaninelaw02_ArithRests.f
  repeat' first
      | (with_reducible exact ih0 _ _ _)
      | (with_reducible exact ih1 _ _ _ _)
      | (with_reducible exact ih2 _ _ _ _)
      | (with_reducible exact ih3 _ _)
      | (with_reducible exact LeO.refl _)
      | (with_reducible exact LeO.none _)
      | (with_reducible refine LeO.ite ?_ ?_)
      | (with_reducible refine LeO.bind ?_ (fun _ => ?_))
      | exact ih0 _ _ _
      | exact ih1 _ _ _ _
      | exact ih2 _ _ _ _
      | exact ih3 _ _
      | exact LeO.none _
      | refine LeO.ite ?_ ?_
      | refine LeO.bind ?_ (fun _ => ?_)
set_option maxHeartbeats 8000000 in
set_option maxRecDepth 100000 in
theorem mezzaninelaw02_ArithRests.calls (k : Nat) (a0 : Int) (a1 : Int) (r : Bool) (w : World) (h : mezzaninelaw02_ArithRests.f k a0 a1 = some r) :
    Calls Try.prog 7 #[.int .u64 a0, .int .u64 a1] w fun e w' => e = .returned (.bool r) ∧ Drawn0 w w' := by
  have H : ((mezzaninelaw02_awake.f).bind fun t206 => (if t206 = true then ((arith_Divu.f a0 a1).bind fun t207 => ((arith_Remu.f a0 a1).bind fun t208 => (if (IntKind.u64.wrap ((IntKind.u64.wrap (t207 * a1)) + t208)) = a0 then ((arith_Div.f a0 a1).bind fun t209 => ((arith_Rem.f a0 a1).bind fun t210 => (if (IntKind.u64.wrap ((IntKind.u64.wrap (t209 * a1)) + t210)) = a0 then (if a1 = 0 then (mezzaninelaw02_ArithRests.j0 k a0 a1 false) else ((arith_Remu.f a0 a1).bind fun t211 => (mezzaninelaw02_ArithRests.j0 k a0 a1 (decide (t211 ≥ a1))))) else (mezzaninelaw02_ArithRests.j0 k a0 a1 true)))) else (mezzaninelaw02_ArithRests.j0 k a0 a1 true)))) else (some false))) = some r := h
  clear h
  replace H := Option.bind_eq_some_iff.mp H
  obtain ⟨t206, A30, H⟩ := H
  replace H : (if t206 = true then ((arith_Divu.f a0 a1).bind fun t207 => ((arith_Remu.f a0 a1).bind fun t208 => (if (IntKind.u64.wrap ((IntKind.u64.wrap (t207 * a1)) + t208)) = a0 then ((arith_Div.f a0 a1).bind fun t209 => ((arith_Rem.f a0 a1).bind fun t210 => (if (IntKind.u64.wrap ((IntKind.u64.wrap (t209 * a1)) + t210)) = a0 then (if a1 = 0 then (mezzaninelaw02_ArithRests.j0 k a0 a1 false) else ((arith_Remu.f a0 a1).bind fun t211 => (mezzaninelaw02_ArithRests.j0 k a0 a1 (decide (t211 ≥ a1))))) else (mezzaninelaw02_ArithRests.j0 k a0 a1 true)))) else (mezzaninelaw02_ArithRests.j0 k a0 a1 true)))) else (some false)) = some r := H
  have A3 := Aside0.mk A30
  clear A30
  by_cases c4 : t206 = true
  · subst c4
    have H1 : ((arith_Divu.f a0 a1).bind fun t207 => ((arith_Remu.f a0 a1).bind fun t208 => (if (IntKind.u64.wrap ((IntKind.u64.wrap (t207 * a1)) + t208)) = a0 then ((arith_Div.f a0 a1).bind fun t209 => ((arith_Rem.f a0 a1).bind fun t210 => (if (IntKind.u64.wrap ((IntKind.u64.wrap (t209 * a1)) + t210)) = a0 then (if a1 = 0 then (mezzaninelaw02_ArithRests.j0 k a0 a1 false) else ((arith_Remu.f a0 a1).bind fun t211 => (mezzaninelaw02_ArithRests.j0 k a0 a1 (decide (t211 ≥ a1))))) else (mezzaninelaw02_ArithRests.j0 k a0 a1 true)))) else (mezzaninelaw02_ArithRests.j0 k a0 a1 true)))) = some r := by rw [if_pos rfl] at H; exact H
    clear H
    have H := H1
    clear H1
    have HC5 := Aside0.mk H
    clear H
    go_enter Try.func7, Try.ntmps7
    go_upto_region 3 with (first | ((with_reducible refine gate_callee (f := 11) rfl ?_); refine goesL_ (some 7) rfl rfl Try.func11 (by kernel_rfl) rfl #[] rfl (by (try simp only [List.map_toArray, List.map_cons, List.map_nil]); first | done | rfl | (simp only [List.length_drop, List.length_take]; rfl)) ?_; (with_reducible refine (mezzaninelaw02_awake.calls  true _ A3.out).mono ?_); rintro e w' ⟨rfl, ⟨nd, rfl⟩⟩; refine ⟨_, rfl, ?_⟩))
    (try simp only [Act.put, List.setIfInBounds_toArray, List.set_cons_zero, List.set_cons_succ])
    go_cut [43] (fun v43 wc => ∃ (kq : Nat) (x43_4 : Bool), v43 = .bool x43_4 ∧ Aside0 (mezzaninelaw02_ArithRests.j0 kq a0 a1 x43_4 = some r) ∧ Aside0 (kq ≤ k) ∧ Drawn0 w wc)
    case first =>
      have H := HC5.out
      clear HC5
      replace H := Option.bind_eq_some_iff.mp H
      obtain ⟨t207, A60, H⟩ := H
      replace H : ((arith_Remu.f a0 a1).bind fun t208 => (if (IntKind.u64.wrap ((IntKind.u64.wrap (t207 * a1)) + t208)) = a0 then ((arith_Div.f a0 a1).bind fun t209 => ((arith_Rem.f a0 a1).bind fun t210 => (if (IntKind.u64.wrap ((IntKind.u64.wrap (t209 * a1)) + t210)) = a0 then (if a1 = 0 then (mezzaninelaw02_ArithRests.j0 k a0 a1 false) else ((arith_Remu.f a0 a1).bind fun t211 => (mezzaninelaw02_ArithRests.j0 k a0 a1 (decide (t211 ≥ a1))))) else (mezzaninelaw02_ArithRests.j0 k a0 a1 true)))) else (mezzaninelaw02_ArithRests.j0 k a0 a1 true))) = some r := H
      have A6 := Aside0.mk A60
      clear A60
      replace H := Option.bind_eq_some_iff.mp H
      obtain ⟨t208, A70, H⟩ := H
      replace H : (if (IntKind.u64.wrap ((IntKind.u64.wrap (t207 * a1)) + t208)) = a0 then ((arith_Div.f a0 a1).bind fun t209 => ((arith_Rem.f a0 a1).bind fun t210 => (if (IntKind.u64.wrap ((IntKind.u64.wrap (t209 * a1)) + t210)) = a0 then (if a1 = 0 then (mezzaninelaw02_ArithRests.j0 k a0 a1 false) else ((arith_Remu.f a0 a1).bind fun t211 => (mezzaninelaw02_ArithRests.j0 k a0 a1 (decide (t211 ≥ a1))))) else (mezzaninelaw02_ArithRests.j0 k a0 a1 true)))) else (mezzaninelaw02_ArithRests.j0 k a0 a1 true)) = some r := H
      have A7 := Aside0.mk A70
      clear A70
      by_cases c8 : (IntKind.u64.wrap ((IntKind.u64.wrap (t207 * a1)) + t208)) = a0
      · rw [if_pos c8] at H
        have c8b0 : ((IntKind.u64.wrap ((IntKind.u64.wrap (t207 * a1)) + t208)) == a0) = true := beq_iff_eq.mpr c8
        have c8b1 : ((IntKind.u64.wrap ((IntKind.u64.wrap (t207 * a1)) + t208)) != a0) = false := bne_eq_false_iff_eq.mpr c8
        clear c8
        (first | rw [c8b0] | (simp only [i64_w, i32_w]; rw [c8b0]) | skip)
        replace H := Option.bind_eq_some_iff.mp H
        obtain ⟨t209, A90, H⟩ := H
        replace H : ((arith_Rem.f a0 a1).bind fun t210 => (if (IntKind.u64.wrap ((IntKind.u64.wrap (t209 * a1)) + t210)) = a0 then (if a1 = 0 then (mezzaninelaw02_ArithRests.j0 k a0 a1 false) else ((arith_Remu.f a0 a1).bind fun t211 => (mezzaninelaw02_ArithRests.j0 k a0 a1 (decide (t211 ≥ a1))))) else (mezzaninelaw02_ArithRests.j0 k a0 a1 true))) = some r := H
        have A9 := Aside0.mk A90
        clear A90
        replace H := Option.bind_eq_some_iff.mp H
        obtain ⟨t210, A100, H⟩ := H
        replace H : (if (IntKind.u64.wrap ((IntKind.u64.wrap (t209 * a1)) + t210)) = a0 then (if a1 = 0 then (mezzaninelaw02_ArithRests.j0 k a0 a1 false) else ((arith_Remu.f a0 a1).bind fun t211 => (mezzaninelaw02_ArithRests.j0 k a0 a1 (decide (t211 ≥ a1))))) else (mezzaninelaw02_ArithRests.j0 k a0 a1 true)) = some r := H
        have A10 := Aside0.mk A100
        clear A100
        by_cases c11 : (IntKind.u64.wrap ((IntKind.u64.wrap (t209 * a1)) + t210)) = a0
        · rw [if_pos c11] at H
          have c11b0 : ((IntKind.u64.wrap ((IntKind.u64.wrap (t209 * a1)) + t210)) == a0) = true := beq_iff_eq.mpr c11
          have c11b1 : ((IntKind.u64.wrap ((IntKind.u64.wrap (t209 * a1)) + t210)) != a0) = false := bne_eq_false_iff_eq.mpr c11
          clear c11
          by_cases c12 : a1 = 0
          · rw [if_pos c12] at H
            have c12b0 : (a1 == 0) = true := beq_iff_eq.mpr c12
            have c12b1 : (a1 != 0) = false := bne_eq_false_iff_eq.mpr c12
            clear c12
            have H' := Aside0.mk H
            clear H
            go_wp2_with (first | ((with_reducible refine gate_callee (f := 22) rfl ?_); refine goesL_ (some 11) rfl rfl Try.func22 (by kernel_rfl) rfl #[.int .u64 a0, .int .u64 a1] rfl (by (try simp only [List.map_toArray, List.map_cons, List.map_nil]); first | done | rfl | (simp only [List.length_drop, List.length_take]; rfl)) ?_; (with_reducible refine (arith_Divu.calls a0 a1 t207 _ A6.out).mono ?_); rintro e w' ⟨rfl, ⟨nd, rfl⟩⟩; refine ⟨_, rfl, ?_⟩) | ((with_reducible refine gate_callee (f := 26) rfl ?_); refine goesL_ (some 16) rfl rfl Try.func26 (by kernel_rfl) rfl #[.int .u64 a0, .int .u64 a1] rfl (by (try simp only [List.map_toArray, List.map_cons, List.map_nil]); first | done | rfl | (simp only [List.length_drop, List.length_take]; rfl)) ?_; (with_reducible refine (arith_Remu.calls a0 a1 t208 _ A7.out).mono ?_); rintro e w' ⟨rfl, ⟨nd, rfl⟩⟩; refine ⟨_, rfl, ?_⟩) | (go_at_call 20; (with_reducible refine (arith_Div.calls a0 a1 t209 _ A9.out).mono ?_); rintro e w' ⟨rfl, ⟨nd, rfl⟩⟩) | (go_at_call 24; (with_reducible refine (arith_Rem.calls a0 a1 t210 _ A10.out).mono ?_); rintro e w' ⟨rfl, ⟨nd, rfl⟩⟩))
            go_meet
            case rel => exact ⟨_, (false), (by first | rfl | (simp; done) | (simp [*]; done)), H', ⟨by first | omega | exact Nat.le_refl _⟩, by repeat (first | exact Drawn0.refl _ | apply Drawn0.step)⟩
          · rw [if_neg c12] at H
            have c12b0 : (a1 == 0) = false := beq_eq_false_iff_ne.mpr c12
            have c12b1 : (a1 != 0) = true := bne_iff_ne.mpr c12
            replace H := Option.bind_eq_some_iff.mp H
            obtain ⟨t211, A130, H⟩ := H
            replace H : (mezzaninelaw02_ArithRests.j0 k a0 a1 (decide (t211 ≥ a1))) = some r := H
            have A13 := Aside0.mk A130
            clear A130
            have H' := Aside0.mk H
            clear H
            go_wp2_with (first | ((with_reducible refine gate_callee (f := 22) rfl ?_); refine goesL_ (some 11) rfl rfl Try.func22 (by kernel_rfl) rfl #[.int .u64 a0, .int .u64 a1] rfl (by (try simp only [List.map_toArray, List.map_cons, List.map_nil]); first | done | rfl | (simp only [List.length_drop, List.length_take]; rfl)) ?_; (with_reducible refine (arith_Divu.calls a0 a1 t207 _ A6.out).mono ?_); rintro e w' ⟨rfl, ⟨nd, rfl⟩⟩; refine ⟨_, rfl, ?_⟩) | ((with_reducible refine gate_callee (f := 26) rfl ?_); refine goesL_ (some 16) rfl rfl Try.func26 (by kernel_rfl) rfl #[.int .u64 a0, .int .u64 a1] rfl (by (try simp only [List.map_toArray, List.map_cons, List.map_nil]); first | done | rfl | (simp only [List.length_drop, List.length_take]; rfl)) ?_; (with_reducible refine (arith_Remu.calls a0 a1 t208 _ A7.out).mono ?_); rintro e w' ⟨rfl, ⟨nd, rfl⟩⟩; refine ⟨_, rfl, ?_⟩) | (go_at_call 20; (with_reducible refine (arith_Div.calls a0 a1 t209 _ A9.out).mono ?_); rintro e w' ⟨rfl, ⟨nd, rfl⟩⟩) | (go_at_call 24; (with_reducible refine (arith_Rem.calls a0 a1 t210 _ A10.out).mono ?_); rintro e w' ⟨rfl, ⟨nd, rfl⟩⟩) | (go_at_call 26; (with_reducible refine (arith_Remu.calls a0 a1 t211 _ A13.out).mono ?_); rintro e w' ⟨rfl, ⟨nd, rfl⟩⟩))
            go_meet
            case rel => exact ⟨_, (decide (t211 ≥ a1)), (by first | rfl | (simp; done) | (simp [*]; done)), H', ⟨by first | omega | exact Nat.le_refl _⟩, by repeat (first | exact Drawn0.refl _ | apply Drawn0.step)⟩
        · rw [if_neg c11] at H
          have c11b0 : ((IntKind.u64.wrap ((IntKind.u64.wrap (t209 * a1)) + t210)) == a0) = false := beq_eq_false_iff_ne.mpr c11
          have c11b1 : ((IntKind.u64.wrap ((IntKind.u64.wrap (t209 * a1)) + t210)) != a0) = true := bne_iff_ne.mpr c11
          have H' := Aside0.mk H
          clear H
          go_wp2_with (first | ((with_reducible refine gate_callee (f := 22) rfl ?_); refine goesL_ (some 11) rfl rfl Try.func22 (by kernel_rfl) rfl #[.int .u64 a0, .int .u64 a1] rfl (by (try simp only [List.map_toArray, List.map_cons, List.map_nil]); first | done | rfl | (simp only [List.length_drop, List.length_take]; rfl)) ?_; (with_reducible refine (arith_Divu.calls a0 a1 t207 _ A6.out).mono ?_); rintro e w' ⟨rfl, ⟨nd, rfl⟩⟩; refine ⟨_, rfl, ?_⟩) | ((with_reducible refine gate_callee (f := 26) rfl ?_); refine goesL_ (some 16) rfl rfl Try.func26 (by kernel_rfl) rfl #[.int .u64 a0, .int .u64 a1] rfl (by (try simp only [List.map_toArray, List.map_cons, List.map_nil]); first | done | rfl | (simp only [List.length_drop, List.length_take]; rfl)) ?_; (with_reducible refine (arith_Remu.calls a0 a1 t208 _ A7.out).mono ?_); rintro e w' ⟨rfl, ⟨nd, rfl⟩⟩; refine ⟨_, rfl, ?_⟩) | (go_at_call 20; (with_reducible refine (arith_Div.calls a0 a1 t209 _ A9.out).mono ?_); rintro e w' ⟨rfl, ⟨nd, rfl⟩⟩) | (go_at_call 24; (with_reducible refine (arith_Rem.calls a0 a1 t210 _ A10.out).mono ?_); rintro e w' ⟨rfl, ⟨nd, rfl⟩⟩))
          go_meet
          case rel => exact ⟨_, (true), (by first | rfl | (simp; done) | (simp [*]; done)), H', ⟨by first | omega | exact Nat.le_refl _⟩, by repeat (first | exact Drawn0.refl _ | apply Drawn0.step)⟩
      · rw [if_neg c8] at H
        have c8b0 : ((IntKind.u64.wrap ((IntKind.u64.wrap (t207 * a1)) + t208)) == a0) = false := beq_eq_false_iff_ne.mpr c8
        have c8b1 : ((IntKind.u64.wrap ((IntKind.u64.wrap (t207 * a1)) + t208)) != a0) = true := bne_iff_ne.mpr c8
        (first | rw [c8b0] | (simp only [i64_w, i32_w]; rw [c8b0]) | skip)
        have H' := Aside0.mk H
        clear H
        go_wp2_with (first | ((with_reducible refine gate_callee (f := 22) rfl ?_); refine goesL_ (some 11) rfl rfl Try.func22 (by kernel_rfl) rfl #[.int .u64 a0, .int .u64 a1] rfl (by (try simp only [List.map_toArray, List.map_cons, List.map_nil]); first | done | rfl | (simp only [List.length_drop, List.length_take]; rfl)) ?_; (with_reducible refine (arith_Divu.calls a0 a1 t207 _ A6.out).mono ?_); rintro e w' ⟨rfl, ⟨nd, rfl⟩⟩; refine ⟨_, rfl, ?_⟩) | ((with_reducible refine gate_callee (f := 26) rfl ?_); refine goesL_ (some 16) rfl rfl Try.func26 (by kernel_rfl) rfl #[.int .u64 a0, .int .u64 a1] rfl (by (try simp only [List.map_toArray, List.map_cons, List.map_nil]); first | done | rfl | (simp only [List.length_drop, List.length_take]; rfl)) ?_; (with_reducible refine (arith_Remu.calls a0 a1 t208 _ A7.out).mono ?_); rintro e w' ⟨rfl, ⟨nd, rfl⟩⟩; refine ⟨_, rfl, ?_⟩))
        go_meet
        case rel => exact ⟨_, (true), (by first | rfl | (simp; done) | (simp [*]; done)), H', ⟨by first | omega | exact Nat.le_refl _⟩, by repeat (first | exact Drawn0.refl _ | apply Drawn0.step)⟩
    case rest =>
      clear HC5
      try clear c1
      try clear c2
      try clear p2
      try clear c4
      try clear c7
      try clear c8
      try clear c8b0
      try clear c8b1
      try clear c11
      try clear c11b0
      try clear c11b1
      try clear c12
      try clear c12b0
      try clear c12b1
      obtain ⟨kq, x43_4, rfl, HA, HJ4, ⟨mc4, rfl⟩⟩ := hcut
      cases kq with
      | zero => exact absurd HA.out (by simp [mezzaninelaw02_ArithRests.j0])
      | succ kj4 =>
        have H := HA.out
        clear HA
        simp only [mezzaninelaw02_ArithRests.j0] at H
        by_cases c14 : x43_4 = true
        · subst c14
          have H1 : (some false) = some r := by rw [if_pos rfl] at H; exact H
          clear H
          have H := H1
          clear H1
          obtain rfl := Option.some.inj H
          go_wp2
          go_ret
          exact ⟨by first | rfl | (simp; done) | (simp [*]; done), by repeat (first | exact Drawn0.refl _ | apply Drawn0.step)⟩
        · replace c14 := Bool.eq_false_iff.mpr c14
          subst c14
          have H1 : ((arith_Rem.f a0 a1).bind fun t212 => (if (wrap64 (t212)) < 0 then (if (wrap64 (a0)) ≥ 0 then (mezzaninelaw02_ArithRests.j1 kj4 a0 a1 (wrap64 (t212)) true) else (if (wrap64 (t212)) > 0 then (mezzaninelaw02_ArithRests.j1 kj4 a0 a1 (wrap64 (t212)) (decide ((wrap64 (a0)) ≤ 0))) else (mezzaninelaw02_ArithRests.j1 kj4 a0 a1 (wrap64 (t212)) false))) else (if (wrap64 (t212)) > 0 then (mezzaninelaw02_ArithRests.j1 kj4 a0 a1 (wrap64 (t212)) (decide ((wrap64 (a0)) ≤ 0))) else (mezzaninelaw02_ArithRests.j1 kj4 a0 a1 (wrap64 (t212)) false)))) = some r := by rw [if_neg (show ¬ (false = true) by decide)] at H; exact H
          clear H
          have H := H1
          clear H1
          replace H := Option.bind_eq_some_iff.mp H
          obtain ⟨t212, A150, H⟩ := H
          replace H : (if (wrap64 (t212)) < 0 then (if (wrap64 (a0)) ≥ 0 then (mezzaninelaw02_ArithRests.j1 kj4 a0 a1 (wrap64 (t212)) true) else (if (wrap64 (t212)) > 0 then (mezzaninelaw02_ArithRests.j1 kj4 a0 a1 (wrap64 (t212)) (decide ((wrap64 (a0)) ≤ 0))) else (mezzaninelaw02_ArithRests.j1 kj4 a0 a1 (wrap64 (t212)) false))) else (if (wrap64 (t212)) > 0 then (mezzaninelaw02_ArithRests.j1 kj4 a0 a1 (wrap64 (t212)) (decide ((wrap64 (a0)) ≤ 0))) else (mezzaninelaw02_ArithRests.j1 kj4 a0 a1 (wrap64 (t212)) false))) = some r := H
          have A15 := Aside0.mk A150
          clear A150
          have HC16 := Aside0.mk H
          clear H
          go_upto_region 6 with (first | ((with_reducible refine gate_callee (f := 24) rfl ?_); refine goesL_ (some 46) rfl rfl Try.func24 (by kernel_rfl) rfl #[.int .u64 a0, .int .u64 a1] rfl (by (try simp only [List.map_toArray, List.map_cons, List.map_nil]); first | done | rfl | (simp only [List.length_drop, List.length_take]; rfl)) ?_; (with_reducible refine (arith_Rem.calls a0 a1 t212 _ A15.out).mono ?_); rintro e w' ⟨rfl, ⟨nd, rfl⟩⟩; refine ⟨_, rfl, ?_⟩))
          (try simp only [Act.put, List.setIfInBounds_toArray, List.set_cons_zero, List.set_cons_succ])
          go_cut [63] (fun v63 wc => ∃ (kq : Nat) (x63_15 : Bool), v63 = .bool x63_15 ∧ Aside0 (mezzaninelaw02_ArithRests.j1 kq a0 a1 (wrap64 (t212)) x63_15 = some r) ∧ Aside0 (kq ≤ kj4) ∧ Drawn0 w wc)
          case first =>
            have H := HC16.out
            clear HC16
            by_cases c17 : (wrap64 (t212)) < 0
            · rw [if_pos c17] at H
              have c17b0 : decide ((wrap64 (t212)) < 0) = true := decide_eq_true c17
              clear c17
              (first | rw [c17b0] | (simp only [i64_w, i32_w]; rw [c17b0]) | skip)
              by_cases c18 : (wrap64 (a0)) ≥ 0
              · rw [if_pos c18] at H
                have c18b0 : decide (0 ≤ (wrap64 (a0))) = true := decide_eq_true c18
                clear c18
                have H' := Aside0.mk H
                clear H
                go_wp2
                go_meet
                case rel => exact ⟨_, (true), (by first | rfl | (simp; done) | (simp [*]; done)), H', ⟨by have := HJ4.out; first | omega | exact Nat.le_refl _⟩, by repeat (first | exact Drawn0.refl _ | apply Drawn0.step)⟩
              · rw [if_neg c18] at H
                have c18b0 : decide (0 ≤ (wrap64 (a0))) = false := decide_eq_false c18
                clear c18
                by_cases c19 : (wrap64 (t212)) > 0
                · rw [if_pos c19] at H
                  have c19b0 : decide (0 < (wrap64 (t212))) = true := decide_eq_true c19
                  clear c19
                  have H' := Aside0.mk H
                  clear H
                  go_wp2
                  go_meet
                  case rel => exact ⟨_, (decide ((wrap64 (a0)) ≤ 0)), (by first | rfl | (simp; done) | (simp [*]; done)), H', ⟨by have := HJ4.out; first | omega | exact Nat.le_refl _⟩, by repeat (first | exact Drawn0.refl _ | apply Drawn0.step)⟩
                · rw [if_neg c19] at H
                  have c19b0 : decide (0 < (wrap64 (t212))) = false := decide_eq_false c19
                  clear c19
                  have H' := Aside0.mk H
                  clear H
                  go_wp2
                  go_meet
                  case rel => exact ⟨_, (false), (by first | rfl | (simp; done) | (simp [*]; done)), H', ⟨by have := HJ4.out; first | omega | exact Nat.le_refl _⟩, by repeat (first | exact Drawn0.refl _ | apply Drawn0.step)⟩
            · rw [if_neg c17] at H
              have c17b0 : decide ((wrap64 (t212)) < 0) = false := decide_eq_false c17
              clear c17
              (first | rw [c17b0] | (simp only [i64_w, i32_w]; rw [c17b0]) | skip)
              by_cases c20 : (wrap64 (t212)) > 0
              · rw [if_pos c20] at H
                have c20b0 : decide (0 < (wrap64 (t212))) = true := decide_eq_true c20
                clear c20
                have H' := Aside0.mk H
                clear H
                go_wp2
                go_meet
                case rel => exact ⟨_, (decide ((wrap64 (a0)) ≤ 0)), (by first | rfl | (simp; done) | (simp [*]; done)), H', ⟨by have := HJ4.out; first | omega | exact Nat.le_refl _⟩, by repeat (first | exact Drawn0.refl _ | apply Drawn0.step)⟩
              · rw [if_neg c20] at H
                have c20b0 : decide (0 < (wrap64 (t212))) = false := decide_eq_false c20
                clear c20
                have H' := Aside0.mk H
                clear H
                go_wp2
                go_meet
                case rel => exact ⟨_, (false), (by first | rfl | (simp; done) | (simp [*]; done)), H', ⟨by have := HJ4.out; first | omega | exact Nat.le_refl _⟩, by repeat (first | exact Drawn0.refl _ | apply Drawn0.step)⟩
          case rest =>
            clear HC16
            try clear c1
            try clear c2
            try clear p2
            try clear c4
            try clear p6
            try clear c7
            try clear c8
            try clear c8b0
            try clear c8b1
            try clear c11
            try clear c11b0
            try clear c11b1
            try clear c12
            try clear c12b0
            try clear c12b1
            try clear c14
            try clear c17
            try clear c17b0
            try clear c18
            try clear c18b0
            try clear c19
            try clear c19b0
            try clear c20
            try clear c20b0
            try clear p2
            obtain ⟨kq, x63_15, rfl, HA, HJ15, ⟨mc15, rfl⟩⟩ := hcut
            cases kq with
            | zero => exact absurd HA.out (by simp [mezzaninelaw02_ArithRests.j1])
            | succ kj15 =>
              have H := HA.out
              clear HA
              simp only [mezzaninelaw02_ArithRests.j1] at H
              by_cases c21 : x63_15 = true
              · subst c21
                have H1 : (some false) = some r := by rw [if_pos rfl] at H; exact H
                clear H
                have H := H1
                clear H1
                obtain rfl := Option.some.inj H
                go_wp2
                go_ret
                exact ⟨by first | rfl | (simp; done) | (simp [*]; done), by repeat (first | exact Drawn0.refl _ | apply Drawn0.step)⟩
              · replace c21 := Bool.eq_false_iff.mpr c21
                subst c21
                have H1 : (if a1 = 0 then (mezzaninelaw02_ArithRests.j2 kj15 a0 a1 (wrap64 (t212)) false) else (mezzaninelaw02_ArithRests.j2 kj15 a0 a1 (wrap64 (t212)) (a1 != 9223372036854775808))) = some r := by rw [if_neg (show ¬ (false = true) by decide)] at H; exact H
                clear H
                have H := H1
                clear H1
                have HC22 := Aside0.mk H
                clear H
                go_upto_region 8 with (fail)
                go_cut [69] (fun v69 wc => ∃ (kq : Nat) (x69_21 : Bool), v69 = .bool x69_21 ∧ Aside0 (mezzaninelaw02_ArithRests.j2 kq a0 a1 (wrap64 (t212)) x69_21 = some r) ∧ Aside0 (kq ≤ kj15) ∧ Drawn0 w wc)
                case first =>
                  have H := HC22.out
                  clear HC22
                  by_cases c23 : a1 = 0
                  · rw [if_pos c23] at H
                    have c23b0 : (a1 == 0) = true := beq_iff_eq.mpr c23
                    have c23b1 : (a1 != 0) = false := bne_eq_false_iff_eq.mpr c23
                    clear c23
                    (first | rw [c23b0] | (simp only [i64_w, i32_w]; rw [c23b0]) | skip)
                    have H' := Aside0.mk H
                    clear H
                    go_wp2
                    go_meet
                    case rel => exact ⟨_, (false), (by first | rfl | (simp; done) | (simp [*]; done)), H', ⟨by have := HJ4.out; have := HJ15.out; first | omega | exact Nat.le_refl _⟩, by repeat (first | exact Drawn0.refl _ | apply Drawn0.step)⟩
                  · rw [if_neg c23] at H
                    have c23b0 : (a1 == 0) = false := beq_eq_false_iff_ne.mpr c23
                    have c23b1 : (a1 != 0) = true := bne_iff_ne.mpr c23
                    (first | rw [c23b0] | (simp only [i64_w, i32_w]; rw [c23b0]) | skip)
                    have H' := Aside0.mk H
                    clear H
                    go_wp2
                    go_meet
                    case rel => exact ⟨_, ((a1 != 9223372036854775808)), (by first | rfl | (simp; done) | (simp [*]; done)), H', ⟨by have := HJ4.out; have := HJ15.out; first | omega | exact Nat.le_refl _⟩, by repeat (first | exact Drawn0.refl _ | apply Drawn0.step)⟩
                case rest =>
                  clear HC22
                  try clear c1
                  try clear c2
                  try clear p2
                  try clear c4
                  try clear p6
                  try clear c7
                  try clear c8
                  try clear c8b0
                  try clear c8b1
                  try clear c11
                  try clear c11b0
                  try clear c11b1
                  try clear c12
                  try clear c12b0
                  try clear c12b1
                  try clear c14
                  try clear c15
                  try clear c17
                  try clear c17b0
                  try clear c18
                  try clear c18b0
                  try clear c19
                  try clear c19b0
                  try clear c20
                  try clear c20b0
                  try clear c21
                  try clear c22
                  try clear c23
                  try clear c23b0
                  try clear c23b1
                  try clear p2
                  try clear p6
                  obtain ⟨kq, x69_21, rfl, HA, HJ21, ⟨mc21, rfl⟩⟩ := hcut
                  cases kq with
                  | zero => exact absurd HA.out (by simp [mezzaninelaw02_ArithRests.j2])
                  | succ kj21 =>
                    have H := HA.out
                    clear HA
                    simp only [mezzaninelaw02_ArithRests.j2] at H
                    have HC24 := Aside0.mk H
                    clear H
                    go_upto_if 69 with (fail)
                    go_cut [] (fun wc => ∃ (kq : Nat), Aside0 (mezzaninelaw02_ArithRests.j3 kq a0 a1 = some r) ∧ Aside0 (kq ≤ kj21) ∧ Drawn0 w wc)
                    case first =>
                      have H := HC24.out
                      clear HC24
                      by_cases c25 : x69_21 = true
                      · subst c25
                        have H1 : (if (wrap64 (a1)) < 0 then (if (wrap64 (t212)) ≥ (wrap64 (-(wrap64 (a1)))) then (some false) else (if (wrap64 (t212)) ≤ (wrap64 (-(wrap64 (-(wrap64 (a1)))))) then (some false) else (mezzaninelaw02_ArithRests.j3 kj21 a0 a1))) else (if (wrap64 (t212)) ≥ (wrap64 (a1)) then (some false) else (if (wrap64 (t212)) ≤ (wrap64 (-(wrap64 (a1)))) then (some false) else (mezzaninelaw02_ArithRests.j3 kj21 a0 a1)))) = some r := by rw [if_pos rfl] at H; exact H
                        clear H
                        have H := H1
                        clear H1
                        by_cases c26 : (wrap64 (a1)) < 0
                        · rw [if_pos c26] at H
                          have c26b0 : decide ((wrap64 (a1)) < 0) = true := decide_eq_true c26
                          clear c26
                          (first | rw [c26b0] | (simp only [i64_w, i32_w]; rw [c26b0]) | skip)
                          by_cases c27 : (wrap64 (t212)) ≥ (wrap64 (-(wrap64 (a1))))
                          · rw [if_pos c27] at H
                            have c27b0 : decide ((wrap64 (-(wrap64 (a1)))) ≤ (wrap64 (t212))) = true := decide_eq_true c27
                            clear c27
                            obtain rfl := Option.some.inj H
                            go_wp2
                            go_ret
                            exact ⟨by first | rfl | (simp; done) | (simp [*]; done), by repeat (first | exact Drawn0.refl _ | apply Drawn0.step)⟩
                          · rw [if_neg c27] at H
                            have c27b0 : decide ((wrap64 (-(wrap64 (a1)))) ≤ (wrap64 (t212))) = false := decide_eq_false c27
                            clear c27
                            by_cases c28 : (wrap64 (t212)) ≤ (wrap64 (-(wrap64 (-(wrap64 (a1))))))
                            · rw [if_pos c28] at H
                              have c28b0 : decide ((wrap64 (t212)) ≤ (wrap64 (-(wrap64 (-(wrap64 (a1))))))) = true := decide_eq_true c28
                              clear c28
                              obtain rfl := Option.some.inj H
                              go_wp2
                              go_ret
                              exact ⟨by first | rfl | (simp; done) | (simp [*]; done), by repeat (first | exact Drawn0.refl _ | apply Drawn0.step)⟩
                            · rw [if_neg c28] at H
                              have c28b0 : decide ((wrap64 (t212)) ≤ (wrap64 (-(wrap64 (-(wrap64 (a1))))))) = false := decide_eq_false c28
                              clear c28
                              have H' := Aside0.mk H
                              clear H
                              go_wp2
                              go_meet
                              case rel => exact ⟨_, H', ⟨by have := HJ4.out; have := HJ15.out; have := HJ21.out; first | omega | exact Nat.le_refl _⟩, by repeat (first | exact Drawn0.refl _ | apply Drawn0.step)⟩
                        · rw [if_neg c26] at H
                          have c26b0 : decide ((wrap64 (a1)) < 0) = false := decide_eq_false c26
                          clear c26
                          (first | rw [c26b0] | (simp only [i64_w, i32_w]; rw [c26b0]) | skip)
                          by_cases c29 : (wrap64 (t212)) ≥ (wrap64 (a1))
                          · rw [if_pos c29] at H
                            have c29b0 : decide ((wrap64 (a1)) ≤ (wrap64 (t212))) = true := decide_eq_true c29
                            clear c29
                            obtain rfl := Option.some.inj H
                            go_wp2
                            go_ret
                            exact ⟨by first | rfl | (simp; done) | (simp [*]; done), by repeat (first | exact Drawn0.refl _ | apply Drawn0.step)⟩
                          · rw [if_neg c29] at H
                            have c29b0 : decide ((wrap64 (a1)) ≤ (wrap64 (t212))) = false := decide_eq_false c29
                            clear c29
                            by_cases c30 : (wrap64 (t212)) ≤ (wrap64 (-(wrap64 (a1))))
                            · rw [if_pos c30] at H
                              have c30b0 : decide ((wrap64 (t212)) ≤ (wrap64 (-(wrap64 (a1))))) = true := decide_eq_true c30
                              clear c30
                              obtain rfl := Option.some.inj H
                              go_wp2
                              go_ret
                              exact ⟨by first | rfl | (simp; done) | (simp [*]; done), by repeat (first | exact Drawn0.refl _ | apply Drawn0.step)⟩
                            · rw [if_neg c30] at H
                              have c30b0 : decide ((wrap64 (t212)) ≤ (wrap64 (-(wrap64 (a1))))) = false := decide_eq_false c30
                              clear c30
                              have H' := Aside0.mk H
                              clear H
                              go_wp2
                              go_meet
                              case rel => exact ⟨_, H', ⟨by have := HJ4.out; have := HJ15.out; have := HJ21.out; first | omega | exact Nat.le_refl _⟩, by repeat (first | exact Drawn0.refl _ | apply Drawn0.step)⟩
                      · replace c25 := Bool.eq_false_iff.mpr c25
                        subst c25
                        have H1 : (mezzaninelaw02_ArithRests.j3 kj21 a0 a1) = some r := by rw [if_neg (show ¬ (false = true) by decide)] at H; exact H
                        clear H
                        have H := H1
                        clear H1
                        have H' := Aside0.mk H
                        clear H
                        go_wp2
                        go_meet
                        case rel => exact ⟨_, H', ⟨by have := HJ4.out; have := HJ15.out; have := HJ21.out; first | omega | exact Nat.le_refl _⟩, by repeat (first | exact Drawn0.refl _ | apply Drawn0.step)⟩
                    case rest =>
                      clear HC24
                      try clear c1
                      try clear c2
                      try clear p2
                      try clear c3
                      try clear c4
                      try clear p6
                      try clear c7
                      try clear c8
                      try clear c8b0
                      try clear c8b1
                      try clear c11
                      try clear c11b0
                      try clear c11b1
                      try clear c12
                      try clear c12b0
                      try clear c12b1
                      try clear c14
                      try clear c15
                      try clear c17
                      try clear c17b0
                      try clear c18
                      try clear c18b0
                      try clear c19
                      try clear c19b0
                      try clear c20
                      try clear c20b0
                      try clear c21
                      try clear c22
                      try clear c23
                      try clear c23b0
                      try clear c23b1
                      try clear c24
                      try clear c25
                      try clear c26
                      try clear c26b0
                      try clear c27
                      try clear c27b0
                      try clear c28
                      try clear c28b0
                      try clear c29
                      try clear c29b0
                      try clear c30
                      try clear c30b0
                      try clear p2
                      try clear p6
                      obtain ⟨kq, HA, HJ23, ⟨mc23, rfl⟩⟩ := hcut
                      cases kq with
                      | zero => exact absurd HA.out (by simp [mezzaninelaw02_ArithRests.j3])
                      | succ kj23 =>
                        have H := HA.out
                        clear HA
                        simp only [mezzaninelaw02_ArithRests.j3] at H
                        replace H := Option.bind_eq_some_iff.mp H
                        obtain ⟨t213, A310, H⟩ := H
                        replace H : ((arith_Remw.f a0 a1).bind fun t214 => (if ((IntKind.u64.wrap ((IntKind.u64.wrap (t213 * a1)) + t214)) % 4294967296) = ((a0) % 4294967296) then ((arith_Divuw.f a0 a1).bind fun t215 => ((arith_Remuw.f a0 a1).bind fun t216 => (some (((IntKind.u64.wrap ((IntKind.u64.wrap (t215 * a1)) + t216)) % 4294967296) == ((a0) % 4294967296))))) else (some false))) = some r := H
                        have A31 := Aside0.mk A310
                        clear A310
                        replace H := Option.bind_eq_some_iff.mp H
                        obtain ⟨t214, A320, H⟩ := H
                        replace H : (if ((IntKind.u64.wrap ((IntKind.u64.wrap (t213 * a1)) + t214)) % 4294967296) = ((a0) % 4294967296) then ((arith_Divuw.f a0 a1).bind fun t215 => ((arith_Remuw.f a0 a1).bind fun t216 => (some (((IntKind.u64.wrap ((IntKind.u64.wrap (t215 * a1)) + t216)) % 4294967296) == ((a0) % 4294967296))))) else (some false)) = some r := H
                        have A32 := Aside0.mk A320
                        clear A320
                        by_cases c33 : ((IntKind.u64.wrap ((IntKind.u64.wrap (t213 * a1)) + t214)) % 4294967296) = ((a0) % 4294967296)
                        · rw [if_pos c33] at H
                          have c33b0 : (((IntKind.u64.wrap ((IntKind.u64.wrap (t213 * a1)) + t214)) % 4294967296) == ((a0) % 4294967296)) = true := beq_iff_eq.mpr c33
                          have c33b1 : (((IntKind.u64.wrap ((IntKind.u64.wrap (t213 * a1)) + t214)) % 4294967296) != ((a0) % 4294967296)) = false := bne_eq_false_iff_eq.mpr c33
                          clear c33
                          replace H := Option.bind_eq_some_iff.mp H
                          obtain ⟨t215, A340, H⟩ := H
                          replace H : ((arith_Remuw.f a0 a1).bind fun t216 => (some (((IntKind.u64.wrap ((IntKind.u64.wrap (t215 * a1)) + t216)) % 4294967296) == ((a0) % 4294967296)))) = some r := H
                          have A34 := Aside0.mk A340
                          clear A340
                          replace H := Option.bind_eq_some_iff.mp H
                          obtain ⟨t216, A350, H⟩ := H
                          replace H : (some (((IntKind.u64.wrap ((IntKind.u64.wrap (t215 * a1)) + t216)) % 4294967296) == ((a0) % 4294967296))) = some r := H
                          have A35 := Aside0.mk A350
                          clear A350
                          obtain rfl := Option.some.inj H
                          go_wp2_with (first | ((with_reducible refine gate_callee (f := 28) rfl ?_); refine goesL_ (some 87) rfl rfl Try.func28 (by kernel_rfl) rfl #[.int .u64 a0, .int .u64 a1] rfl (by (try simp only [List.map_toArray, List.map_cons, List.map_nil]); first | done | rfl | (simp only [List.length_drop, List.length_take]; rfl)) ?_; (with_reducible refine (arith_Divw.calls a0 a1 t213 _ A31.out).mono ?_); rintro e w' ⟨rfl, ⟨nd, rfl⟩⟩; refine ⟨_, rfl, ?_⟩) | ((with_reducible refine gate_callee (f := 32) rfl ?_); refine goesL_ (some 92) rfl rfl Try.func32 (by kernel_rfl) rfl #[.int .u64 a0, .int .u64 a1] rfl (by (try simp only [List.map_toArray, List.map_cons, List.map_nil]); first | done | rfl | (simp only [List.length_drop, List.length_take]; rfl)) ?_; (with_reducible refine (arith_Remw.calls a0 a1 t214 _ A32.out).mono ?_); rintro e w' ⟨rfl, ⟨nd, rfl⟩⟩; refine ⟨_, rfl, ?_⟩) | (go_at_call 30; (with_reducible refine (arith_Divuw.calls a0 a1 t215 _ A34.out).mono ?_); rintro e w' ⟨rfl, ⟨nd, rfl⟩⟩) | (go_at_call 34; (with_reducible refine (arith_Remuw.calls a0 a1 t216 _ A35.out).mono ?_); rintro e w' ⟨rfl, ⟨nd, rfl⟩⟩))
                          go_ret
                          exact ⟨by first | rfl | (simp; done) | (simp [*]; done), by repeat (first | exact Drawn0.refl _ | apply Drawn0.step)⟩
                        · rw [if_neg c33] at H
                          have c33b0 : (((IntKind.u64.wrap ((IntKind.u64.wrap (t213 * a1)) + t214)) % 4294967296) == ((a0) % 4294967296)) = false := beq_eq_false_iff_ne.mpr c33
                          have c33b1 : (((IntKind.u64.wrap ((IntKind.u64.wrap (t213 * a1)) + t214)) % 4294967296) != ((a0) % 4294967296)) = true := bne_iff_ne.mpr c33
                          obtain rfl := Option.some.inj H
                          go_wp2_with (first | ((with_reducible refine gate_callee (f := 28) rfl ?_); refine goesL_ (some 87) rfl rfl Try.func28 (by kernel_rfl) rfl #[.int .u64 a0, .int .u64 a1] rfl (by (try simp only [List.map_toArray, List.map_cons, List.map_nil]); first | done | rfl | (simp only [List.length_drop, List.length_take]; rfl)) ?_; (with_reducible refine (arith_Divw.calls a0 a1 t213 _ A31.out).mono ?_); rintro e w' ⟨rfl, ⟨nd, rfl⟩⟩; refine ⟨_, rfl, ?_⟩) | ((with_reducible refine gate_callee (f := 32) rfl ?_); refine goesL_ (some 92) rfl rfl Try.func32 (by kernel_rfl) rfl #[.int .u64 a0, .int .u64 a1] rfl (by (try simp only [List.map_toArray, List.map_cons, List.map_nil]); first | done | rfl | (simp only [List.length_drop, List.length_take]; rfl)) ?_; (with_reducible refine (arith_Remw.calls a0 a1 t214 _ A32.out).mono ?_); rintro e w' ⟨rfl, ⟨nd, rfl⟩⟩; refine ⟨_, rfl, ?_⟩))
                          go_ret
                          exact ⟨by first | rfl | (simp; done) | (simp [*]; done), by repeat (first | exact Drawn0.refl _ | apply Drawn0.step)⟩
  · replace c4 := Bool.eq_false_iff.mpr c4
    subst c4
    have H1 : (some false) = some r := by rw [if_neg (show ¬ (false = true) by decide)] at H; exact H
    clear H
    have H := H1
    clear H1
    obtain rfl := Option.some.inj H
    go_enter Try.func7, Try.ntmps7
    go_wp2_with (first | ((with_reducible refine gate_callee (f := 11) rfl ?_); refine goesL_ (some 7) rfl rfl Try.func11 (by kernel_rfl) rfl #[] rfl (by (try simp only [List.map_toArray, List.map_cons, List.map_nil]); first | done | rfl | (simp only [List.length_drop, List.length_take]; rfl)) ?_; (with_reducible refine (mezzaninelaw02_awake.calls  false _ A3.out).mono ?_); rintro e w' ⟨rfl, ⟨nd, rfl⟩⟩; refine ⟨_, rfl, ?_⟩))
    go_ret
    exact ⟨by first | rfl | (simp; done) | (simp [*]; done), by repeat (first | exact Drawn0.refl _ | apply Drawn0.step)⟩

/-- THE ONE PURE STATEMENT of mezzaninelaw02_ArithRests: yours. -/
def mezzaninelaw02_ArithRests.Pure : Prop := ∀ (a0 : Int) (a1 : Int), (Lit.int .u64 a0).wf = true → (Lit.int .u64 a1).wf = true → ∃ k, mezzaninelaw02_ArithRests.f k a0 a1 = some true
theorem mezzaninelaw02_ArithRests.walk (P : mezzaninelaw02_ArithRests.Pure) (a0 : Int) (a1 : Int) (w : World) (w0 : (Lit.int .u64 a0).wf = true) (w1 : (Lit.int .u64 a1).wf = true) :
    Calls Try.prog 7 #[.int .u64 a0, .int .u64 a1] w fun e w' => e = .returned (.bool true) ∧ Below w.heap.size w w' := by
  obtain ⟨k, h⟩ := P a0 a1 w0 w1
  refine (mezzaninelaw02_ArithRests.calls k a0 a1 true w h).mono ?_
  rintro e w' ⟨rfl, hd⟩
  exact ⟨rfl, hd.below⟩

end Go.Proofs.Ytdfldddcaeokpaa.Q
