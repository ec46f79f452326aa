/- Where the Lean function of a Go function gives a value, the Go call returns that value and changes nothing that was there: for every input. (By a program of this session, and by hand.) -/
import Derived.Test.YtbmmafebekehdaaDoorQx0
import Derived.Test.YtbmmafebekehdaaDoorQx1
import Derived.Test.YtbmmafebekehdaaDoorQx4
import Derived.Test.YtbmmafebekehdaaDoorQx5
namespace Go.Proofs.YtbmmafebekehdaaDoor.Q
open Go.RowKit Go.Proofs.YtbmmafebekehdaaDoorW.PrintWords Go.Proofs.YtbmmafebekehdaaDoorW.PrintLast Go.Proofs.YtbmmafebekehdaaDoorW.PrintMore
attribute [local go_sem] max2_int min2_int max_two min_two max_three min_three max_four min_four   -- for this text's walks alone
set_option linter.unusedVariables false
set_option linter.unusedSimpArgs false

/-! ### mezzaninelaw11_CsrnoBack: function 7 -/
def mezzaninelaw11_CsrnoBack.j0 : Nat → ByteArray → Bool → Option (Bool)
  | 0, _, _ => none
  | k + 1, x1, x27 => if x27 = true then (some false) else ((csrno_Number.f x1).bind fun t143 => (if t143 = (-1) then ((mezzaninelaw11_wakes.f).bind fun t144 => (some t144)) else ((csrno_Name.f t143).bind fun t145 => (if t145.toList = x1.toList then (if t143 ≥ 0 then (if t143 < 4096 then ((mezzaninelaw11_wakes.f).bind fun t146 => (some t146)) else (some false)) else (some false)) else (some false)))))
def mezzaninelaw11_CsrnoBack.f (k : Nat) (a0 : Int) (a1 : ByteArray) : Option (Bool) := if (a1.size : Int) > 1000 then ((mezzaninelaw11_wakes.f).bind fun t139 => (some t139)) else ((csrno_Name.f a0).bind fun t140 => ((csrno_Known.f a0).bind fun t141 => (if (t141 != (t140.toList != ([] : List UInt8))) = true then (mezzaninelaw11_CsrnoBack.j0 k a1 true) else (if t140.toList = ([] : List UInt8) then (mezzaninelaw11_CsrnoBack.j0 k a1 false) else ((csrno_Number.f t140).bind fun t142 => (mezzaninelaw11_CsrnoBack.j0 k a1 (t142 != a0)))))))
theorem mezzaninelaw11_CsrnoBack.mono_l : ∀ k, (∀ y0 y1, LeO (mezzaninelaw11_CsrnoBack.j0 k y0 y1) (mezzaninelaw11_CsrnoBack.j0 (k + 1) y0 y1))
  | 0 => fun _ _ r h => by simp [mezzaninelaw11_CsrnoBack.j0] at h
  | k + 1 => by
    have ih0 := mezzaninelaw11_CsrnoBack.mono_l k
    · intro y0 y1
      unfold mezzaninelaw11_CsrnoBack.j0
      repeat' first
      | (with_reducible exact ih0 _ _)
      | (with_reducible exact LeO.refl _)
      | (with_reducible exact LeO.none _)
      | (with_reducible refine LeO.ite ?_ ?_)
      | (with_reducible refine LeO.bind ?_ (fun _ => ?_))
      | exact ih0 _ _
      | exact LeO.none _
      | refine LeO.ite ?_ ?_
      | refine LeO.bind ?_ (fun _ => ?_)
theorem mezzaninelaw11_CsrnoBack.mono : ∀ a0 a1 k, LeO (mezzaninelaw11_CsrnoBack.f k a0 a1) (mezzaninelaw11_CsrnoBack.f (k + 1) a0 a1) := by
  intro a0 a1 k
  have ih0 := mezzaninelaw11_CsrnoBack.mono_l k
  unfold mezzaninelaw11_CsrnoBack.f
  repeat' first
      | (with_reducible exact ih0 _ _)
      | (with_reducible exact LeO.refl _)
      | (with_reducible exact LeO.none _)
      | (with_reducible refine LeO.ite ?_ ?_)
      | (with_reducible refine LeO.bind ?_ (fun _ => ?_))
      | exact ih0 _ _
      | exact LeO.none _
      | refine LeO.ite ?_ ?_
      | refine LeO.bind ?_ (fun _ => ?_)
set_option maxHeartbeats 8000000 in
set_option maxRecDepth 100000 in
theorem mezzaninelaw11_CsrnoBack.calls (k : Nat) (a0 : Int) (a1 : ByteArray) (r : Bool) (w : World) (ht : r = true) (h : mezzaninelaw11_CsrnoBack.f k a0 a1 = some r) (hT : Tab w) :
    Calls Tryd.prog 7 #[.int .i64 a0, .string a1] w fun e w' => e = .returned (.bool r) ∧ Below w.heap.size w w' := by
  have HB := Aside0.mk (Below.refl w.heap.size w)
  have HT := Aside0.mk ht
  clear ht
  have H : (if (a1.size : Int) > 1000 then ((mezzaninelaw11_wakes.f).bind fun t139 => (some t139)) else ((csrno_Name.f a0).bind fun t140 => ((csrno_Known.f a0).bind fun t141 => (if (t141 != (t140.toList != ([] : List UInt8))) = true then (mezzaninelaw11_CsrnoBack.j0 k a1 true) else (if t140.toList = ([] : List UInt8) then (mezzaninelaw11_CsrnoBack.j0 k a1 false) else ((csrno_Number.f t140).bind fun t142 => (mezzaninelaw11_CsrnoBack.j0 k a1 (t142 != a0)))))))) = some r := h
  clear h
  by_cases c3 : (a1.size : Int) > 1000
  · rw [if_pos c3] at H
    have c3b0 : decide (1000 < (a1.size : Int)) = true := decide_eq_true c3
    have c3b1 : decide (1000 < a1.size) = true := decide_eq_true (by omega)
    clear c3
    replace H := Option.bind_eq_some_iff.mp H
    obtain ⟨t139, A40, H⟩ := H
    replace H : (some t139) = some r := H
    have A4 := Aside0.mk A40
    clear A40
    obtain rfl := Option.some.inj H
    go_enter Tryd.func7, Tryd.ntmps7
    go_wp2_with (first | ((with_reducible refine gate_callee (f := 9) rfl ?_); refine goesL_ (some 10) rfl rfl Tryd.func9 (by kernel_rfl) rfl #[] rfl (by (try simp only [List.map_toArray, List.map_cons, List.map_nil]); first | done | rfl | (simp only [List.length_drop, List.length_take]; rfl)) ?_; (with_reducible refine (mezzaninelaw11_wakes.calls  t139 _ A4.out (Tab.from hT (by repeat (first | (with_reducible first | exact HB.out | exact Below.refl _ _ | apply below_alloc | apply pw_below_drewN | apply below_drew1) | exact HB.out)))).mono ?_); rintro e w5 ⟨rfl, hb⟩; refine ⟨_, rfl, ?_⟩; have n0_ := Aside0.mk (below_step (by repeat (first | (with_reducible first | exact HB.out | apply below_alloc | apply pw_below_drewN | apply below_drew1) | exact HB.out)) hb); clear HB; have HB := n0_; clear n0_; (try clear hb); (try clear hb2); (try clear hk); (try clear hi)))
    go_ret
    exact ⟨by first | rfl | (simp [errW_none, errW_some] <;> rfl) | (simp [*, errW_none, errW_some] <;> rfl), by repeat (first | (with_reducible first | exact HB.out | apply below_alloc | apply pw_below_drewN | apply below_drew1) | exact HB.out)⟩
  · rw [if_neg c3] at H
    have c3b0 : decide (1000 < (a1.size : Int)) = false := decide_eq_false c3
    have c3b1 : decide (1000 < a1.size) = false := decide_eq_false (by omega)
    clear c3
    replace H := Option.bind_eq_some_iff.mp H
    obtain ⟨t140, A60, H⟩ := H
    replace H : ((csrno_Known.f a0).bind fun t141 => (if (t141 != (t140.toList != ([] : List UInt8))) = true then (mezzaninelaw11_CsrnoBack.j0 k a1 true) else (if t140.toList = ([] : List UInt8) then (mezzaninelaw11_CsrnoBack.j0 k a1 false) else ((csrno_Number.f t140).bind fun t142 => (mezzaninelaw11_CsrnoBack.j0 k a1 (t142 != a0)))))) = some r := H
    have A6 := Aside0.mk A60
    clear A60
    have HC7 := Aside0.mk H
    clear H
    go_enter Tryd.func7, Tryd.ntmps7
    go_upto_region 4 with (first | ((with_reducible refine gate_callee (f := 10) rfl ?_); refine goesL_ (some 12) rfl rfl Tryd.func10 (by kernel_rfl) rfl #[.int .i64 a0] rfl (by (try simp only [List.map_toArray, List.map_cons, List.map_nil]); first | done | rfl | (simp only [List.length_drop, List.length_take]; rfl)) ?_; (with_reducible refine (csrno_Name.calls a0 t140 _ A6.out (Tab.from hT (by repeat (first | (with_reducible first | exact HB.out | exact Below.refl _ _ | apply below_alloc | apply pw_below_drewN | apply below_drew1) | exact HB.out)))).mono ?_); rintro e w' ⟨rfl, ⟨nd, rfl⟩⟩; refine ⟨_, rfl, ?_⟩))
    (try simp only [Act.put, List.setIfInBounds_toArray, List.set_cons_zero, List.set_cons_succ])
    go_cut [27] (fun v27 wc => ∃ (kq : Nat) (x27_6 : Bool), v27 = .bool x27_6 ∧ Aside0 (mezzaninelaw11_CsrnoBack.j0 kq a1 x27_6 = some r) ∧ Aside0 (kq ≤ k) ∧ Aside0 (Below w.heap.size w wc))
    case first =>
      have H := HC7.out
      clear HC7
      replace H := Option.bind_eq_some_iff.mp H
      obtain ⟨t141, A80, H⟩ := H
      replace H : (if (t141 != (t140.toList != ([] : List UInt8))) = true then (mezzaninelaw11_CsrnoBack.j0 k a1 true) else (if t140.toList = ([] : List UInt8) then (mezzaninelaw11_CsrnoBack.j0 k a1 false) else ((csrno_Number.f t140).bind fun t142 => (mezzaninelaw11_CsrnoBack.j0 k a1 (t142 != a0))))) = some r := H
      have A8 := Aside0.mk A80
      clear A80
      by_cases c9 : (t141 != (t140.toList != ([] : List UInt8))) = true
      · rw [if_pos c9] at H
        have c9b0 : (t141 != (t140.toList != ([] : List UInt8))) = true := c9
        (try (have e_c9b0 : (t141 != (!t140.toList.isEmpty)) = true := by { have ht140 : (t140.toList != ([] : List UInt8)) = (!t140.toList.isEmpty) := by { cases t140.toList <;> rfl }; have kt140 : (t140.toList == ([] : List UInt8)) = t140.toList.isEmpty := by { cases t140.toList <;> rfl }; have hh := c9b0; simp only [ht140, kt140] at hh; exact hh }))
        (try (have c9b1 : decide (t141 = (t140.toList != ([] : List UInt8))) = false := by simpa using c9))
        (try (have e_c9b1 : decide (t141 = (!t140.toList.isEmpty)) = false := by { have ht140 : (t140.toList != ([] : List UInt8)) = (!t140.toList.isEmpty) := by { cases t140.toList <;> rfl }; have kt140 : (t140.toList == ([] : List UInt8)) = t140.toList.isEmpty := by { cases t140.toList <;> rfl }; have hh := c9b1; simp only [ht140, kt140] at hh; exact hh }))
        (try (have c9b2 : (t141 == (t140.toList != ([] : List UInt8))) = false := by simpa using c9))
        (try (have e_c9b2 : (t141 == (!t140.toList.isEmpty)) = false := by { have ht140 : (t140.toList != ([] : List UInt8)) = (!t140.toList.isEmpty) := by { cases t140.toList <;> rfl }; have kt140 : (t140.toList == ([] : List UInt8)) = t140.toList.isEmpty := by { cases t140.toList <;> rfl }; have hh := c9b2; simp only [ht140, kt140] at hh; exact hh }))
        (try (have c9b3 : ¬ (t141 = (t140.toList != ([] : List UInt8))) := by simpa using c9))
        clear c9
        (first | rw [c9b0] | (simp only [i64_w, i32_w]; rw [c9b0]) | skip)
        exact absurd H (by rw [HT.out]; cases k <;> simp [mezzaninelaw11_CsrnoBack.j0])
      · rw [if_neg c9] at H
        have c9b0 : (t141 != (t140.toList != ([] : List UInt8))) = false := by simpa using c9
        (try (have e_c9b0 : (t141 != (!t140.toList.isEmpty)) = false := by { have ht140 : (t140.toList != ([] : List UInt8)) = (!t140.toList.isEmpty) := by { cases t140.toList <;> rfl }; have kt140 : (t140.toList == ([] : List UInt8)) = t140.toList.isEmpty := by { cases t140.toList <;> rfl }; have hh := c9b0; simp only [ht140, kt140] at hh; exact hh }))
        (try (have c9b1 : decide (t141 = (t140.toList != ([] : List UInt8))) = true := by simpa using c9))
        (try (have e_c9b1 : decide (t141 = (!t140.toList.isEmpty)) = true := by { have ht140 : (t140.toList != ([] : List UInt8)) = (!t140.toList.isEmpty) := by { cases t140.toList <;> rfl }; have kt140 : (t140.toList == ([] : List UInt8)) = t140.toList.isEmpty := by { cases t140.toList <;> rfl }; have hh := c9b1; simp only [ht140, kt140] at hh; exact hh }))
        (try (have c9b2 : (t141 == (t140.toList != ([] : List UInt8))) = true := by simpa using c9))
        (try (have e_c9b2 : (t141 == (!t140.toList.isEmpty)) = true := by { have ht140 : (t140.toList != ([] : List UInt8)) = (!t140.toList.isEmpty) := by { cases t140.toList <;> rfl }; have kt140 : (t140.toList == ([] : List UInt8)) = t140.toList.isEmpty := by { cases t140.toList <;> rfl }; have hh := c9b2; simp only [ht140, kt140] at hh; exact hh }))
        clear c9
        (first | rw [c9b0] | (simp only [i64_w, i32_w]; rw [c9b0]) | skip)
        by_cases c10 : t140.toList = ([] : List UInt8)
        · rw [if_pos c10] at H
          have c10b0 : (t140.toList == ([] : List UInt8)) = true := beq_iff_eq.mpr c10
          (try (have e_c10b0 : t140.toList.isEmpty = true := by { have ht140 : (t140.toList != ([] : List UInt8)) = (!t140.toList.isEmpty) := by { cases t140.toList <;> rfl }; have kt140 : (t140.toList == ([] : List UInt8)) = t140.toList.isEmpty := by { cases t140.toList <;> rfl }; have hh := c10b0; simp only [ht140, kt140] at hh; exact hh }))
          (try (have z_c10b0_c9b0 := e_c9b0; simp [e_c10b0] at z_c10b0_c9b0))
          (try (have z_c10b0_c9b2 := e_c9b2; simp [e_c10b0] at z_c10b0_c9b2))
          (try (have z_c10b0_c9b0 := e_c9b0; simp [e_c10b0] at z_c10b0_c9b0))
          (try (have z_c10b0_c9b2 := e_c9b2; simp [e_c10b0] at z_c10b0_c9b2))
          have c10b1 : (t140.toList != ([] : List UInt8)) = false := bne_eq_false_iff_eq.mpr c10
          (try (have e_c10b1 : (!t140.toList.isEmpty) = false := by { have ht140 : (t140.toList != ([] : List UInt8)) = (!t140.toList.isEmpty) := by { cases t140.toList <;> rfl }; have kt140 : (t140.toList == ([] : List UInt8)) = t140.toList.isEmpty := by { cases t140.toList <;> rfl }; have hh := c10b1; simp only [ht140, kt140] at hh; exact hh }))
          clear c10
          have H' := Aside0.mk H
          clear H
          go_wp2_with (first | ((with_reducible refine gate_callee (f := 12) rfl ?_); refine goesL_ (some 14) rfl rfl Tryd.func12 (by kernel_rfl) rfl #[.int .i64 a0] rfl (by (try simp only [List.map_toArray, List.map_cons, List.map_nil]); first | done | rfl | (simp only [List.length_drop, List.length_take]; rfl)) ?_; (with_reducible refine (csrno_Known.calls a0 t141 _ A8.out (Tab.from hT (by repeat (first | (with_reducible first | exact HB.out | exact Below.refl _ _ | apply below_alloc | apply pw_below_drewN | apply below_drew1) | exact HB.out)))).mono ?_); rintro e w' ⟨rfl, ⟨nd, rfl⟩⟩; refine ⟨_, rfl, ?_⟩))
          go_meet
          case rel => exact ⟨_, (false), (by first | rfl | (simp; done) | (simp [*]; done)), H', ⟨by first | omega | exact Nat.le_refl _⟩, ⟨by repeat (first | (with_reducible first | exact HB.out | apply below_alloc | apply pw_below_drewN | apply below_drew1) | exact HB.out)⟩⟩
        · rw [if_neg c10] at H
          have c10b0 : (t140.toList == ([] : List UInt8)) = false := beq_eq_false_iff_ne.mpr c10
          (try (have e_c10b0 : t140.toList.isEmpty = false := by { have ht140 : (t140.toList != ([] : List UInt8)) = (!t140.toList.isEmpty) := by { cases t140.toList <;> rfl }; have kt140 : (t140.toList == ([] : List UInt8)) = t140.toList.isEmpty := by { cases t140.toList <;> rfl }; have hh := c10b0; simp only [ht140, kt140] at hh; exact hh }))
          (try (have z_c10b0_c9b0 := e_c9b0; simp [e_c10b0] at z_c10b0_c9b0))
          (try (have z_c10b0_c9b2 := e_c9b2; simp [e_c10b0] at z_c10b0_c9b2))
          (try (have z_c10b0_c9b0 := e_c9b0; simp [e_c10b0] at z_c10b0_c9b0))
          (try (have z_c10b0_c9b2 := e_c9b2; simp [e_c10b0] at z_c10b0_c9b2))
          have c10b1 : (t140.toList != ([] : List UInt8)) = true := bne_iff_ne.mpr c10
          (try (have e_c10b1 : (!t140.toList.isEmpty) = true := by { have ht140 : (t140.toList != ([] : List UInt8)) = (!t140.toList.isEmpty) := by { cases t140.toList <;> rfl }; have kt140 : (t140.toList == ([] : List UInt8)) = t140.toList.isEmpty := by { cases t140.toList <;> rfl }; have hh := c10b1; simp only [ht140, kt140] at hh; exact hh }))
          replace H := Option.bind_eq_some_iff.mp H
          obtain ⟨t142, A110, H⟩ := H
          replace H : (mezzaninelaw11_CsrnoBack.j0 k a1 (t142 != a0)) = some r := H
          have A11 := Aside0.mk A110
          clear A110
          have H' := Aside0.mk H
          clear H
          go_wp2_with (first | ((with_reducible refine gate_callee (f := 12) rfl ?_); refine goesL_ (some 14) rfl rfl Tryd.func12 (by kernel_rfl) rfl #[.int .i64 a0] rfl (by (try simp only [List.map_toArray, List.map_cons, List.map_nil]); first | done | rfl | (simp only [List.length_drop, List.length_take]; rfl)) ?_; (with_reducible refine (csrno_Known.calls a0 t141 _ A8.out (Tab.from hT (by repeat (first | (with_reducible first | exact HB.out | exact Below.refl _ _ | apply below_alloc | apply pw_below_drewN | apply below_drew1) | exact HB.out)))).mono ?_); rintro e w' ⟨rfl, ⟨nd, rfl⟩⟩; refine ⟨_, rfl, ?_⟩) | (go_at_call 13; (with_reducible refine (csrno_Number.calls t140 t142 _ A11.out (Tab.from hT (by repeat (first | (with_reducible first | exact HB.out | exact Below.refl _ _ | apply below_alloc | apply pw_below_drewN | apply below_drew1) | exact HB.out)))).mono ?_); rintro e w12 ⟨rfl, hb⟩; have n0_ := Aside0.mk (below_step (by repeat (first | (with_reducible first | exact HB.out | apply below_alloc | apply pw_below_drewN | apply below_drew1) | exact HB.out)) hb); clear HB; have HB := n0_; clear n0_; (try clear hb); (try clear hb2); (try clear hk); (try clear hi)))
          go_meet
          case rel => exact ⟨_, ((t142 != a0)), (by first | rfl | (simp; done) | (simp [*]; done)), H', ⟨by first | omega | exact Nat.le_refl _⟩, ⟨by repeat (first | (with_reducible first | exact HB.out | apply below_alloc | apply pw_below_drewN | apply below_drew1) | exact HB.out)⟩⟩
    case rest =>
      clear HC7
      try clear c1
      try clear p2
      try clear c3
      try clear c3b0
      try clear c3b1
      try clear c7
      try clear c9
      try clear c9b0
      try clear c9b1
      try clear c9b2
      try clear c10
      try clear c10b0
      try clear c10b1
      try clear c12
      obtain ⟨kq, x27_6, rfl, HA, HJ6, HB⟩ := hcut
      cases kq with
      | zero => exact absurd HA.out (by simp [mezzaninelaw11_CsrnoBack.j0])
      | succ kj6 =>
        have H := HA.out
        clear HA
        simp only [mezzaninelaw11_CsrnoBack.j0] at H
        by_cases c13 : x27_6 = true
        · subst c13
          have H1 : (some false) = some r := by rw [if_pos rfl] at H; exact H
          clear H
          have H := H1
          clear H1
          exact absurd (Option.some.inj H) (by rw [HT.out]; decide)
        · replace c13 := Bool.eq_false_iff.mpr c13
          subst c13
          have H1 : ((csrno_Number.f a1).bind fun t143 => (if t143 = (-1) then ((mezzaninelaw11_wakes.f).bind fun t144 => (some t144)) else ((csrno_Name.f t143).bind fun t145 => (if t145.toList = a1.toList then (if t143 ≥ 0 then (if t143 < 4096 then ((mezzaninelaw11_wakes.f).bind fun t146 => (some t146)) else (some false)) else (some false)) else (some false))))) = some r := by rw [if_neg (show ¬ (false = true) by decide)] at H; exact H
          clear H
          have H := H1
          clear H1
          replace H := Option.bind_eq_some_iff.mp H
          obtain ⟨t143, A140, H⟩ := H
          replace H : (if t143 = (-1) then ((mezzaninelaw11_wakes.f).bind fun t144 => (some t144)) else ((csrno_Name.f t143).bind fun t145 => (if t145.toList = a1.toList then (if t143 ≥ 0 then (if t143 < 4096 then ((mezzaninelaw11_wakes.f).bind fun t146 => (some t146)) else (some false)) else (some false)) else (some false)))) = some r := H
          have A14 := Aside0.mk A140
          clear A140
          by_cases c15 : t143 = (-1)
          · rw [if_pos c15] at H
            have c15b0 : (t143 == (-1)) = true := beq_iff_eq.mpr c15
            have c15b1 : (t143 != (-1)) = false := bne_eq_false_iff_eq.mpr c15
            clear c15
            replace H := Option.bind_eq_some_iff.mp H
            obtain ⟨t144, A160, H⟩ := H
            replace H : (some t144) = some r := H
            have A16 := Aside0.mk A160
            clear A160
            obtain rfl := Option.some.inj H
            go_wp2_with (first | ((with_reducible refine gate_callee (f := 13) rfl ?_); refine goesL_ (some 29) rfl rfl Tryd.func13 (by kernel_rfl) rfl #[.string a1] rfl (by (try simp only [List.map_toArray, List.map_cons, List.map_nil]); first | done | rfl | (simp only [List.length_drop, List.length_take]; rfl)) ?_; (with_reducible refine (csrno_Number.calls a1 t143 _ A14.out (Tab.from hT (by repeat (first | (with_reducible first | exact HB.out | exact Below.refl _ _ | apply below_alloc | apply pw_below_drewN | apply below_drew1) | exact HB.out)))).mono ?_); rintro e w17 ⟨rfl, hb⟩; refine ⟨_, rfl, ?_⟩; have n0_ := Aside0.mk (below_step (by repeat (first | (with_reducible first | exact HB.out | apply below_alloc | apply pw_below_drewN | apply below_drew1) | exact HB.out)) hb); clear HB; have HB := n0_; clear n0_; (try clear hb); (try clear hb2); (try clear hk); (try clear hi)) | (go_at_call 9; (with_reducible refine (mezzaninelaw11_wakes.calls  t144 _ A16.out (Tab.from hT (by repeat (first | (with_reducible first | exact HB.out | exact Below.refl _ _ | apply below_alloc | apply pw_below_drewN | apply below_drew1) | exact HB.out)))).mono ?_); rintro e w18 ⟨rfl, hb⟩; have n0_ := Aside0.mk (below_step (by repeat (first | (with_reducible first | exact HB.out | apply below_alloc | apply pw_below_drewN | apply below_drew1) | exact HB.out)) hb); clear HB; have HB := n0_; clear n0_; (try clear hb); (try clear hb2); (try clear hk); (try clear hi)))
            go_ret
            exact ⟨by first | rfl | (simp [errW_none, errW_some] <;> rfl) | (simp [*, errW_none, errW_some] <;> rfl), by repeat (first | (with_reducible first | exact HB.out | apply below_alloc | apply pw_below_drewN | apply below_drew1) | exact HB.out)⟩
          · rw [if_neg c15] at H
            have c15b0 : (t143 == (-1)) = false := beq_eq_false_iff_ne.mpr c15
            have c15b1 : (t143 != (-1)) = true := bne_iff_ne.mpr c15
            replace H := Option.bind_eq_some_iff.mp H
            obtain ⟨t145, A190, H⟩ := H
            replace H : (if t145.toList = a1.toList then (if t143 ≥ 0 then (if t143 < 4096 then ((mezzaninelaw11_wakes.f).bind fun t146 => (some t146)) else (some false)) else (some false)) else (some false)) = some r := H
            have A19 := Aside0.mk A190
            clear A190
            by_cases c20 : t145.toList = a1.toList
            · rw [if_pos c20] at H
              have c20b0 : (t145.toList == a1.toList) = true := beq_iff_eq.mpr c20
              have c20b1 : (t145.toList != a1.toList) = false := bne_eq_false_iff_eq.mpr c20
              clear c20
              by_cases c21 : t143 ≥ 0
              · rw [if_pos c21] at H
                have c21b0 : decide (0 ≤ t143) = true := decide_eq_true c21
                clear c21
                by_cases c22 : t143 < 4096
                · rw [if_pos c22] at H
                  have c22b0 : decide (t143 < 4096) = true := decide_eq_true c22
                  clear c22
                  replace H := Option.bind_eq_some_iff.mp H
                  obtain ⟨t146, A230, H⟩ := H
                  replace H : (some t146) = some r := H
                  have A23 := Aside0.mk A230
                  clear A230
                  obtain rfl := Option.some.inj H
                  go_wp2_with (first | ((with_reducible refine gate_callee (f := 13) rfl ?_); refine goesL_ (some 29) rfl rfl Tryd.func13 (by kernel_rfl) rfl #[.string a1] rfl (by (try simp only [List.map_toArray, List.map_cons, List.map_nil]); first | done | rfl | (simp only [List.length_drop, List.length_take]; rfl)) ?_; (with_reducible refine (csrno_Number.calls a1 t143 _ A14.out (Tab.from hT (by repeat (first | (with_reducible first | exact HB.out | exact Below.refl _ _ | apply below_alloc | apply pw_below_drewN | apply below_drew1) | exact HB.out)))).mono ?_); rintro e w24 ⟨rfl, hb⟩; refine ⟨_, rfl, ?_⟩; have n0_ := Aside0.mk (below_step (by repeat (first | (with_reducible first | exact HB.out | apply below_alloc | apply pw_below_drewN | apply below_drew1) | exact HB.out)) hb); clear HB; have HB := n0_; clear n0_; (try clear hb); (try clear hb2); (try clear hk); (try clear hi)) | (go_at_call 10; (with_reducible refine (csrno_Name.calls t143 t145 _ A19.out (Tab.from hT (by repeat (first | (with_reducible first | exact HB.out | exact Below.refl _ _ | apply below_alloc | apply pw_below_drewN | apply below_drew1) | exact HB.out)))).mono ?_); rintro e w' ⟨rfl, ⟨nd, rfl⟩⟩) | (go_at_call 9; (with_reducible refine (mezzaninelaw11_wakes.calls  t146 _ A23.out (Tab.from hT (by repeat (first | (with_reducible first | exact HB.out | exact Below.refl _ _ | apply below_alloc | apply pw_below_drewN | apply below_drew1) | exact HB.out)))).mono ?_); rintro e w25 ⟨rfl, hb⟩; have n0_ := Aside0.mk (below_step (by repeat (first | (with_reducible first | exact HB.out | apply below_alloc | apply pw_below_drewN | apply below_drew1) | exact HB.out)) hb); clear HB; have HB := n0_; clear n0_; (try clear hb); (try clear hb2); (try clear hk); (try clear hi)))
                  go_ret
                  exact ⟨by first | rfl | (simp [errW_none, errW_some] <;> rfl) | (simp [*, errW_none, errW_some] <;> rfl), by repeat (first | (with_reducible first | exact HB.out | apply below_alloc | apply pw_below_drewN | apply below_drew1) | exact HB.out)⟩
                · rw [if_neg c22] at H
                  have c22b0 : decide (t143 < 4096) = false := decide_eq_false c22
                  clear c22
                  exact absurd (Option.some.inj H) (by rw [HT.out]; decide)
              · rw [if_neg c21] at H
                have c21b0 : decide (0 ≤ t143) = false := decide_eq_false c21
                clear c21
                exact absurd (Option.some.inj H) (by rw [HT.out]; decide)
            · rw [if_neg c20] at H
              have c20b0 : (t145.toList == a1.toList) = false := beq_eq_false_iff_ne.mpr c20
              have c20b1 : (t145.toList != a1.toList) = true := bne_iff_ne.mpr c20
              exact absurd (Option.some.inj H) (by rw [HT.out]; decide)

/-- THE ONE PURE STATEMENT of mezzaninelaw11_CsrnoBack: yours. -/
def mezzaninelaw11_CsrnoBack.Pure : Prop := ∀ (a0 : Int) (a1 : ByteArray), (Lit.int .i64 a0).wf = true → a1.size ≤ 140737488351232 → ∃ k, mezzaninelaw11_CsrnoBack.f k a0 a1 = some true
theorem mezzaninelaw11_CsrnoBack.walk (P : mezzaninelaw11_CsrnoBack.Pure) (a0 : Int) (a1 : ByteArray) (w : World) (w0 : (Lit.int .i64 a0).wf = true) (w1 : a1.size ≤ 140737488351232) (hT : Tab w) :
    Calls Tryd.prog 7 #[.int .i64 a0, .string a1] w fun e w' => e = .returned (.bool true) ∧ Below w.heap.size w w' := by
  obtain ⟨k, h⟩ := P a0 a1 w0 w1
  refine (mezzaninelaw11_CsrnoBack.calls k a0 a1 true w rfl h (Tab.from hT (by repeat (first | (with_reducible first | exact HB.out | exact Below.refl _ _ | apply below_alloc | apply pw_below_drewN | apply below_drew1) | exact HB.out)))).mono ?_
  rintro e w' ⟨rfl, hd⟩
  exact ⟨rfl, hd⟩

/-! ### csrno_All: by hand -/
section
def csrno_All.f : Option (List Int) := some rowNos
theorem csrno_All.step (k : Nat) (hk : k < 56) : rowNos.take k ++ [rowNo k] = rowNos.take (k + 1) := by
  have h : ∀ k : Fin 56, rowNos.take k.val ++ [rowNo k.val] = rowNos.take (k.val + 1) := by decide
  exact h ⟨k, hk⟩
set_option maxHeartbeats 4000000 in
set_option maxRecDepth 100000 in
theorem csrno_All.calls (r : List Int) (w : World) (h : csrno_All.f = some r) (hT : Tab w) :
    Calls Tryd.prog 17 #[] w fun e w' => ∃ v0_ : Value, e = .returned (v0_) ∧ Kd.R (Kd.int .i64) 3 w' w.heap.size (fun _ => True) v0_ r ∧ Below w.heap.size w w' := by
  obtain rfl := Option.some.inj h
  clear h
  obtain ⟨hz, hi⟩ := zero_of_info csrno_row.zero
  have HI := Lib.hid hi
  clear hi
  obtain ⟨t0, fr0, hrow⟩ := hT
  have HS := Lib.hid csrno_rows.size
  go_enter Tryd.func17, Tryd.ntmps17
  go_wp2_with (refine wpList_load_row rfl 38 _ rfl 0 rfl t0 tabCells fr0 _ hrow Tryd.underlying38 rfl HS.out ?_)
  go_loopw [1, 5] (fun v1 v5 wr => ∃ k : Nat, k ≤ 56 ∧ v5 = .int .i64 k ∧ Kd.R (Kd.int .i64) 3 wr w.heap.size (fun _ => True) v1 (rowNos.take k) ∧ Below w.heap.size w wr) (fun _ v5 _ => 56 - (intOf v5).toNat)
  case atStart => exact ⟨0, by omega, rfl, Kd.R_nil _ _ _ _ _, Below.refl _ _⟩
  case round =>
    obtain ⟨k, hk, rfl, hR, hB⟩ := hrel
    by_cases hlt : k < 56
    · have d0 : decide ((k : Int) < 56) = true := decide_eq_true (by omega)
      have ix := csrno_rows.at k hlt
      have HE := Lib.hid (csrno_All.step k hlt)
      have hlen : (rowNos.take k).length ≤ 56 := by rw [List.length_take]; omega
      have hB2 := hB.alloc hB.size (.cells #[.int .i64 (rowNo k), .string (rowName k)] 37)
      have hR2 := Kd.R_alloc hR (.cells #[.int .i64 (rowNo k), .string (rowName k)] 37)
      go_wp2_with (first | (refine wpList_store_row rfl 37 _ _ rfl wr.heap.size #[.int .i64 (rowNo k), .string (rowName k)] rfl rfl 37 #[.int .i64 0, .string ⟨#[]⟩] (heap_alloc_last _ _) HI.out rfl csrno_row.one ?_; rw [blk_stored]) | ((with_reducible refine gate_builtin (b := .append) (xs := #[.tmp 8, .tmp 11]) rfl ?_); at_builtin; refine Kd.R_append (Kd.int .i64) (w0 := w) w.heap.size rfl (.tmp 8) (.tmp 11) 33 3 (.int .i64 0) 8 rfl Tryd.underlying33 info3 rfl (by decide) (by omega) u1 (rowNos.take k) (rowNo k) [.int .i64 (rowNo k)] (fun _ => True) (fun _ => False) rfl ?a1 ?aP (fun _ hk => hk.elim) ?aF ?aO ?aB ?aS ?aL ?_; (case a1 => first | rfl | (go_simp; done) | (simp [World.alloc, Act.eval, Act.get]; done)); (case aP => exact rfl); (case aB => exact hB2); (case aF => exact (fun _ _ => trivial)); (case aO => exact hR2); (case aS => exact below_size hB2); (case aL => omega); intro v113 w5 ho hbb hg hat; rw [HE.out] at ho; clear hB2 hR2 hR hB hg hat))
      go_roundw
      case rel => exact ⟨k + 1, by omega, by go_num, ho, hbb⟩
      case measure => first | (simp [intOf]; done) | (simp [intOf]; omega)
    · obtain rfl : k = 56 := by omega
      go_wp2
      go_ret
      exact ⟨_, rfl, hR, hB⟩
end

/-! ### mezzanineref11_All: function 18 -/
def mezzanineref11_All.l0 : Nat → List Int → Int → Option (List Int)
  | 0, _, _ => none
  | k + 1, x1, x2 => if x2 < 4096 then ((mezzanineref11_Name.f x2).bind fun t147 => (if t147.toList = ([] : List UInt8) then (mezzanineref11_All.l0 k x1 (wrap64 (x2 + 1))) else (if x1.length < 17592186044416 then (mezzanineref11_All.l0 k (x1 ++ [x2]) (wrap64 (x2 + 1))) else (none)))) else (some x1)
def mezzanineref11_All.f (k : Nat)  : Option (List Int) := mezzanineref11_All.l0 k ([] : List Int) 0
theorem mezzanineref11_All.mono_l : ∀ k, (∀ y0 y1, LeO (mezzanineref11_All.l0 k y0 y1) (mezzanineref11_All.l0 (k + 1) y0 y1))
  | 0 => fun _ _ r h => by simp [mezzanineref11_All.l0] at h
  | k + 1 => by
    have ih0 := mezzanineref11_All.mono_l k
    · intro y0 y1
      unfold mezzanineref11_All.l0
      repeat' first
      | (with_reducible exact ih0 _ _)
      | (with_reducible exact LeO.refl _)
      | (with_reducible exact LeO.none _)
      | (with_reducible refine LeO.ite ?_ ?_)
      | (with_reducible refine LeO.bind ?_ (fun _ => ?_))
      | exact ih0 _ _
      | exact LeO.none _
      | refine LeO.ite ?_ ?_
      | refine LeO.bind ?_ (fun _ => ?_)
theorem mezzanineref11_All.mono : ∀ k, LeO (mezzanineref11_All.f k ) (mezzanineref11_All.f (k + 1) ) := by
  intro  k
  have ih0 := mezzanineref11_All.mono_l k
  unfold mezzanineref11_All.f
  repeat' first
      | (with_reducible exact ih0 _ _)
      | (with_reducible exact LeO.refl _)
      | (with_reducible exact LeO.none _)
      | (with_reducible refine LeO.ite ?_ ?_)
      | (with_reducible refine LeO.bind ?_ (fun _ => ?_))
      | exact ih0 _ _
      | exact LeO.none _
      | refine LeO.ite ?_ ?_
      | refine LeO.bind ?_ (fun _ => ?_)
set_option maxHeartbeats 8000000 in
set_option maxRecDepth 100000 in
theorem mezzanineref11_All.calls (k : Nat)  (r : List Int) (w : World) (h : mezzanineref11_All.f k  = some r) :
    Calls Tryd.prog 18 #[] w fun e w' => ∃ v0_ : Value, e = .returned (v0_) ∧ Kd.R (Kd.int .i64) 3 w' w.heap.size (fun _ => True) v0_ r ∧ Below w.heap.size w w' := by
  have HB := Aside0.mk (Below.refl w.heap.size w)
  have H : (mezzanineref11_All.l0 k ([] : List Int) 0) = some r := h
  clear h
  have H' := Aside0.mk H
  clear H
  go_enter Tryd.func18, Tryd.ntmps18
  go_wp2
  go_loopg [1, 2] k (fun kq v1 v2 w' => ∃ (x1_1 : List Int) (x2_1 : Int), v2 = .int .i64 x2_1 ∧ Aside0 (mezzanineref11_All.l0 kq x1_1 x2_1 = some r) ∧ Aside0 (kq ≤ k) ∧ Aside0 (Kd.R (Kd.int .i64) 3 w' w.heap.size (fun _ => True) v1 x1_1) ∧ Aside0 (Below w.heap.size w w'))
  case atStart => exact ⟨(([] : List Int)), (0), (by first | rfl | (simp; done) | (simp [*]; done)), H', ⟨Nat.le_refl _⟩, ⟨by first | exact Kd.R_nil _ _ _ _ _ | exact Kd.N_nil _ _ _ _ _ | exact Kd.V_nil _ _ _ _ _ | exact Kd.Q_nil _ _ _ _ _ | exact Kd.S_nil _ _ _ _ _⟩, ⟨by repeat (first | (with_reducible first | exact HB.out | apply below_alloc | apply pw_below_drewN | apply below_drew1) | exact HB.out)⟩⟩
  case round =>
    clear H'
    obtain ⟨x1_1, x2_1, rfl, HA, HK1, HO_1, HB⟩ := hrel
    cases gk with
    | zero => exact absurd HA.out (by simp [mezzanineref11_All.l0])
    | succ k1 =>
      have H := HA.out
      clear HA
      simp only [mezzanineref11_All.l0] at H
      by_cases c1 : x2_1 < 4096
      · rw [if_pos c1] at H
        have c1b0 : decide (x2_1 < 4096) = true := decide_eq_true c1
        clear c1
        replace H := Option.bind_eq_some_iff.mp H
        obtain ⟨t147, A20, H⟩ := H
        replace H : (if t147.toList = ([] : List UInt8) then (mezzanineref11_All.l0 k1 x1_1 (wrap64 (x2_1 + 1))) else (if x1_1.length < 17592186044416 then (mezzanineref11_All.l0 k1 (x1_1 ++ [x2_1]) (wrap64 (x2_1 + 1))) else (none))) = some r := H
        have A2 := Aside0.mk A20
        clear A20
        by_cases c3 : t147.toList = ([] : List UInt8)
        · rw [if_pos c3] at H
          have c3b0 : (t147.toList == ([] : List UInt8)) = true := beq_iff_eq.mpr c3
          (try (have e_c3b0 : t147.toList.isEmpty = true := by { have ht147 : (t147.toList != ([] : List UInt8)) = (!t147.toList.isEmpty) := by { cases t147.toList <;> rfl }; have kt147 : (t147.toList == ([] : List UInt8)) = t147.toList.isEmpty := by { cases t147.toList <;> rfl }; have hh := c3b0; simp only [ht147, kt147] at hh; exact hh }))
          have c3b1 : (t147.toList != ([] : List UInt8)) = false := bne_eq_false_iff_eq.mpr c3
          (try (have e_c3b1 : (!t147.toList.isEmpty) = false := by { have ht147 : (t147.toList != ([] : List UInt8)) = (!t147.toList.isEmpty) := by { cases t147.toList <;> rfl }; have kt147 : (t147.toList == ([] : List UInt8)) = t147.toList.isEmpty := by { cases t147.toList <;> rfl }; have hh := c3b1; simp only [ht147, kt147] at hh; exact hh }))
          clear c3
          have H' := Aside0.mk H
          clear H
          go_wp2_with (first | ((with_reducible refine gate_callee (f := 11) rfl ?_); refine goesL_ (some 8) rfl rfl Tryd.func11 (by kernel_rfl) rfl #[.int .i64 x2_1] rfl (by (try simp only [List.map_toArray, List.map_cons, List.map_nil]); first | done | rfl | (simp only [List.length_drop, List.length_take]; rfl)) ?_; (with_reducible refine (mezzanineref11_Name.calls x2_1 t147 _ A2.out).mono ?_); rintro e w' ⟨rfl, ⟨nd, rfl⟩⟩; refine ⟨_, rfl, ?_⟩))
          go_roundg k1
          case measure => have := HK1.out; omega
          case rel => exact ⟨(x1_1), (wrap64 (x2_1 + 1)), (by first | rfl | (simp; done) | (simp [*]; done)), H', ⟨by have := HK1.out; omega⟩, ⟨by (with_reducible repeat (first | apply Kd.R_alloc | apply Kd.R_drewN | apply Kd.R_drew)); exact HO_1.out⟩, ⟨by repeat (first | (with_reducible first | exact HB.out | apply below_alloc | apply pw_below_drewN | apply below_drew1) | exact HB.out)⟩⟩
        · rw [if_neg c3] at H
          have c3b0 : (t147.toList == ([] : List UInt8)) = false := beq_eq_false_iff_ne.mpr c3
          (try (have e_c3b0 : t147.toList.isEmpty = false := by { have ht147 : (t147.toList != ([] : List UInt8)) = (!t147.toList.isEmpty) := by { cases t147.toList <;> rfl }; have kt147 : (t147.toList == ([] : List UInt8)) = t147.toList.isEmpty := by { cases t147.toList <;> rfl }; have hh := c3b0; simp only [ht147, kt147] at hh; exact hh }))
          have c3b1 : (t147.toList != ([] : List UInt8)) = true := bne_iff_ne.mpr c3
          (try (have e_c3b1 : (!t147.toList.isEmpty) = true := by { have ht147 : (t147.toList != ([] : List UInt8)) = (!t147.toList.isEmpty) := by { cases t147.toList <;> rfl }; have kt147 : (t147.toList == ([] : List UInt8)) = t147.toList.isEmpty := by { cases t147.toList <;> rfl }; have hh := c3b1; simp only [ht147, kt147] at hh; exact hh }))
          by_cases c4 : x1_1.length < 17592186044416
          · rw [if_pos c4] at H
            have LMc4 := Aside0.mk c4
            clear c4
            obtain ⟨y148, hy148⟩ : ∃ y_ : List Int, y_ = (x1_1 ++ [x2_1]) := ⟨_, rfl⟩
            replace H : (mezzanineref11_All.l0 k1 y148 (wrap64 (x2_1 + 1))) = some r := by first | (rw [hy148]; with_reducible exact H) | (have H2_ := (Option.bind_some _ _).symm.trans H; rw [hy148]; with_reducible exact H2_) | (have H2_ := (Option.bind_some _ _).symm.trans H; with_reducible exact H2_) | with_reducible exact H | (rw [hy148]; exact H) | exact H
            have Ny148 := Aside0.mk hy148
            clear hy148
            have H' := Aside0.mk H
            clear H
            go_wp2_with (first | ((with_reducible refine gate_callee (f := 11) rfl ?_); refine goesL_ (some 8) rfl rfl Tryd.func11 (by kernel_rfl) rfl #[.int .i64 x2_1] rfl (by (try simp only [List.map_toArray, List.map_cons, List.map_nil]); first | done | rfl | (simp only [List.length_drop, List.length_take]; rfl)) ?_; (with_reducible refine (mezzanineref11_Name.calls x2_1 t147 _ A2.out).mono ?_); rintro e w' ⟨rfl, ⟨nd, rfl⟩⟩; refine ⟨_, rfl, ?_⟩) | ((with_reducible refine gate_builtin (b := .append) (xs := #[.tmp 10, .tmp 12]) rfl ?_); at_builtin; refine Kd.R_append (Kd.int .i64) (w0 := w) w.heap.size rfl (.tmp 10) (.tmp 12) 33 3 (.int .i64 0) 8 rfl Tryd.underlying33 info3 rfl (by decide) (by omega) u1 x1_1 x2_1 [.int .i64 x2_1] (fun _ => True) (fun _ => False) rfl rfl ?aP (fun _ hk => hk.elim) ?aF ?aO ?aB ?aS ?aL ?_; (case aP => exact rfl); (case aB => exact (by repeat (first | (with_reducible first | exact HB.out | apply below_alloc | apply pw_below_drewN | apply below_drew1) | exact HB.out))); (case aF => exact (fun _ _ => trivial)); (case aO => exact (by (with_reducible repeat (first | apply Kd.R_alloc | apply Kd.R_drewN | apply Kd.R_drew)); exact HO_1.out)); (case aS => exact (below_size (by repeat (first | (with_reducible first | exact HB.out | apply below_alloc | apply pw_below_drewN | apply below_drew1) | exact HB.out)))); (case aL => have := LMc4.out; omega); intro v149 w5 ho hb hg hat; rw [← Ny148.out] at ho; have n0_ := Aside0.mk (hb); have n1_ := Aside0.mk (ho); clear HB; clear HO_1; have HB := n0_; have HO150 := n1_; clear n0_ n1_; clear ho hb hg hat))
            go_roundg k1
            case measure => have := HK1.out; omega
            case rel => exact ⟨(y148), (wrap64 (x2_1 + 1)), (by first | rfl | (simp; done) | (simp [*]; done)), H', ⟨by have := HK1.out; omega⟩, ⟨by (with_reducible repeat (first | apply Kd.R_alloc | apply Kd.R_drewN | apply Kd.R_drew)); exact HO150.out⟩, ⟨by repeat (first | (with_reducible first | exact HB.out | apply below_alloc | apply pw_below_drewN | apply below_drew1) | exact HB.out)⟩⟩
          · rw [if_neg c4] at H
            exact absurd H (by simp)
      · rw [if_neg c1] at H
        have c1b0 : decide (x2_1 < 4096) = false := decide_eq_false c1
        clear c1
        obtain rfl := Option.some.inj H
        go_wp2
        go_ret
        exact ⟨_, by first | rfl | (simp [errW_none, errW_some] <;> rfl) | (simp [*, errW_none, errW_some] <;> rfl), by (with_reducible repeat (first | apply Kd.R_alloc | apply Kd.R_drewN | apply Kd.R_drew)); exact HO_1.out, by repeat (first | (with_reducible first | exact HB.out | apply below_alloc | apply pw_below_drewN | apply below_drew1) | exact HB.out)⟩

end Go.Proofs.YtbmmafebekehdaaDoor.Q
