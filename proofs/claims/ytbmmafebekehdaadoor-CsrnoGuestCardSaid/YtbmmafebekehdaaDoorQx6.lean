/- Where the Lean function of a Go function gives a value, the Go call returns that value and changes nothing that was there: for every input. (By a program of this session, and by hand.) -/
import Derived.Test.YtbmmafebekehdaaDoorQx0
import Derived.Test.YtbmmafebekehdaaDoorQx1
import Derived.Test.YtbmmafebekehdaaDoorQx4
import Derived.Test.YtbmmafebekehdaaDoorQx5
namespace Go.Proofs.YtbmmafebekehdaaDoor.Q
open Go.RowKit Go.Proofs.YtbmmafebekehdaaDoorW.PrintWords Go.Proofs.YtbmmafebekehdaaDoorW.PrintLast Go.Proofs.YtbmmafebekehdaaDoorW.PrintMore
attribute [local go_sem] max2_int min2_int max_two min_two max_three min_three max_four min_four   -- for this text's walks alone
set_option linter.unusedVariables false
set_option linter.unusedSimpArgs false

/-! ### mezzanineref11_Number: function 14 -/
def mezzanineref11_Number.l0 : Nat → ByteArray → Int → Option (Int)
  | 0, _, _ => none
  | k + 1, x0, x3 => if x3 < 4096 then (if x0.toList = ([] : List UInt8) then (mezzanineref11_Number.l0 k x0 (wrap64 (x3 + 1))) else ((mezzanineref11_Name.f x3).bind fun t106 => (if t106.toList = x0.toList then (some x3) else (mezzanineref11_Number.l0 k x0 (wrap64 (x3 + 1)))))) else (some (-1))
def mezzanineref11_Number.f (k : Nat) (a0 : ByteArray) : Option (Int) := mezzanineref11_Number.l0 k a0 0
theorem mezzanineref11_Number.mono_l : ∀ k, (∀ y0 y1, LeO (mezzanineref11_Number.l0 k y0 y1) (mezzanineref11_Number.l0 (k + 1) y0 y1))
  | 0 => fun _ _ r h => by simp [mezzanineref11_Number.l0] at h
  | k + 1 => by
    have ih0 := mezzanineref11_Number.mono_l k
    · intro y0 y1
      unfold mezzanineref11_Number.l0
      repeat' first
      | (with_reducible exact ih0 _ _)
      | (with_reducible exact LeO.refl _)
      | (with_reducible exact LeO.none _)
      | (with_reducible refine LeO.ite ?_ ?_)
      | (with_reducible refine LeO.bind ?_ (fun _ => ?_))
      | exact ih0 _ _
      | exact LeO.none _
      | refine LeO.ite ?_ ?_
      | refine LeO.bind ?_ (fun _ => ?_)
theorem mezzanineref11_Number.mono : ∀ a0 k, LeO (mezzanineref11_Number.f k a0) (mezzanineref11_Number.f (k + 1) a0) := by
  intro a0 k
  have ih0 := mezzanineref11_Number.mono_l k
  unfold mezzanineref11_Number.f
  repeat' first
      | (with_reducible exact ih0 _ _)
      | (with_reducible exact LeO.refl _)
      | (with_reducible exact LeO.none _)
      | (with_reducible refine LeO.ite ?_ ?_)
      | (with_reducible refine LeO.bind ?_ (fun _ => ?_))
      | exact ih0 _ _
      | exact LeO.none _
      | refine LeO.ite ?_ ?_
      | refine LeO.bind ?_ (fun _ => ?_)
set_option maxHeartbeats 8000000 in
set_option maxRecDepth 100000 in
theorem mezzanineref11_Number.calls (k : Nat) (a0 : ByteArray) (r : Int) (w : World) (h : mezzanineref11_Number.f k a0 = some r) :
    Calls Tryd.prog 14 #[.string a0] w fun e w' => e = .returned (.int .i64 r) ∧ Drawn0 w w' := by
  have H : (mezzanineref11_Number.l0 k a0 0) = some r := h
  clear h
  have H' := Aside0.mk H
  clear H
  go_enter Tryd.func14, Tryd.ntmps14
  go_wp2
  go_loopg [3] k (fun kq v3 w' => ∃ (x3_1 : Int), v3 = .int .i64 x3_1 ∧ Aside0 (mezzanineref11_Number.l0 kq a0 x3_1 = some r) ∧ Aside0 (kq ≤ k) ∧ Drawn0 w w')
  case atStart => exact ⟨(0), (by first | rfl | (simp; done) | (simp [*]; done)), H', ⟨Nat.le_refl _⟩, by repeat (first | exact Drawn0.refl _ | apply Drawn0.step)⟩
  case round =>
    clear H'
    try clear c1
    obtain ⟨x3_1, rfl, HA, HK1, ⟨m1, rfl⟩⟩ := hrel
    cases gk with
    | zero => exact absurd HA.out (by simp [mezzanineref11_Number.l0])
    | succ k1 =>
      have H := HA.out
      clear HA
      simp only [mezzanineref11_Number.l0] at H
      by_cases c2 : x3_1 < 4096
      · rw [if_pos c2] at H
        have c2b0 : decide (x3_1 < 4096) = true := decide_eq_true c2
        clear c2
        by_cases c3 : a0.toList = ([] : List UInt8)
        · rw [if_pos c3] at H
          have c3b0 : (a0.toList == ([] : List UInt8)) = true := beq_iff_eq.mpr c3
          (try (have e_c3b0 : a0.toList.isEmpty = true := by { have ha0 : (a0.toList != ([] : List UInt8)) = (!a0.toList.isEmpty) := by { cases a0.toList <;> rfl }; have ka0 : (a0.toList == ([] : List UInt8)) = a0.toList.isEmpty := by { cases a0.toList <;> rfl }; have hh := c3b0; simp only [ha0, ka0] at hh; exact hh }))
          have c3b1 : (a0.toList != ([] : List UInt8)) = false := bne_eq_false_iff_eq.mpr c3
          (try (have e_c3b1 : (!a0.toList.isEmpty) = false := by { have ha0 : (a0.toList != ([] : List UInt8)) = (!a0.toList.isEmpty) := by { cases a0.toList <;> rfl }; have ka0 : (a0.toList == ([] : List UInt8)) = a0.toList.isEmpty := by { cases a0.toList <;> rfl }; have hh := c3b1; simp only [ha0, ka0] at hh; exact hh }))
          clear c3
          have H' := Aside0.mk H
          clear H
          go_wp2
          go_roundg k1
          case measure => have := HK1.out; omega
          case rel => exact ⟨(wrap64 (x3_1 + 1)), (by first | rfl | (simp; done) | (simp [*]; done)), H', ⟨by have := HK1.out; omega⟩, by repeat (first | exact Drawn0.refl _ | apply Drawn0.step)⟩
        · rw [if_neg c3] at H
          have c3b0 : (a0.toList == ([] : List UInt8)) = false := beq_eq_false_iff_ne.mpr c3
          (try (have e_c3b0 : a0.toList.isEmpty = false := by { have ha0 : (a0.toList != ([] : List UInt8)) = (!a0.toList.isEmpty) := by { cases a0.toList <;> rfl }; have ka0 : (a0.toList == ([] : List UInt8)) = a0.toList.isEmpty := by { cases a0.toList <;> rfl }; have hh := c3b0; simp only [ha0, ka0] at hh; exact hh }))
          have c3b1 : (a0.toList != ([] : List UInt8)) = true := bne_iff_ne.mpr c3
          (try (have e_c3b1 : (!a0.toList.isEmpty) = true := by { have ha0 : (a0.toList != ([] : List UInt8)) = (!a0.toList.isEmpty) := by { cases a0.toList <;> rfl }; have ka0 : (a0.toList == ([] : List UInt8)) = a0.toList.isEmpty := by { cases a0.toList <;> rfl }; have hh := c3b1; simp only [ha0, ka0] at hh; exact hh }))
          replace H := Option.bind_eq_some_iff.mp H
          obtain ⟨t106, A40, H⟩ := H
          replace H : (if t106.toList = a0.toList then (some x3_1) else (mezzanineref11_Number.l0 k1 a0 (wrap64 (x3_1 + 1)))) = some r := H
          have A4 := Aside0.mk A40
          clear A40
          by_cases c5 : t106.toList = a0.toList
          · rw [if_pos c5] at H
            have c5b0 : (t106.toList == a0.toList) = true := beq_iff_eq.mpr c5
            have c5b1 : (t106.toList != a0.toList) = false := bne_eq_false_iff_eq.mpr c5
            clear c5
            obtain rfl := Option.some.inj H
            go_wp2_with (first | (go_at_call 11; (with_reducible refine (mezzanineref11_Name.calls x3_1 t106 _ A4.out).mono ?_); rintro e w' ⟨rfl, ⟨nd, rfl⟩⟩))
            go_ret
            exact ⟨by first | rfl | (simp; done) | (simp [*]; done), by repeat (first | exact Drawn0.refl _ | apply Drawn0.step)⟩
          · rw [if_neg c5] at H
            have c5b0 : (t106.toList == a0.toList) = false := beq_eq_false_iff_ne.mpr c5
            have c5b1 : (t106.toList != a0.toList) = true := bne_iff_ne.mpr c5
            have H' := Aside0.mk H
            clear H
            go_wp2_with (first | (go_at_call 11; (with_reducible refine (mezzanineref11_Name.calls x3_1 t106 _ A4.out).mono ?_); rintro e w' ⟨rfl, ⟨nd, rfl⟩⟩))
            go_roundg k1
            case measure => have := HK1.out; omega
            case rel => exact ⟨(wrap64 (x3_1 + 1)), (by first | rfl | (simp; done) | (simp [*]; done)), H', ⟨by have := HK1.out; omega⟩, by repeat (first | exact Drawn0.refl _ | apply Drawn0.step)⟩
      · rw [if_neg c2] at H
        have c2b0 : decide (x3_1 < 4096) = false := decide_eq_false c2
        clear c2
        obtain rfl := Option.some.inj H
        go_wp2
        go_ret
        exact ⟨by first | rfl | (simp; done) | (simp [*]; done), by repeat (first | exact Drawn0.refl _ | apply Drawn0.step)⟩

/-! ### mezzaninelaw11_CsrnoNames: function 3 -/
def mezzaninelaw11_CsrnoNames.f (k : Nat) (a0 : Int) (a1 : ByteArray) : Option (Bool) := if (a1.size : Int) > 1000 then ((mezzaninelaw11_wakes.f).bind fun t107 => (some t107)) else ((csrno_Name.f a0).bind fun t108 => ((mezzanineref11_Name.f a0).bind fun t109 => (if t108.toList = t109.toList then ((csrno_Known.f a0).bind fun t110 => ((mezzanineref11_Name.f a0).bind fun t111 => (if (t110 == (t111.toList != ([] : List UInt8))) = true then ((csrno_Number.f a1).bind fun t112 => ((mezzanineref11_Number.f k a1).bind fun t113 => (if t112 = t113 then ((mezzaninelaw11_wakes.f).bind fun t114 => (some t114)) else (some false)))) else (some false)))) else (some false))))
theorem mezzaninelaw11_CsrnoNames.mono : ∀ a0 a1 k, LeO (mezzaninelaw11_CsrnoNames.f k a0 a1) (mezzaninelaw11_CsrnoNames.f (k + 1) a0 a1) := by
  intro a0 a1 k
  unfold mezzaninelaw11_CsrnoNames.f
  repeat' first
      | (with_reducible exact mezzanineref11_Number.mono _ _)
      | (with_reducible exact LeO.refl _)
      | (with_reducible exact LeO.none _)
      | (with_reducible refine LeO.ite ?_ ?_)
      | (with_reducible refine LeO.bind ?_ (fun _ => ?_))
      | exact mezzanineref11_Number.mono _ _
      | exact LeO.none _
      | refine LeO.ite ?_ ?_
      | refine LeO.bind ?_ (fun _ => ?_)
set_option maxHeartbeats 8000000 in
set_option maxRecDepth 100000 in
theorem mezzaninelaw11_CsrnoNames.calls (k : Nat) (a0 : Int) (a1 : ByteArray) (r : Bool) (w : World) (ht : r = true) (h : mezzaninelaw11_CsrnoNames.f k a0 a1 = some r) (hT : Tab w) :
    Calls Tryd.prog 3 #[.int .i64 a0, .string a1] w fun e w' => e = .returned (.bool r) ∧ Below w.heap.size w w' := by
  have HB := Aside0.mk (Below.refl w.heap.size w)
  have HT := Aside0.mk ht
  clear ht
  have H : (if (a1.size : Int) > 1000 then ((mezzaninelaw11_wakes.f).bind fun t107 => (some t107)) else ((csrno_Name.f a0).bind fun t108 => ((mezzanineref11_Name.f a0).bind fun t109 => (if t108.toList = t109.toList then ((csrno_Known.f a0).bind fun t110 => ((mezzanineref11_Name.f a0).bind fun t111 => (if (t110 == (t111.toList != ([] : List UInt8))) = true then ((csrno_Number.f a1).bind fun t112 => ((mezzanineref11_Number.f k a1).bind fun t113 => (if t112 = t113 then ((mezzaninelaw11_wakes.f).bind fun t114 => (some t114)) else (some false)))) else (some false)))) else (some false))))) = some r := h
  clear h
  by_cases c3 : (a1.size : Int) > 1000
  · rw [if_pos c3] at H
    have c3b0 : decide (1000 < (a1.size : Int)) = true := decide_eq_true c3
    have c3b1 : decide (1000 < a1.size) = true := decide_eq_true (by omega)
    clear c3
    replace H := Option.bind_eq_some_iff.mp H
    obtain ⟨t107, A40, H⟩ := H
    replace H : (some t107) = some r := H
    have A4 := Aside0.mk A40
    clear A40
    obtain rfl := Option.some.inj H
    go_enter Tryd.func3, Tryd.ntmps3
    go_wp2_with (first | ((with_reducible refine gate_callee (f := 9) rfl ?_); refine goesL_ (some 8) rfl rfl Tryd.func9 (by kernel_rfl) rfl #[] rfl (by (try simp only [List.map_toArray, List.map_cons, List.map_nil]); first | done | rfl | (simp only [List.length_drop, List.length_take]; rfl)) ?_; (with_reducible refine (mezzaninelaw11_wakes.calls  t107 _ A4.out (Tab.from hT (by repeat (first | (with_reducible first | exact HB.out | exact Below.refl _ _ | apply below_alloc | apply pw_below_drewN | apply below_drew1) | exact HB.out)))).mono ?_); rintro e w5 ⟨rfl, hb⟩; refine ⟨_, rfl, ?_⟩; have n0_ := Aside0.mk (below_step (by repeat (first | (with_reducible first | exact HB.out | apply below_alloc | apply pw_below_drewN | apply below_drew1) | exact HB.out)) hb); clear HB; have HB := n0_; clear n0_; (try clear hb); (try clear hb2); (try clear hk); (try clear hi)))
    go_ret
    exact ⟨by first | rfl | (simp [errW_none, errW_some] <;> rfl) | (simp [*, errW_none, errW_some] <;> rfl), by repeat (first | (with_reducible first | exact HB.out | apply below_alloc | apply pw_below_drewN | apply below_drew1) | exact HB.out)⟩
  · rw [if_neg c3] at H
    have c3b0 : decide (1000 < (a1.size : Int)) = false := decide_eq_false c3
    have c3b1 : decide (1000 < a1.size) = false := decide_eq_false (by omega)
    clear c3
    replace H := Option.bind_eq_some_iff.mp H
    obtain ⟨t108, A60, H⟩ := H
    replace H : ((mezzanineref11_Name.f a0).bind fun t109 => (if t108.toList = t109.toList then ((csrno_Known.f a0).bind fun t110 => ((mezzanineref11_Name.f a0).bind fun t111 => (if (t110 == (t111.toList != ([] : List UInt8))) = true then ((csrno_Number.f a1).bind fun t112 => ((mezzanineref11_Number.f k a1).bind fun t113 => (if t112 = t113 then ((mezzaninelaw11_wakes.f).bind fun t114 => (some t114)) else (some false)))) else (some false)))) else (some false))) = some r := H
    have A6 := Aside0.mk A60
    clear A60
    replace H := Option.bind_eq_some_iff.mp H
    obtain ⟨t109, A70, H⟩ := H
    replace H : (if t108.toList = t109.toList then ((csrno_Known.f a0).bind fun t110 => ((mezzanineref11_Name.f a0).bind fun t111 => (if (t110 == (t111.toList != ([] : List UInt8))) = true then ((csrno_Number.f a1).bind fun t112 => ((mezzanineref11_Number.f k a1).bind fun t113 => (if t112 = t113 then ((mezzaninelaw11_wakes.f).bind fun t114 => (some t114)) else (some false)))) else (some false)))) else (some false)) = some r := H
    have A7 := Aside0.mk A70
    clear A70
    by_cases c8 : t108.toList = t109.toList
    · rw [if_pos c8] at H
      have c8b0 : (t108.toList == t109.toList) = true := beq_iff_eq.mpr c8
      have c8b1 : (t108.toList != t109.toList) = false := bne_eq_false_iff_eq.mpr c8
      clear c8
      replace H := Option.bind_eq_some_iff.mp H
      obtain ⟨t110, A90, H⟩ := H
      replace H : ((mezzanineref11_Name.f a0).bind fun t111 => (if (t110 == (t111.toList != ([] : List UInt8))) = true then ((csrno_Number.f a1).bind fun t112 => ((mezzanineref11_Number.f k a1).bind fun t113 => (if t112 = t113 then ((mezzaninelaw11_wakes.f).bind fun t114 => (some t114)) else (some false)))) else (some false))) = some r := H
      have A9 := Aside0.mk A90
      clear A90
      replace H := Option.bind_eq_some_iff.mp H
      obtain ⟨t111, A100, H⟩ := H
      replace H : (if (t110 == (t111.toList != ([] : List UInt8))) = true then ((csrno_Number.f a1).bind fun t112 => ((mezzanineref11_Number.f k a1).bind fun t113 => (if t112 = t113 then ((mezzaninelaw11_wakes.f).bind fun t114 => (some t114)) else (some false)))) else (some false)) = some r := H
      have A10 := Aside0.mk A100
      clear A100
      by_cases c11 : (t110 == (t111.toList != ([] : List UInt8))) = true
      · rw [if_pos c11] at H
        have c11b0 : (t110 == (t111.toList != ([] : List UInt8))) = true := c11
        (try (have e_c11b0 : (t110 == (!t111.toList.isEmpty)) = true := by { have ht111 : (t111.toList != ([] : List UInt8)) = (!t111.toList.isEmpty) := by { cases t111.toList <;> rfl }; have kt111 : (t111.toList == ([] : List UInt8)) = t111.toList.isEmpty := by { cases t111.toList <;> rfl }; have hh := c11b0; simp only [ht111, kt111] at hh; exact hh }))
        (try (have c11b1 : decide (t110 = (t111.toList != ([] : List UInt8))) = true := by simpa using c11))
        (try (have e_c11b1 : decide (t110 = (!t111.toList.isEmpty)) = true := by { have ht111 : (t111.toList != ([] : List UInt8)) = (!t111.toList.isEmpty) := by { cases t111.toList <;> rfl }; have kt111 : (t111.toList == ([] : List UInt8)) = t111.toList.isEmpty := by { cases t111.toList <;> rfl }; have hh := c11b1; simp only [ht111, kt111] at hh; exact hh }))
        (try (have c11b2 : (t110 == (t111.toList != ([] : List UInt8))) = true := by simpa using c11))
        (try (have e_c11b2 : (t110 == (!t111.toList.isEmpty)) = true := by { have ht111 : (t111.toList != ([] : List UInt8)) = (!t111.toList.isEmpty) := by { cases t111.toList <;> rfl }; have kt111 : (t111.toList == ([] : List UInt8)) = t111.toList.isEmpty := by { cases t111.toList <;> rfl }; have hh := c11b2; simp only [ht111, kt111] at hh; exact hh }))
        clear c11
        replace H := Option.bind_eq_some_iff.mp H
        obtain ⟨t112, A120, H⟩ := H
        replace H : ((mezzanineref11_Number.f k a1).bind fun t113 => (if t112 = t113 then ((mezzaninelaw11_wakes.f).bind fun t114 => (some t114)) else (some false))) = some r := H
        have A12 := Aside0.mk A120
        clear A120
        replace H := Option.bind_eq_some_iff.mp H
        obtain ⟨t113, A130, H⟩ := H
        replace H : (if t112 = t113 then ((mezzaninelaw11_wakes.f).bind fun t114 => (some t114)) else (some false)) = some r := H
        have A13 := Aside0.mk A130
        clear A130
        by_cases c14 : t112 = t113
        · rw [if_pos c14] at H
          have c14b0 : (t112 == t113) = true := beq_iff_eq.mpr c14
          have c14b1 : (t112 != t113) = false := bne_eq_false_iff_eq.mpr c14
          clear c14
          replace H := Option.bind_eq_some_iff.mp H
          obtain ⟨t114, A150, H⟩ := H
          replace H : (some t114) = some r := H
          have A15 := Aside0.mk A150
          clear A150
          obtain rfl := Option.some.inj H
          go_enter Tryd.func3, Tryd.ntmps3
          go_wp2_with (first | ((with_reducible refine gate_callee (f := 10) rfl ?_); refine goesL_ (some 10) rfl rfl Tryd.func10 (by kernel_rfl) rfl #[.int .i64 a0] rfl (by (try simp only [List.map_toArray, List.map_cons, List.map_nil]); first | done | rfl | (simp only [List.length_drop, List.length_take]; rfl)) ?_; (with_reducible refine (csrno_Name.calls a0 t108 _ A6.out (Tab.from hT (by repeat (first | (with_reducible first | exact HB.out | exact Below.refl _ _ | apply below_alloc | apply pw_below_drewN | apply below_drew1) | exact HB.out)))).mono ?_); rintro e w' ⟨rfl, ⟨nd, rfl⟩⟩; refine ⟨_, rfl, ?_⟩) | ((with_reducible refine gate_callee (f := 11) rfl ?_); refine goesL_ (some 12) rfl rfl Tryd.func11 (by kernel_rfl) rfl #[.int .i64 a0] rfl (by (try simp only [List.map_toArray, List.map_cons, List.map_nil]); first | done | rfl | (simp only [List.length_drop, List.length_take]; rfl)) ?_; (with_reducible refine (mezzanineref11_Name.calls a0 t109 _ A7.out).mono ?_); rintro e w' ⟨rfl, ⟨nd, rfl⟩⟩; refine ⟨_, rfl, ?_⟩) | (go_at_call 12; (with_reducible refine (csrno_Known.calls a0 t110 _ A9.out (Tab.from hT (by repeat (first | (with_reducible first | exact HB.out | exact Below.refl _ _ | apply below_alloc | apply pw_below_drewN | apply below_drew1) | exact HB.out)))).mono ?_); rintro e w' ⟨rfl, ⟨nd, rfl⟩⟩) | (go_at_call 11; (with_reducible refine (mezzanineref11_Name.calls a0 t111 _ A10.out).mono ?_); rintro e w' ⟨rfl, ⟨nd, rfl⟩⟩) | (go_at_call 13; (with_reducible refine (csrno_Number.calls a1 t112 _ A12.out (Tab.from hT (by repeat (first | (with_reducible first | exact HB.out | exact Below.refl _ _ | apply below_alloc | apply pw_below_drewN | apply below_drew1) | exact HB.out)))).mono ?_); rintro e w16 ⟨rfl, hb⟩; have n0_ := Aside0.mk (below_step (by repeat (first | (with_reducible first | exact HB.out | apply below_alloc | apply pw_below_drewN | apply below_drew1) | exact HB.out)) hb); clear HB; have HB := n0_; clear n0_; (try clear hb); (try clear hb2); (try clear hk); (try clear hi)) | (go_at_call 14; (with_reducible refine (mezzanineref11_Number.calls k a1 t113 _ A13.out).mono ?_); rintro e w' ⟨rfl, ⟨nd, rfl⟩⟩) | (go_at_call 9; (with_reducible refine (mezzaninelaw11_wakes.calls  t114 _ A15.out (Tab.from hT (by repeat (first | (with_reducible first | exact HB.out | exact Below.refl _ _ | apply below_alloc | apply pw_below_drewN | apply below_drew1) | exact HB.out)))).mono ?_); rintro e w17 ⟨rfl, hb⟩; have n0_ := Aside0.mk (below_step (by repeat (first | (with_reducible first | exact HB.out | apply below_alloc | apply pw_below_drewN | apply below_drew1) | exact HB.out)) hb); clear HB; have HB := n0_; clear n0_; (try clear hb); (try clear hb2); (try clear hk); (try clear hi)))
          go_ret
          exact ⟨by first | rfl | (simp [errW_none, errW_some] <;> rfl) | (simp [*, errW_none, errW_some] <;> rfl), by repeat (first | (with_reducible first | exact HB.out | apply below_alloc | apply pw_below_drewN | apply below_drew1) | exact HB.out)⟩
        · rw [if_neg c14] at H
          have c14b0 : (t112 == t113) = false := beq_eq_false_iff_ne.mpr c14
          have c14b1 : (t112 != t113) = true := bne_iff_ne.mpr c14
          exact absurd (Option.some.inj H) (by rw [HT.out]; decide)
      · rw [if_neg c11] at H
        have c11b0 : (t110 == (t111.toList != ([] : List UInt8))) = false := by simpa using c11
        (try (have e_c11b0 : (t110 == (!t111.toList.isEmpty)) = false := by { have ht111 : (t111.toList != ([] : List UInt8)) = (!t111.toList.isEmpty) := by { cases t111.toList <;> rfl }; have kt111 : (t111.toList == ([] : List UInt8)) = t111.toList.isEmpty := by { cases t111.toList <;> rfl }; have hh := c11b0; simp only [ht111, kt111] at hh; exact hh }))
        (try (have c11b1 : decide (t110 = (t111.toList != ([] : List UInt8))) = false := by simpa using c11))
        (try (have e_c11b1 : decide (t110 = (!t111.toList.isEmpty)) = false := by { have ht111 : (t111.toList != ([] : List UInt8)) = (!t111.toList.isEmpty) := by { cases t111.toList <;> rfl }; have kt111 : (t111.toList == ([] : List UInt8)) = t111.toList.isEmpty := by { cases t111.toList <;> rfl }; have hh := c11b1; simp only [ht111, kt111] at hh; exact hh }))
        (try (have c11b2 : (t110 == (t111.toList != ([] : List UInt8))) = false := by simpa using c11))
        (try (have e_c11b2 : (t110 == (!t111.toList.isEmpty)) = false := by { have ht111 : (t111.toList != ([] : List UInt8)) = (!t111.toList.isEmpty) := by { cases t111.toList <;> rfl }; have kt111 : (t111.toList == ([] : List UInt8)) = t111.toList.isEmpty := by { cases t111.toList <;> rfl }; have hh := c11b2; simp only [ht111, kt111] at hh; exact hh }))
        (try (have c11b3 : ¬ (t110 = (t111.toList != ([] : List UInt8))) := by simpa using c11))
        clear c11
        exact absurd (Option.some.inj H) (by rw [HT.out]; decide)
    · rw [if_neg c8] at H
      have c8b0 : (t108.toList == t109.toList) = false := beq_eq_false_iff_ne.mpr c8
      have c8b1 : (t108.toList != t109.toList) = true := bne_iff_ne.mpr c8
      exact absurd (Option.some.inj H) (by rw [HT.out]; decide)

/-- THE ONE PURE STATEMENT of mezzaninelaw11_CsrnoNames: yours. -/
def mezzaninelaw11_CsrnoNames.Pure : Prop := ∀ (a0 : Int) (a1 : ByteArray), (Lit.int .i64 a0).wf = true → a1.size ≤ 140737488351232 → ∃ k, mezzaninelaw11_CsrnoNames.f k a0 a1 = some true
theorem mezzaninelaw11_CsrnoNames.walk (P : mezzaninelaw11_CsrnoNames.Pure) (a0 : Int) (a1 : ByteArray) (w : World) (w0 : (Lit.int .i64 a0).wf = true) (w1 : a1.size ≤ 140737488351232) (hT : Tab w) :
    Calls Tryd.prog 3 #[.int .i64 a0, .string a1] w fun e w' => e = .returned (.bool true) ∧ Below w.heap.size w w' := by
  obtain ⟨k, h⟩ := P a0 a1 w0 w1
  refine (mezzaninelaw11_CsrnoNames.calls k a0 a1 true w rfl h (Tab.from hT (by repeat (first | (with_reducible first | exact HB.out | exact Below.refl _ _ | apply below_alloc | apply pw_below_drewN | apply below_drew1) | exact HB.out)))).mono ?_
  rintro e w' ⟨rfl, hd⟩
  exact ⟨rfl, hd⟩

end Go.Proofs.YtbmmafebekehdaaDoor.Q
