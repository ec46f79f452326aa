/- Where the Lean function of a Go function gives a value, the Go call returns that value and changes nothing that was there: for every input. (By a program of this session, and by hand.) -/
import Derived.Test.YteebgfcihoidmaaRQx0
import Derived.Test.YteebgfcihoidmaaRQx1
import Derived.Test.YteebgfcihoidmaaRQx2
import Derived.Test.YteebgfcihoidmaaRQx3
namespace Go.Proofs.YteebgfcihoidmaaR.Q
open Go.RowKit Go.Proofs.YteebgfcihoidmaaRW.PrintWords Go.Proofs.YteebgfcihoidmaaRW.PrintLast Go.Proofs.YteebgfcihoidmaaRW.PrintMore
attribute [local go_sem] max2_int min2_int max_two min_two max_three min_three max_four min_four   -- for this text's walks alone
set_option linter.unusedVariables false
set_option linter.unusedSimpArgs false

/-! ### pte_Index: function 25 -/
def pte_Index.f (a0 : Int) (a1 : Int) : Option (Int) := (pte_held.f a1).bind fun t205 => ((bits_Field.f a0 (wrap64 (12 + (wrap64 (9 * t205)))) 9).bind fun t206 => (some t206))
set_option maxHeartbeats 8000000 in
set_option maxRecDepth 100000 in
theorem pte_Index.calls (a0 : Int) (a1 : Int) (r : Int) (w : World) (h : pte_Index.f a0 a1 = some r) :
    Calls Try.prog 25 #[.int .u64 a0, .int .i64 a1] w fun e w' => e = .returned (.int .u64 r) ∧ Below w.heap.size w w' := by
  have HB := Aside0.mk (Below.refl w.heap.size w)
  have H : ((pte_held.f a1).bind fun t205 => ((bits_Field.f a0 (wrap64 (12 + (wrap64 (9 * t205)))) 9).bind fun t206 => (some t206))) = some r := h
  clear h
  replace H := Option.bind_eq_some_iff.mp H
  obtain ⟨t205, A30, H⟩ := H
  replace H : ((bits_Field.f a0 (wrap64 (12 + (wrap64 (9 * t205)))) 9).bind fun t206 => (some t206)) = some r := H
  have A3 := Aside0.mk A30
  clear A30
  replace H := Option.bind_eq_some_iff.mp H
  obtain ⟨t206, A40, H⟩ := H
  replace H : (some t206) = some r := H
  have A4 := Aside0.mk A40
  clear A40
  obtain rfl := Option.some.inj H
  go_enter Try.func25, Try.ntmps25
  go_wp2_with (first | ((with_reducible refine gate_callee (f := 30) rfl ?_); refine goesL_ (some 7) rfl rfl Try.func30 (by kernel_rfl) rfl #[.int .i64 a1] rfl (by (try simp only [List.map_toArray, List.map_cons, List.map_nil]); first | done | rfl | (simp only [List.length_drop, List.length_take]; rfl)) ?_; (with_reducible refine (pte_held.calls a1 t205 _ A3.out).mono ?_); rintro e w5 ⟨rfl, hb⟩; refine ⟨_, rfl, ?_⟩; have n0_ := Aside0.mk (below_step (by repeat (first | (with_reducible first | exact HB.out | apply below_alloc | apply pw_below_drewN | apply below_drew1) | exact HB.out)) hb); clear HB; have HB := n0_; clear n0_; (try clear hb); (try clear hb2); (try clear hk); (try clear hi)) | ((with_reducible refine gate_callee (f := 29) rfl ?_); refine goesL_ (some 10) rfl rfl Try.func29 (by kernel_rfl) rfl #[.int .u64 a0, .int .i64 (wrap64 (12 + (wrap64 (9 * t205)))), .int .i64 9] rfl (by (try simp only [List.map_toArray, List.map_cons, List.map_nil]); first | done | rfl | (simp only [List.length_drop, List.length_take]; rfl)) ?_; (with_reducible refine (bits_Field.calls a0 (wrap64 (12 + (wrap64 (9 * t205)))) 9 t206 _ A4.out).mono ?_); rintro e w6 ⟨rfl, hb⟩; refine ⟨_, rfl, ?_⟩; have n0_ := Aside0.mk (below_step (by repeat (first | (with_reducible first | exact HB.out | apply below_alloc | apply pw_below_drewN | apply below_drew1) | exact HB.out)) hb); clear HB; have HB := n0_; clear n0_; (try clear hb); (try clear hb2); (try clear hk); (try clear hi)))
  go_ret
  exact ⟨by first | rfl | (simp [errW_none, errW_some] <;> rfl) | (simp [*, errW_none, errW_some] <;> rfl), by repeat (first | (with_reducible first | exact HB.out | apply below_alloc | apply pw_below_drewN | apply below_drew1) | exact HB.out)⟩

/-! ### mezzaninelaw15_PteMade: function 7 -/
def mezzaninelaw15_PteMade.j0 : Nat → Int → Bool → Option (Bool)
  | 0, _, _ => none
  | k + 1, x2, x42 => if x42 = true then (some false) else ((pte_Index.f x2 2).bind fun t212 => ((pte_Index.f x2 1).bind fun t213 => ((pte_Index.f x2 0).bind fun t214 => (some ((IntKind.u64.wrap ((IntKind.u64.wrap ((IntKind.u64.wrap ((IntKind.u64.wrap (t212 * 1073741824)) + (IntKind.u64.wrap (t213 * 2097152)))) + (IntKind.u64.wrap (t214 * 4096)))) + (Go.bits .and .u64 x2 4095))) == (Go.bits .and .u64 x2 549755813887))))))
def mezzaninelaw15_PteMade.f (k : Nat) (a0 : Int) (a1 : Int) (a2 : Int) : Option (Bool) := (mezzaninelaw15_awake.f k).bind fun t207 => (if t207 = true then ((pte_Make.f a0 a1).bind fun t208 => ((pte_Page.f t208).bind fun t209 => (if t209 = (Go.bits .and .u64 a0 17592186044415) then (if (Go.bits .and .u64 t208 255) = (Go.bits .and .u64 a1 255) then (if (t208 / 18014398509481984) = 0 then (if (Go.bits .and .u64 t208 768) = 0 then ((pte_Page.f t208).bind fun t210 => ((pte_Make.f t210 t208).bind fun t211 => (mezzaninelaw15_PteMade.j0 k a2 (t211 != t208)))) else (mezzaninelaw15_PteMade.j0 k a2 true)) else (mezzaninelaw15_PteMade.j0 k a2 true)) else (mezzaninelaw15_PteMade.j0 k a2 true)) else (mezzaninelaw15_PteMade.j0 k a2 true)))) else (some false))
theorem mezzaninelaw15_PteMade.mono_l : ∀ k, (∀ y0 y1, LeO (mezzaninelaw15_PteMade.j0 k y0 y1) (mezzaninelaw15_PteMade.j0 (k + 1) y0 y1))
  | 0 => fun _ _ r h => by simp [mezzaninelaw15_PteMade.j0] at h
  | k + 1 => by
    have ih0 := mezzaninelaw15_PteMade.mono_l k
    · intro y0 y1
      unfold mezzaninelaw15_PteMade.j0
      repeat' first
      | (with_reducible exact ih0 _ _)
      | (with_reducible exact mezzaninelaw15_awake.mono _)
      | (with_reducible exact LeO.refl _)
      | (with_reducible exact LeO.none _)
      | (with_reducible refine LeO.ite ?_ ?_)
      | (with_reducible refine LeO.bind ?_ (fun _ => ?_))
      | exact ih0 _ _
      | exact mezzaninelaw15_awake.mono _
      | exact LeO.none _
      | refine LeO.ite ?_ ?_
      | refine LeO.bind ?_ (fun _ => ?_)
theorem mezzaninelaw15_PteMade.mono : ∀ a0 a1 a2 k, LeO (mezzaninelaw15_PteMade.f k a0 a1 a2) (mezzaninelaw15_PteMade.f (k + 1) a0 a1 a2) := by
  intro a0 a1 a2 k
  have ih0 := mezzaninelaw15_PteMade.mono_l k
  unfold mezzaninelaw15_PteMade.f
  repeat' first
      | (with_reducible exact ih0 _ _)
      | (with_reducible exact mezzaninelaw15_awake.mono _)
      | (with_reducible exact LeO.refl _)
      | (with_reducible exact LeO.none _)
      | (with_reducible refine LeO.ite ?_ ?_)
      | (with_reducible refine LeO.bind ?_ (fun _ => ?_))
      | exact ih0 _ _
      | exact mezzaninelaw15_awake.mono _
      | exact LeO.none _
      | refine LeO.ite ?_ ?_
      | refine LeO.bind ?_ (fun _ => ?_)
set_option maxHeartbeats 8000000 in
set_option maxRecDepth 100000 in
theorem mezzaninelaw15_PteMade.calls (k : Nat) (a0 : Int) (a1 : Int) (a2 : Int) (r : Bool) (w : World) (ht : r = true) (h : mezzaninelaw15_PteMade.f k a0 a1 a2 = some r) :
    Calls Try.prog 7 #[.int .u64 a0, .int .u64 a1, .int .u64 a2] w fun e w' => e = .returned (.bool r) ∧ Below w.heap.size w w' := by
  have HB := Aside0.mk (Below.refl w.heap.size w)
  have HT := Aside0.mk ht
  clear ht
  have H : ((mezzaninelaw15_awake.f k).bind fun t207 => (if t207 = true then ((pte_Make.f a0 a1).bind fun t208 => ((pte_Page.f t208).bind fun t209 => (if t209 = (Go.bits .and .u64 a0 17592186044415) then (if (Go.bits .and .u64 t208 255) = (Go.bits .and .u64 a1 255) then (if (t208 / 18014398509481984) = 0 then (if (Go.bits .and .u64 t208 768) = 0 then ((pte_Page.f t208).bind fun t210 => ((pte_Make.f t210 t208).bind fun t211 => (mezzaninelaw15_PteMade.j0 k a2 (t211 != t208)))) else (mezzaninelaw15_PteMade.j0 k a2 true)) else (mezzaninelaw15_PteMade.j0 k a2 true)) else (mezzaninelaw15_PteMade.j0 k a2 true)) else (mezzaninelaw15_PteMade.j0 k a2 true)))) else (some false))) = some r := h
  clear h
  replace H := Option.bind_eq_some_iff.mp H
  obtain ⟨t207, A40, H⟩ := H
  replace H : (if t207 = true then ((pte_Make.f a0 a1).bind fun t208 => ((pte_Page.f t208).bind fun t209 => (if t209 = (Go.bits .and .u64 a0 17592186044415) then (if (Go.bits .and .u64 t208 255) = (Go.bits .and .u64 a1 255) then (if (t208 / 18014398509481984) = 0 then (if (Go.bits .and .u64 t208 768) = 0 then ((pte_Page.f t208).bind fun t210 => ((pte_Make.f t210 t208).bind fun t211 => (mezzaninelaw15_PteMade.j0 k a2 (t211 != t208)))) else (mezzaninelaw15_PteMade.j0 k a2 true)) else (mezzaninelaw15_PteMade.j0 k a2 true)) else (mezzaninelaw15_PteMade.j0 k a2 true)) else (mezzaninelaw15_PteMade.j0 k a2 true)))) else (some false)) = some r := H
  have A4 := Aside0.mk A40
  clear A40
  by_cases c5 : t207 = true
  · subst c5
    have H1 : ((pte_Make.f a0 a1).bind fun t208 => ((pte_Page.f t208).bind fun t209 => (if t209 = (Go.bits .and .u64 a0 17592186044415) then (if (Go.bits .and .u64 t208 255) = (Go.bits .and .u64 a1 255) then (if (t208 / 18014398509481984) = 0 then (if (Go.bits .and .u64 t208 768) = 0 then ((pte_Page.f t208).bind fun t210 => ((pte_Make.f t210 t208).bind fun t211 => (mezzaninelaw15_PteMade.j0 k a2 (t211 != t208)))) else (mezzaninelaw15_PteMade.j0 k a2 true)) else (mezzaninelaw15_PteMade.j0 k a2 true)) else (mezzaninelaw15_PteMade.j0 k a2 true)) else (mezzaninelaw15_PteMade.j0 k a2 true)))) = some r := by rw [if_pos rfl] at H; exact H
    clear H
    have H := H1
    clear H1
    replace H := Option.bind_eq_some_iff.mp H
    obtain ⟨t208, A60, H⟩ := H
    replace H : ((pte_Page.f t208).bind fun t209 => (if t209 = (Go.bits .and .u64 a0 17592186044415) then (if (Go.bits .and .u64 t208 255) = (Go.bits .and .u64 a1 255) then (if (t208 / 18014398509481984) = 0 then (if (Go.bits .and .u64 t208 768) = 0 then ((pte_Page.f t208).bind fun t210 => ((pte_Make.f t210 t208).bind fun t211 => (mezzaninelaw15_PteMade.j0 k a2 (t211 != t208)))) else (mezzaninelaw15_PteMade.j0 k a2 true)) else (mezzaninelaw15_PteMade.j0 k a2 true)) else (mezzaninelaw15_PteMade.j0 k a2 true)) else (mezzaninelaw15_PteMade.j0 k a2 true))) = some r := H
    have A6 := Aside0.mk A60
    clear A60
    have HC7 := Aside0.mk H
    clear H
    go_enter Try.func7, Try.ntmps7
    go_upto_region 4 with (first | ((with_reducible refine gate_callee (f := 11) rfl ?_); refine goesL_ (some 8) rfl rfl Try.func11 (by kernel_rfl) rfl #[] rfl (by (try simp only [List.map_toArray, List.map_cons, List.map_nil]); first | done | rfl | (simp only [List.length_drop, List.length_take]; rfl)) ?_; (with_reducible refine (mezzaninelaw15_awake.calls k  true _ A4.out).mono ?_); rintro e w8 ⟨rfl, hb⟩; refine ⟨_, rfl, ?_⟩; have n0_ := Aside0.mk (below_step (by repeat (first | (with_reducible first | exact HB.out | apply below_alloc | apply pw_below_drewN | apply below_drew1) | exact HB.out)) hb); clear HB; have HB := n0_; clear n0_; (try clear hb); (try clear hb2); (try clear hk); (try clear hi)) | ((with_reducible refine gate_callee (f := 12) rfl ?_); refine goesL_ (some 12) rfl rfl Try.func12 (by kernel_rfl) rfl #[.int .u64 a0, .int .u64 a1] rfl (by (try simp only [List.map_toArray, List.map_cons, List.map_nil]); first | done | rfl | (simp only [List.length_drop, List.length_take]; rfl)) ?_; (with_reducible refine (pte_Make.calls a0 a1 t208 _ A6.out).mono ?_); rintro e w9 ⟨rfl, hb⟩; refine ⟨_, rfl, ?_⟩; have n0_ := Aside0.mk (below_step (by repeat (first | (with_reducible first | exact HB.out | apply below_alloc | apply pw_below_drewN | apply below_drew1) | exact HB.out)) hb); clear HB; have HB := n0_; clear n0_; (try clear hb); (try clear hb2); (try clear hk); (try clear hi)))
    (try simp only [Act.put, List.setIfInBounds_toArray, List.set_cons_zero, List.set_cons_succ])
    go_cut [42] (fun v42 wc => ∃ (kq : Nat) (x42_6 : Bool), v42 = .bool x42_6 ∧ Aside0 (mezzaninelaw15_PteMade.j0 kq a2 x42_6 = some r) ∧ Aside0 (kq ≤ k) ∧ Aside0 (Below w.heap.size w wc))
    case first =>
      have H := HC7.out
      clear HC7
      replace H := Option.bind_eq_some_iff.mp H
      obtain ⟨t209, A100, H⟩ := H
      replace H : (if t209 = (Go.bits .and .u64 a0 17592186044415) then (if (Go.bits .and .u64 t208 255) = (Go.bits .and .u64 a1 255) then (if (t208 / 18014398509481984) = 0 then (if (Go.bits .and .u64 t208 768) = 0 then ((pte_Page.f t208).bind fun t210 => ((pte_Make.f t210 t208).bind fun t211 => (mezzaninelaw15_PteMade.j0 k a2 (t211 != t208)))) else (mezzaninelaw15_PteMade.j0 k a2 true)) else (mezzaninelaw15_PteMade.j0 k a2 true)) else (mezzaninelaw15_PteMade.j0 k a2 true)) else (mezzaninelaw15_PteMade.j0 k a2 true)) = some r := H
      have A10 := Aside0.mk A100
      clear A100
      by_cases c11 : t209 = (Go.bits .and .u64 a0 17592186044415)
      · rw [if_pos c11] at H
        have c11b0 : (t209 == (Go.bits .and .u64 a0 17592186044415)) = true := beq_iff_eq.mpr c11
        have c11b1 : (t209 != (Go.bits .and .u64 a0 17592186044415)) = false := bne_eq_false_iff_eq.mpr c11
        clear c11
        (first | rw [c11b0] | (simp only [i64_w, i32_w]; rw [c11b0]) | skip)
        by_cases c12 : (Go.bits .and .u64 t208 255) = (Go.bits .and .u64 a1 255)
        · rw [if_pos c12] at H
          have c12b0 : ((Go.bits .and .u64 t208 255) == (Go.bits .and .u64 a1 255)) = true := beq_iff_eq.mpr c12
          have c12b1 : ((Go.bits .and .u64 t208 255) != (Go.bits .and .u64 a1 255)) = false := bne_eq_false_iff_eq.mpr c12
          clear c12
          by_cases c13 : (t208 / 18014398509481984) = 0
          · rw [if_pos c13] at H
            have c13b0 : ((t208 / 18014398509481984) == 0) = true := beq_iff_eq.mpr c13
            have c13b1 : ((t208 / 18014398509481984) != 0) = false := bne_eq_false_iff_eq.mpr c13
            clear c13
            by_cases c14 : (Go.bits .and .u64 t208 768) = 0
            · rw [if_pos c14] at H
              have c14b0 : ((Go.bits .and .u64 t208 768) == 0) = true := beq_iff_eq.mpr c14
              have c14b1 : ((Go.bits .and .u64 t208 768) != 0) = false := bne_eq_false_iff_eq.mpr c14
              clear c14
              replace H := Option.bind_eq_some_iff.mp H
              obtain ⟨t210, A150, H⟩ := H
              replace H : ((pte_Make.f t210 t208).bind fun t211 => (mezzaninelaw15_PteMade.j0 k a2 (t211 != t208))) = some r := H
              have A15 := Aside0.mk A150
              clear A150
              replace H := Option.bind_eq_some_iff.mp H
              obtain ⟨t211, A160, H⟩ := H
              replace H : (mezzaninelaw15_PteMade.j0 k a2 (t211 != t208)) = some r := H
              have A16 := Aside0.mk A160
              clear A160
              have H' := Aside0.mk H
              clear H
              go_wp2_with (first | ((with_reducible refine gate_callee (f := 14) rfl ?_); refine goesL_ (some 14) rfl rfl Try.func14 (by kernel_rfl) rfl #[.int .u64 t208] rfl (by (try simp only [List.map_toArray, List.map_cons, List.map_nil]); first | done | rfl | (simp only [List.length_drop, List.length_take]; rfl)) ?_; (with_reducible refine (pte_Page.calls t208 t209 _ A10.out).mono ?_); rintro e w17 ⟨rfl, hb⟩; refine ⟨_, rfl, ?_⟩; have n0_ := Aside0.mk (below_step (by repeat (first | (with_reducible first | exact HB.out | apply below_alloc | apply pw_below_drewN | apply below_drew1) | exact HB.out)) hb); clear HB; have HB := n0_; clear n0_; (try clear hb); (try clear hb2); (try clear hk); (try clear hi)) | (go_at_call 14; (with_reducible refine (pte_Page.calls t208 t210 _ A15.out).mono ?_); rintro e w18 ⟨rfl, hb⟩; have n0_ := Aside0.mk (below_step (by repeat (first | (with_reducible first | exact HB.out | apply below_alloc | apply pw_below_drewN | apply below_drew1) | exact HB.out)) hb); clear HB; have HB := n0_; clear n0_; (try clear hb); (try clear hb2); (try clear hk); (try clear hi)) | (go_at_call 12; (with_reducible refine (pte_Make.calls t210 t208 t211 _ A16.out).mono ?_); rintro e w19 ⟨rfl, hb⟩; have n0_ := Aside0.mk (below_step (by repeat (first | (with_reducible first | exact HB.out | apply below_alloc | apply pw_below_drewN | apply below_drew1) | exact HB.out)) hb); clear HB; have HB := n0_; clear n0_; (try clear hb); (try clear hb2); (try clear hk); (try clear hi)))
              go_meet
              case rel => exact ⟨_, ((t211 != t208)), (by first | rfl | (simp; done) | (simp [*]; done)), H', ⟨by first | omega | exact Nat.le_refl _⟩, ⟨by repeat (first | (with_reducible first | exact HB.out | apply below_alloc | apply pw_below_drewN | apply below_drew1) | exact HB.out)⟩⟩
            · rw [if_neg c14] at H
              have c14b0 : ((Go.bits .and .u64 t208 768) == 0) = false := beq_eq_false_iff_ne.mpr c14
              have c14b1 : ((Go.bits .and .u64 t208 768) != 0) = true := bne_iff_ne.mpr c14
              exact absurd H (by rw [HT.out]; cases k <;> simp [mezzaninelaw15_PteMade.j0])
          · rw [if_neg c13] at H
            have c13b0 : ((t208 / 18014398509481984) == 0) = false := beq_eq_false_iff_ne.mpr c13
            have c13b1 : ((t208 / 18014398509481984) != 0) = true := bne_iff_ne.mpr c13
            exact absurd H (by rw [HT.out]; cases k <;> simp [mezzaninelaw15_PteMade.j0])
        · rw [if_neg c12] at H
          have c12b0 : ((Go.bits .and .u64 t208 255) == (Go.bits .and .u64 a1 255)) = false := beq_eq_false_iff_ne.mpr c12
          have c12b1 : ((Go.bits .and .u64 t208 255) != (Go.bits .and .u64 a1 255)) = true := bne_iff_ne.mpr c12
          exact absurd H (by rw [HT.out]; cases k <;> simp [mezzaninelaw15_PteMade.j0])
      · rw [if_neg c11] at H
        have c11b0 : (t209 == (Go.bits .and .u64 a0 17592186044415)) = false := beq_eq_false_iff_ne.mpr c11
        have c11b1 : (t209 != (Go.bits .and .u64 a0 17592186044415)) = true := bne_iff_ne.mpr c11
        (first | rw [c11b0] | (simp only [i64_w, i32_w]; rw [c11b0]) | skip)
        exact absurd H (by rw [HT.out]; cases k <;> simp [mezzaninelaw15_PteMade.j0])
    case rest =>
      clear HC7
      try clear c1
      try clear p2
      try clear c5
      try clear c7
      try clear c11
      try clear c11b0
      try clear c11b1
      try clear c12
      try clear c12b0
      try clear c12b1
      try clear c13
      try clear c13b0
      try clear c13b1
      try clear c14
      try clear c14b0
      try clear c14b1
      obtain ⟨kq, x42_6, rfl, HA, HJ6, HB⟩ := hcut
      cases kq with
      | zero => exact absurd HA.out (by simp [mezzaninelaw15_PteMade.j0])
      | succ kj6 =>
        have H := HA.out
        clear HA
        simp only [mezzaninelaw15_PteMade.j0] at H
        by_cases c20 : x42_6 = true
        · subst c20
          have H1 : (some false) = some r := by rw [if_pos rfl] at H; exact H
          clear H
          have H := H1
          clear H1
          exact absurd (Option.some.inj H) (by rw [HT.out]; decide)
        · replace c20 := Bool.eq_false_iff.mpr c20
          subst c20
          have H1 : ((pte_Index.f a2 2).bind fun t212 => ((pte_Index.f a2 1).bind fun t213 => ((pte_Index.f a2 0).bind fun t214 => (some ((IntKind.u64.wrap ((IntKind.u64.wrap ((IntKind.u64.wrap ((IntKind.u64.wrap (t212 * 1073741824)) + (IntKind.u64.wrap (t213 * 2097152)))) + (IntKind.u64.wrap (t214 * 4096)))) + (Go.bits .and .u64 a2 4095))) == (Go.bits .and .u64 a2 549755813887)))))) = some r := by rw [if_neg (show ¬ (false = true) by decide)] at H; exact H
          clear H
          have H := H1
          clear H1
          replace H := Option.bind_eq_some_iff.mp H
          obtain ⟨t212, A210, H⟩ := H
          replace H : ((pte_Index.f a2 1).bind fun t213 => ((pte_Index.f a2 0).bind fun t214 => (some ((IntKind.u64.wrap ((IntKind.u64.wrap ((IntKind.u64.wrap ((IntKind.u64.wrap (t212 * 1073741824)) + (IntKind.u64.wrap (t213 * 2097152)))) + (IntKind.u64.wrap (t214 * 4096)))) + (Go.bits .and .u64 a2 4095))) == (Go.bits .and .u64 a2 549755813887))))) = some r := H
          have A21 := Aside0.mk A210
          clear A210
          replace H := Option.bind_eq_some_iff.mp H
          obtain ⟨t213, A220, H⟩ := H
          replace H : ((pte_Index.f a2 0).bind fun t214 => (some ((IntKind.u64.wrap ((IntKind.u64.wrap ((IntKind.u64.wrap ((IntKind.u64.wrap (t212 * 1073741824)) + (IntKind.u64.wrap (t213 * 2097152)))) + (IntKind.u64.wrap (t214 * 4096)))) + (Go.bits .and .u64 a2 4095))) == (Go.bits .and .u64 a2 549755813887)))) = some r := H
          have A22 := Aside0.mk A220
          clear A220
          replace H := Option.bind_eq_some_iff.mp H
          obtain ⟨t214, A230, H⟩ := H
          replace H : (some ((IntKind.u64.wrap ((IntKind.u64.wrap ((IntKind.u64.wrap ((IntKind.u64.wrap (t212 * 1073741824)) + (IntKind.u64.wrap (t213 * 2097152)))) + (IntKind.u64.wrap (t214 * 4096)))) + (Go.bits .and .u64 a2 4095))) == (Go.bits .and .u64 a2 549755813887))) = some r := H
          have A23 := Aside0.mk A230
          clear A230
          obtain rfl := Option.some.inj H
          go_wp2_with (first | ((with_reducible refine gate_callee (f := 25) rfl ?_); refine goesL_ (some 44) rfl rfl Try.func25 (by kernel_rfl) rfl #[.int .u64 a2, .int .i64 2] rfl (by (try simp only [List.map_toArray, List.map_cons, List.map_nil]); first | done | rfl | (simp only [List.length_drop, List.length_take]; rfl)) ?_; (with_reducible refine (pte_Index.calls a2 2 t212 _ A21.out).mono ?_); rintro e w24 ⟨rfl, hb⟩; refine ⟨_, rfl, ?_⟩; have n0_ := Aside0.mk (below_step (by repeat (first | (with_reducible first | exact HB.out | apply below_alloc | apply pw_below_drewN | apply below_drew1) | exact HB.out)) hb); clear HB; have HB := n0_; clear n0_; (try clear hb); (try clear hb2); (try clear hk); (try clear hi)) | ((with_reducible refine gate_callee (f := 25) rfl ?_); refine goesL_ (some 47) rfl rfl Try.func25 (by kernel_rfl) rfl #[.int .u64 a2, .int .i64 1] rfl (by (try simp only [List.map_toArray, List.map_cons, List.map_nil]); first | done | rfl | (simp only [List.length_drop, List.length_take]; rfl)) ?_; (with_reducible refine (pte_Index.calls a2 1 t213 _ A22.out).mono ?_); rintro e w25 ⟨rfl, hb⟩; refine ⟨_, rfl, ?_⟩; have n0_ := Aside0.mk (below_step (by repeat (first | (with_reducible first | exact HB.out | apply below_alloc | apply pw_below_drewN | apply below_drew1) | exact HB.out)) hb); clear HB; have HB := n0_; clear n0_; (try clear hb); (try clear hb2); (try clear hk); (try clear hi)) | ((with_reducible refine gate_callee (f := 25) rfl ?_); refine goesL_ (some 51) rfl rfl Try.func25 (by kernel_rfl) rfl #[.int .u64 a2, .int .i64 0] rfl (by (try simp only [List.map_toArray, List.map_cons, List.map_nil]); first | done | rfl | (simp only [List.length_drop, List.length_take]; rfl)) ?_; (with_reducible refine (pte_Index.calls a2 0 t214 _ A23.out).mono ?_); rintro e w26 ⟨rfl, hb⟩; refine ⟨_, rfl, ?_⟩; have n0_ := Aside0.mk (below_step (by repeat (first | (with_reducible first | exact HB.out | apply below_alloc | apply pw_below_drewN | apply below_drew1) | exact HB.out)) hb); clear HB; have HB := n0_; clear n0_; (try clear hb); (try clear hb2); (try clear hk); (try clear hi)))
          go_ret
          exact ⟨by first | rfl | (simp [errW_none, errW_some] <;> rfl) | (simp [*, errW_none, errW_some] <;> rfl), by repeat (first | (with_reducible first | exact HB.out | apply below_alloc | apply pw_below_drewN | apply below_drew1) | exact HB.out)⟩
  · replace c5 := Bool.eq_false_iff.mpr c5
    subst c5
    have H1 : (some false) = some r := by rw [if_neg (show ¬ (false = true) by decide)] at H; exact H
    clear H
    have H := H1
    clear H1
    exact absurd (Option.some.inj H) (by rw [HT.out]; decide)

/-- THE ONE PURE STATEMENT of mezzaninelaw15_PteMade: yours. -/
def mezzaninelaw15_PteMade.Pure : Prop := ∀ (a0 : Int) (a1 : Int) (a2 : Int), (Lit.int .u64 a0).wf = true → (Lit.int .u64 a1).wf = true → (Lit.int .u64 a2).wf = true → ∃ k, mezzaninelaw15_PteMade.f k a0 a1 a2 = some true
theorem mezzaninelaw15_PteMade.walk (P : mezzaninelaw15_PteMade.Pure) (a0 : Int) (a1 : Int) (a2 : Int) (w : World) (w0 : (Lit.int .u64 a0).wf = true) (w1 : (Lit.int .u64 a1).wf = true) (w2 : (Lit.int .u64 a2).wf = true) :
    Calls Try.prog 7 #[.int .u64 a0, .int .u64 a1, .int .u64 a2] w fun e w' => e = .returned (.bool true) ∧ Below w.heap.size w w' := by
  obtain ⟨k, h⟩ := P a0 a1 a2 w0 w1 w2
  refine (mezzaninelaw15_PteMade.calls k a0 a1 a2 true w rfl h).mono ?_
  rintro e w' ⟨rfl, hd⟩
  exact ⟨rfl, hd⟩

/-! ### bits_Put: function 33 -/
def bits_Put.f (a0 : Int) (a1 : Int) (a2 : Int) (a3 : Int) : Option (Int) := (bits_width.f a1 a2).bind fun t215 => (if t215 = 0 then (some a0) else ((bits_Mask.f t215).bind fun t216 => (if 0 ≤ a1 then (some (Go.bits .or .u64 (Go.bits .andNot .u64 a0 (shl .u64 t216 a1)) (Go.bits .and .u64 (shl .u64 a3 a1) (shl .u64 t216 a1)))) else (none))))
set_option maxHeartbeats 8000000 in
set_option maxRecDepth 100000 in
theorem bits_Put.calls (a0 : Int) (a1 : Int) (a2 : Int) (a3 : Int) (r : Int) (w : World) (h : bits_Put.f a0 a1 a2 a3 = some r) :
    Calls Try.prog 33 #[.int .u64 a0, .int .i64 a1, .int .i64 a2, .int .u64 a3] w fun e w' => e = .returned (.int .u64 r) ∧ Below w.heap.size w w' := by
  have HB := Aside0.mk (Below.refl w.heap.size w)
  have H : ((bits_width.f a1 a2).bind fun t215 => (if t215 = 0 then (some a0) else ((bits_Mask.f t215).bind fun t216 => (if 0 ≤ a1 then (some (Go.bits .or .u64 (Go.bits .andNot .u64 a0 (shl .u64 t216 a1)) (Go.bits .and .u64 (shl .u64 a3 a1) (shl .u64 t216 a1)))) else (none))))) = some r := h
  clear h
  replace H := Option.bind_eq_some_iff.mp H
  obtain ⟨t215, A50, H⟩ := H
  replace H : (if t215 = 0 then (some a0) else ((bits_Mask.f t215).bind fun t216 => (if 0 ≤ a1 then (some (Go.bits .or .u64 (Go.bits .andNot .u64 a0 (shl .u64 t216 a1)) (Go.bits .and .u64 (shl .u64 a3 a1) (shl .u64 t216 a1)))) else (none)))) = some r := H
  have A5 := Aside0.mk A50
  clear A50
  by_cases c6 : t215 = 0
  · rw [if_pos c6] at H
    have c6b0 : (t215 == 0) = true := beq_iff_eq.mpr c6
    have c6b1 : (t215 != 0) = false := bne_eq_false_iff_eq.mpr c6
    clear c6
    obtain rfl := Option.some.inj H
    go_enter Try.func33, Try.ntmps33
    go_wp2_with (first | ((with_reducible refine gate_callee (f := 36) rfl ?_); refine goesL_ (some 12) rfl rfl Try.func36 (by kernel_rfl) rfl #[.int .i64 a1, .int .i64 a2] rfl (by (try simp only [List.map_toArray, List.map_cons, List.map_nil]); first | done | rfl | (simp only [List.length_drop, List.length_take]; rfl)) ?_; (with_reducible refine (bits_width.calls a1 a2 t215 _ A5.out).mono ?_); rintro e w7 ⟨rfl, hb⟩; refine ⟨_, rfl, ?_⟩; have n0_ := Aside0.mk (below_step (by repeat (first | (with_reducible first | exact HB.out | apply below_alloc | apply pw_below_drewN | apply below_drew1) | exact HB.out)) hb); clear HB; have HB := n0_; clear n0_; (try clear hb); (try clear hb2); (try clear hk); (try clear hi)))
    go_ret
    exact ⟨by first | rfl | (simp [errW_none, errW_some] <;> rfl) | (simp [*, errW_none, errW_some] <;> rfl), by repeat (first | (with_reducible first | exact HB.out | apply below_alloc | apply pw_below_drewN | apply below_drew1) | exact HB.out)⟩
  · rw [if_neg c6] at H
    have c6b0 : (t215 == 0) = false := beq_eq_false_iff_ne.mpr c6
    have c6b1 : (t215 != 0) = true := bne_iff_ne.mpr c6
    replace H := Option.bind_eq_some_iff.mp H
    obtain ⟨t216, A80, H⟩ := H
    replace H : (if 0 ≤ a1 then (some (Go.bits .or .u64 (Go.bits .andNot .u64 a0 (shl .u64 t216 a1)) (Go.bits .and .u64 (shl .u64 a3 a1) (shl .u64 t216 a1)))) else (none)) = some r := H
    have A8 := Aside0.mk A80
    clear A80
    by_cases c9 : 0 ≤ a1
    · rw [if_pos c9] at H
      have c9b0 := eq_true c9
      have c9b1 : decide (0 ≤ a1) = true := decide_eq_true c9
      clear c9
      obtain ⟨ji10, hji10⟩ : ∃ j_ : Int, (shl .u64 t216 a1) = j_ := ⟨_, rfl⟩
      replace H : (some (Go.bits .or .u64 (Go.bits .andNot .u64 a0 (ji10)) (Go.bits .and .u64 (shl .u64 a3 a1) (ji10)))) = some r := by first | (rw [hji10] at H; exact H) | (simp only [hji10] at H ⊢; exact H)
      (try rw [hji10] at A5)
      (try rw [hji10] at A8)
      have hji10_ : (IntKind.u64.wrap (t216 * 2 ^ min a1.toNat 64)) = ji10 := hji10
      have hji10z : a1 ≤ 64 → (IntKind.u64.wrap (t216 * 2 ^ a1.toNat)) = ji10 := shl_small hji10
      have c11b0 := eq_true (of_decide_eq_true (by first | (with_reducible assumption) | assumption) : 0 ≤ a1)
      obtain ⟨ji12, hji12⟩ : ∃ j_ : Int, (shl .u64 a3 a1) = j_ := ⟨_, rfl⟩
      replace H : (some (Go.bits .or .u64 (Go.bits .andNot .u64 a0 (ji10)) (Go.bits .and .u64 (ji12) (ji10)))) = some r := by first | (rw [hji12] at H; exact H) | (simp only [hji12] at H ⊢; exact H)
      (try rw [hji12] at A5)
      (try rw [hji12] at A8)
      have hji12_ : (IntKind.u64.wrap (a3 * 2 ^ min a1.toNat 64)) = ji12 := hji12
      have hji12z : a1 ≤ 64 → (IntKind.u64.wrap (a3 * 2 ^ a1.toNat)) = ji12 := shl_small hji12
      obtain rfl := Option.some.inj H
      go_enter Try.func33, Try.ntmps33
      go_wp2_with (first | ((with_reducible refine gate_callee (f := 36) rfl ?_); refine goesL_ (some 12) rfl rfl Try.func36 (by kernel_rfl) rfl #[.int .i64 a1, .int .i64 a2] rfl (by (try simp only [List.map_toArray, List.map_cons, List.map_nil]); first | done | rfl | (simp only [List.length_drop, List.length_take]; rfl)) ?_; (with_reducible refine (bits_width.calls a1 a2 t215 _ A5.out).mono ?_); rintro e w13 ⟨rfl, hb⟩; refine ⟨_, rfl, ?_⟩; have n0_ := Aside0.mk (below_step (by repeat (first | (with_reducible first | exact HB.out | apply below_alloc | apply pw_below_drewN | apply below_drew1) | exact HB.out)) hb); clear HB; have HB := n0_; clear n0_; (try clear hb); (try clear hb2); (try clear hk); (try clear hi)) | ((with_reducible refine gate_callee (f := 37) rfl ?_); refine goesL_ (some 17) rfl rfl Try.func37 (by kernel_rfl) rfl #[.int .i64 t215] rfl (by (try simp only [List.map_toArray, List.map_cons, List.map_nil]); first | done | rfl | (simp only [List.length_drop, List.length_take]; rfl)) ?_; (with_reducible refine (bits_Mask.calls t215 t216 _ A8.out).mono ?_); rintro e w' ⟨rfl, ⟨nd, rfl⟩⟩; refine ⟨_, rfl, ?_⟩))
      go_ret
      exact ⟨by first | rfl | (simp [errW_none, errW_some] <;> rfl) | (simp only [← hji10, ← hji12]; first | rfl | (simp [errW_none, errW_some] <;> rfl)) | (simp [*, errW_none, errW_some] <;> rfl), by repeat (first | (with_reducible first | exact HB.out | apply below_alloc | apply pw_below_drewN | apply below_drew1) | exact HB.out)⟩
    · rw [if_neg c9] at H
      exact absurd H (by simp)

/-! ### pte_Pa: function 26 -/
def pte_Pa.f (a0 : Int) (a1 : Int) (a2 : Int) : Option (Int) := (pte_held.f a1).bind fun t217 => ((pte_Page.f a0).bind fun t218 => ((bits_Put.f (IntKind.u64.wrap (t218 * 4096)) 0 (wrap64 (12 + (wrap64 (9 * t217)))) a2).bind fun t219 => (some t219)))
set_option maxHeartbeats 8000000 in
set_option maxRecDepth 100000 in
theorem pte_Pa.calls (a0 : Int) (a1 : Int) (a2 : Int) (r : Int) (w : World) (h : pte_Pa.f a0 a1 a2 = some r) :
    Calls Try.prog 26 #[.int .u64 a0, .int .i64 a1, .int .u64 a2] w fun e w' => e = .returned (.int .u64 r) ∧ Below w.heap.size w w' := by
  have HB := Aside0.mk (Below.refl w.heap.size w)
  have H : ((pte_held.f a1).bind fun t217 => ((pte_Page.f a0).bind fun t218 => ((bits_Put.f (IntKind.u64.wrap (t218 * 4096)) 0 (wrap64 (12 + (wrap64 (9 * t217)))) a2).bind fun t219 => (some t219)))) = some r := h
  clear h
  replace H := Option.bind_eq_some_iff.mp H
  obtain ⟨t217, A40, H⟩ := H
  replace H : ((pte_Page.f a0).bind fun t218 => ((bits_Put.f (IntKind.u64.wrap (t218 * 4096)) 0 (wrap64 (12 + (wrap64 (9 * t217)))) a2).bind fun t219 => (some t219))) = some r := H
  have A4 := Aside0.mk A40
  clear A40
  replace H := Option.bind_eq_some_iff.mp H
  obtain ⟨t218, A50, H⟩ := H
  replace H : ((bits_Put.f (IntKind.u64.wrap (t218 * 4096)) 0 (wrap64 (12 + (wrap64 (9 * t217)))) a2).bind fun t219 => (some t219)) = some r := H
  have A5 := Aside0.mk A50
  clear A50
  replace H := Option.bind_eq_some_iff.mp H
  obtain ⟨t219, A60, H⟩ := H
  replace H : (some t219) = some r := H
  have A6 := Aside0.mk A60
  clear A60
  obtain rfl := Option.some.inj H
  go_enter Try.func26, Try.ntmps26
  go_wp2_with (first | ((with_reducible refine gate_callee (f := 30) rfl ?_); refine goesL_ (some 9) rfl rfl Try.func30 (by kernel_rfl) rfl #[.int .i64 a1] rfl (by (try simp only [List.map_toArray, List.map_cons, List.map_nil]); first | done | rfl | (simp only [List.length_drop, List.length_take]; rfl)) ?_; (with_reducible refine (pte_held.calls a1 t217 _ A4.out).mono ?_); rintro e w7 ⟨rfl, hb⟩; refine ⟨_, rfl, ?_⟩; have n0_ := Aside0.mk (below_step (by repeat (first | (with_reducible first | exact HB.out | apply below_alloc | apply pw_below_drewN | apply below_drew1) | exact HB.out)) hb); clear HB; have HB := n0_; clear n0_; (try clear hb); (try clear hb2); (try clear hk); (try clear hi)) | ((with_reducible refine gate_callee (f := 14) rfl ?_); refine goesL_ (some 13) rfl rfl Try.func14 (by kernel_rfl) rfl #[.int .u64 a0] rfl (by (try simp only [List.map_toArray, List.map_cons, List.map_nil]); first | done | rfl | (simp only [List.length_drop, List.length_take]; rfl)) ?_; (with_reducible refine (pte_Page.calls a0 t218 _ A5.out).mono ?_); rintro e w8 ⟨rfl, hb⟩; refine ⟨_, rfl, ?_⟩; have n0_ := Aside0.mk (below_step (by repeat (first | (with_reducible first | exact HB.out | apply below_alloc | apply pw_below_drewN | apply below_drew1) | exact HB.out)) hb); clear HB; have HB := n0_; clear n0_; (try clear hb); (try clear hb2); (try clear hk); (try clear hi)) | ((with_reducible refine gate_callee (f := 33) rfl ?_); refine goesL_ (some 17) rfl rfl Try.func33 (by kernel_rfl) rfl #[.int .u64 (IntKind.u64.wrap (t218 * 4096)), .int .i64 0, .int .i64 (wrap64 (12 + (wrap64 (9 * t217)))), .int .u64 a2] rfl (by (try simp only [List.map_toArray, List.map_cons, List.map_nil]); first | done | rfl | (simp only [List.length_drop, List.length_take]; rfl)) ?_; (with_reducible refine (bits_Put.calls (IntKind.u64.wrap (t218 * 4096)) 0 (wrap64 (12 + (wrap64 (9 * t217)))) a2 t219 _ A6.out).mono ?_); rintro e w9 ⟨rfl, hb⟩; refine ⟨_, rfl, ?_⟩; have n0_ := Aside0.mk (below_step (by repeat (first | (with_reducible first | exact HB.out | apply below_alloc | apply pw_below_drewN | apply below_drew1) | exact HB.out)) hb); clear HB; have HB := n0_; clear n0_; (try clear hb); (try clear hb2); (try clear hk); (try clear hi)))
  go_ret
  exact ⟨by first | rfl | (simp [errW_none, errW_some] <;> rfl) | (simp [*, errW_none, errW_some] <;> rfl), by repeat (first | (with_reducible first | exact HB.out | apply below_alloc | apply pw_below_drewN | apply below_drew1) | exact HB.out)⟩

end Go.Proofs.YteebgfcihoidmaaR.Q
