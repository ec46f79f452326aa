/- Where the Lean function of a Go function gives a value, the Go call returns that value and changes nothing that was there: for every input. (By a program of this session, and by hand.) -/
import Derived.Test.YtbfdehkejohjhaaQx0
import Derived.Test.YtbfdehkejohjhaaQx6
import Derived.Test.YtbfdehkejohjhaaQx7
import Derived.Test.YtbfdehkejohjhaaQx8
import Derived.Test.YtbfdehkejohjhaaQx9
namespace Go.Proofs.Ytbfdehkejohjhaa.Q
open Go.RowKit Go.Proofs.YtbfdehkejohjhaaW.PrintWords Go.Proofs.YtbfdehkejohjhaaW.PrintLast Go.Proofs.YtbfdehkejohjhaaW.PrintMore
attribute [local go_sem] max2_int min2_int max_two min_two max_three min_three max_four min_four   -- for this text's walks alone
set_option linter.unusedVariables false
set_option linter.unusedSimpArgs false

/-! ### mezzanineref21_Value: function 10 -/
def mezzanineref21_Value.j0 : Nat → Int → Int → Int → Int → Int → Int → Bool → Option (Int × Bool)
  | 0, _, _, _, _, _, _, _ => none
  | k + 1, x1, x2, x3, x10, x11, x18, x27 => if x27 = true then (some (IntKind.u64.wrap (x3 + 4), true)) else (if x18 = 22 then (some (IntKind.u64.wrap (x1 + x10), true)) else (if x18 = 23 then ((mezzanineref21_Less.f x1 x10).bind fun t183 => ((mezzanineref21_one.f t183).bind fun t184 => (some (t184, true)))) else (if x18 = 24 then ((mezzanineref21_one.f (decide (x1 < x10))).bind fun t185 => (some (t185, true))) else (if x18 = 25 then (some (Go.bits .xor .u64 x1 x10, true)) else (if x18 = 26 then (some (Go.bits .or .u64 x1 x10, true)) else (if x18 = 27 then (some (Go.bits .and .u64 x1 x10, true)) else (if x18 = 28 then ((mezzanineref21_Left.f k x1 (wrap64 (Int.tmod x10 64))).bind fun t186 => (some (t186, true))) else (if x18 = 29 then ((mezzanineref21_Right.f k x1 (wrap64 (Int.tmod x10 64))).bind fun t187 => (some (t187, true))) else (if x18 = 30 then ((mezzanineref21_Signed.f k x1 (wrap64 (Int.tmod x10 64))).bind fun t188 => (some (t188, true))) else (if x18 = 31 then ((mezzanineref21_Low.f (IntKind.u64.wrap (x1 + x10))).bind fun t189 => (some (t189, true))) else (if x18 = 32 then ((mezzanineref21_Left.f k x11 (wrap64 (Int.tmod x10 32))).bind fun t190 => ((mezzanineref21_Low.f t190).bind fun t191 => (some (t191, true)))) else (if x18 = 33 then ((mezzanineref21_Right.f k x11 (wrap64 (Int.tmod x10 32))).bind fun t192 => ((mezzanineref21_Low.f t192).bind fun t193 => (some (t193, true)))) else (if x18 = 34 then ((mezzanineref21_Low.f x11).bind fun t194 => ((mezzanineref21_Signed.f k t194 (wrap64 (Int.tmod x10 32))).bind fun t195 => ((mezzanineref21_Low.f t195).bind fun t196 => (some (t196, true))))) else (if x18 = 35 then (some (IntKind.u64.wrap (x1 + x2), true)) else (if x18 = 36 then (some (IntKind.u64.wrap (x1 - x2), true)) else (if x18 = 37 then ((mezzanineref21_Left.f k x1 (wrap64 (Int.tmod x2 64))).bind fun t197 => (some (t197, true))) else (if x18 = 38 then ((mezzanineref21_Less.f x1 x2).bind fun t198 => ((mezzanineref21_one.f t198).bind fun t199 => (some (t199, true)))) else (if x18 = 39 then ((mezzanineref21_one.f (decide (x1 < x2))).bind fun t200 => (some (t200, true))) else (if x18 = 40 then (some (Go.bits .xor .u64 x1 x2, true)) else (if x18 = 41 then ((mezzanineref21_Right.f k x1 (wrap64 (Int.tmod x2 64))).bind fun t201 => (some (t201, true))) else (if x18 = 42 then ((mezzanineref21_Signed.f k x1 (wrap64 (Int.tmod x2 64))).bind fun t202 => (some (t202, true))) else (if x18 = 43 then (some (Go.bits .or .u64 x1 x2, true)) else (if x18 = 44 then (some (Go.bits .and .u64 x1 x2, true)) else (if x18 = 45 then ((mezzanineref21_Low.f (IntKind.u64.wrap (x1 + x2))).bind fun t203 => (some (t203, true))) else (if x18 = 46 then ((mezzanineref21_Low.f (IntKind.u64.wrap (x1 - x2))).bind fun t204 => (some (t204, true))) else (if x18 = 47 then ((mezzanineref21_Left.f k x11 (wrap64 (Int.tmod x2 32))).bind fun t205 => ((mezzanineref21_Low.f t205).bind fun t206 => (some (t206, true)))) else (if x18 = 48 then ((mezzanineref21_Right.f k x11 (wrap64 (Int.tmod x2 32))).bind fun t207 => ((mezzanineref21_Low.f t207).bind fun t208 => (some (t208, true)))) else (if x18 = 49 then ((mezzanineref21_Low.f x11).bind fun t209 => ((mezzanineref21_Signed.f k t209 (wrap64 (Int.tmod x2 32))).bind fun t210 => ((mezzanineref21_Low.f t210).bind fun t211 => (some (t211, true))))) else (if x18 = 50 then ((mezzanineref02_Mul.f x1 x2).bind fun t212 => (some (t212, true))) else (if x18 = 51 then ((mezzanineref02_Mulh.f k x1 x2).bind fun t213 => (some (t213, true))) else (if x18 = 52 then ((mezzanineref02_Mulhsu.f k x1 x2).bind fun t214 => (some (t214, true))) else (if x18 = 53 then ((mezzanineref02_Mulhu.f k x1 x2).bind fun t215 => (some (t215, true))) else (if x18 = 54 then ((mezzanineref02_Div.f x1 x2).bind fun t216 => (some (t216, true))) else (if x18 = 55 then ((mezzanineref02_Divu.f x1 x2).bind fun t217 => (some (t217, true))) else (if x18 = 56 then ((mezzanineref02_Rem.f x1 x2).bind fun t218 => (some (t218, true))) else (if x18 = 57 then ((mezzanineref02_Remu.f x1 x2).bind fun t219 => (some (t219, true))) else (if x18 = 58 then ((mezzanineref02_Mulw.f x1 x2).bind fun t220 => (some (t220, true))) else (if x18 = 59 then ((mezzanineref02_Divw.f x1 x2).bind fun t221 => (some (t221, true))) else (if x18 = 60 then ((mezzanineref02_Divuw.f x1 x2).bind fun t222 => (some (t222, true))) else (if x18 = 61 then ((mezzanineref02_Remw.f x1 x2).bind fun t223 => (some (t223, true))) else (if x18 = 62 then ((mezzanineref02_Remuw.f x1 x2).bind fun t224 => (some (t224, true))) else (some (0, false)))))))))))))))))))))))))))))))))))))))))))
def mezzanineref21_Value.f (k : Nat) (a0_0 : Int) (a0_1 : Int) (a0_2 : Int) (a0_3 : Int) (a0_4 : Int) (a0_5 : Int) (a0_6 : Bool) (a0_7 : Bool) (a1 : Int) (a2 : Int) (a3 : Int) : Option (Int × Bool) := if a0_0 = 1 then (some (IntKind.u64.wrap (a0_4), true)) else (if a0_0 = 2 then (some (IntKind.u64.wrap (a3 + (IntKind.u64.wrap (a0_4))), true)) else (if a0_0 = 3 then (mezzanineref21_Value.j0 k a1 a2 a3 (IntKind.u64.wrap (a0_4)) (Int.tmod a1 4294967296) a0_0 (a0_0 == 3)) else (mezzanineref21_Value.j0 k a1 a2 a3 (IntKind.u64.wrap (a0_4)) (Int.tmod a1 4294967296) a0_0 (a0_0 == 4))))
theorem mezzanineref21_Value.mono_l : ∀ k, (∀ y0 y1 y2 y3 y4 y5 y6, LeO (mezzanineref21_Value.j0 k y0 y1 y2 y3 y4 y5 y6) (mezzanineref21_Value.j0 (k + 1) y0 y1 y2 y3 y4 y5 y6))
  | 0 => fun _ _ _ _ _ _ _ r h => by simp [mezzanineref21_Value.j0] at h
  | k + 1 => by
    have ih0 := mezzanineref21_Value.mono_l k
    · intro y0 y1 y2 y3 y4 y5 y6
      unfold mezzanineref21_Value.j0
      repeat' first
      | (with_reducible exact ih0 _ _ _ _ _ _ _)
      | (with_reducible exact mezzanineref02_Mulh.mono _ _ _)
      | (with_reducible exact mezzanineref02_Mulhsu.mono _ _ _)
      | (with_reducible exact mezzanineref02_Mulhu.mono _ _ _)
      | (with_reducible exact mezzanineref21_Left.mono _ _ _)
      | (with_reducible exact mezzanineref21_Right.mono _ _ _)
      | (with_reducible exact mezzanineref21_Signed.mono _ _ _)
      | (with_reducible exact LeO.refl _)
      | (with_reducible exact LeO.none _)
      | (with_reducible refine LeO.ite ?_ ?_)
      | (with_reducible refine LeO.bind ?_ (fun _ => ?_))
      | exact ih0 _ _ _ _ _ _ _
      | exact mezzanineref02_Mulh.mono _ _ _
      | exact mezzanineref02_Mulhsu.mono _ _ _
      | exact mezzanineref02_Mulhu.mono _ _ _
      | exact mezzanineref21_Left.mono _ _ _
      | exact mezzanineref21_Right.mono _ _ _
      | exact mezzanineref21_Signed.mono _ _ _
      | exact LeO.none _
      | refine LeO.ite ?_ ?_
      | refine LeO.bind ?_ (fun _ => ?_)
theorem mezzanineref21_Value.mono : ∀ a0 a1 a2 a3 a4 a5 a6 a7 a8 a9 a10 k, LeO (mezzanineref21_Value.f k a0 a1 a2 a3 a4 a5 a6 a7 a8 a9 a10) (mezzanineref21_Value.f (k + 1) a0 a1 a2 a3 a4 a5 a6 a7 a8 a9 a10) := by
  intro a0 a1 a2 a3 a4 a5 a6 a7 a8 a9 a10 k
  have ih0 := mezzanineref21_Value.mono_l k
  unfold mezzanineref21_Value.f
  repeat' first
      | (with_reducible exact ih0 _ _ _ _ _ _ _)
      | (with_reducible exact mezzanineref02_Mulh.mono _ _ _)
      | (with_reducible exact mezzanineref02_Mulhsu.mono _ _ _)
      | (with_reducible exact mezzanineref02_Mulhu.mono _ _ _)
      | (with_reducible exact mezzanineref21_Left.mono _ _ _)
      | (with_reducible exact mezzanineref21_Right.mono _ _ _)
      | (with_reducible exact mezzanineref21_Signed.mono _ _ _)
      | (with_reducible exact LeO.refl _)
      | (with_reducible exact LeO.none _)
      | (with_reducible refine LeO.ite ?_ ?_)
      | (with_reducible refine LeO.bind ?_ (fun _ => ?_))
      | exact ih0 _ _ _ _ _ _ _
      | exact mezzanineref02_Mulh.mono _ _ _
      | exact mezzanineref02_Mulhsu.mono _ _ _
      | exact mezzanineref02_Mulhu.mono _ _ _
      | exact mezzanineref21_Left.mono _ _ _
      | exact mezzanineref21_Right.mono _ _ _
      | exact mezzanineref21_Signed.mono _ _ _
      | exact LeO.none _
      | refine LeO.ite ?_ ?_
      | refine LeO.bind ?_ (fun _ => ?_)
set_option maxHeartbeats 8000000 in
set_option maxRecDepth 100000 in
theorem mezzanineref21_Value.calls (k : Nat) (a0_0 : Int) (a0_1 : Int) (a0_2 : Int) (a0_3 : Int) (a0_4 : Int) (a0_5 : Int) (a0_6 : Bool) (a0_7 : Bool) (a1 : Int) (a2 : Int) (a3 : Int) (r1 : Int) (r2 : Bool) (w : World) (h : mezzanineref21_Value.f k a0_0 a0_1 a0_2 a0_3 a0_4 a0_5 a0_6 a0_7 a1 a2 a3 = some (r1, r2)) :
    Calls Try.prog 10 #[.agg #[.int .i64 a0_0, .int .i64 a0_1, .int .i64 a0_2, .int .i64 a0_3, .int .i64 a0_4, .int .i64 a0_5, .bool a0_6, .bool a0_7], .int .u64 a1, .int .u64 a2, .int .u64 a3] w fun e w' => e = .returned (.tuple #[.int .u64 r1, .bool r2]) ∧ Below w.heap.size w w' := by
  have hu23 := Try.underlying23
  have HB := Aside0.mk (Below.refl w.heap.size w)
  have H : (if a0_0 = 1 then (some (IntKind.u64.wrap (a0_4), true)) else (if a0_0 = 2 then (some (IntKind.u64.wrap (a3 + (IntKind.u64.wrap (a0_4))), true)) else (if a0_0 = 3 then (mezzanineref21_Value.j0 k a1 a2 a3 (IntKind.u64.wrap (a0_4)) (Int.tmod a1 4294967296) a0_0 (a0_0 == 3)) else (mezzanineref21_Value.j0 k a1 a2 a3 (IntKind.u64.wrap (a0_4)) (Int.tmod a1 4294967296) a0_0 (a0_0 == 4))))) = some (r1, r2) := h
  clear h
  by_cases c5 : a0_0 = 1
  · rw [if_pos c5] at H
    have c5b0 : (a0_0 == 1) = true := beq_iff_eq.mpr c5
    have c5b1 : (a0_0 != 1) = false := bne_eq_false_iff_eq.mpr c5
    clear c5
    simp only [Option.some.injEq, Prod.mk.injEq] at H
    obtain ⟨rfl, rfl⟩ := H
    go_enter Try.func10, Try.ntmps10
    go_wp2_with (first | ((with_reducible refine gate_dst (N := 4) rfl ?_); refine box_event ?hg (N := 4) ?hd (cs := #[.int .i64 a0_0, .int .i64 a0_1, .int .i64 a0_2, .int .i64 a0_3, .int .i64 a0_4, .int .i64 a0_5, .bool a0_6, .bool a0_7]) (t := 23) ?hr ?_; (case hd => rfl); (case hg => rfl); (case hr => first | (go_simp; done) | (go_simp; rfl)); intro gb182 hg w6 hbox hb; have n0_ := Aside0.mk (below_step (by repeat (first | (with_reducible first | exact HB.out | apply below_alloc | apply pw_below_drewN | apply below_drew1) | exact HB.out)) hb); have n1_ := Aside0.mk (hbox); have n2_ := Aside0.mk ((by rw [hg]; exact (below_size (by repeat (first | (with_reducible first | exact HB.out | apply below_alloc | apply pw_below_drewN | apply below_drew1) | exact HB.out))) : w.heap.size ≤ gb182)); have n3_ := Aside0.mk ((by rw [hg]; exact (below_size (by repeat (first | (with_reducible first | exact HB.out | apply below_alloc | apply pw_below_drewN | apply below_drew1) | exact HB.out))) : w.heap.size ≤ gb182)); clear HB; have HB := n0_; have BK182 := n1_; have GW182 := n2_; have GE182 := n3_; clear n0_ n1_ n2_ n3_; clear hb hbox hg; have hcz7_0 : w6.cell? ⟨gb182, 0, none⟩ = some (.int .i64 a0_0) := (blk_cell BK182.out 0).trans rfl; have hcz7_1 : w6.cell? ⟨gb182, 1, none⟩ = some (.int .i64 a0_1) := (blk_cell BK182.out 1).trans rfl; have hcz7_2 : w6.cell? ⟨gb182, 2, none⟩ = some (.int .i64 a0_2) := (blk_cell BK182.out 2).trans rfl; have hcz7_3 : w6.cell? ⟨gb182, 3, none⟩ = some (.int .i64 a0_3) := (blk_cell BK182.out 3).trans rfl; have hcz7_4 : w6.cell? ⟨gb182, 4, none⟩ = some (.int .i64 a0_4) := (blk_cell BK182.out 4).trans rfl; have hcz7_5 : w6.cell? ⟨gb182, 5, none⟩ = some (.int .i64 a0_5) := (blk_cell BK182.out 5).trans rfl; have hcz7_6 : w6.cell? ⟨gb182, 6, none⟩ = some (.bool a0_6) := (blk_cell BK182.out 6).trans rfl; have hcz7_7 : w6.cell? ⟨gb182, 7, none⟩ = some (.bool a0_7) := (blk_cell BK182.out 7).trans rfl; have hfz7_0 := blk_frozen BK182.out 0; have hfz7_1 := blk_frozen BK182.out 1; have hfz7_2 := blk_frozen BK182.out 2; have hfz7_3 := blk_frozen BK182.out 3; have hfz7_4 := blk_frozen BK182.out 4; have hfz7_5 := blk_frozen BK182.out 5; have hfz7_6 := blk_frozen BK182.out 6; have hfz7_7 := blk_frozen BK182.out 7))
    go_ret2
    exact ⟨by first | rfl | (simp [errW_none, errW_some] <;> rfl) | (simp [*, errW_none, errW_some] <;> rfl), by repeat (first | (with_reducible first | exact HB.out | apply below_alloc | apply pw_below_drewN | apply below_drew1 | refine below_set ?_ GE182.out) | exact HB.out)⟩
  · rw [if_neg c5] at H
    have c5b0 : (a0_0 == 1) = false := beq_eq_false_iff_ne.mpr c5
    have c5b1 : (a0_0 != 1) = true := bne_iff_ne.mpr c5
    by_cases c8 : a0_0 = 2
    · rw [if_pos c8] at H
      have c8b0 : (a0_0 == 2) = true := beq_iff_eq.mpr c8
      have c8b1 : (a0_0 != 2) = false := bne_eq_false_iff_eq.mpr c8
      clear c8
      simp only [Option.some.injEq, Prod.mk.injEq] at H
      obtain ⟨rfl, rfl⟩ := H
      go_enter Try.func10, Try.ntmps10
      go_wp2_with (first | ((with_reducible refine gate_dst (N := 4) rfl ?_); refine box_event ?hg (N := 4) ?hd (cs := #[.int .i64 a0_0, .int .i64 a0_1, .int .i64 a0_2, .int .i64 a0_3, .int .i64 a0_4, .int .i64 a0_5, .bool a0_6, .bool a0_7]) (t := 23) ?hr ?_; (case hd => rfl); (case hg => rfl); (case hr => first | (go_simp; done) | (go_simp; rfl)); intro gb182 hg w9 hbox hb; have n0_ := Aside0.mk (below_step (by repeat (first | (with_reducible first | exact HB.out | apply below_alloc | apply pw_below_drewN | apply below_drew1) | exact HB.out)) hb); have n1_ := Aside0.mk (hbox); have n2_ := Aside0.mk ((by rw [hg]; exact (below_size (by repeat (first | (with_reducible first | exact HB.out | apply below_alloc | apply pw_below_drewN | apply below_drew1) | exact HB.out))) : w.heap.size ≤ gb182)); have n3_ := Aside0.mk ((by rw [hg]; exact (below_size (by repeat (first | (with_reducible first | exact HB.out | apply below_alloc | apply pw_below_drewN | apply below_drew1) | exact HB.out))) : w.heap.size ≤ gb182)); clear HB; have HB := n0_; have BK182 := n1_; have GW182 := n2_; have GE182 := n3_; clear n0_ n1_ n2_ n3_; clear hb hbox hg; have hcz10_0 : w9.cell? ⟨gb182, 0, none⟩ = some (.int .i64 a0_0) := (blk_cell BK182.out 0).trans rfl; have hcz10_1 : w9.cell? ⟨gb182, 1, none⟩ = some (.int .i64 a0_1) := (blk_cell BK182.out 1).trans rfl; have hcz10_2 : w9.cell? ⟨gb182, 2, none⟩ = some (.int .i64 a0_2) := (blk_cell BK182.out 2).trans rfl; have hcz10_3 : w9.cell? ⟨gb182, 3, none⟩ = some (.int .i64 a0_3) := (blk_cell BK182.out 3).trans rfl; have hcz10_4 : w9.cell? ⟨gb182, 4, none⟩ = some (.int .i64 a0_4) := (blk_cell BK182.out 4).trans rfl; have hcz10_5 : w9.cell? ⟨gb182, 5, none⟩ = some (.int .i64 a0_5) := (blk_cell BK182.out 5).trans rfl; have hcz10_6 : w9.cell? ⟨gb182, 6, none⟩ = some (.bool a0_6) := (blk_cell BK182.out 6).trans rfl; have hcz10_7 : w9.cell? ⟨gb182, 7, none⟩ = some (.bool a0_7) := (blk_cell BK182.out 7).trans rfl; have hfz10_0 := blk_frozen BK182.out 0; have hfz10_1 := blk_frozen BK182.out 1; have hfz10_2 := blk_frozen BK182.out 2; have hfz10_3 := blk_frozen BK182.out 3; have hfz10_4 := blk_frozen BK182.out 4; have hfz10_5 := blk_frozen BK182.out 5; have hfz10_6 := blk_frozen BK182.out 6; have hfz10_7 := blk_frozen BK182.out 7))
      go_ret2
      exact ⟨by first | rfl | (simp [errW_none, errW_some] <;> rfl) | (simp [*, errW_none, errW_some] <;> rfl), by repeat (first | (with_reducible first | exact HB.out | apply below_alloc | apply pw_below_drewN | apply below_drew1 | refine below_set ?_ GE182.out) | exact HB.out)⟩
    · rw [if_neg c8] at H
      have c8b0 : (a0_0 == 2) = false := beq_eq_false_iff_ne.mpr c8
      have c8b1 : (a0_0 != 2) = true := bne_iff_ne.mpr c8
      have HC11 := Aside0.mk H
      clear H
      go_enter Try.func10, Try.ntmps10
      go_upto_if 27 with (first | ((with_reducible refine gate_dst (N := 4) rfl ?_); refine box_event ?hg (N := 4) ?hd (cs := #[.int .i64 a0_0, .int .i64 a0_1, .int .i64 a0_2, .int .i64 a0_3, .int .i64 a0_4, .int .i64 a0_5, .bool a0_6, .bool a0_7]) (t := 23) ?hr ?_; (case hd => rfl); (case hg => rfl); (case hr => first | (go_simp; done) | (go_simp; rfl)); intro gb182 hg w12 hbox hb; have n0_ := Aside0.mk (below_step (by repeat (first | (with_reducible first | exact HB.out | apply below_alloc | apply pw_below_drewN | apply below_drew1) | exact HB.out)) hb); have n1_ := Aside0.mk (hbox); have n2_ := Aside0.mk ((by rw [hg]; exact (below_size (by repeat (first | (with_reducible first | exact HB.out | apply below_alloc | apply pw_below_drewN | apply below_drew1) | exact HB.out))) : w.heap.size ≤ gb182)); have n3_ := Aside0.mk ((by rw [hg]; exact (below_size (by repeat (first | (with_reducible first | exact HB.out | apply below_alloc | apply pw_below_drewN | apply below_drew1) | exact HB.out))) : w.heap.size ≤ gb182)); clear HB; have HB := n0_; have BK182 := n1_; have GW182 := n2_; have GE182 := n3_; clear n0_ n1_ n2_ n3_; clear hb hbox hg; have hcz13_0 : w12.cell? ⟨gb182, 0, none⟩ = some (.int .i64 a0_0) := (blk_cell BK182.out 0).trans rfl; have hcz13_1 : w12.cell? ⟨gb182, 1, none⟩ = some (.int .i64 a0_1) := (blk_cell BK182.out 1).trans rfl; have hcz13_2 : w12.cell? ⟨gb182, 2, none⟩ = some (.int .i64 a0_2) := (blk_cell BK182.out 2).trans rfl; have hcz13_3 : w12.cell? ⟨gb182, 3, none⟩ = some (.int .i64 a0_3) := (blk_cell BK182.out 3).trans rfl; have hcz13_4 : w12.cell? ⟨gb182, 4, none⟩ = some (.int .i64 a0_4) := (blk_cell BK182.out 4).trans rfl; have hcz13_5 : w12.cell? ⟨gb182, 5, none⟩ = some (.int .i64 a0_5) := (blk_cell BK182.out 5).trans rfl; have hcz13_6 : w12.cell? ⟨gb182, 6, none⟩ = some (.bool a0_6) := (blk_cell BK182.out 6).trans rfl; have hcz13_7 : w12.cell? ⟨gb182, 7, none⟩ = some (.bool a0_7) := (blk_cell BK182.out 7).trans rfl; have hfz13_0 := blk_frozen BK182.out 0; have hfz13_1 := blk_frozen BK182.out 1; have hfz13_2 := blk_frozen BK182.out 2; have hfz13_3 := blk_frozen BK182.out 3; have hfz13_4 := blk_frozen BK182.out 4; have hfz13_5 := blk_frozen BK182.out 5; have hfz13_6 := blk_frozen BK182.out 6; have hfz13_7 := blk_frozen BK182.out 7))
      (try simp only [Act.put, List.setIfInBounds_toArray, List.set_cons_zero, List.set_cons_succ])
      go_cut [27] (fun v27 wc => ∃ (kq : Nat) (x27_10 : Bool), v27 = .bool x27_10 ∧ Aside0 (mezzanineref21_Value.j0 kq a1 a2 a3 (IntKind.u64.wrap (a0_4)) (Int.tmod a1 4294967296) a0_0 x27_10 = some (r1, r2)) ∧ Aside0 (kq ≤ k) ∧ Aside0 (wc.heap[gb182]? = some (.cells #[.int .i64 a0_0, .int .i64 a0_1, .int .i64 a0_2, .int .i64 a0_3, .int .i64 a0_4, .int .i64 a0_5, .bool a0_6, .bool a0_7] 23 (0, 0))) ∧ Aside0 (Below w.heap.size w wc))
      case first =>
        have H := HC11.out
        clear HC11
        by_cases c14 : a0_0 = 3
        · rw [if_pos c14] at H
          have c14b0 : (a0_0 == 3) = true := beq_iff_eq.mpr c14
          have c14b1 : (a0_0 != 3) = false := bne_eq_false_iff_eq.mpr c14
          clear c14
          (first | rw [c14b0] | (simp only [i64_w, i32_w]; rw [c14b0]) | skip)
          have H' := Aside0.mk H
          clear H
          go_wp2
          go_meet
          case rel => exact ⟨_, ((a0_0 == 3)), (by first | rfl | (simp; done) | (simp [*]; done)), H', ⟨by first | omega | exact Nat.le_refl _⟩, ⟨by (with_reducible repeat (first | refine blk_drewN ?_ _ | refine blk_drew ?_ | refine blk_alloc ?_ _)); exact BK182.out⟩, ⟨by repeat (first | (with_reducible first | exact HB.out | apply below_alloc | apply pw_below_drewN | apply below_drew1 | refine below_set ?_ GE182.out) | exact HB.out)⟩⟩
        · rw [if_neg c14] at H
          have c14b0 : (a0_0 == 3) = false := beq_eq_false_iff_ne.mpr c14
          have c14b1 : (a0_0 != 3) = true := bne_iff_ne.mpr c14
          (first | rw [c14b0] | (simp only [i64_w, i32_w]; rw [c14b0]) | skip)
          have H' := Aside0.mk H
          clear H
          go_wp2
          go_meet
          case rel => exact ⟨_, ((a0_0 == 4)), (by first | rfl | (simp; done) | (simp [*]; done)), H', ⟨by first | omega | exact Nat.le_refl _⟩, ⟨by (with_reducible repeat (first | refine blk_drewN ?_ _ | refine blk_drew ?_ | refine blk_alloc ?_ _)); exact BK182.out⟩, ⟨by repeat (first | (with_reducible first | exact HB.out | apply below_alloc | apply pw_below_drewN | apply below_drew1 | refine below_set ?_ GE182.out) | exact HB.out)⟩⟩
      case rest =>
        clear HC11
        try clear c1
        try clear p2
        try clear c5
        try clear c5b0
        try clear c5b1
        try clear c8
        try clear c8b0
        try clear c8b1
        try clear c10
        try clear c14
        try clear c14b0
        try clear c14b1
        try clear hcz10_0
        try clear hcz10_1
        try clear hcz10_2
        try clear hcz10_3
        try clear hcz10_4
        try clear hcz10_5
        try clear hcz10_6
        try clear hcz10_7
        try clear hcz13_0
        try clear hcz13_1
        try clear hcz13_2
        try clear hcz13_3
        try clear hcz13_4
        try clear hcz13_5
        try clear hcz13_6
        try clear hcz13_7
        try clear hcz7_0
        try clear hcz7_1
        try clear hcz7_2
        try clear hcz7_3
        try clear hcz7_4
        try clear hcz7_5
        try clear hcz7_6
        try clear hcz7_7
        try clear hfz10_0
        try clear hfz10_1
        try clear hfz10_2
        try clear hfz10_3
        try clear hfz10_4
        try clear hfz10_5
        try clear hfz10_6
        try clear hfz10_7
        try clear hfz13_0
        try clear hfz13_1
        try clear hfz13_2
        try clear hfz13_3
        try clear hfz13_4
        try clear hfz13_5
        try clear hfz13_6
        try clear hfz13_7
        try clear hfz7_0
        try clear hfz7_1
        try clear hfz7_2
        try clear hfz7_3
        try clear hfz7_4
        try clear hfz7_5
        try clear hfz7_6
        try clear hfz7_7
        obtain ⟨kq, x27_10, rfl, HA, HJ10, BK182, HB⟩ := hcut
        cases kq with
        | zero => exact absurd HA.out (by simp [mezzanineref21_Value.j0])
        | succ kj10 =>
          have H := HA.out
          clear HA
          simp only [mezzanineref21_Value.j0] at H
          by_cases c15 : x27_10 = true
          · subst c15
            have H1 : (some (IntKind.u64.wrap (a3 + 4), true)) = some (r1, r2) := by rw [if_pos rfl] at H; exact H
            clear H
            have H := H1
            clear H1
            simp only [Option.some.injEq, Prod.mk.injEq] at H
            obtain ⟨rfl, rfl⟩ := H
            go_wp2
            go_ret2
            exact ⟨by first | rfl | (simp [errW_none, errW_some] <;> rfl) | (simp [*, errW_none, errW_some] <;> rfl), by repeat (first | (with_reducible first | exact HB.out | apply below_alloc | apply pw_below_drewN | apply below_drew1 | refine below_set ?_ GE182.out) | exact HB.out)⟩
          · replace c15 := Bool.eq_false_iff.mpr c15
            subst c15
            have H1 : (if a0_0 = 22 then (some (IntKind.u64.wrap (a1 + (IntKind.u64.wrap (a0_4))), true)) else (if a0_0 = 23 then ((mezzanineref21_Less.f a1 (IntKind.u64.wrap (a0_4))).bind fun t183 => ((mezzanineref21_one.f t183).bind fun t184 => (some (t184, true)))) else (if a0_0 = 24 then ((mezzanineref21_one.f (decide (a1 < (IntKind.u64.wrap (a0_4))))).bind fun t185 => (some (t185, true))) else (if a0_0 = 25 then (some (Go.bits .xor .u64 a1 (IntKind.u64.wrap (a0_4)), true)) else (if a0_0 = 26 then (some (Go.bits .or .u64 a1 (IntKind.u64.wrap (a0_4)), true)) else (if a0_0 = 27 then (some (Go.bits .and .u64 a1 (IntKind.u64.wrap (a0_4)), true)) else (if a0_0 = 28 then ((mezzanineref21_Left.f kj10 a1 (wrap64 (Int.tmod (IntKind.u64.wrap (a0_4)) 64))).bind fun t186 => (some (t186, true))) else (if a0_0 = 29 then ((mezzanineref21_Right.f kj10 a1 (wrap64 (Int.tmod (IntKind.u64.wrap (a0_4)) 64))).bind fun t187 => (some (t187, true))) else (if a0_0 = 30 then ((mezzanineref21_Signed.f kj10 a1 (wrap64 (Int.tmod (IntKind.u64.wrap (a0_4)) 64))).bind fun t188 => (some (t188, true))) else (if a0_0 = 31 then ((mezzanineref21_Low.f (IntKind.u64.wrap (a1 + (IntKind.u64.wrap (a0_4))))).bind fun t189 => (some (t189, true))) else (if a0_0 = 32 then ((mezzanineref21_Left.f kj10 (Int.tmod a1 4294967296) (wrap64 (Int.tmod (IntKind.u64.wrap (a0_4)) 32))).bind fun t190 => ((mezzanineref21_Low.f t190).bind fun t191 => (some (t191, true)))) else (if a0_0 = 33 then ((mezzanineref21_Right.f kj10 (Int.tmod a1 4294967296) (wrap64 (Int.tmod (IntKind.u64.wrap (a0_4)) 32))).bind fun t192 => ((mezzanineref21_Low.f t192).bind fun t193 => (some (t193, true)))) else (if a0_0 = 34 then ((mezzanineref21_Low.f (Int.tmod a1 4294967296)).bind fun t194 => ((mezzanineref21_Signed.f kj10 t194 (wrap64 (Int.tmod (IntKind.u64.wrap (a0_4)) 32))).bind fun t195 => ((mezzanineref21_Low.f t195).bind fun t196 => (some (t196, true))))) else (if a0_0 = 35 then (some (IntKind.u64.wrap (a1 + a2), true)) else (if a0_0 = 36 then (some (IntKind.u64.wrap (a1 - a2), true)) else (if a0_0 = 37 then ((mezzanineref21_Left.f kj10 a1 (wrap64 (Int.tmod a2 64))).bind fun t197 => (some (t197, true))) else (if a0_0 = 38 then ((mezzanineref21_Less.f a1 a2).bind fun t198 => ((mezzanineref21_one.f t198).bind fun t199 => (some (t199, true)))) else (if a0_0 = 39 then ((mezzanineref21_one.f (decide (a1 < a2))).bind fun t200 => (some (t200, true))) else (if a0_0 = 40 then (some (Go.bits .xor .u64 a1 a2, true)) else (if a0_0 = 41 then ((mezzanineref21_Right.f kj10 a1 (wrap64 (Int.tmod a2 64))).bind fun t201 => (some (t201, true))) else (if a0_0 = 42 then ((mezzanineref21_Signed.f kj10 a1 (wrap64 (Int.tmod a2 64))).bind fun t202 => (some (t202, true))) else (if a0_0 = 43 then (some (Go.bits .or .u64 a1 a2, true)) else (if a0_0 = 44 then (some (Go.bits .and .u64 a1 a2, true)) else (if a0_0 = 45 then ((mezzanineref21_Low.f (IntKind.u64.wrap (a1 + a2))).bind fun t203 => (some (t203, true))) else (if a0_0 = 46 then ((mezzanineref21_Low.f (IntKind.u64.wrap (a1 - a2))).bind fun t204 => (some (t204, true))) else (if a0_0 = 47 then ((mezzanineref21_Left.f kj10 (Int.tmod a1 4294967296) (wrap64 (Int.tmod a2 32))).bind fun t205 => ((mezzanineref21_Low.f t205).bind fun t206 => (some (t206, true)))) else (if a0_0 = 48 then ((mezzanineref21_Right.f kj10 (Int.tmod a1 4294967296) (wrap64 (Int.tmod a2 32))).bind fun t207 => ((mezzanineref21_Low.f t207).bind fun t208 => (some (t208, true)))) else (if a0_0 = 49 then ((mezzanineref21_Low.f (Int.tmod a1 4294967296)).bind fun t209 => ((mezzanineref21_Signed.f kj10 t209 (wrap64 (Int.tmod a2 32))).bind fun t210 => ((mezzanineref21_Low.f t210).bind fun t211 => (some (t211, true))))) else (if a0_0 = 50 then ((mezzanineref02_Mul.f a1 a2).bind fun t212 => (some (t212, true))) else (if a0_0 = 51 then ((mezzanineref02_Mulh.f kj10 a1 a2).bind fun t213 => (some (t213, true))) else (if a0_0 = 52 then ((mezzanineref02_Mulhsu.f kj10 a1 a2).bind fun t214 => (some (t214, true))) else (if a0_0 = 53 then ((mezzanineref02_Mulhu.f kj10 a1 a2).bind fun t215 => (some (t215, true))) else (if a0_0 = 54 then ((mezzanineref02_Div.f a1 a2).bind fun t216 => (some (t216, true))) else (if a0_0 = 55 then ((mezzanineref02_Divu.f a1 a2).bind fun t217 => (some (t217, true))) else (if a0_0 = 56 then ((mezzanineref02_Rem.f a1 a2).bind fun t218 => (some (t218, true))) else (if a0_0 = 57 then ((mezzanineref02_Remu.f a1 a2).bind fun t219 => (some (t219, true))) else (if a0_0 = 58 then ((mezzanineref02_Mulw.f a1 a2).bind fun t220 => (some (t220, true))) else (if a0_0 = 59 then ((mezzanineref02_Divw.f a1 a2).bind fun t221 => (some (t221, true))) else (if a0_0 = 60 then ((mezzanineref02_Divuw.f a1 a2).bind fun t222 => (some (t222, true))) else (if a0_0 = 61 then ((mezzanineref02_Remw.f a1 a2).bind fun t223 => (some (t223, true))) else (if a0_0 = 62 then ((mezzanineref02_Remuw.f a1 a2).bind fun t224 => (some (t224, true))) else (some (0, false))))))))))))))))))))))))))))))))))))))))))) = some (r1, r2) := by rw [if_neg (show ¬ (false = true) by decide)] at H; exact H
            clear H
            have H := H1
            clear H1
            by_cases c16 : a0_0 = 22
            · rw [if_pos c16] at H
              have c16b0 : (a0_0 == 22) = true := beq_iff_eq.mpr c16
              have c16b1 : (a0_0 != 22) = false := bne_eq_false_iff_eq.mpr c16
              clear c16
              simp only [Option.some.injEq, Prod.mk.injEq] at H
              obtain ⟨rfl, rfl⟩ := H
              go_wp2
              go_ret2
              exact ⟨by first | rfl | (simp [errW_none, errW_some] <;> rfl) | (simp [*, errW_none, errW_some] <;> rfl), by repeat (first | (with_reducible first | exact HB.out | apply below_alloc | apply pw_below_drewN | apply below_drew1 | refine below_set ?_ GE182.out) | exact HB.out)⟩
            · rw [if_neg c16] at H
              have c16b0 : (a0_0 == 22) = false := beq_eq_false_iff_ne.mpr c16
              have c16b1 : (a0_0 != 22) = true := bne_iff_ne.mpr c16
              by_cases c17 : a0_0 = 23
              · rw [if_pos c17] at H
                have c17b0 : (a0_0 == 23) = true := beq_iff_eq.mpr c17
                have c17b1 : (a0_0 != 23) = false := bne_eq_false_iff_eq.mpr c17
                clear c17
                replace H := Option.bind_eq_some_iff.mp H
                obtain ⟨t183, A180, H⟩ := H
                replace H : ((mezzanineref21_one.f t183).bind fun t184 => (some (t184, true))) = some (r1, r2) := H
                have A18 := Aside0.mk A180
                clear A180
                replace H := Option.bind_eq_some_iff.mp H
                obtain ⟨t184, A190, H⟩ := H
                replace H : (some (t184, true)) = some (r1, r2) := H
                have A19 := Aside0.mk A190
                clear A190
                simp only [Option.some.injEq, Prod.mk.injEq] at H
                obtain ⟨rfl, rfl⟩ := H
                go_wp2_with (first | ((with_reducible refine gate_callee (f := 22) rfl ?_); refine goesL_ (some 41) rfl rfl Try.func22 (by kernel_rfl) rfl #[.int .u64 a1, .int .u64 (IntKind.u64.wrap (a0_4))] rfl (by (try simp only [List.map_toArray, List.map_cons, List.map_nil]); first | done | rfl | (simp only [List.length_drop, List.length_take]; rfl)) ?_; (with_reducible refine (mezzanineref21_Less.calls a1 (IntKind.u64.wrap (a0_4)) t183 _ A18.out).mono ?_); rintro e w' ⟨rfl, ⟨nd, rfl⟩⟩; refine ⟨_, rfl, ?_⟩) | ((with_reducible refine gate_callee (f := 21) rfl ?_); refine goesL_ (some 42) rfl rfl Try.func21 (by kernel_rfl) rfl #[.bool t183] rfl (by (try simp only [List.map_toArray, List.map_cons, List.map_nil]); first | done | rfl | (simp only [List.length_drop, List.length_take]; rfl)) ?_; (with_reducible refine (mezzanineref21_one.calls t183 t184 _ A19.out).mono ?_); rintro e w' ⟨rfl, ⟨nd, rfl⟩⟩; refine ⟨_, rfl, ?_⟩))
                go_ret2
                exact ⟨by first | rfl | (simp [errW_none, errW_some] <;> rfl) | (simp [*, errW_none, errW_some] <;> rfl), by repeat (first | (with_reducible first | exact HB.out | apply below_alloc | apply pw_below_drewN | apply below_drew1 | refine below_set ?_ GE182.out) | exact HB.out)⟩
              · rw [if_neg c17] at H
                have c17b0 : (a0_0 == 23) = false := beq_eq_false_iff_ne.mpr c17
                have c17b1 : (a0_0 != 23) = true := bne_iff_ne.mpr c17
                by_cases c20 : a0_0 = 24
                · rw [if_pos c20] at H
                  have c20b0 : (a0_0 == 24) = true := beq_iff_eq.mpr c20
                  have c20b1 : (a0_0 != 24) = false := bne_eq_false_iff_eq.mpr c20
                  clear c20
                  replace H := Option.bind_eq_some_iff.mp H
                  obtain ⟨t185, A210, H⟩ := H
                  replace H : (some (t185, true)) = some (r1, r2) := H
                  have A21 := Aside0.mk A210
                  clear A210
                  simp only [Option.some.injEq, Prod.mk.injEq] at H
                  obtain ⟨rfl, rfl⟩ := H
                  go_wp2_with (first | ((with_reducible refine gate_callee (f := 21) rfl ?_); refine goesL_ (some 48) rfl rfl Try.func21 (by kernel_rfl) rfl #[.bool (decide (a1 < (IntKind.u64.wrap (a0_4))))] rfl (by (try simp only [List.map_toArray, List.map_cons, List.map_nil]); first | done | rfl | (simp only [List.length_drop, List.length_take]; rfl)) ?_; (with_reducible refine (mezzanineref21_one.calls (decide (a1 < (IntKind.u64.wrap (a0_4)))) t185 _ A21.out).mono ?_); rintro e w' ⟨rfl, ⟨nd, rfl⟩⟩; refine ⟨_, rfl, ?_⟩))
                  go_ret2
                  exact ⟨by first | rfl | (simp [errW_none, errW_some] <;> rfl) | (simp [*, errW_none, errW_some] <;> rfl), by repeat (first | (with_reducible first | exact HB.out | apply below_alloc | apply pw_below_drewN | apply below_drew1 | refine below_set ?_ GE182.out) | exact HB.out)⟩
                · rw [if_neg c20] at H
                  have c20b0 : (a0_0 == 24) = false := beq_eq_false_iff_ne.mpr c20
                  have c20b1 : (a0_0 != 24) = true := bne_iff_ne.mpr c20
                  by_cases c22 : a0_0 = 25
                  · rw [if_pos c22] at H
                    have c22b0 : (a0_0 == 25) = true := beq_iff_eq.mpr c22
                    have c22b1 : (a0_0 != 25) = false := bne_eq_false_iff_eq.mpr c22
                    clear c22
                    simp only [Option.some.injEq, Prod.mk.injEq] at H
                    obtain ⟨rfl, rfl⟩ := H
                    go_wp2
                    go_ret2
                    exact ⟨by first | rfl | (simp [errW_none, errW_some] <;> rfl) | (simp [*, errW_none, errW_some] <;> rfl), by repeat (first | (with_reducible first | exact HB.out | apply below_alloc | apply pw_below_drewN | apply below_drew1 | refine below_set ?_ GE182.out) | exact HB.out)⟩
                  · rw [if_neg c22] at H
                    have c22b0 : (a0_0 == 25) = false := beq_eq_false_iff_ne.mpr c22
                    have c22b1 : (a0_0 != 25) = true := bne_iff_ne.mpr c22
                    by_cases c23 : a0_0 = 26
                    · rw [if_pos c23] at H
                      have c23b0 : (a0_0 == 26) = true := beq_iff_eq.mpr c23
                      have c23b1 : (a0_0 != 26) = false := bne_eq_false_iff_eq.mpr c23
                      clear c23
                      simp only [Option.some.injEq, Prod.mk.injEq] at H
                      obtain ⟨rfl, rfl⟩ := H
                      go_wp2
                      go_ret2
                      exact ⟨by first | rfl | (simp [errW_none, errW_some] <;> rfl) | (simp [*, errW_none, errW_some] <;> rfl), by repeat (first | (with_reducible first | exact HB.out | apply below_alloc | apply pw_below_drewN | apply below_drew1 | refine below_set ?_ GE182.out) | exact HB.out)⟩
                    · rw [if_neg c23] at H
                      have c23b0 : (a0_0 == 26) = false := beq_eq_false_iff_ne.mpr c23
                      have c23b1 : (a0_0 != 26) = true := bne_iff_ne.mpr c23
                      by_cases c24 : a0_0 = 27
                      · rw [if_pos c24] at H
                        have c24b0 : (a0_0 == 27) = true := beq_iff_eq.mpr c24
                        have c24b1 : (a0_0 != 27) = false := bne_eq_false_iff_eq.mpr c24
                        clear c24
                        simp only [Option.some.injEq, Prod.mk.injEq] at H
                        obtain ⟨rfl, rfl⟩ := H
                        go_wp2
                        go_ret2
                        exact ⟨by first | rfl | (simp [errW_none, errW_some] <;> rfl) | (simp [*, errW_none, errW_some] <;> rfl), by repeat (first | (with_reducible first | exact HB.out | apply below_alloc | apply pw_below_drewN | apply below_drew1 | refine below_set ?_ GE182.out) | exact HB.out)⟩
                      · rw [if_neg c24] at H
                        have c24b0 : (a0_0 == 27) = false := beq_eq_false_iff_ne.mpr c24
                        have c24b1 : (a0_0 != 27) = true := bne_iff_ne.mpr c24
                        by_cases c25 : a0_0 = 28
                        · rw [if_pos c25] at H
                          have c25b0 : (a0_0 == 28) = true := beq_iff_eq.mpr c25
                          have c25b1 : (a0_0 != 28) = false := bne_eq_false_iff_eq.mpr c25
                          clear c25
                          replace H := Option.bind_eq_some_iff.mp H
                          obtain ⟨t186, A260, H⟩ := H
                          replace H : (some (t186, true)) = some (r1, r2) := H
                          have A26 := Aside0.mk A260
                          clear A260
                          simp only [Option.some.injEq, Prod.mk.injEq] at H
                          obtain ⟨rfl, rfl⟩ := H
                          go_wp2_with (first | ((with_reducible refine gate_callee (f := 23) rfl ?_); refine goesL_ (some 70) rfl rfl Try.func23 (by kernel_rfl) rfl #[.int .u64 a1, .int .i64 (wrap64 (Int.tmod (IntKind.u64.wrap (a0_4)) 64))] rfl (by (try simp only [List.map_toArray, List.map_cons, List.map_nil]); first | done | rfl | (simp only [List.length_drop, List.length_take]; rfl)) ?_; (with_reducible refine (mezzanineref21_Left.calls kj10 a1 (wrap64 (Int.tmod (IntKind.u64.wrap (a0_4)) 64)) t186 _ A26.out).mono ?_); rintro e w' ⟨rfl, ⟨nd, rfl⟩⟩; refine ⟨_, rfl, ?_⟩))
                          go_ret2
                          exact ⟨by first | rfl | (simp [errW_none, errW_some] <;> rfl) | (simp [*, errW_none, errW_some] <;> rfl), by repeat (first | (with_reducible first | exact HB.out | apply below_alloc | apply pw_below_drewN | apply below_drew1 | refine below_set ?_ GE182.out) | exact HB.out)⟩
                        · rw [if_neg c25] at H
                          have c25b0 : (a0_0 == 28) = false := beq_eq_false_iff_ne.mpr c25
                          have c25b1 : (a0_0 != 28) = true := bne_iff_ne.mpr c25
                          by_cases c27 : a0_0 = 29
                          · rw [if_pos c27] at H
                            have c27b0 : (a0_0 == 29) = true := beq_iff_eq.mpr c27
                            have c27b1 : (a0_0 != 29) = false := bne_eq_false_iff_eq.mpr c27
                            clear c27
                            replace H := Option.bind_eq_some_iff.mp H
                            obtain ⟨t187, A280, H⟩ := H
                            replace H : (some (t187, true)) = some (r1, r2) := H
                            have A28 := Aside0.mk A280
                            clear A280
                            simp only [Option.some.injEq, Prod.mk.injEq] at H
                            obtain ⟨rfl, rfl⟩ := H
                            go_wp2_with (first | ((with_reducible refine gate_callee (f := 24) rfl ?_); refine goesL_ (some 77) rfl rfl Try.func24 (by kernel_rfl) rfl #[.int .u64 a1, .int .i64 (wrap64 (Int.tmod (IntKind.u64.wrap (a0_4)) 64))] rfl (by (try simp only [List.map_toArray, List.map_cons, List.map_nil]); first | done | rfl | (simp only [List.length_drop, List.length_take]; rfl)) ?_; (with_reducible refine (mezzanineref21_Right.calls kj10 a1 (wrap64 (Int.tmod (IntKind.u64.wrap (a0_4)) 64)) t187 _ A28.out).mono ?_); rintro e w' ⟨rfl, ⟨nd, rfl⟩⟩; refine ⟨_, rfl, ?_⟩))
                            go_ret2
                            exact ⟨by first | rfl | (simp [errW_none, errW_some] <;> rfl) | (simp [*, errW_none, errW_some] <;> rfl), by repeat (first | (with_reducible first | exact HB.out | apply below_alloc | apply pw_below_drewN | apply below_drew1 | refine below_set ?_ GE182.out) | exact HB.out)⟩
                          · rw [if_neg c27] at H
                            have c27b0 : (a0_0 == 29) = false := beq_eq_false_iff_ne.mpr c27
                            have c27b1 : (a0_0 != 29) = true := bne_iff_ne.mpr c27
                            by_cases c29 : a0_0 = 30
                            · rw [if_pos c29] at H
                              have c29b0 : (a0_0 == 30) = true := beq_iff_eq.mpr c29
                              have c29b1 : (a0_0 != 30) = false := bne_eq_false_iff_eq.mpr c29
                              clear c29
                              replace H := Option.bind_eq_some_iff.mp H
                              obtain ⟨t188, A300, H⟩ := H
                              replace H : (some (t188, true)) = some (r1, r2) := H
                              have A30 := Aside0.mk A300
                              clear A300
                              simp only [Option.some.injEq, Prod.mk.injEq] at H
                              obtain ⟨rfl, rfl⟩ := H
                              go_wp2_with (first | ((with_reducible refine gate_callee (f := 25) rfl ?_); refine goesL_ (some 84) rfl rfl Try.func25 (by kernel_rfl) rfl #[.int .u64 a1, .int .i64 (wrap64 (Int.tmod (IntKind.u64.wrap (a0_4)) 64))] rfl (by (try simp only [List.map_toArray, List.map_cons, List.map_nil]); first | done | rfl | (simp only [List.length_drop, List.length_take]; rfl)) ?_; (with_reducible refine (mezzanineref21_Signed.calls kj10 a1 (wrap64 (Int.tmod (IntKind.u64.wrap (a0_4)) 64)) t188 _ A30.out).mono ?_); rintro e w' ⟨rfl, ⟨nd, rfl⟩⟩; refine ⟨_, rfl, ?_⟩))
                              go_ret2
                              exact ⟨by first | rfl | (simp [errW_none, errW_some] <;> rfl) | (simp [*, errW_none, errW_some] <;> rfl), by repeat (first | (with_reducible first | exact HB.out | apply below_alloc | apply pw_below_drewN | apply below_drew1 | refine below_set ?_ GE182.out) | exact HB.out)⟩
                            · rw [if_neg c29] at H
                              have c29b0 : (a0_0 == 30) = false := beq_eq_false_iff_ne.mpr c29
                              have c29b1 : (a0_0 != 30) = true := bne_iff_ne.mpr c29
                              by_cases c31 : a0_0 = 31
                              · rw [if_pos c31] at H
                                have c31b0 : (a0_0 == 31) = true := beq_iff_eq.mpr c31
                                have c31b1 : (a0_0 != 31) = false := bne_eq_false_iff_eq.mpr c31
                                clear c31
                                replace H := Option.bind_eq_some_iff.mp H
                                obtain ⟨t189, A320, H⟩ := H
                                replace H : (some (t189, true)) = some (r1, r2) := H
                                have A32 := Aside0.mk A320
                                clear A320
                                simp only [Option.some.injEq, Prod.mk.injEq] at H
                                obtain ⟨rfl, rfl⟩ := H
                                go_wp2_with (first | ((with_reducible refine gate_callee (f := 26) rfl ?_); refine goesL_ (some 90) rfl rfl Try.func26 (by kernel_rfl) rfl #[.int .u64 (IntKind.u64.wrap (a1 + (IntKind.u64.wrap (a0_4))))] rfl (by (try simp only [List.map_toArray, List.map_cons, List.map_nil]); first | done | rfl | (simp only [List.length_drop, List.length_take]; rfl)) ?_; (with_reducible refine (mezzanineref21_Low.calls (IntKind.u64.wrap (a1 + (IntKind.u64.wrap (a0_4)))) t189 _ A32.out).mono ?_); rintro e w' ⟨rfl, ⟨nd, rfl⟩⟩; refine ⟨_, rfl, ?_⟩))
                                go_ret2
                                exact ⟨by first | rfl | (simp [errW_none, errW_some] <;> rfl) | (simp [*, errW_none, errW_some] <;> rfl), by repeat (first | (with_reducible first | exact HB.out | apply below_alloc | apply pw_below_drewN | apply below_drew1 | refine below_set ?_ GE182.out) | exact HB.out)⟩
                              · rw [if_neg c31] at H
                                have c31b0 : (a0_0 == 31) = false := beq_eq_false_iff_ne.mpr c31
                                have c31b1 : (a0_0 != 31) = true := bne_iff_ne.mpr c31
                                by_cases c33 : a0_0 = 32
                                · rw [if_pos c33] at H
                                  have c33b0 : (a0_0 == 32) = true := beq_iff_eq.mpr c33
                                  have c33b1 : (a0_0 != 32) = false := bne_eq_false_iff_eq.mpr c33
                                  clear c33
                                  replace H := Option.bind_eq_some_iff.mp H
                                  obtain ⟨t190, A340, H⟩ := H
                                  replace H : ((mezzanineref21_Low.f t190).bind fun t191 => (some (t191, true))) = some (r1, r2) := H
                                  have A34 := Aside0.mk A340
                                  clear A340
                                  replace H := Option.bind_eq_some_iff.mp H
                                  obtain ⟨t191, A350, H⟩ := H
                                  replace H : (some (t191, true)) = some (r1, r2) := H
                                  have A35 := Aside0.mk A350
                                  clear A350
                                  simp only [Option.some.injEq, Prod.mk.injEq] at H
                                  obtain ⟨rfl, rfl⟩ := H
                                  go_wp2_with (first | ((with_reducible refine gate_callee (f := 23) rfl ?_); refine goesL_ (some 97) rfl rfl Try.func23 (by kernel_rfl) rfl #[.int .u64 (Int.tmod a1 4294967296), .int .i64 (wrap64 (Int.tmod (IntKind.u64.wrap (a0_4)) 32))] rfl (by (try simp only [List.map_toArray, List.map_cons, List.map_nil]); first | done | rfl | (simp only [List.length_drop, List.length_take]; rfl)) ?_; (with_reducible refine (mezzanineref21_Left.calls kj10 (Int.tmod a1 4294967296) (wrap64 (Int.tmod (IntKind.u64.wrap (a0_4)) 32)) t190 _ A34.out).mono ?_); rintro e w' ⟨rfl, ⟨nd, rfl⟩⟩; refine ⟨_, rfl, ?_⟩) | ((with_reducible refine gate_callee (f := 26) rfl ?_); refine goesL_ (some 98) rfl rfl Try.func26 (by kernel_rfl) rfl #[.int .u64 t190] rfl (by (try simp only [List.map_toArray, List.map_cons, List.map_nil]); first | done | rfl | (simp only [List.length_drop, List.length_take]; rfl)) ?_; (with_reducible refine (mezzanineref21_Low.calls t190 t191 _ A35.out).mono ?_); rintro e w' ⟨rfl, ⟨nd, rfl⟩⟩; refine ⟨_, rfl, ?_⟩))
                                  go_ret2
                                  exact ⟨by first | rfl | (simp [errW_none, errW_some] <;> rfl) | (simp [*, errW_none, errW_some] <;> rfl), by repeat (first | (with_reducible first | exact HB.out | apply below_alloc | apply pw_below_drewN | apply below_drew1 | refine below_set ?_ GE182.out) | exact HB.out)⟩
                                · rw [if_neg c33] at H
                                  have c33b0 : (a0_0 == 32) = false := beq_eq_false_iff_ne.mpr c33
                                  have c33b1 : (a0_0 != 32) = true := bne_iff_ne.mpr c33
                                  by_cases c36 : a0_0 = 33
                                  · rw [if_pos c36] at H
                                    have c36b0 : (a0_0 == 33) = true := beq_iff_eq.mpr c36
                                    have c36b1 : (a0_0 != 33) = false := bne_eq_false_iff_eq.mpr c36
                                    clear c36
                                    replace H := Option.bind_eq_some_iff.mp H
                                    obtain ⟨t192, A370, H⟩ := H
                                    replace H : ((mezzanineref21_Low.f t192).bind fun t193 => (some (t193, true))) = some (r1, r2) := H
                                    have A37 := Aside0.mk A370
                                    clear A370
                                    replace H := Option.bind_eq_some_iff.mp H
                                    obtain ⟨t193, A380, H⟩ := H
                                    replace H : (some (t193, true)) = some (r1, r2) := H
                                    have A38 := Aside0.mk A380
                                    clear A380
                                    simp only [Option.some.injEq, Prod.mk.injEq] at H
                                    obtain ⟨rfl, rfl⟩ := H
                                    go_wp2_with (first | ((with_reducible refine gate_callee (f := 24) rfl ?_); refine goesL_ (some 105) rfl rfl Try.func24 (by kernel_rfl) rfl #[.int .u64 (Int.tmod a1 4294967296), .int .i64 (wrap64 (Int.tmod (IntKind.u64.wrap (a0_4)) 32))] rfl (by (try simp only [List.map_toArray, List.map_cons, List.map_nil]); first | done | rfl | (simp only [List.length_drop, List.length_take]; rfl)) ?_; (with_reducible refine (mezzanineref21_Right.calls kj10 (Int.tmod a1 4294967296) (wrap64 (Int.tmod (IntKind.u64.wrap (a0_4)) 32)) t192 _ A37.out).mono ?_); rintro e w' ⟨rfl, ⟨nd, rfl⟩⟩; refine ⟨_, rfl, ?_⟩) | ((with_reducible refine gate_callee (f := 26) rfl ?_); refine goesL_ (some 106) rfl rfl Try.func26 (by kernel_rfl) rfl #[.int .u64 t192] rfl (by (try simp only [List.map_toArray, List.map_cons, List.map_nil]); first | done | rfl | (simp only [List.length_drop, List.length_take]; rfl)) ?_; (with_reducible refine (mezzanineref21_Low.calls t192 t193 _ A38.out).mono ?_); rintro e w' ⟨rfl, ⟨nd, rfl⟩⟩; refine ⟨_, rfl, ?_⟩))
                                    go_ret2
                                    exact ⟨by first | rfl | (simp [errW_none, errW_some] <;> rfl) | (simp [*, errW_none, errW_some] <;> rfl), by repeat (first | (with_reducible first | exact HB.out | apply below_alloc | apply pw_below_drewN | apply below_drew1 | refine below_set ?_ GE182.out) | exact HB.out)⟩
                                  · rw [if_neg c36] at H
                                    have c36b0 : (a0_0 == 33) = false := beq_eq_false_iff_ne.mpr c36
                                    have c36b1 : (a0_0 != 33) = true := bne_iff_ne.mpr c36
                                    by_cases c39 : a0_0 = 34
                                    · rw [if_pos c39] at H
                                      have c39b0 : (a0_0 == 34) = true := beq_iff_eq.mpr c39
                                      have c39b1 : (a0_0 != 34) = false := bne_eq_false_iff_eq.mpr c39
                                      clear c39
                                      replace H := Option.bind_eq_some_iff.mp H
                                      obtain ⟨t194, A400, H⟩ := H
                                      replace H : ((mezzanineref21_Signed.f kj10 t194 (wrap64 (Int.tmod (IntKind.u64.wrap (a0_4)) 32))).bind fun t195 => ((mezzanineref21_Low.f t195).bind fun t196 => (some (t196, true)))) = some (r1, r2) := H
                                      have A40 := Aside0.mk A400
                                      clear A400
                                      replace H := Option.bind_eq_some_iff.mp H
                                      obtain ⟨t195, A410, H⟩ := H
                                      replace H : ((mezzanineref21_Low.f t195).bind fun t196 => (some (t196, true))) = some (r1, r2) := H
                                      have A41 := Aside0.mk A410
                                      clear A410
                                      replace H := Option.bind_eq_some_iff.mp H
                                      obtain ⟨t196, A420, H⟩ := H
                                      replace H : (some (t196, true)) = some (r1, r2) := H
                                      have A42 := Aside0.mk A420
                                      clear A420
                                      simp only [Option.some.injEq, Prod.mk.injEq] at H
                                      obtain ⟨rfl, rfl⟩ := H
                                      go_wp2_with (first | ((with_reducible refine gate_callee (f := 26) rfl ?_); refine goesL_ (some 110) rfl rfl Try.func26 (by kernel_rfl) rfl #[.int .u64 (Int.tmod a1 4294967296)] rfl (by (try simp only [List.map_toArray, List.map_cons, List.map_nil]); first | done | rfl | (simp only [List.length_drop, List.length_take]; rfl)) ?_; (with_reducible refine (mezzanineref21_Low.calls (Int.tmod a1 4294967296) t194 _ A40.out).mono ?_); rintro e w' ⟨rfl, ⟨nd, rfl⟩⟩; refine ⟨_, rfl, ?_⟩) | ((with_reducible refine gate_callee (f := 25) rfl ?_); refine goesL_ (some 114) rfl rfl Try.func25 (by kernel_rfl) rfl #[.int .u64 t194, .int .i64 (wrap64 (Int.tmod (IntKind.u64.wrap (a0_4)) 32))] rfl (by (try simp only [List.map_toArray, List.map_cons, List.map_nil]); first | done | rfl | (simp only [List.length_drop, List.length_take]; rfl)) ?_; (with_reducible refine (mezzanineref21_Signed.calls kj10 t194 (wrap64 (Int.tmod (IntKind.u64.wrap (a0_4)) 32)) t195 _ A41.out).mono ?_); rintro e w' ⟨rfl, ⟨nd, rfl⟩⟩; refine ⟨_, rfl, ?_⟩) | ((with_reducible refine gate_callee (f := 26) rfl ?_); refine goesL_ (some 115) rfl rfl Try.func26 (by kernel_rfl) rfl #[.int .u64 t195] rfl (by (try simp only [List.map_toArray, List.map_cons, List.map_nil]); first | done | rfl | (simp only [List.length_drop, List.length_take]; rfl)) ?_; (with_reducible refine (mezzanineref21_Low.calls t195 t196 _ A42.out).mono ?_); rintro e w' ⟨rfl, ⟨nd, rfl⟩⟩; refine ⟨_, rfl, ?_⟩))
                                      go_ret2
                                      exact ⟨by first | rfl | (simp [errW_none, errW_some] <;> rfl) | (simp [*, errW_none, errW_some] <;> rfl), by repeat (first | (with_reducible first | exact HB.out | apply below_alloc | apply pw_below_drewN | apply below_drew1 | refine below_set ?_ GE182.out) | exact HB.out)⟩
                                    · rw [if_neg c39] at H
                                      have c39b0 : (a0_0 == 34) = false := beq_eq_false_iff_ne.mpr c39
                                      have c39b1 : (a0_0 != 34) = true := bne_iff_ne.mpr c39
                                      by_cases c43 : a0_0 = 35
                                      · rw [if_pos c43] at H
                                        have c43b0 : (a0_0 == 35) = true := beq_iff_eq.mpr c43
                                        have c43b1 : (a0_0 != 35) = false := bne_eq_false_iff_eq.mpr c43
                                        clear c43
                                        simp only [Option.some.injEq, Prod.mk.injEq] at H
                                        obtain ⟨rfl, rfl⟩ := H
                                        go_wp2
                                        go_ret2
                                        exact ⟨by first | rfl | (simp [errW_none, errW_some] <;> rfl) | (simp [*, errW_none, errW_some] <;> rfl), by repeat (first | (with_reducible first | exact HB.out | apply below_alloc | apply pw_below_drewN | apply below_drew1 | refine below_set ?_ GE182.out) | exact HB.out)⟩
                                      · rw [if_neg c43] at H
                                        have c43b0 : (a0_0 == 35) = false := beq_eq_false_iff_ne.mpr c43
                                        have c43b1 : (a0_0 != 35) = true := bne_iff_ne.mpr c43
                                        by_cases c44 : a0_0 = 36
                                        · rw [if_pos c44] at H
                                          have c44b0 : (a0_0 == 36) = true := beq_iff_eq.mpr c44
                                          have c44b1 : (a0_0 != 36) = false := bne_eq_false_iff_eq.mpr c44
                                          clear c44
                                          simp only [Option.some.injEq, Prod.mk.injEq] at H
                                          obtain ⟨rfl, rfl⟩ := H
                                          go_wp2
                                          go_ret2
                                          exact ⟨by first | rfl | (simp [errW_none, errW_some] <;> rfl) | (simp [*, errW_none, errW_some] <;> rfl), by repeat (first | (with_reducible first | exact HB.out | apply below_alloc | apply pw_below_drewN | apply below_drew1 | refine below_set ?_ GE182.out) | exact HB.out)⟩
                                        · rw [if_neg c44] at H
                                          have c44b0 : (a0_0 == 36) = false := beq_eq_false_iff_ne.mpr c44
                                          have c44b1 : (a0_0 != 36) = true := bne_iff_ne.mpr c44
                                          by_cases c45 : a0_0 = 37
                                          · rw [if_pos c45] at H
                                            have c45b0 : (a0_0 == 37) = true := beq_iff_eq.mpr c45
                                            have c45b1 : (a0_0 != 37) = false := bne_eq_false_iff_eq.mpr c45
                                            clear c45
                                            replace H := Option.bind_eq_some_iff.mp H
                                            obtain ⟨t197, A460, H⟩ := H
                                            replace H : (some (t197, true)) = some (r1, r2) := H
                                            have A46 := Aside0.mk A460
                                            clear A460
                                            simp only [Option.some.injEq, Prod.mk.injEq] at H
                                            obtain ⟨rfl, rfl⟩ := H
                                            go_wp2_with (first | ((with_reducible refine gate_callee (f := 23) rfl ?_); refine goesL_ (some 132) rfl rfl Try.func23 (by kernel_rfl) rfl #[.int .u64 a1, .int .i64 (wrap64 (Int.tmod a2 64))] rfl (by (try simp only [List.map_toArray, List.map_cons, List.map_nil]); first | done | rfl | (simp only [List.length_drop, List.length_take]; rfl)) ?_; (with_reducible refine (mezzanineref21_Left.calls kj10 a1 (wrap64 (Int.tmod a2 64)) t197 _ A46.out).mono ?_); rintro e w' ⟨rfl, ⟨nd, rfl⟩⟩; refine ⟨_, rfl, ?_⟩))
                                            go_ret2
                                            exact ⟨by first | rfl | (simp [errW_none, errW_some] <;> rfl) | (simp [*, errW_none, errW_some] <;> rfl), by repeat (first | (with_reducible first | exact HB.out | apply below_alloc | apply pw_below_drewN | apply below_drew1 | refine below_set ?_ GE182.out) | exact HB.out)⟩
                                          · rw [if_neg c45] at H
                                            have c45b0 : (a0_0 == 37) = false := beq_eq_false_iff_ne.mpr c45
                                            have c45b1 : (a0_0 != 37) = true := bne_iff_ne.mpr c45
                                            by_cases c47 : a0_0 = 38
                                            · rw [if_pos c47] at H
                                              have c47b0 : (a0_0 == 38) = true := beq_iff_eq.mpr c47
                                              have c47b1 : (a0_0 != 38) = false := bne_eq_false_iff_eq.mpr c47
                                              clear c47
                                              replace H := Option.bind_eq_some_iff.mp H
                                              obtain ⟨t198, A480, H⟩ := H
                                              replace H : ((mezzanineref21_one.f t198).bind fun t199 => (some (t199, true))) = some (r1, r2) := H
                                              have A48 := Aside0.mk A480
                                              clear A480
                                              replace H := Option.bind_eq_some_iff.mp H
                                              obtain ⟨t199, A490, H⟩ := H
                                              replace H : (some (t199, true)) = some (r1, r2) := H
                                              have A49 := Aside0.mk A490
                                              clear A490
                                              simp only [Option.some.injEq, Prod.mk.injEq] at H
                                              obtain ⟨rfl, rfl⟩ := H
                                              go_wp2_with (first | ((with_reducible refine gate_callee (f := 22) rfl ?_); refine goesL_ (some 137) rfl rfl Try.func22 (by kernel_rfl) rfl #[.int .u64 a1, .int .u64 a2] rfl (by (try simp only [List.map_toArray, List.map_cons, List.map_nil]); first | done | rfl | (simp only [List.length_drop, List.length_take]; rfl)) ?_; (with_reducible refine (mezzanineref21_Less.calls a1 a2 t198 _ A48.out).mono ?_); rintro e w' ⟨rfl, ⟨nd, rfl⟩⟩; refine ⟨_, rfl, ?_⟩) | ((with_reducible refine gate_callee (f := 21) rfl ?_); refine goesL_ (some 138) rfl rfl Try.func21 (by kernel_rfl) rfl #[.bool t198] rfl (by (try simp only [List.map_toArray, List.map_cons, List.map_nil]); first | done | rfl | (simp only [List.length_drop, List.length_take]; rfl)) ?_; (with_reducible refine (mezzanineref21_one.calls t198 t199 _ A49.out).mono ?_); rintro e w' ⟨rfl, ⟨nd, rfl⟩⟩; refine ⟨_, rfl, ?_⟩))
                                              go_ret2
                                              exact ⟨by first | rfl | (simp [errW_none, errW_some] <;> rfl) | (simp [*, errW_none, errW_some] <;> rfl), by repeat (first | (with_reducible first | exact HB.out | apply below_alloc | apply pw_below_drewN | apply below_drew1 | refine below_set ?_ GE182.out) | exact HB.out)⟩
                                            · rw [if_neg c47] at H
                                              have c47b0 : (a0_0 == 38) = false := beq_eq_false_iff_ne.mpr c47
                                              have c47b1 : (a0_0 != 38) = true := bne_iff_ne.mpr c47
                                              by_cases c50 : a0_0 = 39
                                              · rw [if_pos c50] at H
                                                have c50b0 : (a0_0 == 39) = true := beq_iff_eq.mpr c50
                                                have c50b1 : (a0_0 != 39) = false := bne_eq_false_iff_eq.mpr c50
                                                clear c50
                                                replace H := Option.bind_eq_some_iff.mp H
                                                obtain ⟨t200, A510, H⟩ := H
                                                replace H : (some (t200, true)) = some (r1, r2) := H
                                                have A51 := Aside0.mk A510
                                                clear A510
                                                simp only [Option.some.injEq, Prod.mk.injEq] at H
                                                obtain ⟨rfl, rfl⟩ := H
                                                go_wp2_with (first | ((with_reducible refine gate_callee (f := 21) rfl ?_); refine goesL_ (some 144) rfl rfl Try.func21 (by kernel_rfl) rfl #[.bool (decide (a1 < a2))] rfl (by (try simp only [List.map_toArray, List.map_cons, List.map_nil]); first | done | rfl | (simp only [List.length_drop, List.length_take]; rfl)) ?_; (with_reducible refine (mezzanineref21_one.calls (decide (a1 < a2)) t200 _ A51.out).mono ?_); rintro e w' ⟨rfl, ⟨nd, rfl⟩⟩; refine ⟨_, rfl, ?_⟩))
                                                go_ret2
                                                exact ⟨by first | rfl | (simp [errW_none, errW_some] <;> rfl) | (simp [*, errW_none, errW_some] <;> rfl), by repeat (first | (with_reducible first | exact HB.out | apply below_alloc | apply pw_below_drewN | apply below_drew1 | refine below_set ?_ GE182.out) | exact HB.out)⟩
                                              · rw [if_neg c50] at H
                                                have c50b0 : (a0_0 == 39) = false := beq_eq_false_iff_ne.mpr c50
                                                have c50b1 : (a0_0 != 39) = true := bne_iff_ne.mpr c50
                                                by_cases c52 : a0_0 = 40
                                                · rw [if_pos c52] at H
                                                  have c52b0 : (a0_0 == 40) = true := beq_iff_eq.mpr c52
                                                  have c52b1 : (a0_0 != 40) = false := bne_eq_false_iff_eq.mpr c52
                                                  clear c52
                                                  simp only [Option.some.injEq, Prod.mk.injEq] at H
                                                  obtain ⟨rfl, rfl⟩ := H
                                                  go_wp2
                                                  go_ret2
                                                  exact ⟨by first | rfl | (simp [errW_none, errW_some] <;> rfl) | (simp [*, errW_none, errW_some] <;> rfl), by repeat (first | (with_reducible first | exact HB.out | apply below_alloc | apply pw_below_drewN | apply below_drew1 | refine below_set ?_ GE182.out) | exact HB.out)⟩
                                                · rw [if_neg c52] at H
                                                  have c52b0 : (a0_0 == 40) = false := beq_eq_false_iff_ne.mpr c52
                                                  have c52b1 : (a0_0 != 40) = true := bne_iff_ne.mpr c52
                                                  by_cases c53 : a0_0 = 41
                                                  · rw [if_pos c53] at H
                                                    have c53b0 : (a0_0 == 41) = true := beq_iff_eq.mpr c53
                                                    have c53b1 : (a0_0 != 41) = false := bne_eq_false_iff_eq.mpr c53
                                                    clear c53
                                                    replace H := Option.bind_eq_some_iff.mp H
                                                    obtain ⟨t201, A540, H⟩ := H
                                                    replace H : (some (t201, true)) = some (r1, r2) := H
                                                    have A54 := Aside0.mk A540
                                                    clear A540
                                                    simp only [Option.some.injEq, Prod.mk.injEq] at H
                                                    obtain ⟨rfl, rfl⟩ := H
                                                    go_wp2_with (first | ((with_reducible refine gate_callee (f := 24) rfl ?_); refine goesL_ (some 156) rfl rfl Try.func24 (by kernel_rfl) rfl #[.int .u64 a1, .int .i64 (wrap64 (Int.tmod a2 64))] rfl (by (try simp only [List.map_toArray, List.map_cons, List.map_nil]); first | done | rfl | (simp only [List.length_drop, List.length_take]; rfl)) ?_; (with_reducible refine (mezzanineref21_Right.calls kj10 a1 (wrap64 (Int.tmod a2 64)) t201 _ A54.out).mono ?_); rintro e w' ⟨rfl, ⟨nd, rfl⟩⟩; refine ⟨_, rfl, ?_⟩))
                                                    go_ret2
                                                    exact ⟨by first | rfl | (simp [errW_none, errW_some] <;> rfl) | (simp [*, errW_none, errW_some] <;> rfl), by repeat (first | (with_reducible first | exact HB.out | apply below_alloc | apply pw_below_drewN | apply below_drew1 | refine below_set ?_ GE182.out) | exact HB.out)⟩
                                                  · rw [if_neg c53] at H
                                                    have c53b0 : (a0_0 == 41) = false := beq_eq_false_iff_ne.mpr c53
                                                    have c53b1 : (a0_0 != 41) = true := bne_iff_ne.mpr c53
                                                    by_cases c55 : a0_0 = 42
                                                    · rw [if_pos c55] at H
                                                      have c55b0 : (a0_0 == 42) = true := beq_iff_eq.mpr c55
                                                      have c55b1 : (a0_0 != 42) = false := bne_eq_false_iff_eq.mpr c55
                                                      clear c55
                                                      replace H := Option.bind_eq_some_iff.mp H
                                                      obtain ⟨t202, A560, H⟩ := H
                                                      replace H : (some (t202, true)) = some (r1, r2) := H
                                                      have A56 := Aside0.mk A560
                                                      clear A560
                                                      simp only [Option.some.injEq, Prod.mk.injEq] at H
                                                      obtain ⟨rfl, rfl⟩ := H
                                                      go_wp2_with (first | ((with_reducible refine gate_callee (f := 25) rfl ?_); refine goesL_ (some 163) rfl rfl Try.func25 (by kernel_rfl) rfl #[.int .u64 a1, .int .i64 (wrap64 (Int.tmod a2 64))] rfl (by (try simp only [List.map_toArray, List.map_cons, List.map_nil]); first | done | rfl | (simp only [List.length_drop, List.length_take]; rfl)) ?_; (with_reducible refine (mezzanineref21_Signed.calls kj10 a1 (wrap64 (Int.tmod a2 64)) t202 _ A56.out).mono ?_); rintro e w' ⟨rfl, ⟨nd, rfl⟩⟩; refine ⟨_, rfl, ?_⟩))
                                                      go_ret2
                                                      exact ⟨by first | rfl | (simp [errW_none, errW_some] <;> rfl) | (simp [*, errW_none, errW_some] <;> rfl), by repeat (first | (with_reducible first | exact HB.out | apply below_alloc | apply pw_below_drewN | apply below_drew1 | refine below_set ?_ GE182.out) | exact HB.out)⟩
                                                    · rw [if_neg c55] at H
                                                      have c55b0 : (a0_0 == 42) = false := beq_eq_false_iff_ne.mpr c55
                                                      have c55b1 : (a0_0 != 42) = true := bne_iff_ne.mpr c55
                                                      by_cases c57 : a0_0 = 43
                                                      · rw [if_pos c57] at H
                                                        have c57b0 : (a0_0 == 43) = true := beq_iff_eq.mpr c57
                                                        have c57b1 : (a0_0 != 43) = false := bne_eq_false_iff_eq.mpr c57
                                                        clear c57
                                                        simp only [Option.some.injEq, Prod.mk.injEq] at H
                                                        obtain ⟨rfl, rfl⟩ := H
                                                        go_wp2
                                                        go_ret2
                                                        exact ⟨by first | rfl | (simp [errW_none, errW_some] <;> rfl) | (simp [*, errW_none, errW_some] <;> rfl), by repeat (first | (with_reducible first | exact HB.out | apply below_alloc | apply pw_below_drewN | apply below_drew1 | refine below_set ?_ GE182.out) | exact HB.out)⟩
                                                      · rw [if_neg c57] at H
                                                        have c57b0 : (a0_0 == 43) = false := beq_eq_false_iff_ne.mpr c57
                                                        have c57b1 : (a0_0 != 43) = true := bne_iff_ne.mpr c57
                                                        by_cases c58 : a0_0 = 44
                                                        · rw [if_pos c58] at H
                                                          have c58b0 : (a0_0 == 44) = true := beq_iff_eq.mpr c58
                                                          have c58b1 : (a0_0 != 44) = false := bne_eq_false_iff_eq.mpr c58
                                                          clear c58
                                                          simp only [Option.some.injEq, Prod.mk.injEq] at H
                                                          obtain ⟨rfl, rfl⟩ := H
                                                          go_wp2
                                                          go_ret2
                                                          exact ⟨by first | rfl | (simp [errW_none, errW_some] <;> rfl) | (simp [*, errW_none, errW_some] <;> rfl), by repeat (first | (with_reducible first | exact HB.out | apply below_alloc | apply pw_below_drewN | apply below_drew1 | refine below_set ?_ GE182.out) | exact HB.out)⟩
                                                        · rw [if_neg c58] at H
                                                          have c58b0 : (a0_0 == 44) = false := beq_eq_false_iff_ne.mpr c58
                                                          have c58b1 : (a0_0 != 44) = true := bne_iff_ne.mpr c58
                                                          by_cases c59 : a0_0 = 45
                                                          · rw [if_pos c59] at H
                                                            have c59b0 : (a0_0 == 45) = true := beq_iff_eq.mpr c59
                                                            have c59b1 : (a0_0 != 45) = false := bne_eq_false_iff_eq.mpr c59
                                                            clear c59
                                                            replace H := Option.bind_eq_some_iff.mp H
                                                            obtain ⟨t203, A600, H⟩ := H
                                                            replace H : (some (t203, true)) = some (r1, r2) := H
                                                            have A60 := Aside0.mk A600
                                                            clear A600
                                                            simp only [Option.some.injEq, Prod.mk.injEq] at H
                                                            obtain ⟨rfl, rfl⟩ := H
                                                            go_wp2_with (first | ((with_reducible refine gate_callee (f := 26) rfl ?_); refine goesL_ (some 179) rfl rfl Try.func26 (by kernel_rfl) rfl #[.int .u64 (IntKind.u64.wrap (a1 + a2))] rfl (by (try simp only [List.map_toArray, List.map_cons, List.map_nil]); first | done | rfl | (simp only [List.length_drop, List.length_take]; rfl)) ?_; (with_reducible refine (mezzanineref21_Low.calls (IntKind.u64.wrap (a1 + a2)) t203 _ A60.out).mono ?_); rintro e w' ⟨rfl, ⟨nd, rfl⟩⟩; refine ⟨_, rfl, ?_⟩))
                                                            go_ret2
                                                            exact ⟨by first | rfl | (simp [errW_none, errW_some] <;> rfl) | (simp [*, errW_none, errW_some] <;> rfl), by repeat (first | (with_reducible first | exact HB.out | apply below_alloc | apply pw_below_drewN | apply below_drew1 | refine below_set ?_ GE182.out) | exact HB.out)⟩
                                                          · rw [if_neg c59] at H
                                                            have c59b0 : (a0_0 == 45) = false := beq_eq_false_iff_ne.mpr c59
                                                            have c59b1 : (a0_0 != 45) = true := bne_iff_ne.mpr c59
                                                            by_cases c61 : a0_0 = 46
                                                            · rw [if_pos c61] at H
                                                              have c61b0 : (a0_0 == 46) = true := beq_iff_eq.mpr c61
                                                              have c61b1 : (a0_0 != 46) = false := bne_eq_false_iff_eq.mpr c61
                                                              clear c61
                                                              replace H := Option.bind_eq_some_iff.mp H
                                                              obtain ⟨t204, A620, H⟩ := H
                                                              replace H : (some (t204, true)) = some (r1, r2) := H
                                                              have A62 := Aside0.mk A620
                                                              clear A620
                                                              simp only [Option.some.injEq, Prod.mk.injEq] at H
                                                              obtain ⟨rfl, rfl⟩ := H
                                                              go_wp2_with (first | ((with_reducible refine gate_callee (f := 26) rfl ?_); refine goesL_ (some 185) rfl rfl Try.func26 (by kernel_rfl) rfl #[.int .u64 (IntKind.u64.wrap (a1 - a2))] rfl (by (try simp only [List.map_toArray, List.map_cons, List.map_nil]); first | done | rfl | (simp only [List.length_drop, List.length_take]; rfl)) ?_; (with_reducible refine (mezzanineref21_Low.calls (IntKind.u64.wrap (a1 - a2)) t204 _ A62.out).mono ?_); rintro e w' ⟨rfl, ⟨nd, rfl⟩⟩; refine ⟨_, rfl, ?_⟩))
                                                              go_ret2
                                                              exact ⟨by first | rfl | (simp [errW_none, errW_some] <;> rfl) | (simp [*, errW_none, errW_some] <;> rfl), by repeat (first | (with_reducible first | exact HB.out | apply below_alloc | apply pw_below_drewN | apply below_drew1 | refine below_set ?_ GE182.out) | exact HB.out)⟩
                                                            · rw [if_neg c61] at H
                                                              have c61b0 : (a0_0 == 46) = false := beq_eq_false_iff_ne.mpr c61
                                                              have c61b1 : (a0_0 != 46) = true := bne_iff_ne.mpr c61
                                                              by_cases c63 : a0_0 = 47
                                                              · rw [if_pos c63] at H
                                                                have c63b0 : (a0_0 == 47) = true := beq_iff_eq.mpr c63
                                                                have c63b1 : (a0_0 != 47) = false := bne_eq_false_iff_eq.mpr c63
                                                                clear c63
                                                                replace H := Option.bind_eq_some_iff.mp H
                                                                obtain ⟨t205, A640, H⟩ := H
                                                                replace H : ((mezzanineref21_Low.f t205).bind fun t206 => (some (t206, true))) = some (r1, r2) := H
                                                                have A64 := Aside0.mk A640
                                                                clear A640
                                                                replace H := Option.bind_eq_some_iff.mp H
                                                                obtain ⟨t206, A650, H⟩ := H
                                                                replace H : (some (t206, true)) = some (r1, r2) := H
                                                                have A65 := Aside0.mk A650
                                                                clear A650
                                                                simp only [Option.some.injEq, Prod.mk.injEq] at H
                                                                obtain ⟨rfl, rfl⟩ := H
                                                                go_wp2_with (first | ((with_reducible refine gate_callee (f := 23) rfl ?_); refine goesL_ (some 192) rfl rfl Try.func23 (by kernel_rfl) rfl #[.int .u64 (Int.tmod a1 4294967296), .int .i64 (wrap64 (Int.tmod a2 32))] rfl (by (try simp only [List.map_toArray, List.map_cons, List.map_nil]); first | done | rfl | (simp only [List.length_drop, List.length_take]; rfl)) ?_; (with_reducible refine (mezzanineref21_Left.calls kj10 (Int.tmod a1 4294967296) (wrap64 (Int.tmod a2 32)) t205 _ A64.out).mono ?_); rintro e w' ⟨rfl, ⟨nd, rfl⟩⟩; refine ⟨_, rfl, ?_⟩) | ((with_reducible refine gate_callee (f := 26) rfl ?_); refine goesL_ (some 193) rfl rfl Try.func26 (by kernel_rfl) rfl #[.int .u64 t205] rfl (by (try simp only [List.map_toArray, List.map_cons, List.map_nil]); first | done | rfl | (simp only [List.length_drop, List.length_take]; rfl)) ?_; (with_reducible refine (mezzanineref21_Low.calls t205 t206 _ A65.out).mono ?_); rintro e w' ⟨rfl, ⟨nd, rfl⟩⟩; refine ⟨_, rfl, ?_⟩))
                                                                go_ret2
                                                                exact ⟨by first | rfl | (simp [errW_none, errW_some] <;> rfl) | (simp [*, errW_none, errW_some] <;> rfl), by repeat (first | (with_reducible first | exact HB.out | apply below_alloc | apply pw_below_drewN | apply below_drew1 | refine below_set ?_ GE182.out) | exact HB.out)⟩
                                                              · rw [if_neg c63] at H
                                                                have c63b0 : (a0_0 == 47) = false := beq_eq_false_iff_ne.mpr c63
                                                                have c63b1 : (a0_0 != 47) = true := bne_iff_ne.mpr c63
                                                                by_cases c66 : a0_0 = 48
                                                                · rw [if_pos c66] at H
                                                                  have c66b0 : (a0_0 == 48) = true := beq_iff_eq.mpr c66
                                                                  have c66b1 : (a0_0 != 48) = false := bne_eq_false_iff_eq.mpr c66
                                                                  clear c66
                                                                  replace H := Option.bind_eq_some_iff.mp H
                                                                  obtain ⟨t207, A670, H⟩ := H
                                                                  replace H : ((mezzanineref21_Low.f t207).bind fun t208 => (some (t208, true))) = some (r1, r2) := H
                                                                  have A67 := Aside0.mk A670
                                                                  clear A670
                                                                  replace H := Option.bind_eq_some_iff.mp H
                                                                  obtain ⟨t208, A680, H⟩ := H
                                                                  replace H : (some (t208, true)) = some (r1, r2) := H
                                                                  have A68 := Aside0.mk A680
                                                                  clear A680
                                                                  simp only [Option.some.injEq, Prod.mk.injEq] at H
                                                                  obtain ⟨rfl, rfl⟩ := H
                                                                  go_wp2_with (first | ((with_reducible refine gate_callee (f := 24) rfl ?_); refine goesL_ (some 200) rfl rfl Try.func24 (by kernel_rfl) rfl #[.int .u64 (Int.tmod a1 4294967296), .int .i64 (wrap64 (Int.tmod a2 32))] rfl (by (try simp only [List.map_toArray, List.map_cons, List.map_nil]); first | done | rfl | (simp only [List.length_drop, List.length_take]; rfl)) ?_; (with_reducible refine (mezzanineref21_Right.calls kj10 (Int.tmod a1 4294967296) (wrap64 (Int.tmod a2 32)) t207 _ A67.out).mono ?_); rintro e w' ⟨rfl, ⟨nd, rfl⟩⟩; refine ⟨_, rfl, ?_⟩) | ((with_reducible refine gate_callee (f := 26) rfl ?_); refine goesL_ (some 201) rfl rfl Try.func26 (by kernel_rfl) rfl #[.int .u64 t207] rfl (by (try simp only [List.map_toArray, List.map_cons, List.map_nil]); first | done | rfl | (simp only [List.length_drop, List.length_take]; rfl)) ?_; (with_reducible refine (mezzanineref21_Low.calls t207 t208 _ A68.out).mono ?_); rintro e w' ⟨rfl, ⟨nd, rfl⟩⟩; refine ⟨_, rfl, ?_⟩))
                                                                  go_ret2
                                                                  exact ⟨by first | rfl | (simp [errW_none, errW_some] <;> rfl) | (simp [*, errW_none, errW_some] <;> rfl), by repeat (first | (with_reducible first | exact HB.out | apply below_alloc | apply pw_below_drewN | apply below_drew1 | refine below_set ?_ GE182.out) | exact HB.out)⟩
                                                                · rw [if_neg c66] at H
                                                                  have c66b0 : (a0_0 == 48) = false := beq_eq_false_iff_ne.mpr c66
                                                                  have c66b1 : (a0_0 != 48) = true := bne_iff_ne.mpr c66
                                                                  by_cases c69 : a0_0 = 49
                                                                  · rw [if_pos c69] at H
                                                                    have c69b0 : (a0_0 == 49) = true := beq_iff_eq.mpr c69
                                                                    have c69b1 : (a0_0 != 49) = false := bne_eq_false_iff_eq.mpr c69
                                                                    clear c69
                                                                    replace H := Option.bind_eq_some_iff.mp H
                                                                    obtain ⟨t209, A700, H⟩ := H
                                                                    replace H : ((mezzanineref21_Signed.f kj10 t209 (wrap64 (Int.tmod a2 32))).bind fun t210 => ((mezzanineref21_Low.f t210).bind fun t211 => (some (t211, true)))) = some (r1, r2) := H
                                                                    have A70 := Aside0.mk A700
                                                                    clear A700
                                                                    replace H := Option.bind_eq_some_iff.mp H
                                                                    obtain ⟨t210, A710, H⟩ := H
                                                                    replace H : ((mezzanineref21_Low.f t210).bind fun t211 => (some (t211, true))) = some (r1, r2) := H
                                                                    have A71 := Aside0.mk A710
                                                                    clear A710
                                                                    replace H := Option.bind_eq_some_iff.mp H
                                                                    obtain ⟨t211, A720, H⟩ := H
                                                                    replace H : (some (t211, true)) = some (r1, r2) := H
                                                                    have A72 := Aside0.mk A720
                                                                    clear A720
                                                                    simp only [Option.some.injEq, Prod.mk.injEq] at H
                                                                    obtain ⟨rfl, rfl⟩ := H
                                                                    go_wp2_with (first | ((with_reducible refine gate_callee (f := 26) rfl ?_); refine goesL_ (some 205) rfl rfl Try.func26 (by kernel_rfl) rfl #[.int .u64 (Int.tmod a1 4294967296)] rfl (by (try simp only [List.map_toArray, List.map_cons, List.map_nil]); first | done | rfl | (simp only [List.length_drop, List.length_take]; rfl)) ?_; (with_reducible refine (mezzanineref21_Low.calls (Int.tmod a1 4294967296) t209 _ A70.out).mono ?_); rintro e w' ⟨rfl, ⟨nd, rfl⟩⟩; refine ⟨_, rfl, ?_⟩) | ((with_reducible refine gate_callee (f := 25) rfl ?_); refine goesL_ (some 209) rfl rfl Try.func25 (by kernel_rfl) rfl #[.int .u64 t209, .int .i64 (wrap64 (Int.tmod a2 32))] rfl (by (try simp only [List.map_toArray, List.map_cons, List.map_nil]); first | done | rfl | (simp only [List.length_drop, List.length_take]; rfl)) ?_; (with_reducible refine (mezzanineref21_Signed.calls kj10 t209 (wrap64 (Int.tmod a2 32)) t210 _ A71.out).mono ?_); rintro e w' ⟨rfl, ⟨nd, rfl⟩⟩; refine ⟨_, rfl, ?_⟩) | ((with_reducible refine gate_callee (f := 26) rfl ?_); refine goesL_ (some 210) rfl rfl Try.func26 (by kernel_rfl) rfl #[.int .u64 t210] rfl (by (try simp only [List.map_toArray, List.map_cons, List.map_nil]); first | done | rfl | (simp only [List.length_drop, List.length_take]; rfl)) ?_; (with_reducible refine (mezzanineref21_Low.calls t210 t211 _ A72.out).mono ?_); rintro e w' ⟨rfl, ⟨nd, rfl⟩⟩; refine ⟨_, rfl, ?_⟩))
                                                                    go_ret2
                                                                    exact ⟨by first | rfl | (simp [errW_none, errW_some] <;> rfl) | (simp [*, errW_none, errW_some] <;> rfl), by repeat (first | (with_reducible first | exact HB.out | apply below_alloc | apply pw_below_drewN | apply below_drew1 | refine below_set ?_ GE182.out) | exact HB.out)⟩
                                                                  · rw [if_neg c69] at H
                                                                    have c69b0 : (a0_0 == 49) = false := beq_eq_false_iff_ne.mpr c69
                                                                    have c69b1 : (a0_0 != 49) = true := bne_iff_ne.mpr c69
                                                                    by_cases c73 : a0_0 = 50
                                                                    · rw [if_pos c73] at H
                                                                      have c73b0 : (a0_0 == 50) = true := beq_iff_eq.mpr c73
                                                                      have c73b1 : (a0_0 != 50) = false := bne_eq_false_iff_eq.mpr c73
                                                                      clear c73
                                                                      replace H := Option.bind_eq_some_iff.mp H
                                                                      obtain ⟨t212, A740, H⟩ := H
                                                                      replace H : (some (t212, true)) = some (r1, r2) := H
                                                                      have A74 := Aside0.mk A740
                                                                      clear A740
                                                                      simp only [Option.some.injEq, Prod.mk.injEq] at H
                                                                      obtain ⟨rfl, rfl⟩ := H
                                                                      go_wp2_with (first | ((with_reducible refine gate_callee (f := 27) rfl ?_); refine goesL_ (some 215) rfl rfl Try.func27 (by kernel_rfl) rfl #[.int .u64 a1, .int .u64 a2] rfl (by (try simp only [List.map_toArray, List.map_cons, List.map_nil]); first | done | rfl | (simp only [List.length_drop, List.length_take]; rfl)) ?_; (with_reducible refine (mezzanineref02_Mul.calls a1 a2 t212 _ A74.out).mono ?_); rintro e w75 ⟨rfl, hb⟩; refine ⟨_, rfl, ?_⟩; have n0_ := Aside0.mk (blk_below (g := gb182) (o := .cells #[.int .i64 a0_0, .int .i64 a0_1, .int .i64 a0_2, .int .i64 a0_3, .int .i64 a0_4, .int .i64 a0_5, .bool a0_6, .bool a0_7] 23 (0, 0)) (by (with_reducible repeat (first | refine blk_drewN ?_ _ | refine blk_drew ?_ | refine blk_alloc ?_ _)); exact BK182.out) hb); have n1_ := Aside0.mk (below_step (by repeat (first | (with_reducible first | exact HB.out | apply below_alloc | apply pw_below_drewN | apply below_drew1 | refine below_set ?_ GE182.out) | exact HB.out)) hb); clear BK182; clear HB; have BK182 := n0_; have HB := n1_; clear n0_ n1_; (try clear hb); (try clear hb2); (try clear hk); (try clear hi)))
                                                                      go_ret2
                                                                      exact ⟨by first | rfl | (simp [errW_none, errW_some] <;> rfl) | (simp [*, errW_none, errW_some] <;> rfl), by repeat (first | (with_reducible first | exact HB.out | apply below_alloc | apply pw_below_drewN | apply below_drew1 | refine below_set ?_ GE182.out) | exact HB.out)⟩
                                                                    · rw [if_neg c73] at H
                                                                      have c73b0 : (a0_0 == 50) = false := beq_eq_false_iff_ne.mpr c73
                                                                      have c73b1 : (a0_0 != 50) = true := bne_iff_ne.mpr c73
                                                                      by_cases c76 : a0_0 = 51
                                                                      · rw [if_pos c76] at H
                                                                        have c76b0 : (a0_0 == 51) = true := beq_iff_eq.mpr c76
                                                                        have c76b1 : (a0_0 != 51) = false := bne_eq_false_iff_eq.mpr c76
                                                                        clear c76
                                                                        replace H := Option.bind_eq_some_iff.mp H
                                                                        obtain ⟨t213, A770, H⟩ := H
                                                                        replace H : (some (t213, true)) = some (r1, r2) := H
                                                                        have A77 := Aside0.mk A770
                                                                        clear A770
                                                                        simp only [Option.some.injEq, Prod.mk.injEq] at H
                                                                        obtain ⟨rfl, rfl⟩ := H
                                                                        go_wp2_with (first | ((with_reducible refine gate_callee (f := 28) rfl ?_); refine goesL_ (some 220) rfl rfl Try.func28 (by kernel_rfl) rfl #[.int .u64 a1, .int .u64 a2] rfl (by (try simp only [List.map_toArray, List.map_cons, List.map_nil]); first | done | rfl | (simp only [List.length_drop, List.length_take]; rfl)) ?_; (with_reducible refine (mezzanineref02_Mulh.calls kj10 a1 a2 t213 _ A77.out).mono ?_); rintro e w78 ⟨rfl, hb⟩; refine ⟨_, rfl, ?_⟩; have n0_ := Aside0.mk (blk_below (g := gb182) (o := .cells #[.int .i64 a0_0, .int .i64 a0_1, .int .i64 a0_2, .int .i64 a0_3, .int .i64 a0_4, .int .i64 a0_5, .bool a0_6, .bool a0_7] 23 (0, 0)) (by (with_reducible repeat (first | refine blk_drewN ?_ _ | refine blk_drew ?_ | refine blk_alloc ?_ _)); exact BK182.out) hb); have n1_ := Aside0.mk (below_step (by repeat (first | (with_reducible first | exact HB.out | apply below_alloc | apply pw_below_drewN | apply below_drew1 | refine below_set ?_ GE182.out) | exact HB.out)) hb); clear BK182; clear HB; have BK182 := n0_; have HB := n1_; clear n0_ n1_; (try clear hb); (try clear hb2); (try clear hk); (try clear hi)))
                                                                        go_ret2
                                                                        exact ⟨by first | rfl | (simp [errW_none, errW_some] <;> rfl) | (simp [*, errW_none, errW_some] <;> rfl), by repeat (first | (with_reducible first | exact HB.out | apply below_alloc | apply pw_below_drewN | apply below_drew1 | refine below_set ?_ GE182.out) | exact HB.out)⟩
                                                                      · rw [if_neg c76] at H
                                                                        have c76b0 : (a0_0 == 51) = false := beq_eq_false_iff_ne.mpr c76
                                                                        have c76b1 : (a0_0 != 51) = true := bne_iff_ne.mpr c76
                                                                        by_cases c79 : a0_0 = 52
                                                                        · rw [if_pos c79] at H
                                                                          have c79b0 : (a0_0 == 52) = true := beq_iff_eq.mpr c79
                                                                          have c79b1 : (a0_0 != 52) = false := bne_eq_false_iff_eq.mpr c79
                                                                          clear c79
                                                                          replace H := Option.bind_eq_some_iff.mp H
                                                                          obtain ⟨t214, A800, H⟩ := H
                                                                          replace H : (some (t214, true)) = some (r1, r2) := H
                                                                          have A80 := Aside0.mk A800
                                                                          clear A800
                                                                          simp only [Option.some.injEq, Prod.mk.injEq] at H
                                                                          obtain ⟨rfl, rfl⟩ := H
                                                                          go_wp2_with (first | ((with_reducible refine gate_callee (f := 29) rfl ?_); refine goesL_ (some 225) rfl rfl Try.func29 (by kernel_rfl) rfl #[.int .u64 a1, .int .u64 a2] rfl (by (try simp only [List.map_toArray, List.map_cons, List.map_nil]); first | done | rfl | (simp only [List.length_drop, List.length_take]; rfl)) ?_; (with_reducible refine (mezzanineref02_Mulhsu.calls kj10 a1 a2 t214 _ A80.out).mono ?_); rintro e w81 ⟨rfl, hb⟩; refine ⟨_, rfl, ?_⟩; have n0_ := Aside0.mk (blk_below (g := gb182) (o := .cells #[.int .i64 a0_0, .int .i64 a0_1, .int .i64 a0_2, .int .i64 a0_3, .int .i64 a0_4, .int .i64 a0_5, .bool a0_6, .bool a0_7] 23 (0, 0)) (by (with_reducible repeat (first | refine blk_drewN ?_ _ | refine blk_drew ?_ | refine blk_alloc ?_ _)); exact BK182.out) hb); have n1_ := Aside0.mk (below_step (by repeat (first | (with_reducible first | exact HB.out | apply below_alloc | apply pw_below_drewN | apply below_drew1 | refine below_set ?_ GE182.out) | exact HB.out)) hb); clear BK182; clear HB; have BK182 := n0_; have HB := n1_; clear n0_ n1_; (try clear hb); (try clear hb2); (try clear hk); (try clear hi)))
                                                                          go_ret2
                                                                          exact ⟨by first | rfl | (simp [errW_none, errW_some] <;> rfl) | (simp [*, errW_none, errW_some] <;> rfl), by repeat (first | (with_reducible first | exact HB.out | apply below_alloc | apply pw_below_drewN | apply below_drew1 | refine below_set ?_ GE182.out) | exact HB.out)⟩
                                                                        · rw [if_neg c79] at H
                                                                          have c79b0 : (a0_0 == 52) = false := beq_eq_false_iff_ne.mpr c79
                                                                          have c79b1 : (a0_0 != 52) = true := bne_iff_ne.mpr c79
                                                                          by_cases c82 : a0_0 = 53
                                                                          · rw [if_pos c82] at H
                                                                            have c82b0 : (a0_0 == 53) = true := beq_iff_eq.mpr c82
                                                                            have c82b1 : (a0_0 != 53) = false := bne_eq_false_iff_eq.mpr c82
                                                                            clear c82
                                                                            replace H := Option.bind_eq_some_iff.mp H
                                                                            obtain ⟨t215, A830, H⟩ := H
                                                                            replace H : (some (t215, true)) = some (r1, r2) := H
                                                                            have A83 := Aside0.mk A830
                                                                            clear A830
                                                                            simp only [Option.some.injEq, Prod.mk.injEq] at H
                                                                            obtain ⟨rfl, rfl⟩ := H
                                                                            go_wp2_with (first | ((with_reducible refine gate_callee (f := 30) rfl ?_); refine goesL_ (some 230) rfl rfl Try.func30 (by kernel_rfl) rfl #[.int .u64 a1, .int .u64 a2] rfl (by (try simp only [List.map_toArray, List.map_cons, List.map_nil]); first | done | rfl | (simp only [List.length_drop, List.length_take]; rfl)) ?_; (with_reducible refine (mezzanineref02_Mulhu.calls kj10 a1 a2 t215 _ A83.out).mono ?_); rintro e w84 ⟨rfl, hb⟩; refine ⟨_, rfl, ?_⟩; have n0_ := Aside0.mk (blk_below (g := gb182) (o := .cells #[.int .i64 a0_0, .int .i64 a0_1, .int .i64 a0_2, .int .i64 a0_3, .int .i64 a0_4, .int .i64 a0_5, .bool a0_6, .bool a0_7] 23 (0, 0)) (by (with_reducible repeat (first | refine blk_drewN ?_ _ | refine blk_drew ?_ | refine blk_alloc ?_ _)); exact BK182.out) hb); have n1_ := Aside0.mk (below_step (by repeat (first | (with_reducible first | exact HB.out | apply below_alloc | apply pw_below_drewN | apply below_drew1 | refine below_set ?_ GE182.out) | exact HB.out)) hb); clear BK182; clear HB; have BK182 := n0_; have HB := n1_; clear n0_ n1_; (try clear hb); (try clear hb2); (try clear hk); (try clear hi)))
                                                                            go_ret2
                                                                            exact ⟨by first | rfl | (simp [errW_none, errW_some] <;> rfl) | (simp [*, errW_none, errW_some] <;> rfl), by repeat (first | (with_reducible first | exact HB.out | apply below_alloc | apply pw_below_drewN | apply below_drew1 | refine below_set ?_ GE182.out) | exact HB.out)⟩
                                                                          · rw [if_neg c82] at H
                                                                            have c82b0 : (a0_0 == 53) = false := beq_eq_false_iff_ne.mpr c82
                                                                            have c82b1 : (a0_0 != 53) = true := bne_iff_ne.mpr c82
                                                                            by_cases c85 : a0_0 = 54
                                                                            · rw [if_pos c85] at H
                                                                              have c85b0 : (a0_0 == 54) = true := beq_iff_eq.mpr c85
                                                                              have c85b1 : (a0_0 != 54) = false := bne_eq_false_iff_eq.mpr c85
                                                                              clear c85
                                                                              replace H := Option.bind_eq_some_iff.mp H
                                                                              obtain ⟨t216, A860, H⟩ := H
                                                                              replace H : (some (t216, true)) = some (r1, r2) := H
                                                                              have A86 := Aside0.mk A860
                                                                              clear A860
                                                                              simp only [Option.some.injEq, Prod.mk.injEq] at H
                                                                              obtain ⟨rfl, rfl⟩ := H
                                                                              go_wp2_with (first | ((with_reducible refine gate_callee (f := 31) rfl ?_); refine goesL_ (some 235) rfl rfl Try.func31 (by kernel_rfl) rfl #[.int .u64 a1, .int .u64 a2] rfl (by (try simp only [List.map_toArray, List.map_cons, List.map_nil]); first | done | rfl | (simp only [List.length_drop, List.length_take]; rfl)) ?_; (with_reducible refine (mezzanineref02_Div.calls a1 a2 t216 _ A86.out).mono ?_); rintro e w' ⟨rfl, ⟨nd, rfl⟩⟩; refine ⟨_, rfl, ?_⟩))
                                                                              go_ret2
                                                                              exact ⟨by first | rfl | (simp [errW_none, errW_some] <;> rfl) | (simp [*, errW_none, errW_some] <;> rfl), by repeat (first | (with_reducible first | exact HB.out | apply below_alloc | apply pw_below_drewN | apply below_drew1 | refine below_set ?_ GE182.out) | exact HB.out)⟩
                                                                            · rw [if_neg c85] at H
                                                                              have c85b0 : (a0_0 == 54) = false := beq_eq_false_iff_ne.mpr c85
                                                                              have c85b1 : (a0_0 != 54) = true := bne_iff_ne.mpr c85
                                                                              by_cases c87 : a0_0 = 55
                                                                              · rw [if_pos c87] at H
                                                                                have c87b0 : (a0_0 == 55) = true := beq_iff_eq.mpr c87
                                                                                have c87b1 : (a0_0 != 55) = false := bne_eq_false_iff_eq.mpr c87
                                                                                clear c87
                                                                                replace H := Option.bind_eq_some_iff.mp H
                                                                                obtain ⟨t217, A880, H⟩ := H
                                                                                replace H : (some (t217, true)) = some (r1, r2) := H
                                                                                have A88 := Aside0.mk A880
                                                                                clear A880
                                                                                simp only [Option.some.injEq, Prod.mk.injEq] at H
                                                                                obtain ⟨rfl, rfl⟩ := H
                                                                                go_wp2_with (first | ((with_reducible refine gate_callee (f := 32) rfl ?_); refine goesL_ (some 240) rfl rfl Try.func32 (by kernel_rfl) rfl #[.int .u64 a1, .int .u64 a2] rfl (by (try simp only [List.map_toArray, List.map_cons, List.map_nil]); first | done | rfl | (simp only [List.length_drop, List.length_take]; rfl)) ?_; (with_reducible refine (mezzanineref02_Divu.calls a1 a2 t217 _ A88.out).mono ?_); rintro e w' ⟨rfl, ⟨nd, rfl⟩⟩; refine ⟨_, rfl, ?_⟩))
                                                                                go_ret2
                                                                                exact ⟨by first | rfl | (simp [errW_none, errW_some] <;> rfl) | (simp [*, errW_none, errW_some] <;> rfl), by repeat (first | (with_reducible first | exact HB.out | apply below_alloc | apply pw_below_drewN | apply below_drew1 | refine below_set ?_ GE182.out) | exact HB.out)⟩
                                                                              · rw [if_neg c87] at H
                                                                                have c87b0 : (a0_0 == 55) = false := beq_eq_false_iff_ne.mpr c87
                                                                                have c87b1 : (a0_0 != 55) = true := bne_iff_ne.mpr c87
                                                                                by_cases c89 : a0_0 = 56
                                                                                · rw [if_pos c89] at H
                                                                                  have c89b0 : (a0_0 == 56) = true := beq_iff_eq.mpr c89
                                                                                  have c89b1 : (a0_0 != 56) = false := bne_eq_false_iff_eq.mpr c89
                                                                                  clear c89
                                                                                  replace H := Option.bind_eq_some_iff.mp H
                                                                                  obtain ⟨t218, A900, H⟩ := H
                                                                                  replace H : (some (t218, true)) = some (r1, r2) := H
                                                                                  have A90 := Aside0.mk A900
                                                                                  clear A900
                                                                                  simp only [Option.some.injEq, Prod.mk.injEq] at H
                                                                                  obtain ⟨rfl, rfl⟩ := H
                                                                                  go_wp2_with (first | ((with_reducible refine gate_callee (f := 33) rfl ?_); refine goesL_ (some 245) rfl rfl Try.func33 (by kernel_rfl) rfl #[.int .u64 a1, .int .u64 a2] rfl (by (try simp only [List.map_toArray, List.map_cons, List.map_nil]); first | done | rfl | (simp only [List.length_drop, List.length_take]; rfl)) ?_; (with_reducible refine (mezzanineref02_Rem.calls a1 a2 t218 _ A90.out).mono ?_); rintro e w' ⟨rfl, ⟨nd, rfl⟩⟩; refine ⟨_, rfl, ?_⟩))
                                                                                  go_ret2
                                                                                  exact ⟨by first | rfl | (simp [errW_none, errW_some] <;> rfl) | (simp [*, errW_none, errW_some] <;> rfl), by repeat (first | (with_reducible first | exact HB.out | apply below_alloc | apply pw_below_drewN | apply below_drew1 | refine below_set ?_ GE182.out) | exact HB.out)⟩
                                                                                · rw [if_neg c89] at H
                                                                                  have c89b0 : (a0_0 == 56) = false := beq_eq_false_iff_ne.mpr c89
                                                                                  have c89b1 : (a0_0 != 56) = true := bne_iff_ne.mpr c89
                                                                                  by_cases c91 : a0_0 = 57
                                                                                  · rw [if_pos c91] at H
                                                                                    have c91b0 : (a0_0 == 57) = true := beq_iff_eq.mpr c91
                                                                                    have c91b1 : (a0_0 != 57) = false := bne_eq_false_iff_eq.mpr c91
                                                                                    clear c91
                                                                                    replace H := Option.bind_eq_some_iff.mp H
                                                                                    obtain ⟨t219, A920, H⟩ := H
                                                                                    replace H : (some (t219, true)) = some (r1, r2) := H
                                                                                    have A92 := Aside0.mk A920
                                                                                    clear A920
                                                                                    simp only [Option.some.injEq, Prod.mk.injEq] at H
                                                                                    obtain ⟨rfl, rfl⟩ := H
                                                                                    go_wp2_with (first | ((with_reducible refine gate_callee (f := 34) rfl ?_); refine goesL_ (some 250) rfl rfl Try.func34 (by kernel_rfl) rfl #[.int .u64 a1, .int .u64 a2] rfl (by (try simp only [List.map_toArray, List.map_cons, List.map_nil]); first | done | rfl | (simp only [List.length_drop, List.length_take]; rfl)) ?_; (with_reducible refine (mezzanineref02_Remu.calls a1 a2 t219 _ A92.out).mono ?_); rintro e w' ⟨rfl, ⟨nd, rfl⟩⟩; refine ⟨_, rfl, ?_⟩))
                                                                                    go_ret2
                                                                                    exact ⟨by first | rfl | (simp [errW_none, errW_some] <;> rfl) | (simp [*, errW_none, errW_some] <;> rfl), by repeat (first | (with_reducible first | exact HB.out | apply below_alloc | apply pw_below_drewN | apply below_drew1 | refine below_set ?_ GE182.out) | exact HB.out)⟩
                                                                                  · rw [if_neg c91] at H
                                                                                    have c91b0 : (a0_0 == 57) = false := beq_eq_false_iff_ne.mpr c91
                                                                                    have c91b1 : (a0_0 != 57) = true := bne_iff_ne.mpr c91
                                                                                    by_cases c93 : a0_0 = 58
                                                                                    · rw [if_pos c93] at H
                                                                                      have c93b0 : (a0_0 == 58) = true := beq_iff_eq.mpr c93
                                                                                      have c93b1 : (a0_0 != 58) = false := bne_eq_false_iff_eq.mpr c93
                                                                                      clear c93
                                                                                      replace H := Option.bind_eq_some_iff.mp H
                                                                                      obtain ⟨t220, A940, H⟩ := H
                                                                                      replace H : (some (t220, true)) = some (r1, r2) := H
                                                                                      have A94 := Aside0.mk A940
                                                                                      clear A940
                                                                                      simp only [Option.some.injEq, Prod.mk.injEq] at H
                                                                                      obtain ⟨rfl, rfl⟩ := H
                                                                                      go_wp2_with (first | ((with_reducible refine gate_callee (f := 35) rfl ?_); refine goesL_ (some 255) rfl rfl Try.func35 (by kernel_rfl) rfl #[.int .u64 a1, .int .u64 a2] rfl (by (try simp only [List.map_toArray, List.map_cons, List.map_nil]); first | done | rfl | (simp only [List.length_drop, List.length_take]; rfl)) ?_; (with_reducible refine (mezzanineref02_Mulw.calls a1 a2 t220 _ A94.out).mono ?_); rintro e w95 ⟨rfl, hb⟩; refine ⟨_, rfl, ?_⟩; have n0_ := Aside0.mk (blk_below (g := gb182) (o := .cells #[.int .i64 a0_0, .int .i64 a0_1, .int .i64 a0_2, .int .i64 a0_3, .int .i64 a0_4, .int .i64 a0_5, .bool a0_6, .bool a0_7] 23 (0, 0)) (by (with_reducible repeat (first | refine blk_drewN ?_ _ | refine blk_drew ?_ | refine blk_alloc ?_ _)); exact BK182.out) hb); have n1_ := Aside0.mk (below_step (by repeat (first | (with_reducible first | exact HB.out | apply below_alloc | apply pw_below_drewN | apply below_drew1 | refine below_set ?_ GE182.out) | exact HB.out)) hb); clear BK182; clear HB; have BK182 := n0_; have HB := n1_; clear n0_ n1_; (try clear hb); (try clear hb2); (try clear hk); (try clear hi)))
                                                                                      go_ret2
                                                                                      exact ⟨by first | rfl | (simp [errW_none, errW_some] <;> rfl) | (simp [*, errW_none, errW_some] <;> rfl), by repeat (first | (with_reducible first | exact HB.out | apply below_alloc | apply pw_below_drewN | apply below_drew1 | refine below_set ?_ GE182.out) | exact HB.out)⟩
                                                                                    · rw [if_neg c93] at H
                                                                                      have c93b0 : (a0_0 == 58) = false := beq_eq_false_iff_ne.mpr c93
                                                                                      have c93b1 : (a0_0 != 58) = true := bne_iff_ne.mpr c93
                                                                                      by_cases c96 : a0_0 = 59
                                                                                      · rw [if_pos c96] at H
                                                                                        have c96b0 : (a0_0 == 59) = true := beq_iff_eq.mpr c96
                                                                                        have c96b1 : (a0_0 != 59) = false := bne_eq_false_iff_eq.mpr c96
                                                                                        clear c96
                                                                                        replace H := Option.bind_eq_some_iff.mp H
                                                                                        obtain ⟨t221, A970, H⟩ := H
                                                                                        replace H : (some (t221, true)) = some (r1, r2) := H
                                                                                        have A97 := Aside0.mk A970
                                                                                        clear A970
                                                                                        simp only [Option.some.injEq, Prod.mk.injEq] at H
                                                                                        obtain ⟨rfl, rfl⟩ := H
                                                                                        go_wp2_with (first | ((with_reducible refine gate_callee (f := 36) rfl ?_); refine goesL_ (some 260) rfl rfl Try.func36 (by kernel_rfl) rfl #[.int .u64 a1, .int .u64 a2] rfl (by (try simp only [List.map_toArray, List.map_cons, List.map_nil]); first | done | rfl | (simp only [List.length_drop, List.length_take]; rfl)) ?_; (with_reducible refine (mezzanineref02_Divw.calls a1 a2 t221 _ A97.out).mono ?_); rintro e w98 ⟨rfl, hb⟩; refine ⟨_, rfl, ?_⟩; have n0_ := Aside0.mk (blk_below (g := gb182) (o := .cells #[.int .i64 a0_0, .int .i64 a0_1, .int .i64 a0_2, .int .i64 a0_3, .int .i64 a0_4, .int .i64 a0_5, .bool a0_6, .bool a0_7] 23 (0, 0)) (by (with_reducible repeat (first | refine blk_drewN ?_ _ | refine blk_drew ?_ | refine blk_alloc ?_ _)); exact BK182.out) hb); have n1_ := Aside0.mk (below_step (by repeat (first | (with_reducible first | exact HB.out | apply below_alloc | apply pw_below_drewN | apply below_drew1 | refine below_set ?_ GE182.out) | exact HB.out)) hb); clear BK182; clear HB; have BK182 := n0_; have HB := n1_; clear n0_ n1_; (try clear hb); (try clear hb2); (try clear hk); (try clear hi)))
                                                                                        go_ret2
                                                                                        exact ⟨by first | rfl | (simp [errW_none, errW_some] <;> rfl) | (simp [*, errW_none, errW_some] <;> rfl), by repeat (first | (with_reducible first | exact HB.out | apply below_alloc | apply pw_below_drewN | apply below_drew1 | refine below_set ?_ GE182.out) | exact HB.out)⟩
                                                                                      · rw [if_neg c96] at H
                                                                                        have c96b0 : (a0_0 == 59) = false := beq_eq_false_iff_ne.mpr c96
                                                                                        have c96b1 : (a0_0 != 59) = true := bne_iff_ne.mpr c96
                                                                                        by_cases c99 : a0_0 = 60
                                                                                        · rw [if_pos c99] at H
                                                                                          have c99b0 : (a0_0 == 60) = true := beq_iff_eq.mpr c99
                                                                                          have c99b1 : (a0_0 != 60) = false := bne_eq_false_iff_eq.mpr c99
                                                                                          clear c99
                                                                                          replace H := Option.bind_eq_some_iff.mp H
                                                                                          obtain ⟨t222, A1000, H⟩ := H
                                                                                          replace H : (some (t222, true)) = some (r1, r2) := H
                                                                                          have A100 := Aside0.mk A1000
                                                                                          clear A1000
                                                                                          simp only [Option.some.injEq, Prod.mk.injEq] at H
                                                                                          obtain ⟨rfl, rfl⟩ := H
                                                                                          go_wp2_with (first | ((with_reducible refine gate_callee (f := 37) rfl ?_); refine goesL_ (some 265) rfl rfl Try.func37 (by kernel_rfl) rfl #[.int .u64 a1, .int .u64 a2] rfl (by (try simp only [List.map_toArray, List.map_cons, List.map_nil]); first | done | rfl | (simp only [List.length_drop, List.length_take]; rfl)) ?_; (with_reducible refine (mezzanineref02_Divuw.calls a1 a2 t222 _ A100.out).mono ?_); rintro e w101 ⟨rfl, hb⟩; refine ⟨_, rfl, ?_⟩; have n0_ := Aside0.mk (blk_below (g := gb182) (o := .cells #[.int .i64 a0_0, .int .i64 a0_1, .int .i64 a0_2, .int .i64 a0_3, .int .i64 a0_4, .int .i64 a0_5, .bool a0_6, .bool a0_7] 23 (0, 0)) (by (with_reducible repeat (first | refine blk_drewN ?_ _ | refine blk_drew ?_ | refine blk_alloc ?_ _)); exact BK182.out) hb); have n1_ := Aside0.mk (below_step (by repeat (first | (with_reducible first | exact HB.out | apply below_alloc | apply pw_below_drewN | apply below_drew1 | refine below_set ?_ GE182.out) | exact HB.out)) hb); clear BK182; clear HB; have BK182 := n0_; have HB := n1_; clear n0_ n1_; (try clear hb); (try clear hb2); (try clear hk); (try clear hi)))
                                                                                          go_ret2
                                                                                          exact ⟨by first | rfl | (simp [errW_none, errW_some] <;> rfl) | (simp [*, errW_none, errW_some] <;> rfl), by repeat (first | (with_reducible first | exact HB.out | apply below_alloc | apply pw_below_drewN | apply below_drew1 | refine below_set ?_ GE182.out) | exact HB.out)⟩
                                                                                        · rw [if_neg c99] at H
                                                                                          have c99b0 : (a0_0 == 60) = false := beq_eq_false_iff_ne.mpr c99
                                                                                          have c99b1 : (a0_0 != 60) = true := bne_iff_ne.mpr c99
                                                                                          by_cases c102 : a0_0 = 61
                                                                                          · rw [if_pos c102] at H
                                                                                            have c102b0 : (a0_0 == 61) = true := beq_iff_eq.mpr c102
                                                                                            have c102b1 : (a0_0 != 61) = false := bne_eq_false_iff_eq.mpr c102
                                                                                            clear c102
                                                                                            replace H := Option.bind_eq_some_iff.mp H
                                                                                            obtain ⟨t223, A1030, H⟩ := H
                                                                                            replace H : (some (t223, true)) = some (r1, r2) := H
                                                                                            have A103 := Aside0.mk A1030
                                                                                            clear A1030
                                                                                            simp only [Option.some.injEq, Prod.mk.injEq] at H
                                                                                            obtain ⟨rfl, rfl⟩ := H
                                                                                            go_wp2_with (first | ((with_reducible refine gate_callee (f := 38) rfl ?_); refine goesL_ (some 270) rfl rfl Try.func38 (by kernel_rfl) rfl #[.int .u64 a1, .int .u64 a2] rfl (by (try simp only [List.map_toArray, List.map_cons, List.map_nil]); first | done | rfl | (simp only [List.length_drop, List.length_take]; rfl)) ?_; (with_reducible refine (mezzanineref02_Remw.calls a1 a2 t223 _ A103.out).mono ?_); rintro e w104 ⟨rfl, hb⟩; refine ⟨_, rfl, ?_⟩; have n0_ := Aside0.mk (blk_below (g := gb182) (o := .cells #[.int .i64 a0_0, .int .i64 a0_1, .int .i64 a0_2, .int .i64 a0_3, .int .i64 a0_4, .int .i64 a0_5, .bool a0_6, .bool a0_7] 23 (0, 0)) (by (with_reducible repeat (first | refine blk_drewN ?_ _ | refine blk_drew ?_ | refine blk_alloc ?_ _)); exact BK182.out) hb); have n1_ := Aside0.mk (below_step (by repeat (first | (with_reducible first | exact HB.out | apply below_alloc | apply pw_below_drewN | apply below_drew1 | refine below_set ?_ GE182.out) | exact HB.out)) hb); clear BK182; clear HB; have BK182 := n0_; have HB := n1_; clear n0_ n1_; (try clear hb); (try clear hb2); (try clear hk); (try clear hi)))
                                                                                            go_ret2
                                                                                            exact ⟨by first | rfl | (simp [errW_none, errW_some] <;> rfl) | (simp [*, errW_none, errW_some] <;> rfl), by repeat (first | (with_reducible first | exact HB.out | apply below_alloc | apply pw_below_drewN | apply below_drew1 | refine below_set ?_ GE182.out) | exact HB.out)⟩
                                                                                          · rw [if_neg c102] at H
                                                                                            have c102b0 : (a0_0 == 61) = false := beq_eq_false_iff_ne.mpr c102
                                                                                            have c102b1 : (a0_0 != 61) = true := bne_iff_ne.mpr c102
                                                                                            by_cases c105 : a0_0 = 62
                                                                                            · rw [if_pos c105] at H
                                                                                              have c105b0 : (a0_0 == 62) = true := beq_iff_eq.mpr c105
                                                                                              have c105b1 : (a0_0 != 62) = false := bne_eq_false_iff_eq.mpr c105
                                                                                              clear c105
                                                                                              replace H := Option.bind_eq_some_iff.mp H
                                                                                              obtain ⟨t224, A1060, H⟩ := H
                                                                                              replace H : (some (t224, true)) = some (r1, r2) := H
                                                                                              have A106 := Aside0.mk A1060
                                                                                              clear A1060
                                                                                              simp only [Option.some.injEq, Prod.mk.injEq] at H
                                                                                              obtain ⟨rfl, rfl⟩ := H
                                                                                              go_wp2_with (first | ((with_reducible refine gate_callee (f := 39) rfl ?_); refine goesL_ (some 275) rfl rfl Try.func39 (by kernel_rfl) rfl #[.int .u64 a1, .int .u64 a2] rfl (by (try simp only [List.map_toArray, List.map_cons, List.map_nil]); first | done | rfl | (simp only [List.length_drop, List.length_take]; rfl)) ?_; (with_reducible refine (mezzanineref02_Remuw.calls a1 a2 t224 _ A106.out).mono ?_); rintro e w107 ⟨rfl, hb⟩; refine ⟨_, rfl, ?_⟩; have n0_ := Aside0.mk (blk_below (g := gb182) (o := .cells #[.int .i64 a0_0, .int .i64 a0_1, .int .i64 a0_2, .int .i64 a0_3, .int .i64 a0_4, .int .i64 a0_5, .bool a0_6, .bool a0_7] 23 (0, 0)) (by (with_reducible repeat (first | refine blk_drewN ?_ _ | refine blk_drew ?_ | refine blk_alloc ?_ _)); exact BK182.out) hb); have n1_ := Aside0.mk (below_step (by repeat (first | (with_reducible first | exact HB.out | apply below_alloc | apply pw_below_drewN | apply below_drew1 | refine below_set ?_ GE182.out) | exact HB.out)) hb); clear BK182; clear HB; have BK182 := n0_; have HB := n1_; clear n0_ n1_; (try clear hb); (try clear hb2); (try clear hk); (try clear hi)))
                                                                                              go_ret2
                                                                                              exact ⟨by first | rfl | (simp [errW_none, errW_some] <;> rfl) | (simp [*, errW_none, errW_some] <;> rfl), by repeat (first | (with_reducible first | exact HB.out | apply below_alloc | apply pw_below_drewN | apply below_drew1 | refine below_set ?_ GE182.out) | exact HB.out)⟩
                                                                                            · rw [if_neg c105] at H
                                                                                              have c105b0 : (a0_0 == 62) = false := beq_eq_false_iff_ne.mpr c105
                                                                                              have c105b1 : (a0_0 != 62) = true := bne_iff_ne.mpr c105
                                                                                              simp only [Option.some.injEq, Prod.mk.injEq] at H
                                                                                              obtain ⟨rfl, rfl⟩ := H
                                                                                              go_wp2
                                                                                              go_ret2
                                                                                              exact ⟨by first | rfl | (simp [errW_none, errW_some] <;> rfl) | (simp [*, errW_none, errW_some] <;> rfl), by repeat (first | (with_reducible first | exact HB.out | apply below_alloc | apply pw_below_drewN | apply below_drew1 | refine below_set ?_ GE182.out) | exact HB.out)⟩

end Go.Proofs.Ytbfdehkejohjhaa.Q
