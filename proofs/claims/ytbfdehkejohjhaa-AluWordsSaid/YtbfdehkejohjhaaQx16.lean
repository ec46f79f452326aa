/- Where the Lean function of a Go function gives a value, the Go call returns that value and changes nothing that was there: for every input. (By a program of this session, and by hand.) -/
import Derived.Test.YtbfdehkejohjhaaQx0
import Derived.Test.YtbfdehkejohjhaaQx5
import Derived.Test.YtbfdehkejohjhaaQx11
namespace Go.Proofs.Ytbfdehkejohjhaa.Q
open Go.RowKit Go.Proofs.YtbfdehkejohjhaaW.PrintWords Go.Proofs.YtbfdehkejohjhaaW.PrintLast Go.Proofs.YtbfdehkejohjhaaW.PrintMore
attribute [local go_sem] max2_int min2_int max_two min_two max_three min_three max_four min_four   -- for this text's walks alone
set_option linter.unusedVariables false
set_option linter.unusedSimpArgs false

/-! ### mezzaninelaw21_AluWords: function 7 -/
def mezzaninelaw21_AluWords.j0 : Nat → Int → Int → Int → Int → Int → Bool → Int → Int → Int → Int → Int → Int → Bool → Bool → Option (Bool)
  | 0, _, _, _, _, _, _, _, _, _, _, _, _, _, _ => none
  | k + 1, x1, x2, x3, x4, x5, x13, x286000, x286001, x286002, x286003, x286004, x286005, x286006, x286007 => if x13 = true then ((alu_Value.f k x286000 x286001 x286002 x286003 x286004 x286005 x286006 x286007 x1 x2 x5).bind fun bt286 => ((alu_Value.f k x286000 x286001 x286002 x286003 x286004 x286005 x286006 x286007 (Go.bits .or .u64 (Go.bits .and .u64 x1 4294967295) (IntKind.u64.wrap (x3 * 4294967296))) (Go.bits .or .u64 (Go.bits .and .u64 x2 4294967295) (IntKind.u64.wrap (x4 * 4294967296))) (IntKind.u64.wrap (x5 + x3))).bind fun bt288 => (if bt286.2 = true then (if bt288.2 = true then (if bt286.1 = bt288.1 then (if bt286.1 = (IntKind.u64.wrap (wrap64 (wrap32 (bt286.1)))) then ((mezzaninelaw21_wakes.f k).bind fun t290 => (some t290)) else (some false)) else (some false)) else (some false)) else (some false)))) else ((mezzaninelaw21_wakes.f k).bind fun t291 => (some t291))
def mezzaninelaw21_AluWords.f (k : Nat) (a0_0 : Int) (a0_1 : Int) (a0_2 : Int) (a0_3 : Int) (a0_4 : Int) (a0_5 : Int) (a0_6 : Bool) (a0_7 : Bool) (a1 : Int) (a2 : Int) (a3 : Int) (a4 : Int) (a5 : Int) : Option (Bool) := if a0_0 ≥ 31 then (if a0_0 ≤ 34 then (mezzaninelaw21_AluWords.j0 k a1 a2 a3 a4 a5 true a0_0 a0_1 a0_2 a0_3 a0_4 a0_5 a0_6 a0_7) else (if a0_0 ≥ 45 then (if a0_0 ≤ 49 then (mezzaninelaw21_AluWords.j0 k a1 a2 a3 a4 a5 true a0_0 a0_1 a0_2 a0_3 a0_4 a0_5 a0_6 a0_7) else (if a0_0 ≥ 58 then (mezzaninelaw21_AluWords.j0 k a1 a2 a3 a4 a5 (decide (a0_0 ≤ 62)) a0_0 a0_1 a0_2 a0_3 a0_4 a0_5 a0_6 a0_7) else (mezzaninelaw21_AluWords.j0 k a1 a2 a3 a4 a5 false a0_0 a0_1 a0_2 a0_3 a0_4 a0_5 a0_6 a0_7))) else (if a0_0 ≥ 58 then (mezzaninelaw21_AluWords.j0 k a1 a2 a3 a4 a5 (decide (a0_0 ≤ 62)) a0_0 a0_1 a0_2 a0_3 a0_4 a0_5 a0_6 a0_7) else (mezzaninelaw21_AluWords.j0 k a1 a2 a3 a4 a5 false a0_0 a0_1 a0_2 a0_3 a0_4 a0_5 a0_6 a0_7)))) else (if a0_0 ≥ 45 then (if a0_0 ≤ 49 then (mezzaninelaw21_AluWords.j0 k a1 a2 a3 a4 a5 true a0_0 a0_1 a0_2 a0_3 a0_4 a0_5 a0_6 a0_7) else (if a0_0 ≥ 58 then (mezzaninelaw21_AluWords.j0 k a1 a2 a3 a4 a5 (decide (a0_0 ≤ 62)) a0_0 a0_1 a0_2 a0_3 a0_4 a0_5 a0_6 a0_7) else (mezzaninelaw21_AluWords.j0 k a1 a2 a3 a4 a5 false a0_0 a0_1 a0_2 a0_3 a0_4 a0_5 a0_6 a0_7))) else (if a0_0 ≥ 58 then (mezzaninelaw21_AluWords.j0 k a1 a2 a3 a4 a5 (decide (a0_0 ≤ 62)) a0_0 a0_1 a0_2 a0_3 a0_4 a0_5 a0_6 a0_7) else (mezzaninelaw21_AluWords.j0 k a1 a2 a3 a4 a5 false a0_0 a0_1 a0_2 a0_3 a0_4 a0_5 a0_6 a0_7)))
theorem mezzaninelaw21_AluWords.mono_l : ∀ k, (∀ y0 y1 y2 y3 y4 y5 y6 y7 y8 y9 y10 y11 y12 y13, LeO (mezzaninelaw21_AluWords.j0 k y0 y1 y2 y3 y4 y5 y6 y7 y8 y9 y10 y11 y12 y13) (mezzaninelaw21_AluWords.j0 (k + 1) y0 y1 y2 y3 y4 y5 y6 y7 y8 y9 y10 y11 y12 y13))
  | 0 => fun _ _ _ _ _ _ _ _ _ _ _ _ _ _ r h => by simp [mezzaninelaw21_AluWords.j0] at h
  | k + 1 => by
    have ih0 := mezzaninelaw21_AluWords.mono_l k
    · intro y0 y1 y2 y3 y4 y5 y6 y7 y8 y9 y10 y11 y12 y13
      unfold mezzaninelaw21_AluWords.j0
      repeat' first
      | (with_reducible exact ih0 _ _ _ _ _ _ _ _ _ _ _ _ _ _)
      | (with_reducible exact alu_Value.mono _ _ _ _ _ _ _ _ _ _ _ _)
      | (with_reducible exact mezzaninelaw21_wakes.mono _)
      | (with_reducible exact LeO.refl _)
      | (with_reducible exact LeO.none _)
      | (with_reducible refine LeO.ite ?_ ?_)
      | (with_reducible refine LeO.bind ?_ (fun _ => ?_))
      | exact ih0 _ _ _ _ _ _ _ _ _ _ _ _ _ _
      | exact alu_Value.mono _ _ _ _ _ _ _ _ _ _ _ _
      | exact mezzaninelaw21_wakes.mono _
      | exact LeO.none _
      | refine LeO.ite ?_ ?_
      | refine LeO.bind ?_ (fun _ => ?_)
theorem mezzaninelaw21_AluWords.mono : ∀ a0 a1 a2 a3 a4 a5 a6 a7 a8 a9 a10 a11 a12 k, LeO (mezzaninelaw21_AluWords.f k a0 a1 a2 a3 a4 a5 a6 a7 a8 a9 a10 a11 a12) (mezzaninelaw21_AluWords.f (k + 1) a0 a1 a2 a3 a4 a5 a6 a7 a8 a9 a10 a11 a12) := by
  intro a0 a1 a2 a3 a4 a5 a6 a7 a8 a9 a10 a11 a12 k
  have ih0 := mezzaninelaw21_AluWords.mono_l k
  unfold mezzaninelaw21_AluWords.f
  repeat' first
      | (with_reducible exact ih0 _ _ _ _ _ _ _ _ _ _ _ _ _ _)
      | (with_reducible exact alu_Value.mono _ _ _ _ _ _ _ _ _ _ _ _)
      | (with_reducible exact mezzaninelaw21_wakes.mono _)
      | (with_reducible exact LeO.refl _)
      | (with_reducible exact LeO.none _)
      | (with_reducible refine LeO.ite ?_ ?_)
      | (with_reducible refine LeO.bind ?_ (fun _ => ?_))
      | exact ih0 _ _ _ _ _ _ _ _ _ _ _ _ _ _
      | exact alu_Value.mono _ _ _ _ _ _ _ _ _ _ _ _
      | exact mezzaninelaw21_wakes.mono _
      | exact LeO.none _
      | refine LeO.ite ?_ ?_
      | refine LeO.bind ?_ (fun _ => ?_)
set_option maxHeartbeats 8000000 in
set_option maxRecDepth 100000 in
theorem mezzaninelaw21_AluWords.calls (k : Nat) (a0_0 : Int) (a0_1 : Int) (a0_2 : Int) (a0_3 : Int) (a0_4 : Int) (a0_5 : Int) (a0_6 : Bool) (a0_7 : Bool) (a1 : Int) (a2 : Int) (a3 : Int) (a4 : Int) (a5 : Int) (r : Bool) (w : World) (ht : r = true) (h : mezzaninelaw21_AluWords.f k a0_0 a0_1 a0_2 a0_3 a0_4 a0_5 a0_6 a0_7 a1 a2 a3 a4 a5 = some r) :
    Calls Try.prog 7 #[.agg #[.int .i64 a0_0, .int .i64 a0_1, .int .i64 a0_2, .int .i64 a0_3, .int .i64 a0_4, .int .i64 a0_5, .bool a0_6, .bool a0_7], .int .u64 a1, .int .u64 a2, .int .u64 a3, .int .u64 a4, .int .u64 a5] w fun e w' => e = .returned (.bool r) ∧ Below w.heap.size w w' := by
  have hu23 := Try.underlying23
  have HB := Aside0.mk (Below.refl w.heap.size w)
  have HT := Aside0.mk ht
  clear ht
  have H : (if a0_0 ≥ 31 then (if a0_0 ≤ 34 then (mezzaninelaw21_AluWords.j0 k a1 a2 a3 a4 a5 true a0_0 a0_1 a0_2 a0_3 a0_4 a0_5 a0_6 a0_7) else (if a0_0 ≥ 45 then (if a0_0 ≤ 49 then (mezzaninelaw21_AluWords.j0 k a1 a2 a3 a4 a5 true a0_0 a0_1 a0_2 a0_3 a0_4 a0_5 a0_6 a0_7) else (if a0_0 ≥ 58 then (mezzaninelaw21_AluWords.j0 k a1 a2 a3 a4 a5 (decide (a0_0 ≤ 62)) a0_0 a0_1 a0_2 a0_3 a0_4 a0_5 a0_6 a0_7) else (mezzaninelaw21_AluWords.j0 k a1 a2 a3 a4 a5 false a0_0 a0_1 a0_2 a0_3 a0_4 a0_5 a0_6 a0_7))) else (if a0_0 ≥ 58 then (mezzaninelaw21_AluWords.j0 k a1 a2 a3 a4 a5 (decide (a0_0 ≤ 62)) a0_0 a0_1 a0_2 a0_3 a0_4 a0_5 a0_6 a0_7) else (mezzaninelaw21_AluWords.j0 k a1 a2 a3 a4 a5 false a0_0 a0_1 a0_2 a0_3 a0_4 a0_5 a0_6 a0_7)))) else (if a0_0 ≥ 45 then (if a0_0 ≤ 49 then (mezzaninelaw21_AluWords.j0 k a1 a2 a3 a4 a5 true a0_0 a0_1 a0_2 a0_3 a0_4 a0_5 a0_6 a0_7) else (if a0_0 ≥ 58 then (mezzaninelaw21_AluWords.j0 k a1 a2 a3 a4 a5 (decide (a0_0 ≤ 62)) a0_0 a0_1 a0_2 a0_3 a0_4 a0_5 a0_6 a0_7) else (mezzaninelaw21_AluWords.j0 k a1 a2 a3 a4 a5 false a0_0 a0_1 a0_2 a0_3 a0_4 a0_5 a0_6 a0_7))) else (if a0_0 ≥ 58 then (mezzaninelaw21_AluWords.j0 k a1 a2 a3 a4 a5 (decide (a0_0 ≤ 62)) a0_0 a0_1 a0_2 a0_3 a0_4 a0_5 a0_6 a0_7) else (mezzaninelaw21_AluWords.j0 k a1 a2 a3 a4 a5 false a0_0 a0_1 a0_2 a0_3 a0_4 a0_5 a0_6 a0_7)))) = some r := h
  clear h
  have HC7 := Aside0.mk H
  clear H
  go_enter Try.func7, Try.ntmps7
  go_upto_region 1 with (first | ((with_reducible refine gate_dst (N := 6) rfl ?_); refine box_event ?hg (N := 6) ?hd (cs := #[.int .i64 a0_0, .int .i64 a0_1, .int .i64 a0_2, .int .i64 a0_3, .int .i64 a0_4, .int .i64 a0_5, .bool a0_6, .bool a0_7]) (t := 23) ?hr ?_; (case hd => rfl); (case hg => rfl); (case hr => first | (go_simp; done) | (go_simp; rfl)); intro gb285 hg w8 hbox hb; have n0_ := Aside0.mk (below_step (by repeat (first | (with_reducible first | exact HB.out | apply below_alloc | apply pw_below_drewN | apply below_drew1) | exact HB.out)) hb); have n1_ := Aside0.mk (hbox); have n2_ := Aside0.mk ((by rw [hg]; exact (below_size (by repeat (first | (with_reducible first | exact HB.out | apply below_alloc | apply pw_below_drewN | apply below_drew1) | exact HB.out))) : w.heap.size ≤ gb285)); have n3_ := Aside0.mk ((by rw [hg]; exact (below_size (by repeat (first | (with_reducible first | exact HB.out | apply below_alloc | apply pw_below_drewN | apply below_drew1) | exact HB.out))) : w.heap.size ≤ gb285)); clear HB; have HB := n0_; have BK285 := n1_; have GW285 := n2_; have GE285 := n3_; clear n0_ n1_ n2_ n3_; clear hb hbox hg))
  (try simp only [Act.put, List.setIfInBounds_toArray, List.set_cons_zero, List.set_cons_succ])
  go_cut [13] (fun v13 wc => ∃ (kq : Nat) (x13_6 : Bool), v13 = .bool x13_6 ∧ Aside0 (mezzaninelaw21_AluWords.j0 kq a1 a2 a3 a4 a5 x13_6 a0_0 a0_1 a0_2 a0_3 a0_4 a0_5 a0_6 a0_7 = some r) ∧ Aside0 (kq ≤ k) ∧ Aside0 (wc.heap[gb285]? = some (.cells #[.int .i64 a0_0, .int .i64 a0_1, .int .i64 a0_2, .int .i64 a0_3, .int .i64 a0_4, .int .i64 a0_5, .bool a0_6, .bool a0_7] 23 (0, 0))) ∧ Aside0 (Below w.heap.size w wc))
  case first =>
    have H := HC7.out
    clear HC7
    by_cases c9 : a0_0 ≥ 31
    · rw [if_pos c9] at H
      have c9b0 : decide (31 ≤ a0_0) = true := decide_eq_true c9
      clear c9
      (first | rw [c9b0] | (simp only [i64_w, i32_w]; rw [c9b0]) | skip)
      by_cases c10 : a0_0 ≤ 34
      · rw [if_pos c10] at H
        have c10b0 : decide (a0_0 ≤ 34) = true := decide_eq_true c10
        clear c10
        have H' := Aside0.mk H
        clear H
        have hcz11_0 : w8.cell? ⟨gb285, 0, none⟩ = some (.int .i64 a0_0) := (blk_cell BK285.out 0).trans rfl
        have hcz11_1 : w8.cell? ⟨gb285, 1, none⟩ = some (.int .i64 a0_1) := (blk_cell BK285.out 1).trans rfl
        have hcz11_2 : w8.cell? ⟨gb285, 2, none⟩ = some (.int .i64 a0_2) := (blk_cell BK285.out 2).trans rfl
        have hcz11_3 : w8.cell? ⟨gb285, 3, none⟩ = some (.int .i64 a0_3) := (blk_cell BK285.out 3).trans rfl
        have hcz11_4 : w8.cell? ⟨gb285, 4, none⟩ = some (.int .i64 a0_4) := (blk_cell BK285.out 4).trans rfl
        have hcz11_5 : w8.cell? ⟨gb285, 5, none⟩ = some (.int .i64 a0_5) := (blk_cell BK285.out 5).trans rfl
        have hcz11_6 : w8.cell? ⟨gb285, 6, none⟩ = some (.bool a0_6) := (blk_cell BK285.out 6).trans rfl
        have hcz11_7 : w8.cell? ⟨gb285, 7, none⟩ = some (.bool a0_7) := (blk_cell BK285.out 7).trans rfl
        have hfz11_0 := blk_frozen BK285.out 0
        have hfz11_1 := blk_frozen BK285.out 1
        have hfz11_2 := blk_frozen BK285.out 2
        have hfz11_3 := blk_frozen BK285.out 3
        have hfz11_4 := blk_frozen BK285.out 4
        have hfz11_5 := blk_frozen BK285.out 5
        have hfz11_6 := blk_frozen BK285.out 6
        have hfz11_7 := blk_frozen BK285.out 7
        go_wp2
        go_meet
        case rel => exact ⟨_, (true), (by first | rfl | (simp; done) | (simp [*]; done)), H', ⟨by first | omega | exact Nat.le_refl _⟩, ⟨by (with_reducible repeat (first | refine blk_drewN ?_ _ | refine blk_drew ?_ | refine blk_alloc ?_ _)); exact BK285.out⟩, ⟨by repeat (first | (with_reducible first | exact HB.out | apply below_alloc | apply pw_below_drewN | apply below_drew1 | refine below_set ?_ GE285.out) | exact HB.out)⟩⟩
      · rw [if_neg c10] at H
        have c10b0 : decide (a0_0 ≤ 34) = false := decide_eq_false c10
        clear c10
        by_cases c12 : a0_0 ≥ 45
        · rw [if_pos c12] at H
          have c12b0 : decide (45 ≤ a0_0) = true := decide_eq_true c12
          clear c12
          by_cases c13 : a0_0 ≤ 49
          · rw [if_pos c13] at H
            have c13b0 : decide (a0_0 ≤ 49) = true := decide_eq_true c13
            clear c13
            have H' := Aside0.mk H
            clear H
            have hcz14_0 : w8.cell? ⟨gb285, 0, none⟩ = some (.int .i64 a0_0) := (blk_cell BK285.out 0).trans rfl
            have hcz14_1 : w8.cell? ⟨gb285, 1, none⟩ = some (.int .i64 a0_1) := (blk_cell BK285.out 1).trans rfl
            have hcz14_2 : w8.cell? ⟨gb285, 2, none⟩ = some (.int .i64 a0_2) := (blk_cell BK285.out 2).trans rfl
            have hcz14_3 : w8.cell? ⟨gb285, 3, none⟩ = some (.int .i64 a0_3) := (blk_cell BK285.out 3).trans rfl
            have hcz14_4 : w8.cell? ⟨gb285, 4, none⟩ = some (.int .i64 a0_4) := (blk_cell BK285.out 4).trans rfl
            have hcz14_5 : w8.cell? ⟨gb285, 5, none⟩ = some (.int .i64 a0_5) := (blk_cell BK285.out 5).trans rfl
            have hcz14_6 : w8.cell? ⟨gb285, 6, none⟩ = some (.bool a0_6) := (blk_cell BK285.out 6).trans rfl
            have hcz14_7 : w8.cell? ⟨gb285, 7, none⟩ = some (.bool a0_7) := (blk_cell BK285.out 7).trans rfl
            have hfz14_0 := blk_frozen BK285.out 0
            have hfz14_1 := blk_frozen BK285.out 1
            have hfz14_2 := blk_frozen BK285.out 2
            have hfz14_3 := blk_frozen BK285.out 3
            have hfz14_4 := blk_frozen BK285.out 4
            have hfz14_5 := blk_frozen BK285.out 5
            have hfz14_6 := blk_frozen BK285.out 6
            have hfz14_7 := blk_frozen BK285.out 7
            go_wp2
            go_meet
            case rel => exact ⟨_, (true), (by first | rfl | (simp; done) | (simp [*]; done)), H', ⟨by first | omega | exact Nat.le_refl _⟩, ⟨by (with_reducible repeat (first | refine blk_drewN ?_ _ | refine blk_drew ?_ | refine blk_alloc ?_ _)); exact BK285.out⟩, ⟨by repeat (first | (with_reducible first | exact HB.out | apply below_alloc | apply pw_below_drewN | apply below_drew1 | refine below_set ?_ GE285.out) | exact HB.out)⟩⟩
          · rw [if_neg c13] at H
            have c13b0 : decide (a0_0 ≤ 49) = false := decide_eq_false c13
            clear c13
            by_cases c15 : a0_0 ≥ 58
            · rw [if_pos c15] at H
              have c15b0 : decide (58 ≤ a0_0) = true := decide_eq_true c15
              clear c15
              have H' := Aside0.mk H
              clear H
              have hcz16_0 : w8.cell? ⟨gb285, 0, none⟩ = some (.int .i64 a0_0) := (blk_cell BK285.out 0).trans rfl
              have hcz16_1 : w8.cell? ⟨gb285, 1, none⟩ = some (.int .i64 a0_1) := (blk_cell BK285.out 1).trans rfl
              have hcz16_2 : w8.cell? ⟨gb285, 2, none⟩ = some (.int .i64 a0_2) := (blk_cell BK285.out 2).trans rfl
              have hcz16_3 : w8.cell? ⟨gb285, 3, none⟩ = some (.int .i64 a0_3) := (blk_cell BK285.out 3).trans rfl
              have hcz16_4 : w8.cell? ⟨gb285, 4, none⟩ = some (.int .i64 a0_4) := (blk_cell BK285.out 4).trans rfl
              have hcz16_5 : w8.cell? ⟨gb285, 5, none⟩ = some (.int .i64 a0_5) := (blk_cell BK285.out 5).trans rfl
              have hcz16_6 : w8.cell? ⟨gb285, 6, none⟩ = some (.bool a0_6) := (blk_cell BK285.out 6).trans rfl
              have hcz16_7 : w8.cell? ⟨gb285, 7, none⟩ = some (.bool a0_7) := (blk_cell BK285.out 7).trans rfl
              have hfz16_0 := blk_frozen BK285.out 0
              have hfz16_1 := blk_frozen BK285.out 1
              have hfz16_2 := blk_frozen BK285.out 2
              have hfz16_3 := blk_frozen BK285.out 3
              have hfz16_4 := blk_frozen BK285.out 4
              have hfz16_5 := blk_frozen BK285.out 5
              have hfz16_6 := blk_frozen BK285.out 6
              have hfz16_7 := blk_frozen BK285.out 7
              go_wp2
              go_meet
              case rel => exact ⟨_, (decide (a0_0 ≤ 62)), (by first | rfl | (simp; done) | (simp [*]; done)), H', ⟨by first | omega | exact Nat.le_refl _⟩, ⟨by (with_reducible repeat (first | refine blk_drewN ?_ _ | refine blk_drew ?_ | refine blk_alloc ?_ _)); exact BK285.out⟩, ⟨by repeat (first | (with_reducible first | exact HB.out | apply below_alloc | apply pw_below_drewN | apply below_drew1 | refine below_set ?_ GE285.out) | exact HB.out)⟩⟩
            · rw [if_neg c15] at H
              have c15b0 : decide (58 ≤ a0_0) = false := decide_eq_false c15
              clear c15
              have H' := Aside0.mk H
              clear H
              have hcz17_0 : w8.cell? ⟨gb285, 0, none⟩ = some (.int .i64 a0_0) := (blk_cell BK285.out 0).trans rfl
              have hcz17_1 : w8.cell? ⟨gb285, 1, none⟩ = some (.int .i64 a0_1) := (blk_cell BK285.out 1).trans rfl
              have hcz17_2 : w8.cell? ⟨gb285, 2, none⟩ = some (.int .i64 a0_2) := (blk_cell BK285.out 2).trans rfl
              have hcz17_3 : w8.cell? ⟨gb285, 3, none⟩ = some (.int .i64 a0_3) := (blk_cell BK285.out 3).trans rfl
              have hcz17_4 : w8.cell? ⟨gb285, 4, none⟩ = some (.int .i64 a0_4) := (blk_cell BK285.out 4).trans rfl
              have hcz17_5 : w8.cell? ⟨gb285, 5, none⟩ = some (.int .i64 a0_5) := (blk_cell BK285.out 5).trans rfl
              have hcz17_6 : w8.cell? ⟨gb285, 6, none⟩ = some (.bool a0_6) := (blk_cell BK285.out 6).trans rfl
              have hcz17_7 : w8.cell? ⟨gb285, 7, none⟩ = some (.bool a0_7) := (blk_cell BK285.out 7).trans rfl
              have hfz17_0 := blk_frozen BK285.out 0
              have hfz17_1 := blk_frozen BK285.out 1
              have hfz17_2 := blk_frozen BK285.out 2
              have hfz17_3 := blk_frozen BK285.out 3
              have hfz17_4 := blk_frozen BK285.out 4
              have hfz17_5 := blk_frozen BK285.out 5
              have hfz17_6 := blk_frozen BK285.out 6
              have hfz17_7 := blk_frozen BK285.out 7
              go_wp2
              go_meet
              case rel => exact ⟨_, (false), (by first | rfl | (simp; done) | (simp [*]; done)), H', ⟨by first | omega | exact Nat.le_refl _⟩, ⟨by (with_reducible repeat (first | refine blk_drewN ?_ _ | refine blk_drew ?_ | refine blk_alloc ?_ _)); exact BK285.out⟩, ⟨by repeat (first | (with_reducible first | exact HB.out | apply below_alloc | apply pw_below_drewN | apply below_drew1 | refine below_set ?_ GE285.out) | exact HB.out)⟩⟩
        · rw [if_neg c12] at H
          have c12b0 : decide (45 ≤ a0_0) = false := decide_eq_false c12
          clear c12
          by_cases c18 : a0_0 ≥ 58
          · rw [if_pos c18] at H
            have c18b0 : decide (58 ≤ a0_0) = true := decide_eq_true c18
            clear c18
            have H' := Aside0.mk H
            clear H
            have hcz19_0 : w8.cell? ⟨gb285, 0, none⟩ = some (.int .i64 a0_0) := (blk_cell BK285.out 0).trans rfl
            have hcz19_1 : w8.cell? ⟨gb285, 1, none⟩ = some (.int .i64 a0_1) := (blk_cell BK285.out 1).trans rfl
            have hcz19_2 : w8.cell? ⟨gb285, 2, none⟩ = some (.int .i64 a0_2) := (blk_cell BK285.out 2).trans rfl
            have hcz19_3 : w8.cell? ⟨gb285, 3, none⟩ = some (.int .i64 a0_3) := (blk_cell BK285.out 3).trans rfl
            have hcz19_4 : w8.cell? ⟨gb285, 4, none⟩ = some (.int .i64 a0_4) := (blk_cell BK285.out 4).trans rfl
            have hcz19_5 : w8.cell? ⟨gb285, 5, none⟩ = some (.int .i64 a0_5) := (blk_cell BK285.out 5).trans rfl
            have hcz19_6 : w8.cell? ⟨gb285, 6, none⟩ = some (.bool a0_6) := (blk_cell BK285.out 6).trans rfl
            have hcz19_7 : w8.cell? ⟨gb285, 7, none⟩ = some (.bool a0_7) := (blk_cell BK285.out 7).trans rfl
            have hfz19_0 := blk_frozen BK285.out 0
            have hfz19_1 := blk_frozen BK285.out 1
            have hfz19_2 := blk_frozen BK285.out 2
            have hfz19_3 := blk_frozen BK285.out 3
            have hfz19_4 := blk_frozen BK285.out 4
            have hfz19_5 := blk_frozen BK285.out 5
            have hfz19_6 := blk_frozen BK285.out 6
            have hfz19_7 := blk_frozen BK285.out 7
            go_wp2
            go_meet
            case rel => exact ⟨_, (decide (a0_0 ≤ 62)), (by first | rfl | (simp; done) | (simp [*]; done)), H', ⟨by first | omega | exact Nat.le_refl _⟩, ⟨by (with_reducible repeat (first | refine blk_drewN ?_ _ | refine blk_drew ?_ | refine blk_alloc ?_ _)); exact BK285.out⟩, ⟨by repeat (first | (with_reducible first | exact HB.out | apply below_alloc | apply pw_below_drewN | apply below_drew1 | refine below_set ?_ GE285.out) | exact HB.out)⟩⟩
          · rw [if_neg c18] at H
            have c18b0 : decide (58 ≤ a0_0) = false := decide_eq_false c18
            clear c18
            have H' := Aside0.mk H
            clear H
            have hcz20_0 : w8.cell? ⟨gb285, 0, none⟩ = some (.int .i64 a0_0) := (blk_cell BK285.out 0).trans rfl
            have hcz20_1 : w8.cell? ⟨gb285, 1, none⟩ = some (.int .i64 a0_1) := (blk_cell BK285.out 1).trans rfl
            have hcz20_2 : w8.cell? ⟨gb285, 2, none⟩ = some (.int .i64 a0_2) := (blk_cell BK285.out 2).trans rfl
            have hcz20_3 : w8.cell? ⟨gb285, 3, none⟩ = some (.int .i64 a0_3) := (blk_cell BK285.out 3).trans rfl
            have hcz20_4 : w8.cell? ⟨gb285, 4, none⟩ = some (.int .i64 a0_4) := (blk_cell BK285.out 4).trans rfl
            have hcz20_5 : w8.cell? ⟨gb285, 5, none⟩ = some (.int .i64 a0_5) := (blk_cell BK285.out 5).trans rfl
            have hcz20_6 : w8.cell? ⟨gb285, 6, none⟩ = some (.bool a0_6) := (blk_cell BK285.out 6).trans rfl
            have hcz20_7 : w8.cell? ⟨gb285, 7, none⟩ = some (.bool a0_7) := (blk_cell BK285.out 7).trans rfl
            have hfz20_0 := blk_frozen BK285.out 0
            have hfz20_1 := blk_frozen BK285.out 1
            have hfz20_2 := blk_frozen BK285.out 2
            have hfz20_3 := blk_frozen BK285.out 3
            have hfz20_4 := blk_frozen BK285.out 4
            have hfz20_5 := blk_frozen BK285.out 5
            have hfz20_6 := blk_frozen BK285.out 6
            have hfz20_7 := blk_frozen BK285.out 7
            go_wp2
            go_meet
            case rel => exact ⟨_, (false), (by first | rfl | (simp; done) | (simp [*]; done)), H', ⟨by first | omega | exact Nat.le_refl _⟩, ⟨by (with_reducible repeat (first | refine blk_drewN ?_ _ | refine blk_drew ?_ | refine blk_alloc ?_ _)); exact BK285.out⟩, ⟨by repeat (first | (with_reducible first | exact HB.out | apply below_alloc | apply pw_below_drewN | apply below_drew1 | refine below_set ?_ GE285.out) | exact HB.out)⟩⟩
    · rw [if_neg c9] at H
      have c9b0 : decide (31 ≤ a0_0) = false := decide_eq_false c9
      clear c9
      (first | rw [c9b0] | (simp only [i64_w, i32_w]; rw [c9b0]) | skip)
      by_cases c21 : a0_0 ≥ 45
      · rw [if_pos c21] at H
        have c21b0 : decide (45 ≤ a0_0) = true := decide_eq_true c21
        clear c21
        by_cases c22 : a0_0 ≤ 49
        · rw [if_pos c22] at H
          have c22b0 : decide (a0_0 ≤ 49) = true := decide_eq_true c22
          clear c22
          have H' := Aside0.mk H
          clear H
          have hcz23_0 : w8.cell? ⟨gb285, 0, none⟩ = some (.int .i64 a0_0) := (blk_cell BK285.out 0).trans rfl
          have hcz23_1 : w8.cell? ⟨gb285, 1, none⟩ = some (.int .i64 a0_1) := (blk_cell BK285.out 1).trans rfl
          have hcz23_2 : w8.cell? ⟨gb285, 2, none⟩ = some (.int .i64 a0_2) := (blk_cell BK285.out 2).trans rfl
          have hcz23_3 : w8.cell? ⟨gb285, 3, none⟩ = some (.int .i64 a0_3) := (blk_cell BK285.out 3).trans rfl
          have hcz23_4 : w8.cell? ⟨gb285, 4, none⟩ = some (.int .i64 a0_4) := (blk_cell BK285.out 4).trans rfl
          have hcz23_5 : w8.cell? ⟨gb285, 5, none⟩ = some (.int .i64 a0_5) := (blk_cell BK285.out 5).trans rfl
          have hcz23_6 : w8.cell? ⟨gb285, 6, none⟩ = some (.bool a0_6) := (blk_cell BK285.out 6).trans rfl
          have hcz23_7 : w8.cell? ⟨gb285, 7, none⟩ = some (.bool a0_7) := (blk_cell BK285.out 7).trans rfl
          have hfz23_0 := blk_frozen BK285.out 0
          have hfz23_1 := blk_frozen BK285.out 1
          have hfz23_2 := blk_frozen BK285.out 2
          have hfz23_3 := blk_frozen BK285.out 3
          have hfz23_4 := blk_frozen BK285.out 4
          have hfz23_5 := blk_frozen BK285.out 5
          have hfz23_6 := blk_frozen BK285.out 6
          have hfz23_7 := blk_frozen BK285.out 7
          go_wp2
          go_meet
          case rel => exact ⟨_, (true), (by first | rfl | (simp; done) | (simp [*]; done)), H', ⟨by first | omega | exact Nat.le_refl _⟩, ⟨by (with_reducible repeat (first | refine blk_drewN ?_ _ | refine blk_drew ?_ | refine blk_alloc ?_ _)); exact BK285.out⟩, ⟨by repeat (first | (with_reducible first | exact HB.out | apply below_alloc | apply pw_below_drewN | apply below_drew1 | refine below_set ?_ GE285.out) | exact HB.out)⟩⟩
        · rw [if_neg c22] at H
          have c22b0 : decide (a0_0 ≤ 49) = false := decide_eq_false c22
          clear c22
          by_cases c24 : a0_0 ≥ 58
          · rw [if_pos c24] at H
            have c24b0 : decide (58 ≤ a0_0) = true := decide_eq_true c24
            clear c24
            have H' := Aside0.mk H
            clear H
            have hcz25_0 : w8.cell? ⟨gb285, 0, none⟩ = some (.int .i64 a0_0) := (blk_cell BK285.out 0).trans rfl
            have hcz25_1 : w8.cell? ⟨gb285, 1, none⟩ = some (.int .i64 a0_1) := (blk_cell BK285.out 1).trans rfl
            have hcz25_2 : w8.cell? ⟨gb285, 2, none⟩ = some (.int .i64 a0_2) := (blk_cell BK285.out 2).trans rfl
            have hcz25_3 : w8.cell? ⟨gb285, 3, none⟩ = some (.int .i64 a0_3) := (blk_cell BK285.out 3).trans rfl
            have hcz25_4 : w8.cell? ⟨gb285, 4, none⟩ = some (.int .i64 a0_4) := (blk_cell BK285.out 4).trans rfl
            have hcz25_5 : w8.cell? ⟨gb285, 5, none⟩ = some (.int .i64 a0_5) := (blk_cell BK285.out 5).trans rfl
            have hcz25_6 : w8.cell? ⟨gb285, 6, none⟩ = some (.bool a0_6) := (blk_cell BK285.out 6).trans rfl
            have hcz25_7 : w8.cell? ⟨gb285, 7, none⟩ = some (.bool a0_7) := (blk_cell BK285.out 7).trans rfl
            have hfz25_0 := blk_frozen BK285.out 0
            have hfz25_1 := blk_frozen BK285.out 1
            have hfz25_2 := blk_frozen BK285.out 2
            have hfz25_3 := blk_frozen BK285.out 3
            have hfz25_4 := blk_frozen BK285.out 4
            have hfz25_5 := blk_frozen BK285.out 5
            have hfz25_6 := blk_frozen BK285.out 6
            have hfz25_7 := blk_frozen BK285.out 7
            go_wp2
            go_meet
            case rel => exact ⟨_, (decide (a0_0 ≤ 62)), (by first | rfl | (simp; done) | (simp [*]; done)), H', ⟨by first | omega | exact Nat.le_refl _⟩, ⟨by (with_reducible repeat (first | refine blk_drewN ?_ _ | refine blk_drew ?_ | refine blk_alloc ?_ _)); exact BK285.out⟩, ⟨by repeat (first | (with_reducible first | exact HB.out | apply below_alloc | apply pw_below_drewN | apply below_drew1 | refine below_set ?_ GE285.out) | exact HB.out)⟩⟩
          · rw [if_neg c24] at H
            have c24b0 : decide (58 ≤ a0_0) = false := decide_eq_false c24
            clear c24
            have H' := Aside0.mk H
            clear H
            have hcz26_0 : w8.cell? ⟨gb285, 0, none⟩ = some (.int .i64 a0_0) := (blk_cell BK285.out 0).trans rfl
            have hcz26_1 : w8.cell? ⟨gb285, 1, none⟩ = some (.int .i64 a0_1) := (blk_cell BK285.out 1).trans rfl
            have hcz26_2 : w8.cell? ⟨gb285, 2, none⟩ = some (.int .i64 a0_2) := (blk_cell BK285.out 2).trans rfl
            have hcz26_3 : w8.cell? ⟨gb285, 3, none⟩ = some (.int .i64 a0_3) := (blk_cell BK285.out 3).trans rfl
            have hcz26_4 : w8.cell? ⟨gb285, 4, none⟩ = some (.int .i64 a0_4) := (blk_cell BK285.out 4).trans rfl
            have hcz26_5 : w8.cell? ⟨gb285, 5, none⟩ = some (.int .i64 a0_5) := (blk_cell BK285.out 5).trans rfl
            have hcz26_6 : w8.cell? ⟨gb285, 6, none⟩ = some (.bool a0_6) := (blk_cell BK285.out 6).trans rfl
            have hcz26_7 : w8.cell? ⟨gb285, 7, none⟩ = some (.bool a0_7) := (blk_cell BK285.out 7).trans rfl
            have hfz26_0 := blk_frozen BK285.out 0
            have hfz26_1 := blk_frozen BK285.out 1
            have hfz26_2 := blk_frozen BK285.out 2
            have hfz26_3 := blk_frozen BK285.out 3
            have hfz26_4 := blk_frozen BK285.out 4
            have hfz26_5 := blk_frozen BK285.out 5
            have hfz26_6 := blk_frozen BK285.out 6
            have hfz26_7 := blk_frozen BK285.out 7
            go_wp2
            go_meet
            case rel => exact ⟨_, (false), (by first | rfl | (simp; done) | (simp [*]; done)), H', ⟨by first | omega | exact Nat.le_refl _⟩, ⟨by (with_reducible repeat (first | refine blk_drewN ?_ _ | refine blk_drew ?_ | refine blk_alloc ?_ _)); exact BK285.out⟩, ⟨by repeat (first | (with_reducible first | exact HB.out | apply below_alloc | apply pw_below_drewN | apply below_drew1 | refine below_set ?_ GE285.out) | exact HB.out)⟩⟩
      · rw [if_neg c21] at H
        have c21b0 : decide (45 ≤ a0_0) = false := decide_eq_false c21
        clear c21
        by_cases c27 : a0_0 ≥ 58
        · rw [if_pos c27] at H
          have c27b0 : decide (58 ≤ a0_0) = true := decide_eq_true c27
          clear c27
          have H' := Aside0.mk H
          clear H
          have hcz28_0 : w8.cell? ⟨gb285, 0, none⟩ = some (.int .i64 a0_0) := (blk_cell BK285.out 0).trans rfl
          have hcz28_1 : w8.cell? ⟨gb285, 1, none⟩ = some (.int .i64 a0_1) := (blk_cell BK285.out 1).trans rfl
          have hcz28_2 : w8.cell? ⟨gb285, 2, none⟩ = some (.int .i64 a0_2) := (blk_cell BK285.out 2).trans rfl
          have hcz28_3 : w8.cell? ⟨gb285, 3, none⟩ = some (.int .i64 a0_3) := (blk_cell BK285.out 3).trans rfl
          have hcz28_4 : w8.cell? ⟨gb285, 4, none⟩ = some (.int .i64 a0_4) := (blk_cell BK285.out 4).trans rfl
          have hcz28_5 : w8.cell? ⟨gb285, 5, none⟩ = some (.int .i64 a0_5) := (blk_cell BK285.out 5).trans rfl
          have hcz28_6 : w8.cell? ⟨gb285, 6, none⟩ = some (.bool a0_6) := (blk_cell BK285.out 6).trans rfl
          have hcz28_7 : w8.cell? ⟨gb285, 7, none⟩ = some (.bool a0_7) := (blk_cell BK285.out 7).trans rfl
          have hfz28_0 := blk_frozen BK285.out 0
          have hfz28_1 := blk_frozen BK285.out 1
          have hfz28_2 := blk_frozen BK285.out 2
          have hfz28_3 := blk_frozen BK285.out 3
          have hfz28_4 := blk_frozen BK285.out 4
          have hfz28_5 := blk_frozen BK285.out 5
          have hfz28_6 := blk_frozen BK285.out 6
          have hfz28_7 := blk_frozen BK285.out 7
          go_wp2
          go_meet
          case rel => exact ⟨_, (decide (a0_0 ≤ 62)), (by first | rfl | (simp; done) | (simp [*]; done)), H', ⟨by first | omega | exact Nat.le_refl _⟩, ⟨by (with_reducible repeat (first | refine blk_drewN ?_ _ | refine blk_drew ?_ | refine blk_alloc ?_ _)); exact BK285.out⟩, ⟨by repeat (first | (with_reducible first | exact HB.out | apply below_alloc | apply pw_below_drewN | apply below_drew1 | refine below_set ?_ GE285.out) | exact HB.out)⟩⟩
        · rw [if_neg c27] at H
          have c27b0 : decide (58 ≤ a0_0) = false := decide_eq_false c27
          clear c27
          have H' := Aside0.mk H
          clear H
          have hcz29_0 : w8.cell? ⟨gb285, 0, none⟩ = some (.int .i64 a0_0) := (blk_cell BK285.out 0).trans rfl
          have hcz29_1 : w8.cell? ⟨gb285, 1, none⟩ = some (.int .i64 a0_1) := (blk_cell BK285.out 1).trans rfl
          have hcz29_2 : w8.cell? ⟨gb285, 2, none⟩ = some (.int .i64 a0_2) := (blk_cell BK285.out 2).trans rfl
          have hcz29_3 : w8.cell? ⟨gb285, 3, none⟩ = some (.int .i64 a0_3) := (blk_cell BK285.out 3).trans rfl
          have hcz29_4 : w8.cell? ⟨gb285, 4, none⟩ = some (.int .i64 a0_4) := (blk_cell BK285.out 4).trans rfl
          have hcz29_5 : w8.cell? ⟨gb285, 5, none⟩ = some (.int .i64 a0_5) := (blk_cell BK285.out 5).trans rfl
          have hcz29_6 : w8.cell? ⟨gb285, 6, none⟩ = some (.bool a0_6) := (blk_cell BK285.out 6).trans rfl
          have hcz29_7 : w8.cell? ⟨gb285, 7, none⟩ = some (.bool a0_7) := (blk_cell BK285.out 7).trans rfl
          have hfz29_0 := blk_frozen BK285.out 0
          have hfz29_1 := blk_frozen BK285.out 1
          have hfz29_2 := blk_frozen BK285.out 2
          have hfz29_3 := blk_frozen BK285.out 3
          have hfz29_4 := blk_frozen BK285.out 4
          have hfz29_5 := blk_frozen BK285.out 5
          have hfz29_6 := blk_frozen BK285.out 6
          have hfz29_7 := blk_frozen BK285.out 7
          go_wp2
          go_meet
          case rel => exact ⟨_, (false), (by first | rfl | (simp; done) | (simp [*]; done)), H', ⟨by first | omega | exact Nat.le_refl _⟩, ⟨by (with_reducible repeat (first | refine blk_drewN ?_ _ | refine blk_drew ?_ | refine blk_alloc ?_ _)); exact BK285.out⟩, ⟨by repeat (first | (with_reducible first | exact HB.out | apply below_alloc | apply pw_below_drewN | apply below_drew1 | refine below_set ?_ GE285.out) | exact HB.out)⟩⟩
  case rest =>
    clear HC7
    try clear c1
    try clear c2
    try clear p2
    try clear c7
    try clear c9
    try clear c9b0
    try clear c10
    try clear c10b0
    try clear c12
    try clear c12b0
    try clear c13
    try clear c13b0
    try clear c15
    try clear c15b0
    try clear c18
    try clear c18b0
    try clear c21
    try clear c21b0
    try clear c22
    try clear c22b0
    try clear c24
    try clear c24b0
    try clear c27
    try clear c27b0
    try clear hcz11_0
    try clear hcz11_1
    try clear hcz11_2
    try clear hcz11_3
    try clear hcz11_4
    try clear hcz11_5
    try clear hcz11_6
    try clear hcz11_7
    try clear hcz14_0
    try clear hcz14_1
    try clear hcz14_2
    try clear hcz14_3
    try clear hcz14_4
    try clear hcz14_5
    try clear hcz14_6
    try clear hcz14_7
    try clear hcz16_0
    try clear hcz16_1
    try clear hcz16_2
    try clear hcz16_3
    try clear hcz16_4
    try clear hcz16_5
    try clear hcz16_6
    try clear hcz16_7
    try clear hcz17_0
    try clear hcz17_1
    try clear hcz17_2
    try clear hcz17_3
    try clear hcz17_4
    try clear hcz17_5
    try clear hcz17_6
    try clear hcz17_7
    try clear hcz19_0
    try clear hcz19_1
    try clear hcz19_2
    try clear hcz19_3
    try clear hcz19_4
    try clear hcz19_5
    try clear hcz19_6
    try clear hcz19_7
    try clear hcz20_0
    try clear hcz20_1
    try clear hcz20_2
    try clear hcz20_3
    try clear hcz20_4
    try clear hcz20_5
    try clear hcz20_6
    try clear hcz20_7
    try clear hcz23_0
    try clear hcz23_1
    try clear hcz23_2
    try clear hcz23_3
    try clear hcz23_4
    try clear hcz23_5
    try clear hcz23_6
    try clear hcz23_7
    try clear hcz25_0
    try clear hcz25_1
    try clear hcz25_2
    try clear hcz25_3
    try clear hcz25_4
    try clear hcz25_5
    try clear hcz25_6
    try clear hcz25_7
    try clear hcz26_0
    try clear hcz26_1
    try clear hcz26_2
    try clear hcz26_3
    try clear hcz26_4
    try clear hcz26_5
    try clear hcz26_6
    try clear hcz26_7
    try clear hcz28_0
    try clear hcz28_1
    try clear hcz28_2
    try clear hcz28_3
    try clear hcz28_4
    try clear hcz28_5
    try clear hcz28_6
    try clear hcz28_7
    try clear hcz29_0
    try clear hcz29_1
    try clear hcz29_2
    try clear hcz29_3
    try clear hcz29_4
    try clear hcz29_5
    try clear hcz29_6
    try clear hcz29_7
    try clear hfz11_0
    try clear hfz11_1
    try clear hfz11_2
    try clear hfz11_3
    try clear hfz11_4
    try clear hfz11_5
    try clear hfz11_6
    try clear hfz11_7
    try clear hfz14_0
    try clear hfz14_1
    try clear hfz14_2
    try clear hfz14_3
    try clear hfz14_4
    try clear hfz14_5
    try clear hfz14_6
    try clear hfz14_7
    try clear hfz16_0
    try clear hfz16_1
    try clear hfz16_2
    try clear hfz16_3
    try clear hfz16_4
    try clear hfz16_5
    try clear hfz16_6
    try clear hfz16_7
    try clear hfz17_0
    try clear hfz17_1
    try clear hfz17_2
    try clear hfz17_3
    try clear hfz17_4
    try clear hfz17_5
    try clear hfz17_6
    try clear hfz17_7
    try clear hfz19_0
    try clear hfz19_1
    try clear hfz19_2
    try clear hfz19_3
    try clear hfz19_4
    try clear hfz19_5
    try clear hfz19_6
    try clear hfz19_7
    try clear hfz20_0
    try clear hfz20_1
    try clear hfz20_2
    try clear hfz20_3
    try clear hfz20_4
    try clear hfz20_5
    try clear hfz20_6
    try clear hfz20_7
    try clear hfz23_0
    try clear hfz23_1
    try clear hfz23_2
    try clear hfz23_3
    try clear hfz23_4
    try clear hfz23_5
    try clear hfz23_6
    try clear hfz23_7
    try clear hfz25_0
    try clear hfz25_1
    try clear hfz25_2
    try clear hfz25_3
    try clear hfz25_4
    try clear hfz25_5
    try clear hfz25_6
    try clear hfz25_7
    try clear hfz26_0
    try clear hfz26_1
    try clear hfz26_2
    try clear hfz26_3
    try clear hfz26_4
    try clear hfz26_5
    try clear hfz26_6
    try clear hfz26_7
    try clear hfz28_0
    try clear hfz28_1
    try clear hfz28_2
    try clear hfz28_3
    try clear hfz28_4
    try clear hfz28_5
    try clear hfz28_6
    try clear hfz28_7
    try clear hfz29_0
    try clear hfz29_1
    try clear hfz29_2
    try clear hfz29_3
    try clear hfz29_4
    try clear hfz29_5
    try clear hfz29_6
    try clear hfz29_7
    obtain ⟨kq, x13_6, rfl, HA, HJ6, BK285, HB⟩ := hcut
    cases kq with
    | zero => exact absurd HA.out (by simp [mezzaninelaw21_AluWords.j0])
    | succ kj6 =>
      have H := HA.out
      clear HA
      simp only [mezzaninelaw21_AluWords.j0] at H
      by_cases c30 : x13_6 = true
      · subst c30
        have H1 : ((alu_Value.f kj6 a0_0 a0_1 a0_2 a0_3 a0_4 a0_5 a0_6 a0_7 a1 a2 a5).bind fun bt286 => ((alu_Value.f kj6 a0_0 a0_1 a0_2 a0_3 a0_4 a0_5 a0_6 a0_7 (Go.bits .or .u64 (Go.bits .and .u64 a1 4294967295) (IntKind.u64.wrap (a3 * 4294967296))) (Go.bits .or .u64 (Go.bits .and .u64 a2 4294967295) (IntKind.u64.wrap (a4 * 4294967296))) (IntKind.u64.wrap (a5 + a3))).bind fun bt288 => (if bt286.2 = true then (if bt288.2 = true then (if bt286.1 = bt288.1 then (if bt286.1 = (IntKind.u64.wrap (wrap64 (wrap32 (bt286.1)))) then ((mezzaninelaw21_wakes.f kj6).bind fun t290 => (some t290)) else (some false)) else (some false)) else (some false)) else (some false)))) = some r := by rw [if_pos rfl] at H; exact H
        clear H
        have H := H1
        clear H1
        replace H := Option.bind_eq_some_iff.mp H
        obtain ⟨⟨t286, t287⟩, A310, H⟩ := H
        replace H : ((alu_Value.f kj6 a0_0 a0_1 a0_2 a0_3 a0_4 a0_5 a0_6 a0_7 (Go.bits .or .u64 (Go.bits .and .u64 a1 4294967295) (IntKind.u64.wrap (a3 * 4294967296))) (Go.bits .or .u64 (Go.bits .and .u64 a2 4294967295) (IntKind.u64.wrap (a4 * 4294967296))) (IntKind.u64.wrap (a5 + a3))).bind fun bt288 => (if t287 = true then (if bt288.2 = true then (if t286 = bt288.1 then (if t286 = (IntKind.u64.wrap (wrap64 (wrap32 (t286)))) then ((mezzaninelaw21_wakes.f kj6).bind fun t290 => (some t290)) else (some false)) else (some false)) else (some false)) else (some false))) = some r := H
        have A31 := Aside0.mk A310
        clear A310
        replace H := Option.bind_eq_some_iff.mp H
        obtain ⟨⟨t288, t289⟩, A320, H⟩ := H
        replace H : (if t287 = true then (if t289 = true then (if t286 = t288 then (if t286 = (IntKind.u64.wrap (wrap64 (wrap32 (t286)))) then ((mezzaninelaw21_wakes.f kj6).bind fun t290 => (some t290)) else (some false)) else (some false)) else (some false)) else (some false)) = some r := H
        have A32 := Aside0.mk A320
        clear A320
        by_cases c33 : t287 = true
        · subst c33
          have H1 : (if t289 = true then (if t286 = t288 then (if t286 = (IntKind.u64.wrap (wrap64 (wrap32 (t286)))) then ((mezzaninelaw21_wakes.f kj6).bind fun t290 => (some t290)) else (some false)) else (some false)) else (some false)) = some r := by rw [if_pos rfl] at H; exact H
          clear H
          have H := H1
          clear H1
          by_cases c34 : t289 = true
          · subst c34
            have H1 : (if t286 = t288 then (if t286 = (IntKind.u64.wrap (wrap64 (wrap32 (t286)))) then ((mezzaninelaw21_wakes.f kj6).bind fun t290 => (some t290)) else (some false)) else (some false)) = some r := by rw [if_pos rfl] at H; exact H
            clear H
            have H := H1
            clear H1
            by_cases c35 : t286 = t288
            · rw [if_pos c35] at H
              have c35b0 : (t286 == t288) = true := beq_iff_eq.mpr c35
              have c35b1 : (t286 != t288) = false := bne_eq_false_iff_eq.mpr c35
              clear c35
              by_cases c36 : t286 = (IntKind.u64.wrap (wrap64 (wrap32 (t286))))
              · rw [if_pos c36] at H
                have c36b0 : (t286 == (IntKind.u64.wrap (wrap64 (wrap32 (t286))))) = true := beq_iff_eq.mpr c36
                have c36b1 : (t286 != (IntKind.u64.wrap (wrap64 (wrap32 (t286))))) = false := bne_eq_false_iff_eq.mpr c36
                clear c36
                replace H := Option.bind_eq_some_iff.mp H
                obtain ⟨t290, A370, H⟩ := H
                replace H : (some t290) = some r := H
                have A37 := Aside0.mk A370
                clear A370
                obtain rfl := Option.some.inj H
                have hcz38_0 : wc.cell? ⟨gb285, 0, none⟩ = some (.int .i64 a0_0) := (blk_cell BK285.out 0).trans rfl
                have hcz38_1 : wc.cell? ⟨gb285, 1, none⟩ = some (.int .i64 a0_1) := (blk_cell BK285.out 1).trans rfl
                have hcz38_2 : wc.cell? ⟨gb285, 2, none⟩ = some (.int .i64 a0_2) := (blk_cell BK285.out 2).trans rfl
                have hcz38_3 : wc.cell? ⟨gb285, 3, none⟩ = some (.int .i64 a0_3) := (blk_cell BK285.out 3).trans rfl
                have hcz38_4 : wc.cell? ⟨gb285, 4, none⟩ = some (.int .i64 a0_4) := (blk_cell BK285.out 4).trans rfl
                have hcz38_5 : wc.cell? ⟨gb285, 5, none⟩ = some (.int .i64 a0_5) := (blk_cell BK285.out 5).trans rfl
                have hcz38_6 : wc.cell? ⟨gb285, 6, none⟩ = some (.bool a0_6) := (blk_cell BK285.out 6).trans rfl
                have hcz38_7 : wc.cell? ⟨gb285, 7, none⟩ = some (.bool a0_7) := (blk_cell BK285.out 7).trans rfl
                have hfz38_0 := blk_frozen BK285.out 0
                have hfz38_1 := blk_frozen BK285.out 1
                have hfz38_2 := blk_frozen BK285.out 2
                have hfz38_3 := blk_frozen BK285.out 3
                have hfz38_4 := blk_frozen BK285.out 4
                have hfz38_5 := blk_frozen BK285.out 5
                have hfz38_6 := blk_frozen BK285.out 6
                have hfz38_7 := blk_frozen BK285.out 7
                go_wp2_with (first | ((with_reducible refine gate_callee (f := 9) rfl ?_); refine goesL_ (some 54) rfl rfl Try.func9 (by kernel_rfl) rfl #[.agg #[.int .i64 a0_0, .int .i64 a0_1, .int .i64 a0_2, .int .i64 a0_3, .int .i64 a0_4, .int .i64 a0_5, .bool a0_6, .bool a0_7], .int .u64 a1, .int .u64 a2, .int .u64 a5] rfl (by (try simp only [List.map_toArray, List.map_cons, List.map_nil]); first | done | rfl | (simp only [List.length_drop, List.length_take]; rfl)) ?_; (with_reducible refine (alu_Value.calls kj6 a0_0 a0_1 a0_2 a0_3 a0_4 a0_5 a0_6 a0_7 a1 a2 a5 t286 true _ A31.out).mono ?_); rintro e w39 ⟨rfl, hb⟩; refine ⟨_, rfl, ?_⟩; have n0_ := Aside0.mk (blk_below (g := gb285) (o := .cells #[.int .i64 a0_0, .int .i64 a0_1, .int .i64 a0_2, .int .i64 a0_3, .int .i64 a0_4, .int .i64 a0_5, .bool a0_6, .bool a0_7] 23 (0, 0)) (by (with_reducible repeat (first | refine blk_drewN ?_ _ | refine blk_drew ?_ | refine blk_alloc ?_ _)); exact BK285.out) hb); have n1_ := Aside0.mk (below_step (by repeat (first | (with_reducible first | exact HB.out | apply below_alloc | apply pw_below_drewN | apply below_drew1 | refine below_set ?_ GE285.out) | exact HB.out)) hb); clear BK285; clear HB; have BK285 := n0_; have HB := n1_; clear n0_ n1_; (try clear hb); (try clear hb2); (try clear hk); (try clear hi); have hcz40_0 : w39.cell? ⟨gb285, 0, none⟩ = some (.int .i64 a0_0) := (blk_cell BK285.out 0).trans rfl; have hcz40_1 : w39.cell? ⟨gb285, 1, none⟩ = some (.int .i64 a0_1) := (blk_cell BK285.out 1).trans rfl; have hcz40_2 : w39.cell? ⟨gb285, 2, none⟩ = some (.int .i64 a0_2) := (blk_cell BK285.out 2).trans rfl; have hcz40_3 : w39.cell? ⟨gb285, 3, none⟩ = some (.int .i64 a0_3) := (blk_cell BK285.out 3).trans rfl; have hcz40_4 : w39.cell? ⟨gb285, 4, none⟩ = some (.int .i64 a0_4) := (blk_cell BK285.out 4).trans rfl; have hcz40_5 : w39.cell? ⟨gb285, 5, none⟩ = some (.int .i64 a0_5) := (blk_cell BK285.out 5).trans rfl; have hcz40_6 : w39.cell? ⟨gb285, 6, none⟩ = some (.bool a0_6) := (blk_cell BK285.out 6).trans rfl; have hcz40_7 : w39.cell? ⟨gb285, 7, none⟩ = some (.bool a0_7) := (blk_cell BK285.out 7).trans rfl; have hfz40_0 := blk_frozen BK285.out 0; have hfz40_1 := blk_frozen BK285.out 1; have hfz40_2 := blk_frozen BK285.out 2; have hfz40_3 := blk_frozen BK285.out 3; have hfz40_4 := blk_frozen BK285.out 4; have hfz40_5 := blk_frozen BK285.out 5; have hfz40_6 := blk_frozen BK285.out 6; have hfz40_7 := blk_frozen BK285.out 7) | ((with_reducible refine gate_callee (f := 9) rfl ?_); refine goesL_ (some 72) rfl rfl Try.func9 (by kernel_rfl) rfl #[.agg #[.int .i64 a0_0, .int .i64 a0_1, .int .i64 a0_2, .int .i64 a0_3, .int .i64 a0_4, .int .i64 a0_5, .bool a0_6, .bool a0_7], .int .u64 (Go.bits .or .u64 (Go.bits .and .u64 a1 4294967295) (IntKind.u64.wrap (a3 * 4294967296))), .int .u64 (Go.bits .or .u64 (Go.bits .and .u64 a2 4294967295) (IntKind.u64.wrap (a4 * 4294967296))), .int .u64 (IntKind.u64.wrap (a5 + a3))] rfl (by (try simp only [List.map_toArray, List.map_cons, List.map_nil]); first | done | rfl | (simp only [List.length_drop, List.length_take]; rfl)) ?_; (with_reducible refine (alu_Value.calls kj6 a0_0 a0_1 a0_2 a0_3 a0_4 a0_5 a0_6 a0_7 (Go.bits .or .u64 (Go.bits .and .u64 a1 4294967295) (IntKind.u64.wrap (a3 * 4294967296))) (Go.bits .or .u64 (Go.bits .and .u64 a2 4294967295) (IntKind.u64.wrap (a4 * 4294967296))) (IntKind.u64.wrap (a5 + a3)) t288 true _ A32.out).mono ?_); rintro e w41 ⟨rfl, hb⟩; refine ⟨_, rfl, ?_⟩; have n0_ := Aside0.mk (blk_below (g := gb285) (o := .cells #[.int .i64 a0_0, .int .i64 a0_1, .int .i64 a0_2, .int .i64 a0_3, .int .i64 a0_4, .int .i64 a0_5, .bool a0_6, .bool a0_7] 23 (0, 0)) (by (with_reducible repeat (first | refine blk_drewN ?_ _ | refine blk_drew ?_ | refine blk_alloc ?_ _)); exact BK285.out) hb); have n1_ := Aside0.mk (below_step (by repeat (first | (with_reducible first | exact HB.out | apply below_alloc | apply pw_below_drewN | apply below_drew1 | refine below_set ?_ GE285.out) | exact HB.out)) hb); clear BK285; clear HB; have BK285 := n0_; have HB := n1_; clear n0_ n1_; (try clear hb); (try clear hb2); (try clear hk); (try clear hi)) | (go_at_call 11; (with_reducible refine (mezzaninelaw21_wakes.calls kj6  t290 _ A37.out).mono ?_); rintro e w42 ⟨rfl, hb⟩; have n0_ := Aside0.mk (blk_below (g := gb285) (o := .cells #[.int .i64 a0_0, .int .i64 a0_1, .int .i64 a0_2, .int .i64 a0_3, .int .i64 a0_4, .int .i64 a0_5, .bool a0_6, .bool a0_7] 23 (0, 0)) (by (with_reducible repeat (first | refine blk_drewN ?_ _ | refine blk_drew ?_ | refine blk_alloc ?_ _)); exact BK285.out) hb); have n1_ := Aside0.mk (below_step (by repeat (first | (with_reducible first | exact HB.out | apply below_alloc | apply pw_below_drewN | apply below_drew1 | refine below_set ?_ GE285.out) | exact HB.out)) hb); clear BK285; clear HB; have BK285 := n0_; have HB := n1_; clear n0_ n1_; (try clear hb); (try clear hb2); (try clear hk); (try clear hi)))
                go_ret
                exact ⟨by first | rfl | (simp [errW_none, errW_some] <;> rfl) | (simp [*, errW_none, errW_some] <;> rfl), by repeat (first | (with_reducible first | exact HB.out | apply below_alloc | apply pw_below_drewN | apply below_drew1 | refine below_set ?_ GE285.out) | exact HB.out)⟩
              · rw [if_neg c36] at H
                have c36b0 : (t286 == (IntKind.u64.wrap (wrap64 (wrap32 (t286))))) = false := beq_eq_false_iff_ne.mpr c36
                have c36b1 : (t286 != (IntKind.u64.wrap (wrap64 (wrap32 (t286))))) = true := bne_iff_ne.mpr c36
                exact absurd (Option.some.inj H) (by rw [HT.out]; decide)
            · rw [if_neg c35] at H
              have c35b0 : (t286 == t288) = false := beq_eq_false_iff_ne.mpr c35
              have c35b1 : (t286 != t288) = true := bne_iff_ne.mpr c35
              exact absurd (Option.some.inj H) (by rw [HT.out]; decide)
          · replace c34 := Bool.eq_false_iff.mpr c34
            subst c34
            have H1 : (some false) = some r := by rw [if_neg (show ¬ (false = true) by decide)] at H; exact H
            clear H
            have H := H1
            clear H1
            exact absurd (Option.some.inj H) (by rw [HT.out]; decide)
        · replace c33 := Bool.eq_false_iff.mpr c33
          subst c33
          have H1 : (some false) = some r := by rw [if_neg (show ¬ (false = true) by decide)] at H; exact H
          clear H
          have H := H1
          clear H1
          exact absurd (Option.some.inj H) (by rw [HT.out]; decide)
      · replace c30 := Bool.eq_false_iff.mpr c30
        subst c30
        have H1 : ((mezzaninelaw21_wakes.f kj6).bind fun t291 => (some t291)) = some r := by rw [if_neg (show ¬ (false = true) by decide)] at H; exact H
        clear H
        have H := H1
        clear H1
        replace H := Option.bind_eq_some_iff.mp H
        obtain ⟨t291, A430, H⟩ := H
        replace H : (some t291) = some r := H
        have A43 := Aside0.mk A430
        clear A430
        obtain rfl := Option.some.inj H
        go_wp2_with (first | ((with_reducible refine gate_callee (f := 11) rfl ?_); refine goesL_ (some 48) rfl rfl Try.func11 (by kernel_rfl) rfl #[] rfl (by (try simp only [List.map_toArray, List.map_cons, List.map_nil]); first | done | rfl | (simp only [List.length_drop, List.length_take]; rfl)) ?_; (with_reducible refine (mezzaninelaw21_wakes.calls kj6  t291 _ A43.out).mono ?_); rintro e w44 ⟨rfl, hb⟩; refine ⟨_, rfl, ?_⟩; have n0_ := Aside0.mk (blk_below (g := gb285) (o := .cells #[.int .i64 a0_0, .int .i64 a0_1, .int .i64 a0_2, .int .i64 a0_3, .int .i64 a0_4, .int .i64 a0_5, .bool a0_6, .bool a0_7] 23 (0, 0)) (by (with_reducible repeat (first | refine blk_drewN ?_ _ | refine blk_drew ?_ | refine blk_alloc ?_ _)); exact BK285.out) hb); have n1_ := Aside0.mk (below_step (by repeat (first | (with_reducible first | exact HB.out | apply below_alloc | apply pw_below_drewN | apply below_drew1 | refine below_set ?_ GE285.out) | exact HB.out)) hb); clear BK285; clear HB; have BK285 := n0_; have HB := n1_; clear n0_ n1_; (try clear hb); (try clear hb2); (try clear hk); (try clear hi)))
        go_ret
        exact ⟨by first | rfl | (simp [errW_none, errW_some] <;> rfl) | (simp [*, errW_none, errW_some] <;> rfl), by repeat (first | (with_reducible first | exact HB.out | apply below_alloc | apply pw_below_drewN | apply below_drew1 | refine below_set ?_ GE285.out) | exact HB.out)⟩

/-- THE ONE PURE STATEMENT of mezzaninelaw21_AluWords: yours. -/
def mezzaninelaw21_AluWords.Pure : Prop := ∀ (a0_0 : Int) (a0_1 : Int) (a0_2 : Int) (a0_3 : Int) (a0_4 : Int) (a0_5 : Int) (a0_6 : Bool) (a0_7 : Bool) (a1 : Int) (a2 : Int) (a3 : Int) (a4 : Int) (a5 : Int), (Lit.int .i64 a0_0).wf = true → (Lit.int .i64 a0_1).wf = true → (Lit.int .i64 a0_2).wf = true → (Lit.int .i64 a0_3).wf = true → (Lit.int .i64 a0_4).wf = true → (Lit.int .i64 a0_5).wf = true → (Lit.int .u64 a1).wf = true → (Lit.int .u64 a2).wf = true → (Lit.int .u64 a3).wf = true → (Lit.int .u64 a4).wf = true → (Lit.int .u64 a5).wf = true → ∃ k, mezzaninelaw21_AluWords.f k a0_0 a0_1 a0_2 a0_3 a0_4 a0_5 a0_6 a0_7 a1 a2 a3 a4 a5 = some true
theorem mezzaninelaw21_AluWords.walk (P : mezzaninelaw21_AluWords.Pure) (a0_0 : Int) (a0_1 : Int) (a0_2 : Int) (a0_3 : Int) (a0_4 : Int) (a0_5 : Int) (a0_6 : Bool) (a0_7 : Bool) (a1 : Int) (a2 : Int) (a3 : Int) (a4 : Int) (a5 : Int) (w : World) (w0_0 : (Lit.int .i64 a0_0).wf = true) (w0_1 : (Lit.int .i64 a0_1).wf = true) (w0_2 : (Lit.int .i64 a0_2).wf = true) (w0_3 : (Lit.int .i64 a0_3).wf = true) (w0_4 : (Lit.int .i64 a0_4).wf = true) (w0_5 : (Lit.int .i64 a0_5).wf = true) (w1 : (Lit.int .u64 a1).wf = true) (w2 : (Lit.int .u64 a2).wf = true) (w3 : (Lit.int .u64 a3).wf = true) (w4 : (Lit.int .u64 a4).wf = true) (w5 : (Lit.int .u64 a5).wf = true) :
    Calls Try.prog 7 #[.agg #[.int .i64 a0_0, .int .i64 a0_1, .int .i64 a0_2, .int .i64 a0_3, .int .i64 a0_4, .int .i64 a0_5, .bool a0_6, .bool a0_7], .int .u64 a1, .int .u64 a2, .int .u64 a3, .int .u64 a4, .int .u64 a5] w fun e w' => e = .returned (.bool true) ∧ Below w.heap.size w w' := by
  obtain ⟨k, h⟩ := P a0_0 a0_1 a0_2 a0_3 a0_4 a0_5 a0_6 a0_7 a1 a2 a3 a4 a5 w0_0 w0_1 w0_2 w0_3 w0_4 w0_5 w1 w2 w3 w4 w5
  refine (mezzaninelaw21_AluWords.calls k a0_0 a0_1 a0_2 a0_3 a0_4 a0_5 a0_6 a0_7 a1 a2 a3 a4 a5 true w rfl h).mono ?_
  rintro e w' ⟨rfl, hd⟩
  exact ⟨rfl, hd⟩

end Go.Proofs.Ytbfdehkejohjhaa.Q
