/- Where the Lean function of a Go function gives a value, the Go call returns that value and changes nothing that was there: for every input. (By a program of this session, and by hand.) -/
import Derived.Test.YteebgfcihoidmaaRQx0
namespace Go.Proofs.YteebgfcihoidmaaR.Q
open Go.RowKit Go.Proofs.YteebgfcihoidmaaRW.PrintWords Go.Proofs.YteebgfcihoidmaaRW.PrintLast Go.Proofs.YteebgfcihoidmaaRW.PrintMore
attribute [local go_sem] max2_int min2_int max_two min_two max_three min_three max_four min_four   -- for this text's walks alone
set_option linter.unusedVariables false
set_option linter.unusedSimpArgs false

/-! ### mezzanineref15_Entry_Allowed: function 22 -/
mutual
def mezzanineref15_Entry_Allowed.j0 : Nat → Bool → Bool → Bool → Bool → Bool → Bool → Bool → Bool → Bool → Int → Int → Int → Bool → Int → Bool → Bool → Bool → Bool → Option (Bool)
  | 0, _, _, _, _, _, _, _, _, _, _, _, _, _, _, _, _, _, _ => none
  | k + 1, x15, x144000, x144001, x144002, x144003, x144004, x144005, x144006, x144007, x144008, x144009, x145000, x145001, x145002, x145003, x145004, x145005, x145006 => if x15 = true then (some false) else (if x145002 = 0 then (mezzanineref15_Entry_Allowed.j1 k false x144000 x144001 x144002 x144003 x144004 x144005 x144006 x144007 x144008 x144009 x145000 x145001 x145002 x145003 x145004 x145005 x145006) else (if x144004 = true then (if x145000 = 2 then (mezzanineref15_Entry_Allowed.j1 k true x144000 x144001 x144002 x144003 x144004 x144005 x144006 x144007 x144008 x144009 x145000 x145001 x145002 x145003 x145004 x145005 x145006) else (mezzanineref15_Entry_Allowed.j1 k (!x145004) x144000 x144001 x144002 x144003 x144004 x144005 x144006 x144007 x144008 x144009 x145000 x145001 x145002 x145003 x145004 x145005 x145006)) else (mezzanineref15_Entry_Allowed.j1 k false x144000 x144001 x144002 x144003 x144004 x144005 x144006 x144007 x144008 x144009 x145000 x145001 x145002 x145003 x145004 x145005 x145006)))
def mezzanineref15_Entry_Allowed.j1 : Nat → Bool → Bool → Bool → Bool → Bool → Bool → Bool → Bool → Bool → Int → Int → Int → Bool → Int → Bool → Bool → Bool → Bool → Option (Bool)
  | 0, _, _, _, _, _, _, _, _, _, _, _, _, _, _, _, _, _, _ => none
  | k + 1, x32, x144000, x144001, x144002, x144003, x144004, x144005, x144006, x144007, x144008, x144009, x145000, x145001, x145002, x145003, x145004, x145005, x145006 => if x32 = true then (some false) else (if x145000 = 2 then (some x144003) else (if x145000 = 1 then (some x144002) else (if x145001 = true then (some x144003) else (if x144001 = true then (some true) else (if x144003 = true then (if x145005 = true then (some true) else (if x145003 = true then (some x145006) else (some false))) else (some false))))))
end
def mezzanineref15_Entry_Allowed.f (k : Nat) (a0_0 : Bool) (a0_1 : Bool) (a0_2 : Bool) (a0_3 : Bool) (a0_4 : Bool) (a0_5 : Bool) (a0_6 : Bool) (a0_7 : Bool) (a0_8 : Int) (a0_9 : Int) (a1_0 : Int) (a1_1 : Bool) (a1_2 : Int) (a1_3 : Bool) (a1_4 : Bool) (a1_5 : Bool) (a1_6 : Bool) : Option (Bool) := if a1_0 > 2 then (some false) else (if a1_2 = 0 then (mezzanineref15_Entry_Allowed.j0 k (!a0_4) a0_0 a0_1 a0_2 a0_3 a0_4 a0_5 a0_6 a0_7 a0_8 a0_9 a1_0 a1_1 a1_2 a1_3 a1_4 a1_5 a1_6) else (mezzanineref15_Entry_Allowed.j0 k false a0_0 a0_1 a0_2 a0_3 a0_4 a0_5 a0_6 a0_7 a0_8 a0_9 a1_0 a1_1 a1_2 a1_3 a1_4 a1_5 a1_6))
theorem mezzanineref15_Entry_Allowed.mono_l : ∀ k, (∀ y0 y1 y2 y3 y4 y5 y6 y7 y8 y9 y10 y11 y12 y13 y14 y15 y16 y17, LeO (mezzanineref15_Entry_Allowed.j0 k y0 y1 y2 y3 y4 y5 y6 y7 y8 y9 y10 y11 y12 y13 y14 y15 y16 y17) (mezzanineref15_Entry_Allowed.j0 (k + 1) y0 y1 y2 y3 y4 y5 y6 y7 y8 y9 y10 y11 y12 y13 y14 y15 y16 y17)) ∧ (∀ y0 y1 y2 y3 y4 y5 y6 y7 y8 y9 y10 y11 y12 y13 y14 y15 y16 y17, LeO (mezzanineref15_Entry_Allowed.j1 k y0 y1 y2 y3 y4 y5 y6 y7 y8 y9 y10 y11 y12 y13 y14 y15 y16 y17) (mezzanineref15_Entry_Allowed.j1 (k + 1) y0 y1 y2 y3 y4 y5 y6 y7 y8 y9 y10 y11 y12 y13 y14 y15 y16 y17))
  | 0 => ⟨fun _ _ _ _ _ _ _ _ _ _ _ _ _ _ _ _ _ _ r h => by simp [mezzanineref15_Entry_Allowed.j0] at h, fun _ _ _ _ _ _ _ _ _ _ _ _ _ _ _ _ _ _ r h => by simp [mezzanineref15_Entry_Allowed.j1] at h⟩
  | k + 1 => by
    obtain ⟨ih0, ih1⟩ := mezzanineref15_Entry_Allowed.mono_l k
    refine ⟨?_, ?_⟩
    · intro y0 y1 y2 y3 y4 y5 y6 y7 y8 y9 y10 y11 y12 y13 y14 y15 y16 y17
      unfold mezzanineref15_Entry_Allowed.j0
      repeat' first
      | (with_reducible exact ih0 _ _ _ _ _ _ _ _ _ _ _ _ _ _ _ _ _ _)
      | (with_reducible exact ih1 _ _ _ _ _ _ _ _ _ _ _ _ _ _ _ _ _ _)
      | (with_reducible exact LeO.refl _)
      | (with_reducible exact LeO.none _)
      | (with_reducible refine LeO.ite ?_ ?_)
      | (with_reducible refine LeO.bind ?_ (fun _ => ?_))
      | exact ih0 _ _ _ _ _ _ _ _ _ _ _ _ _ _ _ _ _ _
      | exact ih1 _ _ _ _ _ _ _ _ _ _ _ _ _ _ _ _ _ _
      | exact LeO.none _
      | refine LeO.ite ?_ ?_
      | refine LeO.bind ?_ (fun _ => ?_)
    · intro y0 y1 y2 y3 y4 y5 y6 y7 y8 y9 y10 y11 y12 y13 y14 y15 y16 y17
      unfold mezzanineref15_Entry_Allowed.j1
      repeat' first
      | (with_reducible exact ih0 _ _ _ _ _ _ _ _ _ _ _ _ _ _ _ _ _ _)
      | (with_reducible exact ih1 _ _ _ _ _ _ _ _ _ _ _ _ _ _ _ _ _ _)
      | (with_reducible exact LeO.refl _)
      | (with_reducible exact LeO.none _)
      | (with_reducible refine LeO.ite ?_ ?_)
      | (with_reducible refine LeO.bind ?_ (fun _ => ?_))
      | exact ih0 _ _ _ _ _ _ _ _ _ _ _ _ _ _ _ _ _ _
      | exact ih1 _ _ _ _ _ _ _ _ _ _ _ _ _ _ _ _ _ _
      | exact LeO.none _
      | refine LeO.ite ?_ ?_
      | refine LeO.bind ?_ (fun _ => ?_)
theorem mezzanineref15_Entry_Allowed.mono : ∀ a0 a1 a2 a3 a4 a5 a6 a7 a8 a9 a10 a11 a12 a13 a14 a15 a16 k, LeO (mezzanineref15_Entry_Allowed.f k a0 a1 a2 a3 a4 a5 a6 a7 a8 a9 a10 a11 a12 a13 a14 a15 a16) (mezzanineref15_Entry_Allowed.f (k + 1) a0 a1 a2 a3 a4 a5 a6 a7 a8 a9 a10 a11 a12 a13 a14 a15 a16) := by
  intro a0 a1 a2 a3 a4 a5 a6 a7 a8 a9 a10 a11 a12 a13 a14 a15 a16 k
  obtain ⟨ih0, ih1⟩ := mezzanineref15_Entry_Allowed.mono_l k
  unfold mezzanineref15_Entry_Allowed.f
  repeat' first
      | (with_reducible exact ih0 _ _ _ _ _ _ _ _ _ _ _ _ _ _ _ _ _ _)
      | (with_reducible exact ih1 _ _ _ _ _ _ _ _ _ _ _ _ _ _ _ _ _ _)
      | (with_reducible exact LeO.refl _)
      | (with_reducible exact LeO.none _)
      | (with_reducible refine LeO.ite ?_ ?_)
      | (with_reducible refine LeO.bind ?_ (fun _ => ?_))
      | exact ih0 _ _ _ _ _ _ _ _ _ _ _ _ _ _ _ _ _ _
      | exact ih1 _ _ _ _ _ _ _ _ _ _ _ _ _ _ _ _ _ _
      | exact LeO.none _
      | refine LeO.ite ?_ ?_
      | refine LeO.bind ?_ (fun _ => ?_)
set_option maxHeartbeats 8000000 in
set_option maxRecDepth 100000 in
theorem mezzanineref15_Entry_Allowed.calls (k : Nat) (a0_0 : Bool) (a0_1 : Bool) (a0_2 : Bool) (a0_3 : Bool) (a0_4 : Bool) (a0_5 : Bool) (a0_6 : Bool) (a0_7 : Bool) (a0_8 : Int) (a0_9 : Int) (a1_0 : Int) (a1_1 : Bool) (a1_2 : Int) (a1_3 : Bool) (a1_4 : Bool) (a1_5 : Bool) (a1_6 : Bool) (r : Bool) (w : World) (h : mezzanineref15_Entry_Allowed.f k a0_0 a0_1 a0_2 a0_3 a0_4 a0_5 a0_6 a0_7 a0_8 a0_9 a1_0 a1_1 a1_2 a1_3 a1_4 a1_5 a1_6 = some r) :
    Calls Try.prog 22 #[.agg #[.bool a0_0, .bool a0_1, .bool a0_2, .bool a0_3, .bool a0_4, .bool a0_5, .bool a0_6, .bool a0_7, .int .u64 a0_8, .int .u64 a0_9], .agg #[.int .u8 a1_0, .bool a1_1, .int .u8 a1_2, .bool a1_3, .bool a1_4, .bool a1_5, .bool a1_6]] w fun e w' => e = .returned (.bool r) ∧ Below w.heap.size w w' := by
  have hu24 := Try.underlying24
  have hu32 := Try.underlying32
  have HB := Aside0.mk (Below.refl w.heap.size w)
  have H : (if a1_0 > 2 then (some false) else (if a1_2 = 0 then (mezzanineref15_Entry_Allowed.j0 k (!a0_4) a0_0 a0_1 a0_2 a0_3 a0_4 a0_5 a0_6 a0_7 a0_8 a0_9 a1_0 a1_1 a1_2 a1_3 a1_4 a1_5 a1_6) else (mezzanineref15_Entry_Allowed.j0 k false a0_0 a0_1 a0_2 a0_3 a0_4 a0_5 a0_6 a0_7 a0_8 a0_9 a1_0 a1_1 a1_2 a1_3 a1_4 a1_5 a1_6))) = some r := h
  clear h
  by_cases c3 : a1_0 > 2
  · rw [if_pos c3] at H
    have c3b0 : decide (2 < a1_0) = true := decide_eq_true c3
    clear c3
    obtain rfl := Option.some.inj H
    go_enter Try.func22, Try.ntmps22
    go_wp2_with (first | ((with_reducible refine gate_dst (N := 2) rfl ?_); refine box_event ?hg (N := 2) ?hd (cs := #[.bool a0_0, .bool a0_1, .bool a0_2, .bool a0_3, .bool a0_4, .bool a0_5, .bool a0_6, .bool a0_7, .int .u64 a0_8, .int .u64 a0_9]) (t := 24) ?hr ?_; (case hd => rfl); (case hg => rfl); (case hr => first | (go_simp; done) | (go_simp; rfl)); intro gb143 hg w4 hbox hb; have n0_ := Aside0.mk (below_step (by repeat (first | (with_reducible first | exact HB.out | apply below_alloc | apply pw_below_drewN | apply below_drew1) | exact HB.out)) hb); have n1_ := Aside0.mk (hbox); have n2_ := Aside0.mk ((by rw [hg]; exact (below_size (by repeat (first | (with_reducible first | exact HB.out | apply below_alloc | apply pw_below_drewN | apply below_drew1) | exact HB.out))) : w.heap.size ≤ gb143)); have n3_ := Aside0.mk ((by rw [hg]; exact (below_size (by repeat (first | (with_reducible first | exact HB.out | apply below_alloc | apply pw_below_drewN | apply below_drew1) | exact HB.out))) : w.heap.size ≤ gb143)); clear HB; have HB := n0_; have BK143 := n1_; have GW143 := n2_; have GE143 := n3_; clear n0_ n1_ n2_ n3_; clear hb hbox hg) | ((with_reducible refine gate_dst (N := 3) rfl ?_); refine box_event ?hg (N := 3) ?hd (cs := #[.int .u8 a1_0, .bool a1_1, .int .u8 a1_2, .bool a1_3, .bool a1_4, .bool a1_5, .bool a1_6]) (t := 32) ?hr ?_; (case hd => rfl); (case hg => rfl); (case hr => first | (go_simp; done) | (go_simp; rfl)); intro gb144 hg w5 hbox hb; have n0_ := Aside0.mk (blk_below (g := gb143) (o := .cells #[.bool a0_0, .bool a0_1, .bool a0_2, .bool a0_3, .bool a0_4, .bool a0_5, .bool a0_6, .bool a0_7, .int .u64 a0_8, .int .u64 a0_9] 24 (0, 0)) (by (with_reducible repeat (first | refine blk_drewN ?_ _ | refine blk_drew ?_ | refine blk_alloc ?_ _)); exact BK143.out) hb); have n1_ := Aside0.mk (below_step (by repeat (first | (with_reducible first | exact HB.out | apply below_alloc | apply pw_below_drewN | apply below_drew1 | refine below_set ?_ GE143.out) | exact HB.out)) hb); have n2_ := Aside0.mk (hbox); have n3_ := Aside0.mk ((by rw [hg]; exact (below_size (by repeat (first | (with_reducible first | exact HB.out | apply below_alloc | apply pw_below_drewN | apply below_drew1 | refine below_set ?_ GE143.out) | exact HB.out))) : w.heap.size ≤ gb144)); have n4_ := Aside0.mk ((by rw [hg]; exact (below_size (by repeat (first | (with_reducible first | exact HB.out | apply below_alloc | apply pw_below_drewN | apply below_drew1 | refine below_set ?_ GE143.out) | exact HB.out))) : w.heap.size ≤ gb144)); have n5_ := Aside0.mk ((by rw [hg]; exact Nat.ne_of_lt (blk_lt (g := gb143) (o := .cells #[.bool a0_0, .bool a0_1, .bool a0_2, .bool a0_3, .bool a0_4, .bool a0_5, .bool a0_6, .bool a0_7, .int .u64 a0_8, .int .u64 a0_9] 24 (0, 0)) (by (with_reducible repeat (first | refine blk_drewN ?_ _ | refine blk_drew ?_ | refine blk_alloc ?_ _)); exact BK143.out)) : gb143 ≠ gb144)); have n6_ := Aside0.mk ((by rw [hg]; exact Nat.ne_of_gt (blk_lt (g := gb143) (o := .cells #[.bool a0_0, .bool a0_1, .bool a0_2, .bool a0_3, .bool a0_4, .bool a0_5, .bool a0_6, .bool a0_7, .int .u64 a0_8, .int .u64 a0_9] 24 (0, 0)) (by (with_reducible repeat (first | refine blk_drewN ?_ _ | refine blk_drew ?_ | refine blk_alloc ?_ _)); exact BK143.out)) : gb144 ≠ gb143)); clear BK143; clear HB; have BK143 := n0_; have HB := n1_; have BK144 := n2_; have GW144 := n3_; have GE144 := n4_; have NB143_144 := n5_; have NB144_143 := n6_; clear n0_ n1_ n2_ n3_ n4_ n5_ n6_; clear hb hbox hg; have hnb6 := NB144_143.out; have hnc6 := NB143_144.out; have hcz7_0 : w5.cell? ⟨gb144, 0, none⟩ = some (.int .u8 a1_0) := (blk_cell BK144.out 0).trans rfl; have hcz7_1 : w5.cell? ⟨gb144, 1, none⟩ = some (.bool a1_1) := (blk_cell BK144.out 1).trans rfl; have hcz7_2 : w5.cell? ⟨gb144, 2, none⟩ = some (.int .u8 a1_2) := (blk_cell BK144.out 2).trans rfl; have hcz7_3 : w5.cell? ⟨gb144, 3, none⟩ = some (.bool a1_3) := (blk_cell BK144.out 3).trans rfl; have hcz7_4 : w5.cell? ⟨gb144, 4, none⟩ = some (.bool a1_4) := (blk_cell BK144.out 4).trans rfl; have hcz7_5 : w5.cell? ⟨gb144, 5, none⟩ = some (.bool a1_5) := (blk_cell BK144.out 5).trans rfl; have hcz7_6 : w5.cell? ⟨gb144, 6, none⟩ = some (.bool a1_6) := (blk_cell BK144.out 6).trans rfl; have hfz7_0 := blk_frozen BK144.out 0; have hfz7_1 := blk_frozen BK144.out 1; have hfz7_2 := blk_frozen BK144.out 2; have hfz7_3 := blk_frozen BK144.out 3; have hfz7_4 := blk_frozen BK144.out 4; have hfz7_5 := blk_frozen BK144.out 5; have hfz7_6 := blk_frozen BK144.out 6))
    go_ret
    exact ⟨by first | rfl | (simp [errW_none, errW_some] <;> rfl) | (simp [*, errW_none, errW_some] <;> rfl), by repeat (first | (with_reducible first | exact HB.out | apply below_alloc | apply pw_below_drewN | apply below_drew1 | refine below_set ?_ GE143.out | refine below_set ?_ GE144.out) | exact HB.out)⟩
  · rw [if_neg c3] at H
    have c3b0 : decide (2 < a1_0) = false := decide_eq_false c3
    clear c3
    have HC8 := Aside0.mk H
    clear H
    go_enter Try.func22, Try.ntmps22
    go_upto_region 3 with (first | ((with_reducible refine gate_dst (N := 2) rfl ?_); refine box_event ?hg (N := 2) ?hd (cs := #[.bool a0_0, .bool a0_1, .bool a0_2, .bool a0_3, .bool a0_4, .bool a0_5, .bool a0_6, .bool a0_7, .int .u64 a0_8, .int .u64 a0_9]) (t := 24) ?hr ?_; (case hd => rfl); (case hg => rfl); (case hr => first | (go_simp; done) | (go_simp; rfl)); intro gb143 hg w9 hbox hb; have n0_ := Aside0.mk (below_step (by repeat (first | (with_reducible first | exact HB.out | apply below_alloc | apply pw_below_drewN | apply below_drew1) | exact HB.out)) hb); have n1_ := Aside0.mk (hbox); have n2_ := Aside0.mk ((by rw [hg]; exact (below_size (by repeat (first | (with_reducible first | exact HB.out | apply below_alloc | apply pw_below_drewN | apply below_drew1) | exact HB.out))) : w.heap.size ≤ gb143)); have n3_ := Aside0.mk ((by rw [hg]; exact (below_size (by repeat (first | (with_reducible first | exact HB.out | apply below_alloc | apply pw_below_drewN | apply below_drew1) | exact HB.out))) : w.heap.size ≤ gb143)); clear HB; have HB := n0_; have BK143 := n1_; have GW143 := n2_; have GE143 := n3_; clear n0_ n1_ n2_ n3_; clear hb hbox hg) | ((with_reducible refine gate_dst (N := 3) rfl ?_); refine box_event ?hg (N := 3) ?hd (cs := #[.int .u8 a1_0, .bool a1_1, .int .u8 a1_2, .bool a1_3, .bool a1_4, .bool a1_5, .bool a1_6]) (t := 32) ?hr ?_; (case hd => rfl); (case hg => rfl); (case hr => first | (go_simp; done) | (go_simp; rfl)); intro gb144 hg w10 hbox hb; have n0_ := Aside0.mk (blk_below (g := gb143) (o := .cells #[.bool a0_0, .bool a0_1, .bool a0_2, .bool a0_3, .bool a0_4, .bool a0_5, .bool a0_6, .bool a0_7, .int .u64 a0_8, .int .u64 a0_9] 24 (0, 0)) (by (with_reducible repeat (first | refine blk_drewN ?_ _ | refine blk_drew ?_ | refine blk_alloc ?_ _)); exact BK143.out) hb); have n1_ := Aside0.mk (below_step (by repeat (first | (with_reducible first | exact HB.out | apply below_alloc | apply pw_below_drewN | apply below_drew1 | refine below_set ?_ GE143.out) | exact HB.out)) hb); have n2_ := Aside0.mk (hbox); have n3_ := Aside0.mk ((by rw [hg]; exact (below_size (by repeat (first | (with_reducible first | exact HB.out | apply below_alloc | apply pw_below_drewN | apply below_drew1 | refine below_set ?_ GE143.out) | exact HB.out))) : w.heap.size ≤ gb144)); have n4_ := Aside0.mk ((by rw [hg]; exact (below_size (by repeat (first | (with_reducible first | exact HB.out | apply below_alloc | apply pw_below_drewN | apply below_drew1 | refine below_set ?_ GE143.out) | exact HB.out))) : w.heap.size ≤ gb144)); have n5_ := Aside0.mk ((by rw [hg]; exact Nat.ne_of_lt (blk_lt (g := gb143) (o := .cells #[.bool a0_0, .bool a0_1, .bool a0_2, .bool a0_3, .bool a0_4, .bool a0_5, .bool a0_6, .bool a0_7, .int .u64 a0_8, .int .u64 a0_9] 24 (0, 0)) (by (with_reducible repeat (first | refine blk_drewN ?_ _ | refine blk_drew ?_ | refine blk_alloc ?_ _)); exact BK143.out)) : gb143 ≠ gb144)); have n6_ := Aside0.mk ((by rw [hg]; exact Nat.ne_of_gt (blk_lt (g := gb143) (o := .cells #[.bool a0_0, .bool a0_1, .bool a0_2, .bool a0_3, .bool a0_4, .bool a0_5, .bool a0_6, .bool a0_7, .int .u64 a0_8, .int .u64 a0_9] 24 (0, 0)) (by (with_reducible repeat (first | refine blk_drewN ?_ _ | refine blk_drew ?_ | refine blk_alloc ?_ _)); exact BK143.out)) : gb144 ≠ gb143)); clear BK143; clear HB; have BK143 := n0_; have HB := n1_; have BK144 := n2_; have GW144 := n3_; have GE144 := n4_; have NB143_144 := n5_; have NB144_143 := n6_; clear n0_ n1_ n2_ n3_ n4_ n5_ n6_; clear hb hbox hg; have hnb11 := NB144_143.out; have hnc11 := NB143_144.out; have hcz12_0 : w10.cell? ⟨gb144, 0, none⟩ = some (.int .u8 a1_0) := (blk_cell BK144.out 0).trans rfl; have hcz12_1 : w10.cell? ⟨gb144, 1, none⟩ = some (.bool a1_1) := (blk_cell BK144.out 1).trans rfl; have hcz12_2 : w10.cell? ⟨gb144, 2, none⟩ = some (.int .u8 a1_2) := (blk_cell BK144.out 2).trans rfl; have hcz12_3 : w10.cell? ⟨gb144, 3, none⟩ = some (.bool a1_3) := (blk_cell BK144.out 3).trans rfl; have hcz12_4 : w10.cell? ⟨gb144, 4, none⟩ = some (.bool a1_4) := (blk_cell BK144.out 4).trans rfl; have hcz12_5 : w10.cell? ⟨gb144, 5, none⟩ = some (.bool a1_5) := (blk_cell BK144.out 5).trans rfl; have hcz12_6 : w10.cell? ⟨gb144, 6, none⟩ = some (.bool a1_6) := (blk_cell BK144.out 6).trans rfl; have hfz12_0 := blk_frozen BK144.out 0; have hfz12_1 := blk_frozen BK144.out 1; have hfz12_2 := blk_frozen BK144.out 2; have hfz12_3 := blk_frozen BK144.out 3; have hfz12_4 := blk_frozen BK144.out 4; have hfz12_5 := blk_frozen BK144.out 5; have hfz12_6 := blk_frozen BK144.out 6))
    (try simp only [Act.put, List.setIfInBounds_toArray, List.set_cons_zero, List.set_cons_succ])
    go_cut [15] (fun v15 wc => ∃ (kq : Nat) (x15_7 : Bool), v15 = .bool x15_7 ∧ Aside0 (mezzanineref15_Entry_Allowed.j0 kq x15_7 a0_0 a0_1 a0_2 a0_3 a0_4 a0_5 a0_6 a0_7 a0_8 a0_9 a1_0 a1_1 a1_2 a1_3 a1_4 a1_5 a1_6 = some r) ∧ Aside0 (kq ≤ k) ∧ Aside0 (wc.heap[gb143]? = some (.cells #[.bool a0_0, .bool a0_1, .bool a0_2, .bool a0_3, .bool a0_4, .bool a0_5, .bool a0_6, .bool a0_7, .int .u64 a0_8, .int .u64 a0_9] 24 (0, 0))) ∧ Aside0 (wc.heap[gb144]? = some (.cells #[.int .u8 a1_0, .bool a1_1, .int .u8 a1_2, .bool a1_3, .bool a1_4, .bool a1_5, .bool a1_6] 32 (0, 0))) ∧ Aside0 (Below w.heap.size w wc))
    case first =>
      have H := HC8.out
      clear HC8
      by_cases c13 : a1_2 = 0
      · rw [if_pos c13] at H
        have c13b0 : (a1_2 == 0) = true := beq_iff_eq.mpr c13
        have c13b1 : (a1_2 != 0) = false := bne_eq_false_iff_eq.mpr c13
        clear c13
        (first | rw [c13b0] | (simp only [i64_w, i32_w]; rw [c13b0]) | skip)
        have H' := Aside0.mk H
        clear H
        have hnb14 := NB144_143.out
        have hnc14 := NB143_144.out
        have hcz15_0 : w10.cell? ⟨gb144, 0, none⟩ = some (.int .u8 a1_0) := (blk_cell BK144.out 0).trans rfl
        have hcz15_1 : w10.cell? ⟨gb144, 1, none⟩ = some (.bool a1_1) := (blk_cell BK144.out 1).trans rfl
        have hcz15_2 : w10.cell? ⟨gb144, 2, none⟩ = some (.int .u8 a1_2) := (blk_cell BK144.out 2).trans rfl
        have hcz15_3 : w10.cell? ⟨gb144, 3, none⟩ = some (.bool a1_3) := (blk_cell BK144.out 3).trans rfl
        have hcz15_4 : w10.cell? ⟨gb144, 4, none⟩ = some (.bool a1_4) := (blk_cell BK144.out 4).trans rfl
        have hcz15_5 : w10.cell? ⟨gb144, 5, none⟩ = some (.bool a1_5) := (blk_cell BK144.out 5).trans rfl
        have hcz15_6 : w10.cell? ⟨gb144, 6, none⟩ = some (.bool a1_6) := (blk_cell BK144.out 6).trans rfl
        have hfz15_0 := blk_frozen BK144.out 0
        have hfz15_1 := blk_frozen BK144.out 1
        have hfz15_2 := blk_frozen BK144.out 2
        have hfz15_3 := blk_frozen BK144.out 3
        have hfz15_4 := blk_frozen BK144.out 4
        have hfz15_5 := blk_frozen BK144.out 5
        have hfz15_6 := blk_frozen BK144.out 6
        have hcz16_0 : w10.cell? ⟨gb143, 0, none⟩ = some (.bool a0_0) := (blk_cell BK143.out 0).trans rfl
        have hcz16_1 : w10.cell? ⟨gb143, 1, none⟩ = some (.bool a0_1) := (blk_cell BK143.out 1).trans rfl
        have hcz16_2 : w10.cell? ⟨gb143, 2, none⟩ = some (.bool a0_2) := (blk_cell BK143.out 2).trans rfl
        have hcz16_3 : w10.cell? ⟨gb143, 3, none⟩ = some (.bool a0_3) := (blk_cell BK143.out 3).trans rfl
        have hcz16_4 : w10.cell? ⟨gb143, 4, none⟩ = some (.bool a0_4) := (blk_cell BK143.out 4).trans rfl
        have hcz16_5 : w10.cell? ⟨gb143, 5, none⟩ = some (.bool a0_5) := (blk_cell BK143.out 5).trans rfl
        have hcz16_6 : w10.cell? ⟨gb143, 6, none⟩ = some (.bool a0_6) := (blk_cell BK143.out 6).trans rfl
        have hcz16_7 : w10.cell? ⟨gb143, 7, none⟩ = some (.bool a0_7) := (blk_cell BK143.out 7).trans rfl
        have hcz16_8 : w10.cell? ⟨gb143, 8, none⟩ = some (.int .u64 a0_8) := (blk_cell BK143.out 8).trans rfl
        have hcz16_9 : w10.cell? ⟨gb143, 9, none⟩ = some (.int .u64 a0_9) := (blk_cell BK143.out 9).trans rfl
        have hfz16_0 := blk_frozen BK143.out 0
        have hfz16_1 := blk_frozen BK143.out 1
        have hfz16_2 := blk_frozen BK143.out 2
        have hfz16_3 := blk_frozen BK143.out 3
        have hfz16_4 := blk_frozen BK143.out 4
        have hfz16_5 := blk_frozen BK143.out 5
        have hfz16_6 := blk_frozen BK143.out 6
        have hfz16_7 := blk_frozen BK143.out 7
        have hfz16_8 := blk_frozen BK143.out 8
        have hfz16_9 := blk_frozen BK143.out 9
        go_wp2
        go_meet
        case rel => exact ⟨_, (!a0_4), (by first | rfl | (simp; done) | (simp [*]; done)), H', ⟨by first | omega | exact Nat.le_refl _⟩, ⟨by (with_reducible repeat (first | refine blk_drewN ?_ _ | refine blk_drew ?_ | refine blk_alloc ?_ _)); exact BK143.out⟩, ⟨by (with_reducible repeat (first | refine blk_drewN ?_ _ | refine blk_drew ?_ | refine blk_alloc ?_ _)); exact BK144.out⟩, ⟨by repeat (first | (with_reducible first | exact HB.out | apply below_alloc | apply pw_below_drewN | apply below_drew1 | refine below_set ?_ GE143.out | refine below_set ?_ GE144.out) | exact HB.out)⟩⟩
      · rw [if_neg c13] at H
        have c13b0 : (a1_2 == 0) = false := beq_eq_false_iff_ne.mpr c13
        have c13b1 : (a1_2 != 0) = true := bne_iff_ne.mpr c13
        (first | rw [c13b0] | (simp only [i64_w, i32_w]; rw [c13b0]) | skip)
        have H' := Aside0.mk H
        clear H
        have hnb17 := NB144_143.out
        have hnc17 := NB143_144.out
        have hcz18_0 : w10.cell? ⟨gb144, 0, none⟩ = some (.int .u8 a1_0) := (blk_cell BK144.out 0).trans rfl
        have hcz18_1 : w10.cell? ⟨gb144, 1, none⟩ = some (.bool a1_1) := (blk_cell BK144.out 1).trans rfl
        have hcz18_2 : w10.cell? ⟨gb144, 2, none⟩ = some (.int .u8 a1_2) := (blk_cell BK144.out 2).trans rfl
        have hcz18_3 : w10.cell? ⟨gb144, 3, none⟩ = some (.bool a1_3) := (blk_cell BK144.out 3).trans rfl
        have hcz18_4 : w10.cell? ⟨gb144, 4, none⟩ = some (.bool a1_4) := (blk_cell BK144.out 4).trans rfl
        have hcz18_5 : w10.cell? ⟨gb144, 5, none⟩ = some (.bool a1_5) := (blk_cell BK144.out 5).trans rfl
        have hcz18_6 : w10.cell? ⟨gb144, 6, none⟩ = some (.bool a1_6) := (blk_cell BK144.out 6).trans rfl
        have hfz18_0 := blk_frozen BK144.out 0
        have hfz18_1 := blk_frozen BK144.out 1
        have hfz18_2 := blk_frozen BK144.out 2
        have hfz18_3 := blk_frozen BK144.out 3
        have hfz18_4 := blk_frozen BK144.out 4
        have hfz18_5 := blk_frozen BK144.out 5
        have hfz18_6 := blk_frozen BK144.out 6
        go_wp2
        go_meet
        case rel => exact ⟨_, (false), (by first | rfl | (simp; done) | (simp [*]; done)), H', ⟨by first | omega | exact Nat.le_refl _⟩, ⟨by (with_reducible repeat (first | refine blk_drewN ?_ _ | refine blk_drew ?_ | refine blk_alloc ?_ _)); exact BK143.out⟩, ⟨by (with_reducible repeat (first | refine blk_drewN ?_ _ | refine blk_drew ?_ | refine blk_alloc ?_ _)); exact BK144.out⟩, ⟨by repeat (first | (with_reducible first | exact HB.out | apply below_alloc | apply pw_below_drewN | apply below_drew1 | refine below_set ?_ GE143.out | refine below_set ?_ GE144.out) | exact HB.out)⟩⟩
    case rest =>
      clear HC8
      try clear c1
      try clear c2
      try clear p2
      try clear c3
      try clear c3b0
      try clear c6
      try clear c11
      try clear c13
      try clear c13b0
      try clear c13b1
      try clear c14
      try clear c17
      try clear hcz12_0
      try clear hcz12_1
      try clear hcz12_2
      try clear hcz12_3
      try clear hcz12_4
      try clear hcz12_5
      try clear hcz12_6
      try clear hcz15_0
      try clear hcz15_1
      try clear hcz15_2
      try clear hcz15_3
      try clear hcz15_4
      try clear hcz15_5
      try clear hcz15_6
      try clear hcz16_0
      try clear hcz16_1
      try clear hcz16_2
      try clear hcz16_3
      try clear hcz16_4
      try clear hcz16_5
      try clear hcz16_6
      try clear hcz16_7
      try clear hcz16_8
      try clear hcz16_9
      try clear hcz18_0
      try clear hcz18_1
      try clear hcz18_2
      try clear hcz18_3
      try clear hcz18_4
      try clear hcz18_5
      try clear hcz18_6
      try clear hcz7_0
      try clear hcz7_1
      try clear hcz7_2
      try clear hcz7_3
      try clear hcz7_4
      try clear hcz7_5
      try clear hcz7_6
      try clear hfz12_0
      try clear hfz12_1
      try clear hfz12_2
      try clear hfz12_3
      try clear hfz12_4
      try clear hfz12_5
      try clear hfz12_6
      try clear hfz15_0
      try clear hfz15_1
      try clear hfz15_2
      try clear hfz15_3
      try clear hfz15_4
      try clear hfz15_5
      try clear hfz15_6
      try clear hfz16_0
      try clear hfz16_1
      try clear hfz16_2
      try clear hfz16_3
      try clear hfz16_4
      try clear hfz16_5
      try clear hfz16_6
      try clear hfz16_7
      try clear hfz16_8
      try clear hfz16_9
      try clear hfz18_0
      try clear hfz18_1
      try clear hfz18_2
      try clear hfz18_3
      try clear hfz18_4
      try clear hfz18_5
      try clear hfz18_6
      try clear hfz7_0
      try clear hfz7_1
      try clear hfz7_2
      try clear hfz7_3
      try clear hfz7_4
      try clear hfz7_5
      try clear hfz7_6
      obtain ⟨kq, x15_7, rfl, HA, HJ7, BK143, BK144, HB⟩ := hcut
      cases kq with
      | zero => exact absurd HA.out (by simp [mezzanineref15_Entry_Allowed.j0])
      | succ kj7 =>
        have H := HA.out
        clear HA
        simp only [mezzanineref15_Entry_Allowed.j0] at H
        by_cases c19 : x15_7 = true
        · subst c19
          have H1 : (some false) = some r := by rw [if_pos rfl] at H; exact H
          clear H
          have H := H1
          clear H1
          obtain rfl := Option.some.inj H
          go_wp2
          go_ret
          exact ⟨by first | rfl | (simp [errW_none, errW_some] <;> rfl) | (simp [*, errW_none, errW_some] <;> rfl), by repeat (first | (with_reducible first | exact HB.out | apply below_alloc | apply pw_below_drewN | apply below_drew1 | refine below_set ?_ GE143.out | refine below_set ?_ GE144.out) | exact HB.out)⟩
        · replace c19 := Bool.eq_false_iff.mpr c19
          subst c19
          have H1 : (if a1_2 = 0 then (mezzanineref15_Entry_Allowed.j1 kj7 false a0_0 a0_1 a0_2 a0_3 a0_4 a0_5 a0_6 a0_7 a0_8 a0_9 a1_0 a1_1 a1_2 a1_3 a1_4 a1_5 a1_6) else (if a0_4 = true then (if a1_0 = 2 then (mezzanineref15_Entry_Allowed.j1 kj7 true a0_0 a0_1 a0_2 a0_3 a0_4 a0_5 a0_6 a0_7 a0_8 a0_9 a1_0 a1_1 a1_2 a1_3 a1_4 a1_5 a1_6) else (mezzanineref15_Entry_Allowed.j1 kj7 (!a1_4) a0_0 a0_1 a0_2 a0_3 a0_4 a0_5 a0_6 a0_7 a0_8 a0_9 a1_0 a1_1 a1_2 a1_3 a1_4 a1_5 a1_6)) else (mezzanineref15_Entry_Allowed.j1 kj7 false a0_0 a0_1 a0_2 a0_3 a0_4 a0_5 a0_6 a0_7 a0_8 a0_9 a1_0 a1_1 a1_2 a1_3 a1_4 a1_5 a1_6))) = some r := by rw [if_neg (show ¬ (false = true) by decide)] at H; exact H
          clear H
          have H := H1
          clear H1
          have HC20 := Aside0.mk H
          clear H
          go_upto_region 5 with (fail)
          go_cut [32] (fun v32 wc => ∃ (kq : Nat) (x32_19 : Bool), v32 = .bool x32_19 ∧ Aside0 (mezzanineref15_Entry_Allowed.j1 kq x32_19 a0_0 a0_1 a0_2 a0_3 a0_4 a0_5 a0_6 a0_7 a0_8 a0_9 a1_0 a1_1 a1_2 a1_3 a1_4 a1_5 a1_6 = some r) ∧ Aside0 (kq ≤ kj7) ∧ Aside0 (wc.heap[gb143]? = some (.cells #[.bool a0_0, .bool a0_1, .bool a0_2, .bool a0_3, .bool a0_4, .bool a0_5, .bool a0_6, .bool a0_7, .int .u64 a0_8, .int .u64 a0_9] 24 (0, 0))) ∧ Aside0 (wc.heap[gb144]? = some (.cells #[.int .u8 a1_0, .bool a1_1, .int .u8 a1_2, .bool a1_3, .bool a1_4, .bool a1_5, .bool a1_6] 32 (0, 0))) ∧ Aside0 (Below w.heap.size w wc))
          case first =>
            have H := HC20.out
            clear HC20
            by_cases c21 : a1_2 = 0
            · rw [if_pos c21] at H
              have c21b0 : (a1_2 == 0) = true := beq_iff_eq.mpr c21
              have c21b1 : (a1_2 != 0) = false := bne_eq_false_iff_eq.mpr c21
              clear c21
              (first | rw [c21b0] | (simp only [i64_w, i32_w]; rw [c21b0]) | skip)
              have H' := Aside0.mk H
              clear H
              have hnb22 := NB144_143.out
              have hnc22 := NB143_144.out
              have hcz23_0 : wc.cell? ⟨gb144, 0, none⟩ = some (.int .u8 a1_0) := (blk_cell BK144.out 0).trans rfl
              have hcz23_1 : wc.cell? ⟨gb144, 1, none⟩ = some (.bool a1_1) := (blk_cell BK144.out 1).trans rfl
              have hcz23_2 : wc.cell? ⟨gb144, 2, none⟩ = some (.int .u8 a1_2) := (blk_cell BK144.out 2).trans rfl
              have hcz23_3 : wc.cell? ⟨gb144, 3, none⟩ = some (.bool a1_3) := (blk_cell BK144.out 3).trans rfl
              have hcz23_4 : wc.cell? ⟨gb144, 4, none⟩ = some (.bool a1_4) := (blk_cell BK144.out 4).trans rfl
              have hcz23_5 : wc.cell? ⟨gb144, 5, none⟩ = some (.bool a1_5) := (blk_cell BK144.out 5).trans rfl
              have hcz23_6 : wc.cell? ⟨gb144, 6, none⟩ = some (.bool a1_6) := (blk_cell BK144.out 6).trans rfl
              have hfz23_0 := blk_frozen BK144.out 0
              have hfz23_1 := blk_frozen BK144.out 1
              have hfz23_2 := blk_frozen BK144.out 2
              have hfz23_3 := blk_frozen BK144.out 3
              have hfz23_4 := blk_frozen BK144.out 4
              have hfz23_5 := blk_frozen BK144.out 5
              have hfz23_6 := blk_frozen BK144.out 6
              go_wp2
              go_meet
              case rel => exact ⟨_, (false), (by first | rfl | (simp; done) | (simp [*]; done)), H', ⟨by have := HJ7.out; first | omega | exact Nat.le_refl _⟩, ⟨by (with_reducible repeat (first | refine blk_drewN ?_ _ | refine blk_drew ?_ | refine blk_alloc ?_ _)); exact BK143.out⟩, ⟨by (with_reducible repeat (first | refine blk_drewN ?_ _ | refine blk_drew ?_ | refine blk_alloc ?_ _)); exact BK144.out⟩, ⟨by repeat (first | (with_reducible first | exact HB.out | apply below_alloc | apply pw_below_drewN | apply below_drew1 | refine below_set ?_ GE143.out | refine below_set ?_ GE144.out) | exact HB.out)⟩⟩
            · rw [if_neg c21] at H
              have c21b0 : (a1_2 == 0) = false := beq_eq_false_iff_ne.mpr c21
              have c21b1 : (a1_2 != 0) = true := bne_iff_ne.mpr c21
              (first | rw [c21b0] | (simp only [i64_w, i32_w]; rw [c21b0]) | skip)
              by_cases c24 : a0_4 = true
              · subst c24
                have H1 : (if a1_0 = 2 then (mezzanineref15_Entry_Allowed.j1 kj7 true a0_0 a0_1 a0_2 a0_3 true a0_5 a0_6 a0_7 a0_8 a0_9 a1_0 a1_1 a1_2 a1_3 a1_4 a1_5 a1_6) else (mezzanineref15_Entry_Allowed.j1 kj7 (!a1_4) a0_0 a0_1 a0_2 a0_3 true a0_5 a0_6 a0_7 a0_8 a0_9 a1_0 a1_1 a1_2 a1_3 a1_4 a1_5 a1_6)) = some r := by rw [if_pos rfl] at H; exact H
                clear H
                have H := H1
                clear H1
                by_cases c25 : a1_0 = 2
                · rw [if_pos c25] at H
                  have c25b0 : (a1_0 == 2) = true := beq_iff_eq.mpr c25
                  have c25b1 : (a1_0 != 2) = false := bne_eq_false_iff_eq.mpr c25
                  clear c25
                  have H' := Aside0.mk H
                  clear H
                  have hnb26 := NB144_143.out
                  have hnc26 := NB143_144.out
                  have hcz27_0 : wc.cell? ⟨gb144, 0, none⟩ = some (.int .u8 a1_0) := (blk_cell BK144.out 0).trans rfl
                  have hcz27_1 : wc.cell? ⟨gb144, 1, none⟩ = some (.bool a1_1) := (blk_cell BK144.out 1).trans rfl
                  have hcz27_2 : wc.cell? ⟨gb144, 2, none⟩ = some (.int .u8 a1_2) := (blk_cell BK144.out 2).trans rfl
                  have hcz27_3 : wc.cell? ⟨gb144, 3, none⟩ = some (.bool a1_3) := (blk_cell BK144.out 3).trans rfl
                  have hcz27_4 : wc.cell? ⟨gb144, 4, none⟩ = some (.bool a1_4) := (blk_cell BK144.out 4).trans rfl
                  have hcz27_5 : wc.cell? ⟨gb144, 5, none⟩ = some (.bool a1_5) := (blk_cell BK144.out 5).trans rfl
                  have hcz27_6 : wc.cell? ⟨gb144, 6, none⟩ = some (.bool a1_6) := (blk_cell BK144.out 6).trans rfl
                  have hfz27_0 := blk_frozen BK144.out 0
                  have hfz27_1 := blk_frozen BK144.out 1
                  have hfz27_2 := blk_frozen BK144.out 2
                  have hfz27_3 := blk_frozen BK144.out 3
                  have hfz27_4 := blk_frozen BK144.out 4
                  have hfz27_5 := blk_frozen BK144.out 5
                  have hfz27_6 := blk_frozen BK144.out 6
                  have hcz28_0 : wc.cell? ⟨gb143, 0, none⟩ = some (.bool a0_0) := (blk_cell BK143.out 0).trans rfl
                  have hcz28_1 : wc.cell? ⟨gb143, 1, none⟩ = some (.bool a0_1) := (blk_cell BK143.out 1).trans rfl
                  have hcz28_2 : wc.cell? ⟨gb143, 2, none⟩ = some (.bool a0_2) := (blk_cell BK143.out 2).trans rfl
                  have hcz28_3 : wc.cell? ⟨gb143, 3, none⟩ = some (.bool a0_3) := (blk_cell BK143.out 3).trans rfl
                  have hcz28_4 : wc.cell? ⟨gb143, 4, none⟩ = some (.bool true) := (blk_cell BK143.out 4).trans rfl
                  have hcz28_5 : wc.cell? ⟨gb143, 5, none⟩ = some (.bool a0_5) := (blk_cell BK143.out 5).trans rfl
                  have hcz28_6 : wc.cell? ⟨gb143, 6, none⟩ = some (.bool a0_6) := (blk_cell BK143.out 6).trans rfl
                  have hcz28_7 : wc.cell? ⟨gb143, 7, none⟩ = some (.bool a0_7) := (blk_cell BK143.out 7).trans rfl
                  have hcz28_8 : wc.cell? ⟨gb143, 8, none⟩ = some (.int .u64 a0_8) := (blk_cell BK143.out 8).trans rfl
                  have hcz28_9 : wc.cell? ⟨gb143, 9, none⟩ = some (.int .u64 a0_9) := (blk_cell BK143.out 9).trans rfl
                  have hfz28_0 := blk_frozen BK143.out 0
                  have hfz28_1 := blk_frozen BK143.out 1
                  have hfz28_2 := blk_frozen BK143.out 2
                  have hfz28_3 := blk_frozen BK143.out 3
                  have hfz28_4 := blk_frozen BK143.out 4
                  have hfz28_5 := blk_frozen BK143.out 5
                  have hfz28_6 := blk_frozen BK143.out 6
                  have hfz28_7 := blk_frozen BK143.out 7
                  have hfz28_8 := blk_frozen BK143.out 8
                  have hfz28_9 := blk_frozen BK143.out 9
                  go_wp2
                  go_meet
                  case rel => exact ⟨_, (true), (by first | rfl | (simp; done) | (simp [*]; done)), H', ⟨by have := HJ7.out; first | omega | exact Nat.le_refl _⟩, ⟨by (with_reducible repeat (first | refine blk_drewN ?_ _ | refine blk_drew ?_ | refine blk_alloc ?_ _)); exact BK143.out⟩, ⟨by (with_reducible repeat (first | refine blk_drewN ?_ _ | refine blk_drew ?_ | refine blk_alloc ?_ _)); exact BK144.out⟩, ⟨by repeat (first | (with_reducible first | exact HB.out | apply below_alloc | apply pw_below_drewN | apply below_drew1 | refine below_set ?_ GE143.out | refine below_set ?_ GE144.out) | exact HB.out)⟩⟩
                · rw [if_neg c25] at H
                  have c25b0 : (a1_0 == 2) = false := beq_eq_false_iff_ne.mpr c25
                  have c25b1 : (a1_0 != 2) = true := bne_iff_ne.mpr c25
                  have H' := Aside0.mk H
                  clear H
                  have hnb29 := NB144_143.out
                  have hnc29 := NB143_144.out
                  have hcz30_0 : wc.cell? ⟨gb144, 0, none⟩ = some (.int .u8 a1_0) := (blk_cell BK144.out 0).trans rfl
                  have hcz30_1 : wc.cell? ⟨gb144, 1, none⟩ = some (.bool a1_1) := (blk_cell BK144.out 1).trans rfl
                  have hcz30_2 : wc.cell? ⟨gb144, 2, none⟩ = some (.int .u8 a1_2) := (blk_cell BK144.out 2).trans rfl
                  have hcz30_3 : wc.cell? ⟨gb144, 3, none⟩ = some (.bool a1_3) := (blk_cell BK144.out 3).trans rfl
                  have hcz30_4 : wc.cell? ⟨gb144, 4, none⟩ = some (.bool a1_4) := (blk_cell BK144.out 4).trans rfl
                  have hcz30_5 : wc.cell? ⟨gb144, 5, none⟩ = some (.bool a1_5) := (blk_cell BK144.out 5).trans rfl
                  have hcz30_6 : wc.cell? ⟨gb144, 6, none⟩ = some (.bool a1_6) := (blk_cell BK144.out 6).trans rfl
                  have hfz30_0 := blk_frozen BK144.out 0
                  have hfz30_1 := blk_frozen BK144.out 1
                  have hfz30_2 := blk_frozen BK144.out 2
                  have hfz30_3 := blk_frozen BK144.out 3
                  have hfz30_4 := blk_frozen BK144.out 4
                  have hfz30_5 := blk_frozen BK144.out 5
                  have hfz30_6 := blk_frozen BK144.out 6
                  have hcz31_0 : wc.cell? ⟨gb143, 0, none⟩ = some (.bool a0_0) := (blk_cell BK143.out 0).trans rfl
                  have hcz31_1 : wc.cell? ⟨gb143, 1, none⟩ = some (.bool a0_1) := (blk_cell BK143.out 1).trans rfl
                  have hcz31_2 : wc.cell? ⟨gb143, 2, none⟩ = some (.bool a0_2) := (blk_cell BK143.out 2).trans rfl
                  have hcz31_3 : wc.cell? ⟨gb143, 3, none⟩ = some (.bool a0_3) := (blk_cell BK143.out 3).trans rfl
                  have hcz31_4 : wc.cell? ⟨gb143, 4, none⟩ = some (.bool true) := (blk_cell BK143.out 4).trans rfl
                  have hcz31_5 : wc.cell? ⟨gb143, 5, none⟩ = some (.bool a0_5) := (blk_cell BK143.out 5).trans rfl
                  have hcz31_6 : wc.cell? ⟨gb143, 6, none⟩ = some (.bool a0_6) := (blk_cell BK143.out 6).trans rfl
                  have hcz31_7 : wc.cell? ⟨gb143, 7, none⟩ = some (.bool a0_7) := (blk_cell BK143.out 7).trans rfl
                  have hcz31_8 : wc.cell? ⟨gb143, 8, none⟩ = some (.int .u64 a0_8) := (blk_cell BK143.out 8).trans rfl
                  have hcz31_9 : wc.cell? ⟨gb143, 9, none⟩ = some (.int .u64 a0_9) := (blk_cell BK143.out 9).trans rfl
                  have hfz31_0 := blk_frozen BK143.out 0
                  have hfz31_1 := blk_frozen BK143.out 1
                  have hfz31_2 := blk_frozen BK143.out 2
                  have hfz31_3 := blk_frozen BK143.out 3
                  have hfz31_4 := blk_frozen BK143.out 4
                  have hfz31_5 := blk_frozen BK143.out 5
                  have hfz31_6 := blk_frozen BK143.out 6
                  have hfz31_7 := blk_frozen BK143.out 7
                  have hfz31_8 := blk_frozen BK143.out 8
                  have hfz31_9 := blk_frozen BK143.out 9
                  go_wp2
                  go_meet
                  case rel => exact ⟨_, (!a1_4), (by first | rfl | (simp; done) | (simp [*]; done)), H', ⟨by have := HJ7.out; first | omega | exact Nat.le_refl _⟩, ⟨by (with_reducible repeat (first | refine blk_drewN ?_ _ | refine blk_drew ?_ | refine blk_alloc ?_ _)); exact BK143.out⟩, ⟨by (with_reducible repeat (first | refine blk_drewN ?_ _ | refine blk_drew ?_ | refine blk_alloc ?_ _)); exact BK144.out⟩, ⟨by repeat (first | (with_reducible first | exact HB.out | apply below_alloc | apply pw_below_drewN | apply below_drew1 | refine below_set ?_ GE143.out | refine below_set ?_ GE144.out) | exact HB.out)⟩⟩
              · replace c24 := Bool.eq_false_iff.mpr c24
                subst c24
                have H1 : (mezzanineref15_Entry_Allowed.j1 kj7 false a0_0 a0_1 a0_2 a0_3 false a0_5 a0_6 a0_7 a0_8 a0_9 a1_0 a1_1 a1_2 a1_3 a1_4 a1_5 a1_6) = some r := by rw [if_neg (show ¬ (false = true) by decide)] at H; exact H
                clear H
                have H := H1
                clear H1
                have H' := Aside0.mk H
                clear H
                have hnb32 := NB144_143.out
                have hnc32 := NB143_144.out
                have hcz33_0 : wc.cell? ⟨gb144, 0, none⟩ = some (.int .u8 a1_0) := (blk_cell BK144.out 0).trans rfl
                have hcz33_1 : wc.cell? ⟨gb144, 1, none⟩ = some (.bool a1_1) := (blk_cell BK144.out 1).trans rfl
                have hcz33_2 : wc.cell? ⟨gb144, 2, none⟩ = some (.int .u8 a1_2) := (blk_cell BK144.out 2).trans rfl
                have hcz33_3 : wc.cell? ⟨gb144, 3, none⟩ = some (.bool a1_3) := (blk_cell BK144.out 3).trans rfl
                have hcz33_4 : wc.cell? ⟨gb144, 4, none⟩ = some (.bool a1_4) := (blk_cell BK144.out 4).trans rfl
                have hcz33_5 : wc.cell? ⟨gb144, 5, none⟩ = some (.bool a1_5) := (blk_cell BK144.out 5).trans rfl
                have hcz33_6 : wc.cell? ⟨gb144, 6, none⟩ = some (.bool a1_6) := (blk_cell BK144.out 6).trans rfl
                have hfz33_0 := blk_frozen BK144.out 0
                have hfz33_1 := blk_frozen BK144.out 1
                have hfz33_2 := blk_frozen BK144.out 2
                have hfz33_3 := blk_frozen BK144.out 3
                have hfz33_4 := blk_frozen BK144.out 4
                have hfz33_5 := blk_frozen BK144.out 5
                have hfz33_6 := blk_frozen BK144.out 6
                have hcz34_0 : wc.cell? ⟨gb143, 0, none⟩ = some (.bool a0_0) := (blk_cell BK143.out 0).trans rfl
                have hcz34_1 : wc.cell? ⟨gb143, 1, none⟩ = some (.bool a0_1) := (blk_cell BK143.out 1).trans rfl
                have hcz34_2 : wc.cell? ⟨gb143, 2, none⟩ = some (.bool a0_2) := (blk_cell BK143.out 2).trans rfl
                have hcz34_3 : wc.cell? ⟨gb143, 3, none⟩ = some (.bool a0_3) := (blk_cell BK143.out 3).trans rfl
                have hcz34_4 : wc.cell? ⟨gb143, 4, none⟩ = some (.bool false) := (blk_cell BK143.out 4).trans rfl
                have hcz34_5 : wc.cell? ⟨gb143, 5, none⟩ = some (.bool a0_5) := (blk_cell BK143.out 5).trans rfl
                have hcz34_6 : wc.cell? ⟨gb143, 6, none⟩ = some (.bool a0_6) := (blk_cell BK143.out 6).trans rfl
                have hcz34_7 : wc.cell? ⟨gb143, 7, none⟩ = some (.bool a0_7) := (blk_cell BK143.out 7).trans rfl
                have hcz34_8 : wc.cell? ⟨gb143, 8, none⟩ = some (.int .u64 a0_8) := (blk_cell BK143.out 8).trans rfl
                have hcz34_9 : wc.cell? ⟨gb143, 9, none⟩ = some (.int .u64 a0_9) := (blk_cell BK143.out 9).trans rfl
                have hfz34_0 := blk_frozen BK143.out 0
                have hfz34_1 := blk_frozen BK143.out 1
                have hfz34_2 := blk_frozen BK143.out 2
                have hfz34_3 := blk_frozen BK143.out 3
                have hfz34_4 := blk_frozen BK143.out 4
                have hfz34_5 := blk_frozen BK143.out 5
                have hfz34_6 := blk_frozen BK143.out 6
                have hfz34_7 := blk_frozen BK143.out 7
                have hfz34_8 := blk_frozen BK143.out 8
                have hfz34_9 := blk_frozen BK143.out 9
                go_wp2
                go_meet
                case rel => exact ⟨_, (false), (by first | rfl | (simp; done) | (simp [*]; done)), H', ⟨by have := HJ7.out; first | omega | exact Nat.le_refl _⟩, ⟨by (with_reducible repeat (first | refine blk_drewN ?_ _ | refine blk_drew ?_ | refine blk_alloc ?_ _)); exact BK143.out⟩, ⟨by (with_reducible repeat (first | refine blk_drewN ?_ _ | refine blk_drew ?_ | refine blk_alloc ?_ _)); exact BK144.out⟩, ⟨by repeat (first | (with_reducible first | exact HB.out | apply below_alloc | apply pw_below_drewN | apply below_drew1 | refine below_set ?_ GE143.out | refine below_set ?_ GE144.out) | exact HB.out)⟩⟩
          case rest =>
            clear HC20
            try clear c1
            try clear c2
            try clear p2
            try clear c3
            try clear c3b0
            try clear c6
            try clear c11
            try clear c13
            try clear c13b0
            try clear c13b1
            try clear c14
            try clear c17
            try clear c19
            try clear c21
            try clear c21b0
            try clear c21b1
            try clear c22
            try clear c24
            try clear c25
            try clear c25b0
            try clear c25b1
            try clear c26
            try clear c29
            try clear c32
            try clear hcz12_0
            try clear hcz12_1
            try clear hcz12_2
            try clear hcz12_3
            try clear hcz12_4
            try clear hcz12_5
            try clear hcz12_6
            try clear hcz15_0
            try clear hcz15_1
            try clear hcz15_2
            try clear hcz15_3
            try clear hcz15_4
            try clear hcz15_5
            try clear hcz15_6
            try clear hcz16_0
            try clear hcz16_1
            try clear hcz16_2
            try clear hcz16_3
            try clear hcz16_4
            try clear hcz16_5
            try clear hcz16_6
            try clear hcz16_7
            try clear hcz16_8
            try clear hcz16_9
            try clear hcz18_0
            try clear hcz18_1
            try clear hcz18_2
            try clear hcz18_3
            try clear hcz18_4
            try clear hcz18_5
            try clear hcz18_6
            try clear hcz23_0
            try clear hcz23_1
            try clear hcz23_2
            try clear hcz23_3
            try clear hcz23_4
            try clear hcz23_5
            try clear hcz23_6
            try clear hcz27_0
            try clear hcz27_1
            try clear hcz27_2
            try clear hcz27_3
            try clear hcz27_4
            try clear hcz27_5
            try clear hcz27_6
            try clear hcz28_0
            try clear hcz28_1
            try clear hcz28_2
            try clear hcz28_3
            try clear hcz28_4
            try clear hcz28_5
            try clear hcz28_6
            try clear hcz28_7
            try clear hcz28_8
            try clear hcz28_9
            try clear hcz30_0
            try clear hcz30_1
            try clear hcz30_2
            try clear hcz30_3
            try clear hcz30_4
            try clear hcz30_5
            try clear hcz30_6
            try clear hcz31_0
            try clear hcz31_1
            try clear hcz31_2
            try clear hcz31_3
            try clear hcz31_4
            try clear hcz31_5
            try clear hcz31_6
            try clear hcz31_7
            try clear hcz31_8
            try clear hcz31_9
            try clear hcz33_0
            try clear hcz33_1
            try clear hcz33_2
            try clear hcz33_3
            try clear hcz33_4
            try clear hcz33_5
            try clear hcz33_6
            try clear hcz34_0
            try clear hcz34_1
            try clear hcz34_2
            try clear hcz34_3
            try clear hcz34_4
            try clear hcz34_5
            try clear hcz34_6
            try clear hcz34_7
            try clear hcz34_8
            try clear hcz34_9
            try clear hcz7_0
            try clear hcz7_1
            try clear hcz7_2
            try clear hcz7_3
            try clear hcz7_4
            try clear hcz7_5
            try clear hcz7_6
            try clear hfz12_0
            try clear hfz12_1
            try clear hfz12_2
            try clear hfz12_3
            try clear hfz12_4
            try clear hfz12_5
            try clear hfz12_6
            try clear hfz15_0
            try clear hfz15_1
            try clear hfz15_2
            try clear hfz15_3
            try clear hfz15_4
            try clear hfz15_5
            try clear hfz15_6
            try clear hfz16_0
            try clear hfz16_1
            try clear hfz16_2
            try clear hfz16_3
            try clear hfz16_4
            try clear hfz16_5
            try clear hfz16_6
            try clear hfz16_7
            try clear hfz16_8
            try clear hfz16_9
            try clear hfz18_0
            try clear hfz18_1
            try clear hfz18_2
            try clear hfz18_3
            try clear hfz18_4
            try clear hfz18_5
            try clear hfz18_6
            try clear hfz23_0
            try clear hfz23_1
            try clear hfz23_2
            try clear hfz23_3
            try clear hfz23_4
            try clear hfz23_5
            try clear hfz23_6
            try clear hfz27_0
            try clear hfz27_1
            try clear hfz27_2
            try clear hfz27_3
            try clear hfz27_4
            try clear hfz27_5
            try clear hfz27_6
            try clear hfz28_0
            try clear hfz28_1
            try clear hfz28_2
            try clear hfz28_3
            try clear hfz28_4
            try clear hfz28_5
            try clear hfz28_6
            try clear hfz28_7
            try clear hfz28_8
            try clear hfz28_9
            try clear hfz30_0
            try clear hfz30_1
            try clear hfz30_2
            try clear hfz30_3
            try clear hfz30_4
            try clear hfz30_5
            try clear hfz30_6
            try clear hfz31_0
            try clear hfz31_1
            try clear hfz31_2
            try clear hfz31_3
            try clear hfz31_4
            try clear hfz31_5
            try clear hfz31_6
            try clear hfz31_7
            try clear hfz31_8
            try clear hfz31_9
            try clear hfz33_0
            try clear hfz33_1
            try clear hfz33_2
            try clear hfz33_3
            try clear hfz33_4
            try clear hfz33_5
            try clear hfz33_6
            try clear hfz34_0
            try clear hfz34_1
            try clear hfz34_2
            try clear hfz34_3
            try clear hfz34_4
            try clear hfz34_5
            try clear hfz34_6
            try clear hfz34_7
            try clear hfz34_8
            try clear hfz34_9
            try clear hfz7_0
            try clear hfz7_1
            try clear hfz7_2
            try clear hfz7_3
            try clear hfz7_4
            try clear hfz7_5
            try clear hfz7_6
            try clear p2
            obtain ⟨kq, x32_19, rfl, HA, HJ19, BK143, BK144, HB⟩ := hcut
            cases kq with
            | zero => exact absurd HA.out (by simp [mezzanineref15_Entry_Allowed.j1])
            | succ kj19 =>
              have H := HA.out
              clear HA
              simp only [mezzanineref15_Entry_Allowed.j1] at H
              by_cases c35 : x32_19 = true
              · subst c35
                have H1 : (some false) = some r := by rw [if_pos rfl] at H; exact H
                clear H
                have H := H1
                clear H1
                obtain rfl := Option.some.inj H
                go_wp2
                go_ret
                exact ⟨by first | rfl | (simp [errW_none, errW_some] <;> rfl) | (simp [*, errW_none, errW_some] <;> rfl), by repeat (first | (with_reducible first | exact HB.out | apply below_alloc | apply pw_below_drewN | apply below_drew1 | refine below_set ?_ GE143.out | refine below_set ?_ GE144.out) | exact HB.out)⟩
              · replace c35 := Bool.eq_false_iff.mpr c35
                subst c35
                have H1 : (if a1_0 = 2 then (some a0_3) else (if a1_0 = 1 then (some a0_2) else (if a1_1 = true then (some a0_3) else (if a0_1 = true then (some true) else (if a0_3 = true then (if a1_5 = true then (some true) else (if a1_3 = true then (some a1_6) else (some false))) else (some false)))))) = some r := by rw [if_neg (show ¬ (false = true) by decide)] at H; exact H
                clear H
                have H := H1
                clear H1
                by_cases c36 : a1_0 = 2
                · rw [if_pos c36] at H
                  have c36b0 : (a1_0 == 2) = true := beq_iff_eq.mpr c36
                  have c36b1 : (a1_0 != 2) = false := bne_eq_false_iff_eq.mpr c36
                  clear c36
                  obtain rfl := Option.some.inj H
                  have hnb37 := NB144_143.out
                  have hnc37 := NB143_144.out
                  have hcz38_0 : wc.cell? ⟨gb144, 0, none⟩ = some (.int .u8 a1_0) := (blk_cell BK144.out 0).trans rfl
                  have hcz38_1 : wc.cell? ⟨gb144, 1, none⟩ = some (.bool a1_1) := (blk_cell BK144.out 1).trans rfl
                  have hcz38_2 : wc.cell? ⟨gb144, 2, none⟩ = some (.int .u8 a1_2) := (blk_cell BK144.out 2).trans rfl
                  have hcz38_3 : wc.cell? ⟨gb144, 3, none⟩ = some (.bool a1_3) := (blk_cell BK144.out 3).trans rfl
                  have hcz38_4 : wc.cell? ⟨gb144, 4, none⟩ = some (.bool a1_4) := (blk_cell BK144.out 4).trans rfl
                  have hcz38_5 : wc.cell? ⟨gb144, 5, none⟩ = some (.bool a1_5) := (blk_cell BK144.out 5).trans rfl
                  have hcz38_6 : wc.cell? ⟨gb144, 6, none⟩ = some (.bool a1_6) := (blk_cell BK144.out 6).trans rfl
                  have hfz38_0 := blk_frozen BK144.out 0
                  have hfz38_1 := blk_frozen BK144.out 1
                  have hfz38_2 := blk_frozen BK144.out 2
                  have hfz38_3 := blk_frozen BK144.out 3
                  have hfz38_4 := blk_frozen BK144.out 4
                  have hfz38_5 := blk_frozen BK144.out 5
                  have hfz38_6 := blk_frozen BK144.out 6
                  have hcz39_0 : wc.cell? ⟨gb143, 0, none⟩ = some (.bool a0_0) := (blk_cell BK143.out 0).trans rfl
                  have hcz39_1 : wc.cell? ⟨gb143, 1, none⟩ = some (.bool a0_1) := (blk_cell BK143.out 1).trans rfl
                  have hcz39_2 : wc.cell? ⟨gb143, 2, none⟩ = some (.bool a0_2) := (blk_cell BK143.out 2).trans rfl
                  have hcz39_3 : wc.cell? ⟨gb143, 3, none⟩ = some (.bool a0_3) := (blk_cell BK143.out 3).trans rfl
                  have hcz39_4 : wc.cell? ⟨gb143, 4, none⟩ = some (.bool a0_4) := (blk_cell BK143.out 4).trans rfl
                  have hcz39_5 : wc.cell? ⟨gb143, 5, none⟩ = some (.bool a0_5) := (blk_cell BK143.out 5).trans rfl
                  have hcz39_6 : wc.cell? ⟨gb143, 6, none⟩ = some (.bool a0_6) := (blk_cell BK143.out 6).trans rfl
                  have hcz39_7 : wc.cell? ⟨gb143, 7, none⟩ = some (.bool a0_7) := (blk_cell BK143.out 7).trans rfl
                  have hcz39_8 : wc.cell? ⟨gb143, 8, none⟩ = some (.int .u64 a0_8) := (blk_cell BK143.out 8).trans rfl
                  have hcz39_9 : wc.cell? ⟨gb143, 9, none⟩ = some (.int .u64 a0_9) := (blk_cell BK143.out 9).trans rfl
                  have hfz39_0 := blk_frozen BK143.out 0
                  have hfz39_1 := blk_frozen BK143.out 1
                  have hfz39_2 := blk_frozen BK143.out 2
                  have hfz39_3 := blk_frozen BK143.out 3
                  have hfz39_4 := blk_frozen BK143.out 4
                  have hfz39_5 := blk_frozen BK143.out 5
                  have hfz39_6 := blk_frozen BK143.out 6
                  have hfz39_7 := blk_frozen BK143.out 7
                  have hfz39_8 := blk_frozen BK143.out 8
                  have hfz39_9 := blk_frozen BK143.out 9
                  go_wp2
                  go_ret
                  exact ⟨by first | rfl | (simp [errW_none, errW_some] <;> rfl) | (simp [*, errW_none, errW_some] <;> rfl), by repeat (first | (with_reducible first | exact HB.out | apply below_alloc | apply pw_below_drewN | apply below_drew1 | refine below_set ?_ GE143.out | refine below_set ?_ GE144.out) | exact HB.out)⟩
                · rw [if_neg c36] at H
                  have c36b0 : (a1_0 == 2) = false := beq_eq_false_iff_ne.mpr c36
                  have c36b1 : (a1_0 != 2) = true := bne_iff_ne.mpr c36
                  by_cases c40 : a1_0 = 1
                  · rw [if_pos c40] at H
                    have c40b0 : (a1_0 == 1) = true := beq_iff_eq.mpr c40
                    have c40b1 : (a1_0 != 1) = false := bne_eq_false_iff_eq.mpr c40
                    clear c40
                    obtain rfl := Option.some.inj H
                    have hnb41 := NB144_143.out
                    have hnc41 := NB143_144.out
                    have hcz42_0 : wc.cell? ⟨gb144, 0, none⟩ = some (.int .u8 a1_0) := (blk_cell BK144.out 0).trans rfl
                    have hcz42_1 : wc.cell? ⟨gb144, 1, none⟩ = some (.bool a1_1) := (blk_cell BK144.out 1).trans rfl
                    have hcz42_2 : wc.cell? ⟨gb144, 2, none⟩ = some (.int .u8 a1_2) := (blk_cell BK144.out 2).trans rfl
                    have hcz42_3 : wc.cell? ⟨gb144, 3, none⟩ = some (.bool a1_3) := (blk_cell BK144.out 3).trans rfl
                    have hcz42_4 : wc.cell? ⟨gb144, 4, none⟩ = some (.bool a1_4) := (blk_cell BK144.out 4).trans rfl
                    have hcz42_5 : wc.cell? ⟨gb144, 5, none⟩ = some (.bool a1_5) := (blk_cell BK144.out 5).trans rfl
                    have hcz42_6 : wc.cell? ⟨gb144, 6, none⟩ = some (.bool a1_6) := (blk_cell BK144.out 6).trans rfl
                    have hfz42_0 := blk_frozen BK144.out 0
                    have hfz42_1 := blk_frozen BK144.out 1
                    have hfz42_2 := blk_frozen BK144.out 2
                    have hfz42_3 := blk_frozen BK144.out 3
                    have hfz42_4 := blk_frozen BK144.out 4
                    have hfz42_5 := blk_frozen BK144.out 5
                    have hfz42_6 := blk_frozen BK144.out 6
                    have hcz43_0 : wc.cell? ⟨gb143, 0, none⟩ = some (.bool a0_0) := (blk_cell BK143.out 0).trans rfl
                    have hcz43_1 : wc.cell? ⟨gb143, 1, none⟩ = some (.bool a0_1) := (blk_cell BK143.out 1).trans rfl
                    have hcz43_2 : wc.cell? ⟨gb143, 2, none⟩ = some (.bool a0_2) := (blk_cell BK143.out 2).trans rfl
                    have hcz43_3 : wc.cell? ⟨gb143, 3, none⟩ = some (.bool a0_3) := (blk_cell BK143.out 3).trans rfl
                    have hcz43_4 : wc.cell? ⟨gb143, 4, none⟩ = some (.bool a0_4) := (blk_cell BK143.out 4).trans rfl
                    have hcz43_5 : wc.cell? ⟨gb143, 5, none⟩ = some (.bool a0_5) := (blk_cell BK143.out 5).trans rfl
                    have hcz43_6 : wc.cell? ⟨gb143, 6, none⟩ = some (.bool a0_6) := (blk_cell BK143.out 6).trans rfl
                    have hcz43_7 : wc.cell? ⟨gb143, 7, none⟩ = some (.bool a0_7) := (blk_cell BK143.out 7).trans rfl
                    have hcz43_8 : wc.cell? ⟨gb143, 8, none⟩ = some (.int .u64 a0_8) := (blk_cell BK143.out 8).trans rfl
                    have hcz43_9 : wc.cell? ⟨gb143, 9, none⟩ = some (.int .u64 a0_9) := (blk_cell BK143.out 9).trans rfl
                    have hfz43_0 := blk_frozen BK143.out 0
                    have hfz43_1 := blk_frozen BK143.out 1
                    have hfz43_2 := blk_frozen BK143.out 2
                    have hfz43_3 := blk_frozen BK143.out 3
                    have hfz43_4 := blk_frozen BK143.out 4
                    have hfz43_5 := blk_frozen BK143.out 5
                    have hfz43_6 := blk_frozen BK143.out 6
                    have hfz43_7 := blk_frozen BK143.out 7
                    have hfz43_8 := blk_frozen BK143.out 8
                    have hfz43_9 := blk_frozen BK143.out 9
                    go_wp2
                    go_ret
                    exact ⟨by first | rfl | (simp [errW_none, errW_some] <;> rfl) | (simp [*, errW_none, errW_some] <;> rfl), by repeat (first | (with_reducible first | exact HB.out | apply below_alloc | apply pw_below_drewN | apply below_drew1 | refine below_set ?_ GE143.out | refine below_set ?_ GE144.out) | exact HB.out)⟩
                  · rw [if_neg c40] at H
                    have c40b0 : (a1_0 == 1) = false := beq_eq_false_iff_ne.mpr c40
                    have c40b1 : (a1_0 != 1) = true := bne_iff_ne.mpr c40
                    by_cases c44 : a1_1 = true
                    · subst c44
                      have H1 : (some a0_3) = some r := by rw [if_pos rfl] at H; exact H
                      clear H
                      have H := H1
                      clear H1
                      obtain rfl := Option.some.inj H
                      have hnb45 := NB144_143.out
                      have hnc45 := NB143_144.out
                      have hcz46_0 : wc.cell? ⟨gb144, 0, none⟩ = some (.int .u8 a1_0) := (blk_cell BK144.out 0).trans rfl
                      have hcz46_1 : wc.cell? ⟨gb144, 1, none⟩ = some (.bool true) := (blk_cell BK144.out 1).trans rfl
                      have hcz46_2 : wc.cell? ⟨gb144, 2, none⟩ = some (.int .u8 a1_2) := (blk_cell BK144.out 2).trans rfl
                      have hcz46_3 : wc.cell? ⟨gb144, 3, none⟩ = some (.bool a1_3) := (blk_cell BK144.out 3).trans rfl
                      have hcz46_4 : wc.cell? ⟨gb144, 4, none⟩ = some (.bool a1_4) := (blk_cell BK144.out 4).trans rfl
                      have hcz46_5 : wc.cell? ⟨gb144, 5, none⟩ = some (.bool a1_5) := (blk_cell BK144.out 5).trans rfl
                      have hcz46_6 : wc.cell? ⟨gb144, 6, none⟩ = some (.bool a1_6) := (blk_cell BK144.out 6).trans rfl
                      have hfz46_0 := blk_frozen BK144.out 0
                      have hfz46_1 := blk_frozen BK144.out 1
                      have hfz46_2 := blk_frozen BK144.out 2
                      have hfz46_3 := blk_frozen BK144.out 3
                      have hfz46_4 := blk_frozen BK144.out 4
                      have hfz46_5 := blk_frozen BK144.out 5
                      have hfz46_6 := blk_frozen BK144.out 6
                      have hcz47_0 : wc.cell? ⟨gb143, 0, none⟩ = some (.bool a0_0) := (blk_cell BK143.out 0).trans rfl
                      have hcz47_1 : wc.cell? ⟨gb143, 1, none⟩ = some (.bool a0_1) := (blk_cell BK143.out 1).trans rfl
                      have hcz47_2 : wc.cell? ⟨gb143, 2, none⟩ = some (.bool a0_2) := (blk_cell BK143.out 2).trans rfl
                      have hcz47_3 : wc.cell? ⟨gb143, 3, none⟩ = some (.bool a0_3) := (blk_cell BK143.out 3).trans rfl
                      have hcz47_4 : wc.cell? ⟨gb143, 4, none⟩ = some (.bool a0_4) := (blk_cell BK143.out 4).trans rfl
                      have hcz47_5 : wc.cell? ⟨gb143, 5, none⟩ = some (.bool a0_5) := (blk_cell BK143.out 5).trans rfl
                      have hcz47_6 : wc.cell? ⟨gb143, 6, none⟩ = some (.bool a0_6) := (blk_cell BK143.out 6).trans rfl
                      have hcz47_7 : wc.cell? ⟨gb143, 7, none⟩ = some (.bool a0_7) := (blk_cell BK143.out 7).trans rfl
                      have hcz47_8 : wc.cell? ⟨gb143, 8, none⟩ = some (.int .u64 a0_8) := (blk_cell BK143.out 8).trans rfl
                      have hcz47_9 : wc.cell? ⟨gb143, 9, none⟩ = some (.int .u64 a0_9) := (blk_cell BK143.out 9).trans rfl
                      have hfz47_0 := blk_frozen BK143.out 0
                      have hfz47_1 := blk_frozen BK143.out 1
                      have hfz47_2 := blk_frozen BK143.out 2
                      have hfz47_3 := blk_frozen BK143.out 3
                      have hfz47_4 := blk_frozen BK143.out 4
                      have hfz47_5 := blk_frozen BK143.out 5
                      have hfz47_6 := blk_frozen BK143.out 6
                      have hfz47_7 := blk_frozen BK143.out 7
                      have hfz47_8 := blk_frozen BK143.out 8
                      have hfz47_9 := blk_frozen BK143.out 9
                      go_wp2
                      go_ret
                      exact ⟨by first | rfl | (simp [errW_none, errW_some] <;> rfl) | (simp [*, errW_none, errW_some] <;> rfl), by repeat (first | (with_reducible first | exact HB.out | apply below_alloc | apply pw_below_drewN | apply below_drew1 | refine below_set ?_ GE143.out | refine below_set ?_ GE144.out) | exact HB.out)⟩
                    · replace c44 := Bool.eq_false_iff.mpr c44
                      subst c44
                      have H1 : (if a0_1 = true then (some true) else (if a0_3 = true then (if a1_5 = true then (some true) else (if a1_3 = true then (some a1_6) else (some false))) else (some false))) = some r := by rw [if_neg (show ¬ (false = true) by decide)] at H; exact H
                      clear H
                      have H := H1
                      clear H1
                      by_cases c48 : a0_1 = true
                      · subst c48
                        have H1 : (some true) = some r := by rw [if_pos rfl] at H; exact H
                        clear H
                        have H := H1
                        clear H1
                        obtain rfl := Option.some.inj H
                        have hnb49 := NB144_143.out
                        have hnc49 := NB143_144.out
                        have hcz50_0 : wc.cell? ⟨gb144, 0, none⟩ = some (.int .u8 a1_0) := (blk_cell BK144.out 0).trans rfl
                        have hcz50_1 : wc.cell? ⟨gb144, 1, none⟩ = some (.bool false) := (blk_cell BK144.out 1).trans rfl
                        have hcz50_2 : wc.cell? ⟨gb144, 2, none⟩ = some (.int .u8 a1_2) := (blk_cell BK144.out 2).trans rfl
                        have hcz50_3 : wc.cell? ⟨gb144, 3, none⟩ = some (.bool a1_3) := (blk_cell BK144.out 3).trans rfl
                        have hcz50_4 : wc.cell? ⟨gb144, 4, none⟩ = some (.bool a1_4) := (blk_cell BK144.out 4).trans rfl
                        have hcz50_5 : wc.cell? ⟨gb144, 5, none⟩ = some (.bool a1_5) := (blk_cell BK144.out 5).trans rfl
                        have hcz50_6 : wc.cell? ⟨gb144, 6, none⟩ = some (.bool a1_6) := (blk_cell BK144.out 6).trans rfl
                        have hfz50_0 := blk_frozen BK144.out 0
                        have hfz50_1 := blk_frozen BK144.out 1
                        have hfz50_2 := blk_frozen BK144.out 2
                        have hfz50_3 := blk_frozen BK144.out 3
                        have hfz50_4 := blk_frozen BK144.out 4
                        have hfz50_5 := blk_frozen BK144.out 5
                        have hfz50_6 := blk_frozen BK144.out 6
                        have hcz51_0 : wc.cell? ⟨gb143, 0, none⟩ = some (.bool a0_0) := (blk_cell BK143.out 0).trans rfl
                        have hcz51_1 : wc.cell? ⟨gb143, 1, none⟩ = some (.bool true) := (blk_cell BK143.out 1).trans rfl
                        have hcz51_2 : wc.cell? ⟨gb143, 2, none⟩ = some (.bool a0_2) := (blk_cell BK143.out 2).trans rfl
                        have hcz51_3 : wc.cell? ⟨gb143, 3, none⟩ = some (.bool a0_3) := (blk_cell BK143.out 3).trans rfl
                        have hcz51_4 : wc.cell? ⟨gb143, 4, none⟩ = some (.bool a0_4) := (blk_cell BK143.out 4).trans rfl
                        have hcz51_5 : wc.cell? ⟨gb143, 5, none⟩ = some (.bool a0_5) := (blk_cell BK143.out 5).trans rfl
                        have hcz51_6 : wc.cell? ⟨gb143, 6, none⟩ = some (.bool a0_6) := (blk_cell BK143.out 6).trans rfl
                        have hcz51_7 : wc.cell? ⟨gb143, 7, none⟩ = some (.bool a0_7) := (blk_cell BK143.out 7).trans rfl
                        have hcz51_8 : wc.cell? ⟨gb143, 8, none⟩ = some (.int .u64 a0_8) := (blk_cell BK143.out 8).trans rfl
                        have hcz51_9 : wc.cell? ⟨gb143, 9, none⟩ = some (.int .u64 a0_9) := (blk_cell BK143.out 9).trans rfl
                        have hfz51_0 := blk_frozen BK143.out 0
                        have hfz51_1 := blk_frozen BK143.out 1
                        have hfz51_2 := blk_frozen BK143.out 2
                        have hfz51_3 := blk_frozen BK143.out 3
                        have hfz51_4 := blk_frozen BK143.out 4
                        have hfz51_5 := blk_frozen BK143.out 5
                        have hfz51_6 := blk_frozen BK143.out 6
                        have hfz51_7 := blk_frozen BK143.out 7
                        have hfz51_8 := blk_frozen BK143.out 8
                        have hfz51_9 := blk_frozen BK143.out 9
                        go_wp2
                        go_ret
                        exact ⟨by first | rfl | (simp [errW_none, errW_some] <;> rfl) | (simp [*, errW_none, errW_some] <;> rfl), by repeat (first | (with_reducible first | exact HB.out | apply below_alloc | apply pw_below_drewN | apply below_drew1 | refine below_set ?_ GE143.out | refine below_set ?_ GE144.out) | exact HB.out)⟩
                      · replace c48 := Bool.eq_false_iff.mpr c48
                        subst c48
                        have H1 : (if a0_3 = true then (if a1_5 = true then (some true) else (if a1_3 = true then (some a1_6) else (some false))) else (some false)) = some r := by rw [if_neg (show ¬ (false = true) by decide)] at H; exact H
                        clear H
                        have H := H1
                        clear H1
                        by_cases c52 : a0_3 = true
                        · subst c52
                          have H1 : (if a1_5 = true then (some true) else (if a1_3 = true then (some a1_6) else (some false))) = some r := by rw [if_pos rfl] at H; exact H
                          clear H
                          have H := H1
                          clear H1
                          by_cases c53 : a1_5 = true
                          · subst c53
                            have H1 : (some true) = some r := by rw [if_pos rfl] at H; exact H
                            clear H
                            have H := H1
                            clear H1
                            obtain rfl := Option.some.inj H
                            have hnb54 := NB144_143.out
                            have hnc54 := NB143_144.out
                            have hcz55_0 : wc.cell? ⟨gb144, 0, none⟩ = some (.int .u8 a1_0) := (blk_cell BK144.out 0).trans rfl
                            have hcz55_1 : wc.cell? ⟨gb144, 1, none⟩ = some (.bool false) := (blk_cell BK144.out 1).trans rfl
                            have hcz55_2 : wc.cell? ⟨gb144, 2, none⟩ = some (.int .u8 a1_2) := (blk_cell BK144.out 2).trans rfl
                            have hcz55_3 : wc.cell? ⟨gb144, 3, none⟩ = some (.bool a1_3) := (blk_cell BK144.out 3).trans rfl
                            have hcz55_4 : wc.cell? ⟨gb144, 4, none⟩ = some (.bool a1_4) := (blk_cell BK144.out 4).trans rfl
                            have hcz55_5 : wc.cell? ⟨gb144, 5, none⟩ = some (.bool true) := (blk_cell BK144.out 5).trans rfl
                            have hcz55_6 : wc.cell? ⟨gb144, 6, none⟩ = some (.bool a1_6) := (blk_cell BK144.out 6).trans rfl
                            have hfz55_0 := blk_frozen BK144.out 0
                            have hfz55_1 := blk_frozen BK144.out 1
                            have hfz55_2 := blk_frozen BK144.out 2
                            have hfz55_3 := blk_frozen BK144.out 3
                            have hfz55_4 := blk_frozen BK144.out 4
                            have hfz55_5 := blk_frozen BK144.out 5
                            have hfz55_6 := blk_frozen BK144.out 6
                            have hcz56_0 : wc.cell? ⟨gb143, 0, none⟩ = some (.bool a0_0) := (blk_cell BK143.out 0).trans rfl
                            have hcz56_1 : wc.cell? ⟨gb143, 1, none⟩ = some (.bool false) := (blk_cell BK143.out 1).trans rfl
                            have hcz56_2 : wc.cell? ⟨gb143, 2, none⟩ = some (.bool a0_2) := (blk_cell BK143.out 2).trans rfl
                            have hcz56_3 : wc.cell? ⟨gb143, 3, none⟩ = some (.bool true) := (blk_cell BK143.out 3).trans rfl
                            have hcz56_4 : wc.cell? ⟨gb143, 4, none⟩ = some (.bool a0_4) := (blk_cell BK143.out 4).trans rfl
                            have hcz56_5 : wc.cell? ⟨gb143, 5, none⟩ = some (.bool a0_5) := (blk_cell BK143.out 5).trans rfl
                            have hcz56_6 : wc.cell? ⟨gb143, 6, none⟩ = some (.bool a0_6) := (blk_cell BK143.out 6).trans rfl
                            have hcz56_7 : wc.cell? ⟨gb143, 7, none⟩ = some (.bool a0_7) := (blk_cell BK143.out 7).trans rfl
                            have hcz56_8 : wc.cell? ⟨gb143, 8, none⟩ = some (.int .u64 a0_8) := (blk_cell BK143.out 8).trans rfl
                            have hcz56_9 : wc.cell? ⟨gb143, 9, none⟩ = some (.int .u64 a0_9) := (blk_cell BK143.out 9).trans rfl
                            have hfz56_0 := blk_frozen BK143.out 0
                            have hfz56_1 := blk_frozen BK143.out 1
                            have hfz56_2 := blk_frozen BK143.out 2
                            have hfz56_3 := blk_frozen BK143.out 3
                            have hfz56_4 := blk_frozen BK143.out 4
                            have hfz56_5 := blk_frozen BK143.out 5
                            have hfz56_6 := blk_frozen BK143.out 6
                            have hfz56_7 := blk_frozen BK143.out 7
                            have hfz56_8 := blk_frozen BK143.out 8
                            have hfz56_9 := blk_frozen BK143.out 9
                            go_wp2
                            go_ret
                            exact ⟨by first | rfl | (simp [errW_none, errW_some] <;> rfl) | (simp [*, errW_none, errW_some] <;> rfl), by repeat (first | (with_reducible first | exact HB.out | apply below_alloc | apply pw_below_drewN | apply below_drew1 | refine below_set ?_ GE143.out | refine below_set ?_ GE144.out) | exact HB.out)⟩
                          · replace c53 := Bool.eq_false_iff.mpr c53
                            subst c53
                            have H1 : (if a1_3 = true then (some a1_6) else (some false)) = some r := by rw [if_neg (show ¬ (false = true) by decide)] at H; exact H
                            clear H
                            have H := H1
                            clear H1
                            by_cases c57 : a1_3 = true
                            · subst c57
                              have H1 : (some a1_6) = some r := by rw [if_pos rfl] at H; exact H
                              clear H
                              have H := H1
                              clear H1
                              obtain rfl := Option.some.inj H
                              have hnb58 := NB144_143.out
                              have hnc58 := NB143_144.out
                              have hcz59_0 : wc.cell? ⟨gb144, 0, none⟩ = some (.int .u8 a1_0) := (blk_cell BK144.out 0).trans rfl
                              have hcz59_1 : wc.cell? ⟨gb144, 1, none⟩ = some (.bool false) := (blk_cell BK144.out 1).trans rfl
                              have hcz59_2 : wc.cell? ⟨gb144, 2, none⟩ = some (.int .u8 a1_2) := (blk_cell BK144.out 2).trans rfl
                              have hcz59_3 : wc.cell? ⟨gb144, 3, none⟩ = some (.bool true) := (blk_cell BK144.out 3).trans rfl
                              have hcz59_4 : wc.cell? ⟨gb144, 4, none⟩ = some (.bool a1_4) := (blk_cell BK144.out 4).trans rfl
                              have hcz59_5 : wc.cell? ⟨gb144, 5, none⟩ = some (.bool false) := (blk_cell BK144.out 5).trans rfl
                              have hcz59_6 : wc.cell? ⟨gb144, 6, none⟩ = some (.bool a1_6) := (blk_cell BK144.out 6).trans rfl
                              have hfz59_0 := blk_frozen BK144.out 0
                              have hfz59_1 := blk_frozen BK144.out 1
                              have hfz59_2 := blk_frozen BK144.out 2
                              have hfz59_3 := blk_frozen BK144.out 3
                              have hfz59_4 := blk_frozen BK144.out 4
                              have hfz59_5 := blk_frozen BK144.out 5
                              have hfz59_6 := blk_frozen BK144.out 6
                              have hcz60_0 : wc.cell? ⟨gb143, 0, none⟩ = some (.bool a0_0) := (blk_cell BK143.out 0).trans rfl
                              have hcz60_1 : wc.cell? ⟨gb143, 1, none⟩ = some (.bool false) := (blk_cell BK143.out 1).trans rfl
                              have hcz60_2 : wc.cell? ⟨gb143, 2, none⟩ = some (.bool a0_2) := (blk_cell BK143.out 2).trans rfl
                              have hcz60_3 : wc.cell? ⟨gb143, 3, none⟩ = some (.bool true) := (blk_cell BK143.out 3).trans rfl
                              have hcz60_4 : wc.cell? ⟨gb143, 4, none⟩ = some (.bool a0_4) := (blk_cell BK143.out 4).trans rfl
                              have hcz60_5 : wc.cell? ⟨gb143, 5, none⟩ = some (.bool a0_5) := (blk_cell BK143.out 5).trans rfl
                              have hcz60_6 : wc.cell? ⟨gb143, 6, none⟩ = some (.bool a0_6) := (blk_cell BK143.out 6).trans rfl
                              have hcz60_7 : wc.cell? ⟨gb143, 7, none⟩ = some (.bool a0_7) := (blk_cell BK143.out 7).trans rfl
                              have hcz60_8 : wc.cell? ⟨gb143, 8, none⟩ = some (.int .u64 a0_8) := (blk_cell BK143.out 8).trans rfl
                              have hcz60_9 : wc.cell? ⟨gb143, 9, none⟩ = some (.int .u64 a0_9) := (blk_cell BK143.out 9).trans rfl
                              have hfz60_0 := blk_frozen BK143.out 0
                              have hfz60_1 := blk_frozen BK143.out 1
                              have hfz60_2 := blk_frozen BK143.out 2
                              have hfz60_3 := blk_frozen BK143.out 3
                              have hfz60_4 := blk_frozen BK143.out 4
                              have hfz60_5 := blk_frozen BK143.out 5
                              have hfz60_6 := blk_frozen BK143.out 6
                              have hfz60_7 := blk_frozen BK143.out 7
                              have hfz60_8 := blk_frozen BK143.out 8
                              have hfz60_9 := blk_frozen BK143.out 9
                              go_wp2
                              go_ret
                              exact ⟨by first | rfl | (simp [errW_none, errW_some] <;> rfl) | (simp [*, errW_none, errW_some] <;> rfl), by repeat (first | (with_reducible first | exact HB.out | apply below_alloc | apply pw_below_drewN | apply below_drew1 | refine below_set ?_ GE143.out | refine below_set ?_ GE144.out) | exact HB.out)⟩
                            · replace c57 := Bool.eq_false_iff.mpr c57
                              subst c57
                              have H1 : (some false) = some r := by rw [if_neg (show ¬ (false = true) by decide)] at H; exact H
                              clear H
                              have H := H1
                              clear H1
                              obtain rfl := Option.some.inj H
                              have hnb61 := NB144_143.out
                              have hnc61 := NB143_144.out
                              have hcz62_0 : wc.cell? ⟨gb144, 0, none⟩ = some (.int .u8 a1_0) := (blk_cell BK144.out 0).trans rfl
                              have hcz62_1 : wc.cell? ⟨gb144, 1, none⟩ = some (.bool false) := (blk_cell BK144.out 1).trans rfl
                              have hcz62_2 : wc.cell? ⟨gb144, 2, none⟩ = some (.int .u8 a1_2) := (blk_cell BK144.out 2).trans rfl
                              have hcz62_3 : wc.cell? ⟨gb144, 3, none⟩ = some (.bool false) := (blk_cell BK144.out 3).trans rfl
                              have hcz62_4 : wc.cell? ⟨gb144, 4, none⟩ = some (.bool a1_4) := (blk_cell BK144.out 4).trans rfl
                              have hcz62_5 : wc.cell? ⟨gb144, 5, none⟩ = some (.bool false) := (blk_cell BK144.out 5).trans rfl
                              have hcz62_6 : wc.cell? ⟨gb144, 6, none⟩ = some (.bool a1_6) := (blk_cell BK144.out 6).trans rfl
                              have hfz62_0 := blk_frozen BK144.out 0
                              have hfz62_1 := blk_frozen BK144.out 1
                              have hfz62_2 := blk_frozen BK144.out 2
                              have hfz62_3 := blk_frozen BK144.out 3
                              have hfz62_4 := blk_frozen BK144.out 4
                              have hfz62_5 := blk_frozen BK144.out 5
                              have hfz62_6 := blk_frozen BK144.out 6
                              have hcz63_0 : wc.cell? ⟨gb143, 0, none⟩ = some (.bool a0_0) := (blk_cell BK143.out 0).trans rfl
                              have hcz63_1 : wc.cell? ⟨gb143, 1, none⟩ = some (.bool false) := (blk_cell BK143.out 1).trans rfl
                              have hcz63_2 : wc.cell? ⟨gb143, 2, none⟩ = some (.bool a0_2) := (blk_cell BK143.out 2).trans rfl
                              have hcz63_3 : wc.cell? ⟨gb143, 3, none⟩ = some (.bool true) := (blk_cell BK143.out 3).trans rfl
                              have hcz63_4 : wc.cell? ⟨gb143, 4, none⟩ = some (.bool a0_4) := (blk_cell BK143.out 4).trans rfl
                              have hcz63_5 : wc.cell? ⟨gb143, 5, none⟩ = some (.bool a0_5) := (blk_cell BK143.out 5).trans rfl
                              have hcz63_6 : wc.cell? ⟨gb143, 6, none⟩ = some (.bool a0_6) := (blk_cell BK143.out 6).trans rfl
                              have hcz63_7 : wc.cell? ⟨gb143, 7, none⟩ = some (.bool a0_7) := (blk_cell BK143.out 7).trans rfl
                              have hcz63_8 : wc.cell? ⟨gb143, 8, none⟩ = some (.int .u64 a0_8) := (blk_cell BK143.out 8).trans rfl
                              have hcz63_9 : wc.cell? ⟨gb143, 9, none⟩ = some (.int .u64 a0_9) := (blk_cell BK143.out 9).trans rfl
                              have hfz63_0 := blk_frozen BK143.out 0
                              have hfz63_1 := blk_frozen BK143.out 1
                              have hfz63_2 := blk_frozen BK143.out 2
                              have hfz63_3 := blk_frozen BK143.out 3
                              have hfz63_4 := blk_frozen BK143.out 4
                              have hfz63_5 := blk_frozen BK143.out 5
                              have hfz63_6 := blk_frozen BK143.out 6
                              have hfz63_7 := blk_frozen BK143.out 7
                              have hfz63_8 := blk_frozen BK143.out 8
                              have hfz63_9 := blk_frozen BK143.out 9
                              go_wp2
                              go_ret
                              exact ⟨by first | rfl | (simp [errW_none, errW_some] <;> rfl) | (simp [*, errW_none, errW_some] <;> rfl), by repeat (first | (with_reducible first | exact HB.out | apply below_alloc | apply pw_below_drewN | apply below_drew1 | refine below_set ?_ GE143.out | refine below_set ?_ GE144.out) | exact HB.out)⟩
                        · replace c52 := Bool.eq_false_iff.mpr c52
                          subst c52
                          have H1 : (some false) = some r := by rw [if_neg (show ¬ (false = true) by decide)] at H; exact H
                          clear H
                          have H := H1
                          clear H1
                          obtain rfl := Option.some.inj H
                          have hnb64 := NB144_143.out
                          have hnc64 := NB143_144.out
                          have hcz65_0 : wc.cell? ⟨gb144, 0, none⟩ = some (.int .u8 a1_0) := (blk_cell BK144.out 0).trans rfl
                          have hcz65_1 : wc.cell? ⟨gb144, 1, none⟩ = some (.bool false) := (blk_cell BK144.out 1).trans rfl
                          have hcz65_2 : wc.cell? ⟨gb144, 2, none⟩ = some (.int .u8 a1_2) := (blk_cell BK144.out 2).trans rfl
                          have hcz65_3 : wc.cell? ⟨gb144, 3, none⟩ = some (.bool a1_3) := (blk_cell BK144.out 3).trans rfl
                          have hcz65_4 : wc.cell? ⟨gb144, 4, none⟩ = some (.bool a1_4) := (blk_cell BK144.out 4).trans rfl
                          have hcz65_5 : wc.cell? ⟨gb144, 5, none⟩ = some (.bool a1_5) := (blk_cell BK144.out 5).trans rfl
                          have hcz65_6 : wc.cell? ⟨gb144, 6, none⟩ = some (.bool a1_6) := (blk_cell BK144.out 6).trans rfl
                          have hfz65_0 := blk_frozen BK144.out 0
                          have hfz65_1 := blk_frozen BK144.out 1
                          have hfz65_2 := blk_frozen BK144.out 2
                          have hfz65_3 := blk_frozen BK144.out 3
                          have hfz65_4 := blk_frozen BK144.out 4
                          have hfz65_5 := blk_frozen BK144.out 5
                          have hfz65_6 := blk_frozen BK144.out 6
                          have hcz66_0 : wc.cell? ⟨gb143, 0, none⟩ = some (.bool a0_0) := (blk_cell BK143.out 0).trans rfl
                          have hcz66_1 : wc.cell? ⟨gb143, 1, none⟩ = some (.bool false) := (blk_cell BK143.out 1).trans rfl
                          have hcz66_2 : wc.cell? ⟨gb143, 2, none⟩ = some (.bool a0_2) := (blk_cell BK143.out 2).trans rfl
                          have hcz66_3 : wc.cell? ⟨gb143, 3, none⟩ = some (.bool false) := (blk_cell BK143.out 3).trans rfl
                          have hcz66_4 : wc.cell? ⟨gb143, 4, none⟩ = some (.bool a0_4) := (blk_cell BK143.out 4).trans rfl
                          have hcz66_5 : wc.cell? ⟨gb143, 5, none⟩ = some (.bool a0_5) := (blk_cell BK143.out 5).trans rfl
                          have hcz66_6 : wc.cell? ⟨gb143, 6, none⟩ = some (.bool a0_6) := (blk_cell BK143.out 6).trans rfl
                          have hcz66_7 : wc.cell? ⟨gb143, 7, none⟩ = some (.bool a0_7) := (blk_cell BK143.out 7).trans rfl
                          have hcz66_8 : wc.cell? ⟨gb143, 8, none⟩ = some (.int .u64 a0_8) := (blk_cell BK143.out 8).trans rfl
                          have hcz66_9 : wc.cell? ⟨gb143, 9, none⟩ = some (.int .u64 a0_9) := (blk_cell BK143.out 9).trans rfl
                          have hfz66_0 := blk_frozen BK143.out 0
                          have hfz66_1 := blk_frozen BK143.out 1
                          have hfz66_2 := blk_frozen BK143.out 2
                          have hfz66_3 := blk_frozen BK143.out 3
                          have hfz66_4 := blk_frozen BK143.out 4
                          have hfz66_5 := blk_frozen BK143.out 5
                          have hfz66_6 := blk_frozen BK143.out 6
                          have hfz66_7 := blk_frozen BK143.out 7
                          have hfz66_8 := blk_frozen BK143.out 8
                          have hfz66_9 := blk_frozen BK143.out 9
                          go_wp2
                          go_ret
                          exact ⟨by first | rfl | (simp [errW_none, errW_some] <;> rfl) | (simp [*, errW_none, errW_some] <;> rfl), by repeat (first | (with_reducible first | exact HB.out | apply below_alloc | apply pw_below_drewN | apply below_drew1 | refine below_set ?_ GE143.out | refine below_set ?_ GE144.out) | exact HB.out)⟩

end Go.Proofs.YteebgfcihoidmaaR.Q
