/- Where the Lean function of a Go function gives a value, the Go call returns that value and changes nothing that was there: for every input. (By a program of this session, and by hand.) -/
import Derived.Test.YteebgfcihoidmaaRQx0
import Derived.Test.YteebgfcihoidmaaRQx1
import Derived.Test.YteebgfcihoidmaaRQx2
import Derived.Test.YteebgfcihoidmaaRQx3
import Derived.Test.YteebgfcihoidmaaRQx5
import Derived.Test.YteebgfcihoidmaaRQx8
namespace Go.Proofs.YteebgfcihoidmaaR.Q
open Go.RowKit Go.Proofs.YteebgfcihoidmaaRW.PrintWords Go.Proofs.YteebgfcihoidmaaRW.PrintLast Go.Proofs.YteebgfcihoidmaaRW.PrintMore
attribute [local go_sem] max2_int min2_int max_two min_two max_three min_three max_four min_four   -- for this text's walks alone
set_option linter.unusedVariables false
set_option linter.unusedSimpArgs false

/-! ### mezzaninelaw15_PteAllows: function 5 -/
def mezzaninelaw15_PteAllows.l0 : Nat → Int → Int → Int → Bool → Int → Bool → Bool → Bool → Bool → Bool → Bool → Bool → Bool → Bool → Bool → Bool → Bool → Int → Int → Option (Bool)
  | 0, _, _, _, _, _, _, _, _, _, _, _, _, _, _, _, _, _, _, _ => none
  | k + 1, x0, x6, x169000, x169001, x169002, x169003, x169004, x169005, x169006, x180000, x180001, x180002, x180003, x180004, x180005, x180006, x180007, x180008, x180009 => if x6 < 256 then ((pte_Allowed.f x0 ((Go.bits .and .i64 x6 3) % 256) (decide ((Go.bits .and .i64 x6 4) > 0)) ((Go.bits .and .i64 (x6 / 8) 1) % 256) (decide ((Go.bits .and .i64 x6 16) > 0)) (decide ((Go.bits .and .i64 x6 32) > 0)) (decide ((Go.bits .and .i64 x6 64) > 0)) (decide ((Go.bits .and .i64 x6 128) > 0))).bind fun t181 => ((mezzanineref15_Entry_Allowed.f k x180000 x180001 x180002 x180003 x180004 x180005 x180006 x180007 x180008 x180009 ((Go.bits .and .i64 x6 3) % 256) (decide ((Go.bits .and .i64 x6 4) > 0)) ((Go.bits .and .i64 (x6 / 8) 1) % 256) (decide ((Go.bits .and .i64 x6 16) > 0)) (decide ((Go.bits .and .i64 x6 32) > 0)) (decide ((Go.bits .and .i64 x6 64) > 0)) (decide ((Go.bits .and .i64 x6 128) > 0))).bind fun t182 => (if (t181 != t182) = true then (some false) else ((pte_Full.f x0 ((Go.bits .and .i64 x6 3) % 256) (decide ((Go.bits .and .i64 x6 4) > 0)) ((Go.bits .and .i64 (x6 / 8) 1) % 256) (decide ((Go.bits .and .i64 x6 16) > 0)) (decide ((Go.bits .and .i64 x6 32) > 0)) (decide ((Go.bits .and .i64 x6 64) > 0)) (decide ((Go.bits .and .i64 x6 128) > 0))).bind fun t183 => ((mezzanineref15_Entry_Full.f x180000 x180001 x180002 x180003 x180004 x180005 x180006 x180007 x180008 x180009 ((Go.bits .and .i64 x6 3) % 256) (decide ((Go.bits .and .i64 x6 4) > 0)) ((Go.bits .and .i64 (x6 / 8) 1) % 256) (decide ((Go.bits .and .i64 x6 16) > 0)) (decide ((Go.bits .and .i64 x6 32) > 0)) (decide ((Go.bits .and .i64 x6 64) > 0)) (decide ((Go.bits .and .i64 x6 128) > 0))).bind fun t184 => (if (t183 != t184) = true then (some false) else (mezzaninelaw15_PteAllows.l0 k x0 (wrap64 (x6 + 1)) x169000 x169001 x169002 x169003 x169004 x169005 x169006 x180000 x180001 x180002 x180003 x180004 x180005 x180006 x180007 x180008 x180009))))))) else ((mezzaninelaw15_awake.f k).bind fun t185 => (if t185 = true then ((pte_Allowed.f x0 x169000 x169001 x169002 x169003 x169004 x169005 x169006).bind fun t186 => ((mezzanineref15_Entry_Allowed.f k x180000 x180001 x180002 x180003 x180004 x180005 x180006 x180007 x180008 x180009 x169000 x169001 x169002 x169003 x169004 x169005 x169006).bind fun t187 => (if (t186 == t187) = true then ((pte_Full.f x0 x169000 x169001 x169002 x169003 x169004 x169005 x169006).bind fun t188 => ((mezzanineref15_Entry_Full.f x180000 x180001 x180002 x180003 x180004 x180005 x180006 x180007 x180008 x180009 x169000 x169001 x169002 x169003 x169004 x169005 x169006).bind fun t189 => (some (t188 == t189)))) else (some false)))) else (some false)))
def mezzaninelaw15_PteAllows.f (k : Nat) (a0 : Int) (a1_0 : Int) (a1_1 : Bool) (a1_2 : Int) (a1_3 : Bool) (a1_4 : Bool) (a1_5 : Bool) (a1_6 : Bool) : Option (Bool) := (mezzanineref15_Of.f a0).bind fun bt169 => (mezzaninelaw15_PteAllows.l0 k a0 0 a1_0 a1_1 a1_2 a1_3 a1_4 a1_5 a1_6 bt169.1 bt169.2.1 bt169.2.2.1 bt169.2.2.2.1 bt169.2.2.2.2.1 bt169.2.2.2.2.2.1 bt169.2.2.2.2.2.2.1 bt169.2.2.2.2.2.2.2.1 bt169.2.2.2.2.2.2.2.2.1 bt169.2.2.2.2.2.2.2.2.2)
theorem mezzaninelaw15_PteAllows.mono_l : ∀ k, (∀ y0 y1 y2 y3 y4 y5 y6 y7 y8 y9 y10 y11 y12 y13 y14 y15 y16 y17 y18, LeO (mezzaninelaw15_PteAllows.l0 k y0 y1 y2 y3 y4 y5 y6 y7 y8 y9 y10 y11 y12 y13 y14 y15 y16 y17 y18) (mezzaninelaw15_PteAllows.l0 (k + 1) y0 y1 y2 y3 y4 y5 y6 y7 y8 y9 y10 y11 y12 y13 y14 y15 y16 y17 y18))
  | 0 => fun _ _ _ _ _ _ _ _ _ _ _ _ _ _ _ _ _ _ _ r h => by simp [mezzaninelaw15_PteAllows.l0] at h
  | k + 1 => by
    have ih0 := mezzaninelaw15_PteAllows.mono_l k
    · intro y0 y1 y2 y3 y4 y5 y6 y7 y8 y9 y10 y11 y12 y13 y14 y15 y16 y17 y18
      unfold mezzaninelaw15_PteAllows.l0
      repeat' first
      | (with_reducible exact ih0 _ _ _ _ _ _ _ _ _ _ _ _ _ _ _ _ _ _ _)
      | (with_reducible exact mezzaninelaw15_awake.mono _)
      | (with_reducible exact mezzanineref15_Entry_Allowed.mono _ _ _ _ _ _ _ _ _ _ _ _ _ _ _ _ _ _)
      | (with_reducible exact LeO.refl _)
      | (with_reducible exact LeO.none _)
      | (with_reducible refine LeO.ite ?_ ?_)
      | (with_reducible refine LeO.bind ?_ (fun _ => ?_))
      | exact ih0 _ _ _ _ _ _ _ _ _ _ _ _ _ _ _ _ _ _ _
      | exact mezzaninelaw15_awake.mono _
      | exact mezzanineref15_Entry_Allowed.mono _ _ _ _ _ _ _ _ _ _ _ _ _ _ _ _ _ _
      | exact LeO.none _
      | refine LeO.ite ?_ ?_
      | refine LeO.bind ?_ (fun _ => ?_)
theorem mezzaninelaw15_PteAllows.mono : ∀ a0 a1 a2 a3 a4 a5 a6 a7 k, LeO (mezzaninelaw15_PteAllows.f k a0 a1 a2 a3 a4 a5 a6 a7) (mezzaninelaw15_PteAllows.f (k + 1) a0 a1 a2 a3 a4 a5 a6 a7) := by
  intro a0 a1 a2 a3 a4 a5 a6 a7 k
  have ih0 := mezzaninelaw15_PteAllows.mono_l k
  unfold mezzaninelaw15_PteAllows.f
  repeat' first
      | (with_reducible exact ih0 _ _ _ _ _ _ _ _ _ _ _ _ _ _ _ _ _ _ _)
      | (with_reducible exact mezzaninelaw15_awake.mono _)
      | (with_reducible exact mezzanineref15_Entry_Allowed.mono _ _ _ _ _ _ _ _ _ _ _ _ _ _ _ _ _ _)
      | (with_reducible exact LeO.refl _)
      | (with_reducible exact LeO.none _)
      | (with_reducible refine LeO.ite ?_ ?_)
      | (with_reducible refine LeO.bind ?_ (fun _ => ?_))
      | exact ih0 _ _ _ _ _ _ _ _ _ _ _ _ _ _ _ _ _ _ _
      | exact mezzaninelaw15_awake.mono _
      | exact mezzanineref15_Entry_Allowed.mono _ _ _ _ _ _ _ _ _ _ _ _ _ _ _ _ _ _
      | exact LeO.none _
      | refine LeO.ite ?_ ?_
      | refine LeO.bind ?_ (fun _ => ?_)
def mezzaninelaw15_PteAllows.T6 : Bool × List (List Nat × List Nat) := (true, [([], []), ([], []), ([0, 1], [0, 1]), ([], []), ([], []), ([3, 4, 2], [3, 4]), ([2, 5], [2, 5]), ([6, 5], [6]), ([7], [7]), ([7], [7]), ([8, 9, 7, 7], [7, 8, 9]), ([7], [7]), ([7], [7]), ([11, 12, 10, 7], [7, 11, 12]), ([10, 13, 7], [7, 10, 13]), ([7, 14], [7, 14])])
def mezzaninelaw15_PteAllows.B6 : List Nat := [0, 0, 3, 0, 0, 31, 63, 127, 255, 255, 1023, 255, 255, 8191, 16383, 32767]
theorem mezzaninelaw15_PteAllows.tab6 : rtab .any (opsOf Try.f5 6) = mezzaninelaw15_PteAllows.T6 := by kernel_rfl
theorem mezzaninelaw15_PteAllows.bits6 : waitsOk mezzaninelaw15_PteAllows.T6.2 mezzaninelaw15_PteAllows.B6 = true := by kernel_rfl
def mezzaninelaw15_PteAllows.T8 : Bool × List (List Nat × List Nat) := (true, [([], []), ([0, 0], [0]), ([1], [1]), ([1], [1]), ([2, 3, 1, 1], [1, 2, 3]), ([1], [1]), ([1], [1]), ([5, 6, 4, 1], [1, 5, 6]), ([4, 7, 1], [1, 4, 7]), ([1, 8], [1, 8]), ([9, 7], [9]), ([10], [10]), ([10], [10]), ([11, 12, 10, 10], [10, 11, 12]), ([10], [10]), ([10], [10]), ([14, 15, 13, 10], [10, 14, 15]), ([13, 16, 10], [10, 13, 16]), ([10, 17], [10, 17]), ([18, 16, 0, 1, 2, 3, 4, 5, 6, 7, 8, 9, 10, 11, 12, 13, 14, 15, 16, 17, 18], [18])])
def mezzaninelaw15_PteAllows.B8 : List Nat := [0, 1, 3, 3, 15, 3, 3, 127, 255, 511, 1023, 2047, 2047, 8191, 2047, 2047, 65535, 131071, 262143, 524287]
theorem mezzaninelaw15_PteAllows.tab8 : rtab .any (opsOf Try.f5 8) = mezzaninelaw15_PteAllows.T8 := by kernel_rfl
theorem mezzaninelaw15_PteAllows.bits8 : waitsOk mezzaninelaw15_PteAllows.T8.2 mezzaninelaw15_PteAllows.B8 = true := by kernel_rfl
set_option maxHeartbeats 8000000 in
set_option maxRecDepth 100000 in
theorem mezzaninelaw15_PteAllows.calls (k : Nat) (a0 : Int) (a1_0 : Int) (a1_1 : Bool) (a1_2 : Int) (a1_3 : Bool) (a1_4 : Bool) (a1_5 : Bool) (a1_6 : Bool) (r : Bool) (w : World) (ht : r = true) (h : mezzaninelaw15_PteAllows.f k a0 a1_0 a1_1 a1_2 a1_3 a1_4 a1_5 a1_6 = some r) :
    Calls Try.prog 5 #[.int .u64 a0, .agg #[.int .u8 a1_0, .bool a1_1, .int .u8 a1_2, .bool a1_3, .bool a1_4, .bool a1_5, .bool a1_6]] w fun e w' => e = .returned (.bool r) ∧ Below w.heap.size w w' := by
  have hu32 := Try.underlying32
  have hu24 := Try.underlying24
  have HB := Aside0.mk (Below.refl w.heap.size w)
  have HT := Aside0.mk ht
  clear ht
  have H : ((mezzanineref15_Of.f a0).bind fun bt169 => (mezzaninelaw15_PteAllows.l0 k a0 0 a1_0 a1_1 a1_2 a1_3 a1_4 a1_5 a1_6 bt169.1 bt169.2.1 bt169.2.2.1 bt169.2.2.2.1 bt169.2.2.2.2.1 bt169.2.2.2.2.2.1 bt169.2.2.2.2.2.2.1 bt169.2.2.2.2.2.2.2.1 bt169.2.2.2.2.2.2.2.2.1 bt169.2.2.2.2.2.2.2.2.2)) = some r := h
  clear h
  replace H := Option.bind_eq_some_iff.mp H
  obtain ⟨⟨t169, t170, t171, t172, t173, t174, t175, t176, t177, t178⟩, A30, H⟩ := H
  replace H : (mezzaninelaw15_PteAllows.l0 k a0 0 a1_0 a1_1 a1_2 a1_3 a1_4 a1_5 a1_6 t169 t170 t171 t172 t173 t174 t175 t176 t177 t178) = some r := H
  have A3 := Aside0.mk A30
  clear A30
  have H' := Aside0.mk H
  clear H
  go_enter Try.func5, Try.ntmps5
  go_wp2_with (first | ((with_reducible refine gate_dst (N := 3) rfl ?_); refine box_event ?hg (N := 3) ?hd (cs := #[.int .u8 a1_0, .bool a1_1, .int .u8 a1_2, .bool a1_3, .bool a1_4, .bool a1_5, .bool a1_6]) (t := 32) ?hr ?_; (case hd => rfl); (case hg => rfl); (case hr => first | (go_simp; done) | (go_simp; rfl)); intro gb168 hg w4 hbox hb; have n0_ := Aside0.mk (below_step (by repeat (first | (with_reducible first | exact HB.out | apply below_alloc | apply pw_below_drewN | apply below_drew1) | exact HB.out)) hb); have n1_ := Aside0.mk (hbox); have n2_ := Aside0.mk ((by rw [hg]; exact (below_size (by repeat (first | (with_reducible first | exact HB.out | apply below_alloc | apply pw_below_drewN | apply below_drew1) | exact HB.out))) : w.heap.size ≤ gb168)); have n3_ := Aside0.mk ((by rw [hg]; exact (below_size (by repeat (first | (with_reducible first | exact HB.out | apply below_alloc | apply pw_below_drewN | apply below_drew1) | exact HB.out))) : w.heap.size ≤ gb168)); clear HB; have HB := n0_; have BK168 := n1_; have GW168 := n2_; have GE168 := n3_; clear n0_ n1_ n2_ n3_; clear hb hbox hg) | ((with_reducible refine gate_callee (f := 10) rfl ?_); refine goesL_ (some 9) rfl rfl Try.func10 (by kernel_rfl) rfl #[.int .u64 a0] rfl (by (try simp only [List.map_toArray, List.map_cons, List.map_nil]); first | done | rfl | (simp only [List.length_drop, List.length_take]; rfl)) ?_; (with_reducible refine (mezzanineref15_Of.calls a0 t169 t170 t171 t172 t173 t174 t175 t176 t177 t178 _ A3.out).mono ?_); rintro e w5 ⟨rfl, hb⟩; refine ⟨_, rfl, ?_⟩; have n0_ := Aside0.mk (blk_below (g := gb168) (o := .cells #[.int .u8 a1_0, .bool a1_1, .int .u8 a1_2, .bool a1_3, .bool a1_4, .bool a1_5, .bool a1_6] 32 (0, 0)) (by (with_reducible repeat (first | refine blk_drewN ?_ _ | refine blk_drew ?_ | refine blk_alloc ?_ _)); exact BK168.out) hb); have n1_ := Aside0.mk (below_step (by repeat (first | (with_reducible first | exact HB.out | apply below_alloc | apply pw_below_drewN | apply below_drew1 | refine below_set ?_ GE168.out) | exact HB.out)) hb); clear BK168; clear HB; have BK168 := n0_; have HB := n1_; clear n0_ n1_; (try clear hb); (try clear hb2); (try clear hk); (try clear hi)) | ((with_reducible refine gate_dst (N := 5) rfl ?_); refine box_event ?hg (N := 5) ?hd (cs := #[.bool false, .bool false, .bool false, .bool false, .bool false, .bool false, .bool false, .bool false, .int .u64 0, .int .u64 0]) (t := 24) ?hr ?_; (case hd => rfl); (case hg => rfl); (case hr => first | (go_simp; done) | (go_simp; rfl)); intro gb179 hg w6 hbox hb; have n0_ := Aside0.mk (blk_below (g := gb168) (o := .cells #[.int .u8 a1_0, .bool a1_1, .int .u8 a1_2, .bool a1_3, .bool a1_4, .bool a1_5, .bool a1_6] 32 (0, 0)) (by (with_reducible repeat (first | refine blk_drewN ?_ _ | refine blk_drew ?_ | refine blk_alloc ?_ _)); exact BK168.out) hb); have n1_ := Aside0.mk (below_step (by repeat (first | (with_reducible first | exact HB.out | apply below_alloc | apply pw_below_drewN | apply below_drew1 | refine below_set ?_ GE168.out) | exact HB.out)) hb); have n2_ := Aside0.mk (hbox); have n3_ := Aside0.mk ((by rw [hg]; exact (below_size (by repeat (first | (with_reducible first | exact HB.out | apply below_alloc | apply pw_below_drewN | apply below_drew1 | refine below_set ?_ GE168.out) | exact HB.out))) : w.heap.size ≤ gb179)); have n4_ := Aside0.mk ((by rw [hg]; exact (below_size (by repeat (first | (with_reducible first | exact HB.out | apply below_alloc | apply pw_below_drewN | apply below_drew1 | refine below_set ?_ GE168.out) | exact HB.out))) : w.heap.size ≤ gb179)); have n5_ := Aside0.mk ((by rw [hg]; exact Nat.ne_of_lt (blk_lt (g := gb168) (o := .cells #[.int .u8 a1_0, .bool a1_1, .int .u8 a1_2, .bool a1_3, .bool a1_4, .bool a1_5, .bool a1_6] 32 (0, 0)) (by (with_reducible repeat (first | refine blk_drewN ?_ _ | refine blk_drew ?_ | refine blk_alloc ?_ _)); exact BK168.out)) : gb168 ≠ gb179)); have n6_ := Aside0.mk ((by rw [hg]; exact Nat.ne_of_gt (blk_lt (g := gb168) (o := .cells #[.int .u8 a1_0, .bool a1_1, .int .u8 a1_2, .bool a1_3, .bool a1_4, .bool a1_5, .bool a1_6] 32 (0, 0)) (by (with_reducible repeat (first | refine blk_drewN ?_ _ | refine blk_drew ?_ | refine blk_alloc ?_ _)); exact BK168.out)) : gb179 ≠ gb168)); clear BK168; clear HB; have BK168 := n0_; have HB := n1_; have BK179 := n2_; have GW179 := n3_; have GE179 := n4_; have NB168_179 := n5_; have NB179_168 := n6_; clear n0_ n1_ n2_ n3_ n4_ n5_ n6_; clear hb hbox hg; have hnb7 := NB179_168.out; have hnc7 := NB168_179.out; have hcz8_0 : w6.cell? ⟨gb179, 0, none⟩ = some (.bool false) := (blk_cell BK179.out 0).trans rfl; have hcz8_1 : w6.cell? ⟨gb179, 1, none⟩ = some (.bool false) := (blk_cell BK179.out 1).trans rfl; have hcz8_2 : w6.cell? ⟨gb179, 2, none⟩ = some (.bool false) := (blk_cell BK179.out 2).trans rfl; have hcz8_3 : w6.cell? ⟨gb179, 3, none⟩ = some (.bool false) := (blk_cell BK179.out 3).trans rfl; have hcz8_4 : w6.cell? ⟨gb179, 4, none⟩ = some (.bool false) := (blk_cell BK179.out 4).trans rfl; have hcz8_5 : w6.cell? ⟨gb179, 5, none⟩ = some (.bool false) := (blk_cell BK179.out 5).trans rfl; have hcz8_6 : w6.cell? ⟨gb179, 6, none⟩ = some (.bool false) := (blk_cell BK179.out 6).trans rfl; have hcz8_7 : w6.cell? ⟨gb179, 7, none⟩ = some (.bool false) := (blk_cell BK179.out 7).trans rfl; have hcz8_8 : w6.cell? ⟨gb179, 8, none⟩ = some (.int .u64 0) := (blk_cell BK179.out 8).trans rfl; have hcz8_9 : w6.cell? ⟨gb179, 9, none⟩ = some (.int .u64 0) := (blk_cell BK179.out 9).trans rfl; have hfz8_0 := blk_frozen BK179.out 0; have hfz8_1 := blk_frozen BK179.out 1; have hfz8_2 := blk_frozen BK179.out 2; have hfz8_3 := blk_frozen BK179.out 3; have hfz8_4 := blk_frozen BK179.out 4; have hfz8_5 := blk_frozen BK179.out 5; have hfz8_6 := blk_frozen BK179.out 6; have hfz8_7 := blk_frozen BK179.out 7; have hfz8_8 := blk_frozen BK179.out 8; have hfz8_9 := blk_frozen BK179.out 9))
  go_loopg [6] k (fun kq v6 w' => ∃ (x6_1 : Int), v6 = .int .i64 x6_1 ∧ Aside0 (mezzaninelaw15_PteAllows.l0 kq a0 x6_1 a1_0 a1_1 a1_2 a1_3 a1_4 a1_5 a1_6 t169 t170 t171 t172 t173 t174 t175 t176 t177 t178 = some r) ∧ Aside0 (kq ≤ k) ∧ Aside0 (w'.heap[gb168]? = some (.cells #[.int .u8 a1_0, .bool a1_1, .int .u8 a1_2, .bool a1_3, .bool a1_4, .bool a1_5, .bool a1_6] 32 (0, 0))) ∧ Aside0 (w'.heap[gb179]? = some (.cells #[.bool t169, .bool t170, .bool t171, .bool t172, .bool t173, .bool t174, .bool t175, .bool t176, .int .u64 t177, .int .u64 t178] 24 (0, 0))) ∧ Aside0 (Below w.heap.size w w'))
  case atStart => exact ⟨(0), (by first | rfl | (simp; done) | (simp [*]; done)), H', ⟨Nat.le_refl _⟩, ⟨by (with_reducible repeat (first | refine blk_drewN ?_ _ | refine blk_drew ?_ | refine blk_alloc ?_ _)); refine blk_far ?_ NB168_179.out _; (with_reducible repeat (first | refine blk_drewN ?_ _ | refine blk_drew ?_ | refine blk_alloc ?_ _)); refine blk_far ?_ NB168_179.out _; (with_reducible repeat (first | refine blk_drewN ?_ _ | refine blk_drew ?_ | refine blk_alloc ?_ _)); refine blk_far ?_ NB168_179.out _; (with_reducible repeat (first | refine blk_drewN ?_ _ | refine blk_drew ?_ | refine blk_alloc ?_ _)); refine blk_far ?_ NB168_179.out _; (with_reducible repeat (first | refine blk_drewN ?_ _ | refine blk_drew ?_ | refine blk_alloc ?_ _)); refine blk_far ?_ NB168_179.out _; (with_reducible repeat (first | refine blk_drewN ?_ _ | refine blk_drew ?_ | refine blk_alloc ?_ _)); refine blk_far ?_ NB168_179.out _; (with_reducible repeat (first | refine blk_drewN ?_ _ | refine blk_drew ?_ | refine blk_alloc ?_ _)); refine blk_far ?_ NB168_179.out _; (with_reducible repeat (first | refine blk_drewN ?_ _ | refine blk_drew ?_ | refine blk_alloc ?_ _)); refine blk_far ?_ NB168_179.out _; (with_reducible repeat (first | refine blk_drewN ?_ _ | refine blk_drew ?_ | refine blk_alloc ?_ _)); refine blk_far ?_ NB168_179.out _; (with_reducible repeat (first | refine blk_drewN ?_ _ | refine blk_drew ?_ | refine blk_alloc ?_ _)); refine blk_far ?_ NB168_179.out _; (with_reducible repeat (first | refine blk_drewN ?_ _ | refine blk_drew ?_ | refine blk_alloc ?_ _)); exact BK168.out⟩, ⟨by (with_reducible repeat (first | refine blk_drewN ?_ _ | refine blk_drew ?_ | refine blk_alloc ?_ _)); refine blk_put (cs := #[.bool t169, .bool t170, .bool t171, .bool t172, .bool t173, .bool t174, .bool t175, .bool t176, .int .u64 t177, .int .u64 0]) ?_ 9 _ rfl; (with_reducible repeat (first | refine blk_drewN ?_ _ | refine blk_drew ?_ | refine blk_alloc ?_ _)); refine blk_put (cs := #[.bool t169, .bool t170, .bool t171, .bool t172, .bool t173, .bool t174, .bool t175, .bool t176, .int .u64 0, .int .u64 0]) ?_ 8 _ rfl; (with_reducible repeat (first | refine blk_drewN ?_ _ | refine blk_drew ?_ | refine blk_alloc ?_ _)); refine blk_put (cs := #[.bool t169, .bool t170, .bool t171, .bool t172, .bool t173, .bool t174, .bool t175, .bool false, .int .u64 0, .int .u64 0]) ?_ 7 _ rfl; (with_reducible repeat (first | refine blk_drewN ?_ _ | refine blk_drew ?_ | refine blk_alloc ?_ _)); refine blk_put (cs := #[.bool t169, .bool t170, .bool t171, .bool t172, .bool t173, .bool t174, .bool false, .bool false, .int .u64 0, .int .u64 0]) ?_ 6 _ rfl; (with_reducible repeat (first | refine blk_drewN ?_ _ | refine blk_drew ?_ | refine blk_alloc ?_ _)); refine blk_put (cs := #[.bool t169, .bool t170, .bool t171, .bool t172, .bool t173, .bool false, .bool false, .bool false, .int .u64 0, .int .u64 0]) ?_ 5 _ rfl; (with_reducible repeat (first | refine blk_drewN ?_ _ | refine blk_drew ?_ | refine blk_alloc ?_ _)); refine blk_put (cs := #[.bool t169, .bool t170, .bool t171, .bool t172, .bool false, .bool false, .bool false, .bool false, .int .u64 0, .int .u64 0]) ?_ 4 _ rfl; (with_reducible repeat (first | refine blk_drewN ?_ _ | refine blk_drew ?_ | refine blk_alloc ?_ _)); refine blk_put (cs := #[.bool t169, .bool t170, .bool t171, .bool false, .bool false, .bool false, .bool false, .bool false, .int .u64 0, .int .u64 0]) ?_ 3 _ rfl; (with_reducible repeat (first | refine blk_drewN ?_ _ | refine blk_drew ?_ | refine blk_alloc ?_ _)); refine blk_put (cs := #[.bool t169, .bool t170, .bool false, .bool false, .bool false, .bool false, .bool false, .bool false, .int .u64 0, .int .u64 0]) ?_ 2 _ rfl; (with_reducible repeat (first | refine blk_drewN ?_ _ | refine blk_drew ?_ | refine blk_alloc ?_ _)); refine blk_put (cs := #[.bool t169, .bool false, .bool false, .bool false, .bool false, .bool false, .bool false, .bool false, .int .u64 0, .int .u64 0]) ?_ 1 _ rfl; (with_reducible repeat (first | refine blk_drewN ?_ _ | refine blk_drew ?_ | refine blk_alloc ?_ _)); refine blk_put (cs := #[.bool false, .bool false, .bool false, .bool false, .bool false, .bool false, .bool false, .bool false, .int .u64 0, .int .u64 0]) ?_ 0 _ rfl; (with_reducible repeat (first | refine blk_drewN ?_ _ | refine blk_drew ?_ | refine blk_alloc ?_ _)); exact BK179.out⟩, ⟨by repeat (first | (with_reducible first | exact HB.out | apply below_alloc | apply pw_below_drewN | apply below_drew1 | refine below_set ?_ GE168.out | refine below_set ?_ GE179.out) | exact HB.out)⟩⟩
  case round =>
    clear H'
    try clear c1
    try clear p2
    try clear c5
    try clear c7
    try clear hcz8_0
    try clear hcz8_1
    try clear hcz8_2
    try clear hcz8_3
    try clear hcz8_4
    try clear hcz8_5
    try clear hcz8_6
    try clear hcz8_7
    try clear hcz8_8
    try clear hcz8_9
    try clear hfz8_0
    try clear hfz8_1
    try clear hfz8_2
    try clear hfz8_3
    try clear hfz8_4
    try clear hfz8_5
    try clear hfz8_6
    try clear hfz8_7
    try clear hfz8_8
    try clear hfz8_9
    obtain ⟨x6_1, rfl, HA, HK1, BK168, BK179, HB⟩ := hrel
    cases gk with
    | zero => exact absurd HA.out (by simp [mezzaninelaw15_PteAllows.l0])
    | succ k1 =>
      have H := HA.out
      clear HA
      simp only [mezzaninelaw15_PteAllows.l0] at H
      by_cases c9 : x6_1 < 256
      · rw [if_pos c9] at H
        have c9b0 : decide (x6_1 < 256) = true := decide_eq_true c9
        clear c9
        replace H := Option.bind_eq_some_iff.mp H
        obtain ⟨t181, A100, H⟩ := H
        replace H : ((mezzanineref15_Entry_Allowed.f k1 t169 t170 t171 t172 t173 t174 t175 t176 t177 t178 ((Go.bits .and .i64 x6_1 3) % 256) (decide ((Go.bits .and .i64 x6_1 4) > 0)) ((Go.bits .and .i64 (x6_1 / 8) 1) % 256) (decide ((Go.bits .and .i64 x6_1 16) > 0)) (decide ((Go.bits .and .i64 x6_1 32) > 0)) (decide ((Go.bits .and .i64 x6_1 64) > 0)) (decide ((Go.bits .and .i64 x6_1 128) > 0))).bind fun t182 => (if (t181 != t182) = true then (some false) else ((pte_Full.f a0 ((Go.bits .and .i64 x6_1 3) % 256) (decide ((Go.bits .and .i64 x6_1 4) > 0)) ((Go.bits .and .i64 (x6_1 / 8) 1) % 256) (decide ((Go.bits .and .i64 x6_1 16) > 0)) (decide ((Go.bits .and .i64 x6_1 32) > 0)) (decide ((Go.bits .and .i64 x6_1 64) > 0)) (decide ((Go.bits .and .i64 x6_1 128) > 0))).bind fun t183 => ((mezzanineref15_Entry_Full.f t169 t170 t171 t172 t173 t174 t175 t176 t177 t178 ((Go.bits .and .i64 x6_1 3) % 256) (decide ((Go.bits .and .i64 x6_1 4) > 0)) ((Go.bits .and .i64 (x6_1 / 8) 1) % 256) (decide ((Go.bits .and .i64 x6_1 16) > 0)) (decide ((Go.bits .and .i64 x6_1 32) > 0)) (decide ((Go.bits .and .i64 x6_1 64) > 0)) (decide ((Go.bits .and .i64 x6_1 128) > 0))).bind fun t184 => (if (t183 != t184) = true then (some false) else (mezzaninelaw15_PteAllows.l0 k1 a0 (wrap64 (x6_1 + 1)) a1_0 a1_1 a1_2 a1_3 a1_4 a1_5 a1_6 t169 t170 t171 t172 t173 t174 t175 t176 t177 t178)))))) = some r := H
        have A10 := Aside0.mk A100
        clear A100
        replace H := Option.bind_eq_some_iff.mp H
        obtain ⟨t182, A110, H⟩ := H
        replace H : (if (t181 != t182) = true then (some false) else ((pte_Full.f a0 ((Go.bits .and .i64 x6_1 3) % 256) (decide ((Go.bits .and .i64 x6_1 4) > 0)) ((Go.bits .and .i64 (x6_1 / 8) 1) % 256) (decide ((Go.bits .and .i64 x6_1 16) > 0)) (decide ((Go.bits .and .i64 x6_1 32) > 0)) (decide ((Go.bits .and .i64 x6_1 64) > 0)) (decide ((Go.bits .and .i64 x6_1 128) > 0))).bind fun t183 => ((mezzanineref15_Entry_Full.f t169 t170 t171 t172 t173 t174 t175 t176 t177 t178 ((Go.bits .and .i64 x6_1 3) % 256) (decide ((Go.bits .and .i64 x6_1 4) > 0)) ((Go.bits .and .i64 (x6_1 / 8) 1) % 256) (decide ((Go.bits .and .i64 x6_1 16) > 0)) (decide ((Go.bits .and .i64 x6_1 32) > 0)) (decide ((Go.bits .and .i64 x6_1 64) > 0)) (decide ((Go.bits .and .i64 x6_1 128) > 0))).bind fun t184 => (if (t183 != t184) = true then (some false) else (mezzaninelaw15_PteAllows.l0 k1 a0 (wrap64 (x6_1 + 1)) a1_0 a1_1 a1_2 a1_3 a1_4 a1_5 a1_6 t169 t170 t171 t172 t173 t174 t175 t176 t177 t178))))) = some r := H
        have A11 := Aside0.mk A110
        clear A110
        by_cases c12 : (t181 != t182) = true
        · rw [if_pos c12] at H
          have c12b0 : (t181 != t182) = true := c12
          (try (have c12b1 : decide (t181 = t182) = false := by simpa using c12))
          (try (have c12b2 : (t181 == t182) = false := by simpa using c12))
          (try (have c12b3 : ¬ (t181 = t182) := by simpa using c12))
          clear c12
          exact absurd (Option.some.inj H) (by rw [HT.out]; decide)
        · rw [if_neg c12] at H
          have c12b0 : (t181 != t182) = false := by simpa using c12
          (try (have c12b1 : decide (t181 = t182) = true := by simpa using c12))
          (try (have c12b2 : (t181 == t182) = true := by simpa using c12))
          clear c12
          replace H := Option.bind_eq_some_iff.mp H
          obtain ⟨t183, A130, H⟩ := H
          replace H : ((mezzanineref15_Entry_Full.f t169 t170 t171 t172 t173 t174 t175 t176 t177 t178 ((Go.bits .and .i64 x6_1 3) % 256) (decide ((Go.bits .and .i64 x6_1 4) > 0)) ((Go.bits .and .i64 (x6_1 / 8) 1) % 256) (decide ((Go.bits .and .i64 x6_1 16) > 0)) (decide ((Go.bits .and .i64 x6_1 32) > 0)) (decide ((Go.bits .and .i64 x6_1 64) > 0)) (decide ((Go.bits .and .i64 x6_1 128) > 0))).bind fun t184 => (if (t183 != t184) = true then (some false) else (mezzaninelaw15_PteAllows.l0 k1 a0 (wrap64 (x6_1 + 1)) a1_0 a1_1 a1_2 a1_3 a1_4 a1_5 a1_6 t169 t170 t171 t172 t173 t174 t175 t176 t177 t178))) = some r := H
          have A13 := Aside0.mk A130
          clear A130
          replace H := Option.bind_eq_some_iff.mp H
          obtain ⟨t184, A140, H⟩ := H
          replace H : (if (t183 != t184) = true then (some false) else (mezzaninelaw15_PteAllows.l0 k1 a0 (wrap64 (x6_1 + 1)) a1_0 a1_1 a1_2 a1_3 a1_4 a1_5 a1_6 t169 t170 t171 t172 t173 t174 t175 t176 t177 t178)) = some r := H
          have A14 := Aside0.mk A140
          clear A140
          by_cases c15 : (t183 != t184) = true
          · rw [if_pos c15] at H
            have c15b0 : (t183 != t184) = true := c15
            (try (have c15b1 : decide (t183 = t184) = false := by simpa using c15))
            (try (have c15b2 : (t183 == t184) = false := by simpa using c15))
            (try (have c15b3 : ¬ (t183 = t184) := by simpa using c15))
            clear c15
            exact absurd (Option.some.inj H) (by rw [HT.out]; decide)
          · rw [if_neg c15] at H
            have c15b0 : (t183 != t184) = false := by simpa using c15
            (try (have c15b1 : decide (t183 = t184) = true := by simpa using c15))
            (try (have c15b2 : (t183 == t184) = true := by simpa using c15))
            clear c15
            have H' := Aside0.mk H
            clear H
            try go_wp2_with (first | ((with_reducible refine gate_dst (N := 7) rfl ?_); refine box_event ?hg (N := 7) ?hd (cs := #[.int .u8 0, .bool false, .int .u8 0, .bool false, .bool false, .bool false, .bool false]) (t := 32) ?hr ?_; (case hd => rfl); (case hg => rfl); (case hr => first | (go_simp; done) | (go_simp; rfl)); intro gb180 hg w16 hbox hb; have n0_ := Aside0.mk (blk_below (g := gb168) (o := .cells #[.int .u8 a1_0, .bool a1_1, .int .u8 a1_2, .bool a1_3, .bool a1_4, .bool a1_5, .bool a1_6] 32 (0, 0)) (by (with_reducible repeat (first | refine blk_drewN ?_ _ | refine blk_drew ?_ | refine blk_alloc ?_ _)); exact BK168.out) hb); have n1_ := Aside0.mk (blk_below (g := gb179) (o := .cells #[.bool t169, .bool t170, .bool t171, .bool t172, .bool t173, .bool t174, .bool t175, .bool t176, .int .u64 t177, .int .u64 t178] 24 (0, 0)) (by (with_reducible repeat (first | refine blk_drewN ?_ _ | refine blk_drew ?_ | refine blk_alloc ?_ _)); exact BK179.out) hb); have n2_ := Aside0.mk (below_step (by repeat (first | (with_reducible first | exact HB.out | apply below_alloc | apply pw_below_drewN | apply below_drew1 | refine below_set ?_ GE168.out | refine below_set ?_ GE179.out) | exact HB.out)) hb); have n3_ := Aside0.mk (hbox); have n4_ := Aside0.mk ((by rw [hg]; exact (below_size (by repeat (first | (with_reducible first | exact HB.out | apply below_alloc | apply pw_below_drewN | apply below_drew1 | refine below_set ?_ GE168.out | refine below_set ?_ GE179.out) | exact HB.out))) : w.heap.size ≤ gb180)); have n5_ := Aside0.mk ((by rw [hg]; exact (below_size (by repeat (first | (with_reducible first | exact HB.out | apply below_alloc | apply pw_below_drewN | apply below_drew1 | refine below_set ?_ GE168.out | refine below_set ?_ GE179.out) | exact HB.out))) : w.heap.size ≤ gb180)); have n6_ := Aside0.mk ((by rw [hg]; exact Nat.ne_of_lt (blk_lt (g := gb168) (o := .cells #[.int .u8 a1_0, .bool a1_1, .int .u8 a1_2, .bool a1_3, .bool a1_4, .bool a1_5, .bool a1_6] 32 (0, 0)) (by (with_reducible repeat (first | refine blk_drewN ?_ _ | refine blk_drew ?_ | refine blk_alloc ?_ _)); exact BK168.out)) : gb168 ≠ gb180)); have n7_ := Aside0.mk ((by rw [hg]; exact Nat.ne_of_gt (blk_lt (g := gb168) (o := .cells #[.int .u8 a1_0, .bool a1_1, .int .u8 a1_2, .bool a1_3, .bool a1_4, .bool a1_5, .bool a1_6] 32 (0, 0)) (by (with_reducible repeat (first | refine blk_drewN ?_ _ | refine blk_drew ?_ | refine blk_alloc ?_ _)); exact BK168.out)) : gb180 ≠ gb168)); have n8_ := Aside0.mk ((by rw [hg]; exact Nat.ne_of_lt (blk_lt (g := gb179) (o := .cells #[.bool t169, .bool t170, .bool t171, .bool t172, .bool t173, .bool t174, .bool t175, .bool t176, .int .u64 t177, .int .u64 t178] 24 (0, 0)) (by (with_reducible repeat (first | refine blk_drewN ?_ _ | refine blk_drew ?_ | refine blk_alloc ?_ _)); exact BK179.out)) : gb179 ≠ gb180)); have n9_ := Aside0.mk ((by rw [hg]; exact Nat.ne_of_gt (blk_lt (g := gb179) (o := .cells #[.bool t169, .bool t170, .bool t171, .bool t172, .bool t173, .bool t174, .bool t175, .bool t176, .int .u64 t177, .int .u64 t178] 24 (0, 0)) (by (with_reducible repeat (first | refine blk_drewN ?_ _ | refine blk_drew ?_ | refine blk_alloc ?_ _)); exact BK179.out)) : gb180 ≠ gb179)); clear BK168; clear BK179; clear HB; have BK168 := n0_; have BK179 := n1_; have HB := n2_; have BK180 := n3_; have GW180 := n4_; have GE180 := n5_; have NB168_180 := n6_; have NB180_168 := n7_; have NB179_180 := n8_; have NB180_179 := n9_; clear n0_ n1_ n2_ n3_ n4_ n5_ n6_ n7_ n8_ n9_; clear hb hbox hg; have hnb17 := NB180_168.out; have hnc17 := NB168_180.out; have hnb18 := NB180_179.out; have hnc18 := NB179_180.out; have hcz19_0 : w16.cell? ⟨gb180, 0, none⟩ = some (.int .u8 0) := (blk_cell BK180.out 0).trans rfl; have hcz19_1 : w16.cell? ⟨gb180, 1, none⟩ = some (.bool false) := (blk_cell BK180.out 1).trans rfl; have hcz19_2 : w16.cell? ⟨gb180, 2, none⟩ = some (.int .u8 0) := (blk_cell BK180.out 2).trans rfl; have hcz19_3 : w16.cell? ⟨gb180, 3, none⟩ = some (.bool false) := (blk_cell BK180.out 3).trans rfl; have hcz19_4 : w16.cell? ⟨gb180, 4, none⟩ = some (.bool false) := (blk_cell BK180.out 4).trans rfl; have hcz19_5 : w16.cell? ⟨gb180, 5, none⟩ = some (.bool false) := (blk_cell BK180.out 5).trans rfl; have hcz19_6 : w16.cell? ⟨gb180, 6, none⟩ = some (.bool false) := (blk_cell BK180.out 6).trans rfl; have hfz19_0 := blk_frozen BK180.out 0; have hfz19_1 := blk_frozen BK180.out 1; have hfz19_2 := blk_frozen BK180.out 2; have hfz19_3 := blk_frozen BK180.out 3; have hfz19_4 := blk_frozen BK180.out 4; have hfz19_5 := blk_frozen BK180.out 5; have hfz19_6 := blk_frozen BK180.out 6))
            have n0_ : Aside0 ((((((((w16.setCell ⟨gb180, 0, none⟩ (.int .u8 ((Go.bits .and .i64 x6_1 3) % 256))).setCell ⟨gb180, 1, none⟩ (.bool (decide ((Go.bits .and .i64 x6_1 4) > 0)))).setCell ⟨gb180, 2, none⟩ (.int .u8 ((Go.bits .and .i64 (x6_1 / 8) 1) % 256))).setCell ⟨gb180, 3, none⟩ (.bool (decide ((Go.bits .and .i64 x6_1 16) > 0)))).setCell ⟨gb180, 4, none⟩ (.bool (decide ((Go.bits .and .i64 x6_1 32) > 0)))).setCell ⟨gb180, 5, none⟩ (.bool (decide ((Go.bits .and .i64 x6_1 64) > 0)))).setCell ⟨gb180, 6, none⟩ (.bool (decide ((Go.bits .and .i64 x6_1 128) > 0)))).heap[gb168]? = some (.cells #[.int .u8 a1_0, .bool a1_1, .int .u8 a1_2, .bool a1_3, .bool a1_4, .bool a1_5, .bool a1_6] 32 (0, 0))) := ⟨by (with_reducible repeat (first | refine blk_drewN ?_ _ | refine blk_drew ?_ | refine blk_alloc ?_ _)); refine blk_far ?_ NB168_180.out _; (with_reducible repeat (first | refine blk_drewN ?_ _ | refine blk_drew ?_ | refine blk_alloc ?_ _)); refine blk_far ?_ NB168_180.out _; (with_reducible repeat (first | refine blk_drewN ?_ _ | refine blk_drew ?_ | refine blk_alloc ?_ _)); refine blk_far ?_ NB168_180.out _; (with_reducible repeat (first | refine blk_drewN ?_ _ | refine blk_drew ?_ | refine blk_alloc ?_ _)); refine blk_far ?_ NB168_180.out _; (with_reducible repeat (first | refine blk_drewN ?_ _ | refine blk_drew ?_ | refine blk_alloc ?_ _)); refine blk_far ?_ NB168_180.out _; (with_reducible repeat (first | refine blk_drewN ?_ _ | refine blk_drew ?_ | refine blk_alloc ?_ _)); refine blk_far ?_ NB168_180.out _; (with_reducible repeat (first | refine blk_drewN ?_ _ | refine blk_drew ?_ | refine blk_alloc ?_ _)); refine blk_far ?_ NB168_180.out _; (with_reducible repeat (first | refine blk_drewN ?_ _ | refine blk_drew ?_ | refine blk_alloc ?_ _)); exact BK168.out⟩
            have n1_ : Aside0 ((((((((w16.setCell ⟨gb180, 0, none⟩ (.int .u8 ((Go.bits .and .i64 x6_1 3) % 256))).setCell ⟨gb180, 1, none⟩ (.bool (decide ((Go.bits .and .i64 x6_1 4) > 0)))).setCell ⟨gb180, 2, none⟩ (.int .u8 ((Go.bits .and .i64 (x6_1 / 8) 1) % 256))).setCell ⟨gb180, 3, none⟩ (.bool (decide ((Go.bits .and .i64 x6_1 16) > 0)))).setCell ⟨gb180, 4, none⟩ (.bool (decide ((Go.bits .and .i64 x6_1 32) > 0)))).setCell ⟨gb180, 5, none⟩ (.bool (decide ((Go.bits .and .i64 x6_1 64) > 0)))).setCell ⟨gb180, 6, none⟩ (.bool (decide ((Go.bits .and .i64 x6_1 128) > 0)))).heap[gb179]? = some (.cells #[.bool t169, .bool t170, .bool t171, .bool t172, .bool t173, .bool t174, .bool t175, .bool t176, .int .u64 t177, .int .u64 t178] 24 (0, 0))) := ⟨by (with_reducible repeat (first | refine blk_drewN ?_ _ | refine blk_drew ?_ | refine blk_alloc ?_ _)); refine blk_far ?_ NB179_180.out _; (with_reducible repeat (first | refine blk_drewN ?_ _ | refine blk_drew ?_ | refine blk_alloc ?_ _)); refine blk_far ?_ NB179_180.out _; (with_reducible repeat (first | refine blk_drewN ?_ _ | refine blk_drew ?_ | refine blk_alloc ?_ _)); refine blk_far ?_ NB179_180.out _; (with_reducible repeat (first | refine blk_drewN ?_ _ | refine blk_drew ?_ | refine blk_alloc ?_ _)); refine blk_far ?_ NB179_180.out _; (with_reducible repeat (first | refine blk_drewN ?_ _ | refine blk_drew ?_ | refine blk_alloc ?_ _)); refine blk_far ?_ NB179_180.out _; (with_reducible repeat (first | refine blk_drewN ?_ _ | refine blk_drew ?_ | refine blk_alloc ?_ _)); refine blk_far ?_ NB179_180.out _; (with_reducible repeat (first | refine blk_drewN ?_ _ | refine blk_drew ?_ | refine blk_alloc ?_ _)); refine blk_far ?_ NB179_180.out _; (with_reducible repeat (first | refine blk_drewN ?_ _ | refine blk_drew ?_ | refine blk_alloc ?_ _)); exact BK179.out⟩
            have n2_ : Aside0 ((((((((w16.setCell ⟨gb180, 0, none⟩ (.int .u8 ((Go.bits .and .i64 x6_1 3) % 256))).setCell ⟨gb180, 1, none⟩ (.bool (decide ((Go.bits .and .i64 x6_1 4) > 0)))).setCell ⟨gb180, 2, none⟩ (.int .u8 ((Go.bits .and .i64 (x6_1 / 8) 1) % 256))).setCell ⟨gb180, 3, none⟩ (.bool (decide ((Go.bits .and .i64 x6_1 16) > 0)))).setCell ⟨gb180, 4, none⟩ (.bool (decide ((Go.bits .and .i64 x6_1 32) > 0)))).setCell ⟨gb180, 5, none⟩ (.bool (decide ((Go.bits .and .i64 x6_1 64) > 0)))).setCell ⟨gb180, 6, none⟩ (.bool (decide ((Go.bits .and .i64 x6_1 128) > 0)))).heap[gb180]? = some (.cells #[.int .u8 ((Go.bits .and .i64 x6_1 3) % 256), .bool (decide ((Go.bits .and .i64 x6_1 4) > 0)), .int .u8 ((Go.bits .and .i64 (x6_1 / 8) 1) % 256), .bool (decide ((Go.bits .and .i64 x6_1 16) > 0)), .bool (decide ((Go.bits .and .i64 x6_1 32) > 0)), .bool (decide ((Go.bits .and .i64 x6_1 64) > 0)), .bool (decide ((Go.bits .and .i64 x6_1 128) > 0))] 32 (0, 0))) := ⟨by (with_reducible repeat (first | refine blk_drewN ?_ _ | refine blk_drew ?_ | refine blk_alloc ?_ _)); refine blk_put (cs := #[.int .u8 ((Go.bits .and .i64 x6_1 3) % 256), .bool (decide ((Go.bits .and .i64 x6_1 4) > 0)), .int .u8 ((Go.bits .and .i64 (x6_1 / 8) 1) % 256), .bool (decide ((Go.bits .and .i64 x6_1 16) > 0)), .bool (decide ((Go.bits .and .i64 x6_1 32) > 0)), .bool (decide ((Go.bits .and .i64 x6_1 64) > 0)), .bool false]) ?_ 6 _ rfl; (with_reducible repeat (first | refine blk_drewN ?_ _ | refine blk_drew ?_ | refine blk_alloc ?_ _)); refine blk_put (cs := #[.int .u8 ((Go.bits .and .i64 x6_1 3) % 256), .bool (decide ((Go.bits .and .i64 x6_1 4) > 0)), .int .u8 ((Go.bits .and .i64 (x6_1 / 8) 1) % 256), .bool (decide ((Go.bits .and .i64 x6_1 16) > 0)), .bool (decide ((Go.bits .and .i64 x6_1 32) > 0)), .bool false, .bool false]) ?_ 5 _ rfl; (with_reducible repeat (first | refine blk_drewN ?_ _ | refine blk_drew ?_ | refine blk_alloc ?_ _)); refine blk_put (cs := #[.int .u8 ((Go.bits .and .i64 x6_1 3) % 256), .bool (decide ((Go.bits .and .i64 x6_1 4) > 0)), .int .u8 ((Go.bits .and .i64 (x6_1 / 8) 1) % 256), .bool (decide ((Go.bits .and .i64 x6_1 16) > 0)), .bool false, .bool false, .bool false]) ?_ 4 _ rfl; (with_reducible repeat (first | refine blk_drewN ?_ _ | refine blk_drew ?_ | refine blk_alloc ?_ _)); refine blk_put (cs := #[.int .u8 ((Go.bits .and .i64 x6_1 3) % 256), .bool (decide ((Go.bits .and .i64 x6_1 4) > 0)), .int .u8 ((Go.bits .and .i64 (x6_1 / 8) 1) % 256), .bool false, .bool false, .bool false, .bool false]) ?_ 3 _ rfl; (with_reducible repeat (first | refine blk_drewN ?_ _ | refine blk_drew ?_ | refine blk_alloc ?_ _)); refine blk_put (cs := #[.int .u8 ((Go.bits .and .i64 x6_1 3) % 256), .bool (decide ((Go.bits .and .i64 x6_1 4) > 0)), .int .u8 0, .bool false, .bool false, .bool false, .bool false]) ?_ 2 _ rfl; (with_reducible repeat (first | refine blk_drewN ?_ _ | refine blk_drew ?_ | refine blk_alloc ?_ _)); refine blk_put (cs := #[.int .u8 ((Go.bits .and .i64 x6_1 3) % 256), .bool false, .int .u8 0, .bool false, .bool false, .bool false, .bool false]) ?_ 1 _ rfl; (with_reducible repeat (first | refine blk_drewN ?_ _ | refine blk_drew ?_ | refine blk_alloc ?_ _)); refine blk_put (cs := #[.int .u8 0, .bool false, .int .u8 0, .bool false, .bool false, .bool false, .bool false]) ?_ 0 _ rfl; (with_reducible repeat (first | refine blk_drewN ?_ _ | refine blk_drew ?_ | refine blk_alloc ?_ _)); exact BK180.out⟩
            have n3_ : Aside0 (Below w.heap.size w (((((((w16.setCell ⟨gb180, 0, none⟩ (.int .u8 ((Go.bits .and .i64 x6_1 3) % 256))).setCell ⟨gb180, 1, none⟩ (.bool (decide ((Go.bits .and .i64 x6_1 4) > 0)))).setCell ⟨gb180, 2, none⟩ (.int .u8 ((Go.bits .and .i64 (x6_1 / 8) 1) % 256))).setCell ⟨gb180, 3, none⟩ (.bool (decide ((Go.bits .and .i64 x6_1 16) > 0)))).setCell ⟨gb180, 4, none⟩ (.bool (decide ((Go.bits .and .i64 x6_1 32) > 0)))).setCell ⟨gb180, 5, none⟩ (.bool (decide ((Go.bits .and .i64 x6_1 64) > 0)))).setCell ⟨gb180, 6, none⟩ (.bool (decide ((Go.bits .and .i64 x6_1 128) > 0))))) := ⟨by repeat (first | (with_reducible first | exact HB.out | apply below_alloc | apply pw_below_drewN | apply below_drew1 | refine below_set ?_ GE168.out | refine below_set ?_ GE179.out | refine below_set ?_ GE180.out) | exact HB.out)⟩
            (try clear BK168)
            (try clear BK179)
            (try clear BK180)
            (try clear HB)
            generalize (((((((w16.setCell ⟨gb180, 0, none⟩ (.int .u8 ((Go.bits .and .i64 x6_1 3) % 256))).setCell ⟨gb180, 1, none⟩ (.bool (decide ((Go.bits .and .i64 x6_1 4) > 0)))).setCell ⟨gb180, 2, none⟩ (.int .u8 ((Go.bits .and .i64 (x6_1 / 8) 1) % 256))).setCell ⟨gb180, 3, none⟩ (.bool (decide ((Go.bits .and .i64 x6_1 16) > 0)))).setCell ⟨gb180, 4, none⟩ (.bool (decide ((Go.bits .and .i64 x6_1 32) > 0)))).setCell ⟨gb180, 5, none⟩ (.bool (decide ((Go.bits .and .i64 x6_1 64) > 0)))).setCell ⟨gb180, 6, none⟩ (.bool (decide ((Go.bits .and .i64 x6_1 128) > 0)))) = w20 at n0_ n1_ n2_ n3_ ⊢
            have BK168 := n0_
            have BK179 := n1_
            have BK180 := n2_
            have HB := n3_
            clear n0_ n1_ n2_ n3_
            have n0_ := Aside0.mk (blk_drew BK168.out)
            have n1_ := Aside0.mk (blk_drew BK179.out)
            have n2_ := Aside0.mk (blk_drew BK180.out)
            have n3_ := Aside0.mk (below_drew1 HB.out)
            clear BK168
            clear BK179
            clear BK180
            clear HB
            have BK168 := n0_
            have BK179 := n1_
            have BK180 := n2_
            have HB := n3_
            clear n0_ n1_ n2_ n3_
            refine start_ (n := 16) (S := fun w' => w'.cell? ⟨gb180, 0, none⟩ = some (.int .u8 ((Go.bits .and .i64 x6_1 3) % 256)) ∧ w'.cell? ⟨gb180, 1, none⟩ = some (.bool (decide ((Go.bits .and .i64 x6_1 4) > 0))) ∧ w'.cell? ⟨gb180, 2, none⟩ = some (.int .u8 ((Go.bits .and .i64 (x6_1 / 8) 1) % 256)) ∧ w'.cell? ⟨gb180, 3, none⟩ = some (.bool (decide ((Go.bits .and .i64 x6_1 16) > 0))) ∧ w'.cell? ⟨gb180, 4, none⟩ = some (.bool (decide ((Go.bits .and .i64 x6_1 32) > 0))) ∧ w'.cell? ⟨gb180, 5, none⟩ = some (.bool (decide ((Go.bits .and .i64 x6_1 64) > 0))) ∧ w'.cell? ⟨gb180, 6, none⟩ = some (.bool (decide ((Go.bits .and .i64 x6_1 128) > 0))) ∧ w'.cell? ⟨gb179, 0, none⟩ = some (.bool t169) ∧ w'.cell? ⟨gb179, 1, none⟩ = some (.bool t170) ∧ w'.cell? ⟨gb179, 2, none⟩ = some (.bool t171) ∧ w'.cell? ⟨gb179, 3, none⟩ = some (.bool t172) ∧ w'.cell? ⟨gb179, 4, none⟩ = some (.bool t173) ∧ w'.cell? ⟨gb179, 5, none⟩ = some (.bool t174) ∧ w'.cell? ⟨gb179, 6, none⟩ = some (.bool t175) ∧ w'.cell? ⟨gb179, 7, none⟩ = some (.bool t176) ∧ w'.cell? ⟨gb179, 8, none⟩ = some (.int .u64 t177) ∧ w'.cell? ⟨gb179, 9, none⟩ = some (.int .u64 t178)) (ds := []) #[false, false, false, false, false, false, false, false, false, false, false, false, false, false, false, false] (by kernel_rfl) rfl rfl ⟨(blk_cell BK180.out 0).trans rfl, (blk_cell BK180.out 1).trans rfl, (blk_cell BK180.out 2).trans rfl, (blk_cell BK180.out 3).trans rfl, (blk_cell BK180.out 4).trans rfl, (blk_cell BK180.out 5).trans rfl, (blk_cell BK180.out 6).trans rfl, (blk_cell BK179.out 0).trans rfl, (blk_cell BK179.out 1).trans rfl, (blk_cell BK179.out 2).trans rfl, (blk_cell BK179.out 3).trans rfl, (blk_cell BK179.out 4).trans rfl, (blk_cell BK179.out 5).trans rfl, (blk_cell BK179.out 6).trans rfl, (blk_cell BK179.out 7).trans rfl, (blk_cell BK179.out 8).trans rfl, (blk_cell BK179.out 9).trans rfl⟩ (fun hHeld => ?_); refine with_tabW mezzaninelaw15_PteAllows.tab6 mezzaninelaw15_PteAllows.bits6 (fun HT_ HW_ => ?_)
            generalize w20.drew = w21 at BK168 BK179 BK180 HB hHeld ⊢
            refine pure_ (i := 0) (N := some 37) (v := ?_) (a' := ?_) #[true, false, false, false, false, false, false, false, false, false, false, false, false, false, false, false] rfl rfl (any_of HT_.out (by kernel_rfl)) (fun _ _ _ h => h) (Or.inl ⟨by rfl, ?_⟩) ?_ ?_
            rotate_left
            · intro w'
              go_simp
              with_reducible rfl
            rotate_left
            · simp only [Act.put, List.setIfInBounds_toArray, List.set_cons_zero, List.set_cons_succ, i64_w, i32_w]
              rfl
            refine take_ (i := 1) (N := some 38) (v := ?_) (a' := ?_) #[true, true, false, false, false, false, false, false, false, false, false, false, false, false, false, false] rfl rfl (take_ofW HT_.out HW_.out (by kernel_rfl)) (fun _ _ _ h => h) (Or.inl ⟨by rfl, ?_⟩) hHeld ?_ ?_
            rotate_left
            · rintro w' ⟨s0, s1, s2, s3, s4, s5, s6, s7, s8, s9, s10, s11, s12, s13, s14, s15, s16⟩
              go_simp
              with_reducible rfl
            rotate_left
            · simp only [Act.put, List.setIfInBounds_toArray, List.set_cons_zero, List.set_cons_succ, i64_w, i32_w]
              rfl
            refine take_ (i := 3) (N := some 40) (v := ?_) (a' := ?_) #[true, true, false, true, false, false, false, false, false, false, false, false, false, false, false, false] rfl rfl (take_ofW HT_.out HW_.out (by kernel_rfl)) (fun _ _ _ h => h) (Or.inl ⟨by rfl, ?_⟩) hHeld ?_ ?_
            rotate_left
            · rintro w' ⟨s0, s1, s2, s3, s4, s5, s6, s7, s8, s9, s10, s11, s12, s13, s14, s15, s16⟩
              go_simp
              with_reducible rfl
            rotate_left
            · simp only [Act.put, List.setIfInBounds_toArray, List.set_cons_zero, List.set_cons_succ, i64_w, i32_w]
              rfl
            refine take_ (i := 4) (N := some 41) (v := ?_) (a' := ?_) #[true, true, false, true, true, false, false, false, false, false, false, false, false, false, false, false] rfl rfl (take_ofW HT_.out HW_.out (by kernel_rfl)) (fun _ _ _ h => h) (Or.inl ⟨by rfl, ?_⟩) hHeld ?_ ?_
            rotate_left
            · rintro w' ⟨s0, s1, s2, s3, s4, s5, s6, s7, s8, s9, s10, s11, s12, s13, s14, s15, s16⟩
              go_simp
              with_reducible rfl
            rotate_left
            · simp only [Act.put, List.setIfInBounds_toArray, List.set_cons_zero, List.set_cons_succ, i64_w, i32_w]
              rfl
            refine one_ (i := 2) (N := some 39) #[true, true, true, true, true, false, false, false, false, false, false, false, false, false, false, false] rfl rfl (one_of HT_.out (by kernel_rfl)) (by decide) (fun K hK => ?_)
            refine goes_ Try.func21 (by kernel_rfl) rfl #[.int .u64 a0, .agg #[.int .u8 ((Go.bits .and .i64 x6_1 3) % 256), .bool (decide ((Go.bits .and .i64 x6_1 4) > 0)), .int .u8 ((Go.bits .and .i64 (x6_1 / 8) 1) % 256), .bool (decide ((Go.bits .and .i64 x6_1 16) > 0)), .bool (decide ((Go.bits .and .i64 x6_1 32) > 0)), .bool (decide ((Go.bits .and .i64 x6_1 64) > 0)), .bool (decide ((Go.bits .and .i64 x6_1 128) > 0))]] (by rfl) rfl rfl (by (try simp only [List.map_toArray, List.map_cons, List.map_nil]); first | done | rfl | (simp only [List.length_drop, List.length_take]; rfl)) ?_
            with_reducible refine (pte_Allowed.calls a0 ((Go.bits .and .i64 x6_1 3) % 256) (decide ((Go.bits .and .i64 x6_1 4) > 0)) ((Go.bits .and .i64 (x6_1 / 8) 1) % 256) (decide ((Go.bits .and .i64 x6_1 16) > 0)) (decide ((Go.bits .and .i64 x6_1 32) > 0)) (decide ((Go.bits .and .i64 x6_1 64) > 0)) (decide ((Go.bits .and .i64 x6_1 128) > 0)) t181 _ A10.out).mono ?_
            rintro e w22 ⟨rfl, hb⟩
            refine ⟨_, rfl, ?_⟩
            have n0_ := Aside0.mk (blk_below (g := gb168) (o := .cells #[.int .u8 a1_0, .bool a1_1, .int .u8 a1_2, .bool a1_3, .bool a1_4, .bool a1_5, .bool a1_6] 32 (0, 0)) (by (with_reducible repeat (first | refine blk_drewN ?_ _ | refine blk_drew ?_ | refine blk_alloc ?_ _)); exact BK168.out) hb)
            have n1_ := Aside0.mk (blk_below (g := gb179) (o := .cells #[.bool t169, .bool t170, .bool t171, .bool t172, .bool t173, .bool t174, .bool t175, .bool t176, .int .u64 t177, .int .u64 t178] 24 (0, 0)) (by (with_reducible repeat (first | refine blk_drewN ?_ _ | refine blk_drew ?_ | refine blk_alloc ?_ _)); exact BK179.out) hb)
            have n2_ := Aside0.mk (blk_below (g := gb180) (o := .cells #[.int .u8 ((Go.bits .and .i64 x6_1 3) % 256), .bool (decide ((Go.bits .and .i64 x6_1 4) > 0)), .int .u8 ((Go.bits .and .i64 (x6_1 / 8) 1) % 256), .bool (decide ((Go.bits .and .i64 x6_1 16) > 0)), .bool (decide ((Go.bits .and .i64 x6_1 32) > 0)), .bool (decide ((Go.bits .and .i64 x6_1 64) > 0)), .bool (decide ((Go.bits .and .i64 x6_1 128) > 0))] 32 (0, 0)) (by (with_reducible repeat (first | refine blk_drewN ?_ _ | refine blk_drew ?_ | refine blk_alloc ?_ _)); exact BK180.out) hb)
            have n3_ := Aside0.mk (below_step (by repeat (first | (with_reducible first | exact HB.out | apply below_alloc | apply pw_below_drewN | apply below_drew1 | refine below_set ?_ GE168.out | refine below_set ?_ GE179.out | refine below_set ?_ GE180.out) | exact HB.out)) hb)
            clear BK168
            clear BK179
            clear BK180
            clear HB
            have BK168 := n0_
            have BK179 := n1_
            have BK180 := n2_
            have HB := n3_
            clear n0_ n1_ n2_ n3_
            (try clear hb)
            (try clear hb2)
            (try clear hk)
            (try clear hi)
            refine hK.out _ _ ⟨(blk_cell BK180.out 0).trans rfl, (blk_cell BK180.out 1).trans rfl, (blk_cell BK180.out 2).trans rfl, (blk_cell BK180.out 3).trans rfl, (blk_cell BK180.out 4).trans rfl, (blk_cell BK180.out 5).trans rfl, (blk_cell BK180.out 6).trans rfl, (blk_cell BK179.out 0).trans rfl, (blk_cell BK179.out 1).trans rfl, (blk_cell BK179.out 2).trans rfl, (blk_cell BK179.out 3).trans rfl, (blk_cell BK179.out 4).trans rfl, (blk_cell BK179.out 5).trans rfl, (blk_cell BK179.out 6).trans rfl, (blk_cell BK179.out 7).trans rfl, (blk_cell BK179.out 8).trans rfl, (blk_cell BK179.out 9).trans rfl⟩ (fun hHeld => ?_)
            clear hK K
            refine norm_ (a' := ?_) ?_ ?_
            rotate_left
            · show Act.put _ (some 39) _ = _
              simp only [Act.put, List.setIfInBounds_toArray, List.set_cons_zero, List.set_cons_succ, i64_w, i32_w]
              rfl
            refine one_ (i := 5) (N := some 42) #[true, true, true, true, true, true, false, false, false, false, false, false, false, false, false, false] rfl rfl (one_of HT_.out (by kernel_rfl)) (by decide) (fun K hK => ?_)
            refine goes_ Try.func22 (by kernel_rfl) rfl #[.agg #[.bool t169, .bool t170, .bool t171, .bool t172, .bool t173, .bool t174, .bool t175, .bool t176, .int .u64 t177, .int .u64 t178], .agg #[.int .u8 ((Go.bits .and .i64 x6_1 3) % 256), .bool (decide ((Go.bits .and .i64 x6_1 4) > 0)), .int .u8 ((Go.bits .and .i64 (x6_1 / 8) 1) % 256), .bool (decide ((Go.bits .and .i64 x6_1 16) > 0)), .bool (decide ((Go.bits .and .i64 x6_1 32) > 0)), .bool (decide ((Go.bits .and .i64 x6_1 64) > 0)), .bool (decide ((Go.bits .and .i64 x6_1 128) > 0))]] (by rfl) rfl rfl (by (try simp only [List.map_toArray, List.map_cons, List.map_nil]); first | done | rfl | (simp only [List.length_drop, List.length_take]; rfl)) ?_
            with_reducible refine (mezzanineref15_Entry_Allowed.calls k1 t169 t170 t171 t172 t173 t174 t175 t176 t177 t178 ((Go.bits .and .i64 x6_1 3) % 256) (decide ((Go.bits .and .i64 x6_1 4) > 0)) ((Go.bits .and .i64 (x6_1 / 8) 1) % 256) (decide ((Go.bits .and .i64 x6_1 16) > 0)) (decide ((Go.bits .and .i64 x6_1 32) > 0)) (decide ((Go.bits .and .i64 x6_1 64) > 0)) (decide ((Go.bits .and .i64 x6_1 128) > 0)) t182 _ A11.out).mono ?_
            rintro e w23 ⟨rfl, hb⟩
            refine ⟨_, rfl, ?_⟩
            have n0_ := Aside0.mk (blk_below (g := gb168) (o := .cells #[.int .u8 a1_0, .bool a1_1, .int .u8 a1_2, .bool a1_3, .bool a1_4, .bool a1_5, .bool a1_6] 32 (0, 0)) (by (with_reducible repeat (first | refine blk_drewN ?_ _ | refine blk_drew ?_ | refine blk_alloc ?_ _)); exact BK168.out) hb)
            have n1_ := Aside0.mk (blk_below (g := gb179) (o := .cells #[.bool t169, .bool t170, .bool t171, .bool t172, .bool t173, .bool t174, .bool t175, .bool t176, .int .u64 t177, .int .u64 t178] 24 (0, 0)) (by (with_reducible repeat (first | refine blk_drewN ?_ _ | refine blk_drew ?_ | refine blk_alloc ?_ _)); exact BK179.out) hb)
            have n2_ := Aside0.mk (blk_below (g := gb180) (o := .cells #[.int .u8 ((Go.bits .and .i64 x6_1 3) % 256), .bool (decide ((Go.bits .and .i64 x6_1 4) > 0)), .int .u8 ((Go.bits .and .i64 (x6_1 / 8) 1) % 256), .bool (decide ((Go.bits .and .i64 x6_1 16) > 0)), .bool (decide ((Go.bits .and .i64 x6_1 32) > 0)), .bool (decide ((Go.bits .and .i64 x6_1 64) > 0)), .bool (decide ((Go.bits .and .i64 x6_1 128) > 0))] 32 (0, 0)) (by (with_reducible repeat (first | refine blk_drewN ?_ _ | refine blk_drew ?_ | refine blk_alloc ?_ _)); exact BK180.out) hb)
            have n3_ := Aside0.mk (below_step (by repeat (first | (with_reducible first | exact HB.out | apply below_alloc | apply pw_below_drewN | apply below_drew1 | refine below_set ?_ GE168.out | refine below_set ?_ GE179.out | refine below_set ?_ GE180.out) | exact HB.out)) hb)
            clear BK168
            clear BK179
            clear BK180
            clear HB
            have BK168 := n0_
            have BK179 := n1_
            have BK180 := n2_
            have HB := n3_
            clear n0_ n1_ n2_ n3_
            (try clear hb)
            (try clear hb2)
            (try clear hk)
            (try clear hi)
            refine hK.out _ _ ⟨(blk_cell BK180.out 0).trans rfl, (blk_cell BK180.out 1).trans rfl, (blk_cell BK180.out 2).trans rfl, (blk_cell BK180.out 3).trans rfl, (blk_cell BK180.out 4).trans rfl, (blk_cell BK180.out 5).trans rfl, (blk_cell BK180.out 6).trans rfl, (blk_cell BK179.out 0).trans rfl, (blk_cell BK179.out 1).trans rfl, (blk_cell BK179.out 2).trans rfl, (blk_cell BK179.out 3).trans rfl, (blk_cell BK179.out 4).trans rfl, (blk_cell BK179.out 5).trans rfl, (blk_cell BK179.out 6).trans rfl, (blk_cell BK179.out 7).trans rfl, (blk_cell BK179.out 8).trans rfl, (blk_cell BK179.out 9).trans rfl⟩ (fun hHeld => ?_)
            clear hK K
            refine norm_ (a' := ?_) ?_ ?_
            rotate_left
            · show Act.put _ (some 42) _ = _
              simp only [Act.put, List.setIfInBounds_toArray, List.set_cons_zero, List.set_cons_succ, i64_w, i32_w]
              rfl
            refine pure_ (i := 6) (N := some 43) (v := ?_) (a' := ?_) #[true, true, true, true, true, true, true, false, false, false, false, false, false, false, false, false] rfl rfl (any_of HT_.out (by kernel_rfl)) (fun _ _ _ h => h) (Or.inl ⟨by rfl, ?_⟩) ?_ ?_
            rotate_left
            · intro w'
              go_simp
              with_reducible rfl
            rotate_left
            · simp only [Act.put, List.setIfInBounds_toArray, List.set_cons_zero, List.set_cons_succ, i64_w, i32_w]
              rfl
            refine pure_ (i := 7) (N := some 44) (v := ?_) (a' := ?_) #[true, true, true, true, true, true, true, true, false, false, false, false, false, false, false, false] rfl rfl (any_of HT_.out (by kernel_rfl)) (fun _ _ _ h => h) (Or.inl ⟨by rfl, ?_⟩) ?_ ?_
            rotate_left
            · intro w'
              go_simp
              with_reducible rfl
            rotate_left
            · simp only [Act.put, List.setIfInBounds_toArray, List.set_cons_zero, List.set_cons_succ, i64_w, i32_w]
              rfl
            refine pure_ (i := 8) (N := some 45) (v := ?_) (a' := ?_) #[true, true, true, true, true, true, true, true, true, false, false, false, false, false, false, false] rfl rfl (any_of HT_.out (by kernel_rfl)) (fun _ _ _ h => h) (Or.inl ⟨by rfl, ?_⟩) ?_ ?_
            rotate_left
            · intro w'
              go_simp
              with_reducible rfl
            rotate_left
            · simp only [Act.put, List.setIfInBounds_toArray, List.set_cons_zero, List.set_cons_succ, i64_w, i32_w]
              rfl
            refine take_ (i := 9) (N := some 46) (v := ?_) (a' := ?_) #[true, true, true, true, true, true, true, true, true, true, false, false, false, false, false, false] rfl rfl (take_ofW HT_.out HW_.out (by kernel_rfl)) (fun _ _ _ h => h) (Or.inl ⟨by rfl, ?_⟩) hHeld ?_ ?_
            rotate_left
            · rintro w' ⟨s0, s1, s2, s3, s4, s5, s6, s7, s8, s9, s10, s11, s12, s13, s14, s15, s16⟩
              go_simp
              with_reducible rfl
            rotate_left
            · simp only [Act.put, List.setIfInBounds_toArray, List.set_cons_zero, List.set_cons_succ, i64_w, i32_w]
              rfl
            refine take_ (i := 11) (N := some 48) (v := ?_) (a' := ?_) #[true, true, true, true, true, true, true, true, true, true, false, true, false, false, false, false] rfl rfl (take_ofW HT_.out HW_.out (by kernel_rfl)) (fun _ _ _ h => h) (Or.inl ⟨by rfl, ?_⟩) hHeld ?_ ?_
            rotate_left
            · rintro w' ⟨s0, s1, s2, s3, s4, s5, s6, s7, s8, s9, s10, s11, s12, s13, s14, s15, s16⟩
              go_simp
              with_reducible rfl
            rotate_left
            · simp only [Act.put, List.setIfInBounds_toArray, List.set_cons_zero, List.set_cons_succ, i64_w, i32_w]
              rfl
            refine take_ (i := 12) (N := some 49) (v := ?_) (a' := ?_) #[true, true, true, true, true, true, true, true, true, true, false, true, true, false, false, false] rfl rfl (take_ofW HT_.out HW_.out (by kernel_rfl)) (fun _ _ _ h => h) (Or.inl ⟨by rfl, ?_⟩) hHeld ?_ ?_
            rotate_left
            · rintro w' ⟨s0, s1, s2, s3, s4, s5, s6, s7, s8, s9, s10, s11, s12, s13, s14, s15, s16⟩
              go_simp
              with_reducible rfl
            rotate_left
            · simp only [Act.put, List.setIfInBounds_toArray, List.set_cons_zero, List.set_cons_succ, i64_w, i32_w]
              rfl
            refine one_ (i := 10) (N := some 47) #[true, true, true, true, true, true, true, true, true, true, true, true, true, false, false, false] rfl rfl (one_of HT_.out (by kernel_rfl)) (by decide) (fun K hK => ?_)
            refine goes_ Try.func23 (by kernel_rfl) rfl #[.int .u64 a0, .agg #[.int .u8 ((Go.bits .and .i64 x6_1 3) % 256), .bool (decide ((Go.bits .and .i64 x6_1 4) > 0)), .int .u8 ((Go.bits .and .i64 (x6_1 / 8) 1) % 256), .bool (decide ((Go.bits .and .i64 x6_1 16) > 0)), .bool (decide ((Go.bits .and .i64 x6_1 32) > 0)), .bool (decide ((Go.bits .and .i64 x6_1 64) > 0)), .bool (decide ((Go.bits .and .i64 x6_1 128) > 0))]] (by rfl) rfl rfl (by (try simp only [List.map_toArray, List.map_cons, List.map_nil]); first | done | rfl | (simp only [List.length_drop, List.length_take]; rfl)) ?_
            with_reducible refine (pte_Full.calls a0 ((Go.bits .and .i64 x6_1 3) % 256) (decide ((Go.bits .and .i64 x6_1 4) > 0)) ((Go.bits .and .i64 (x6_1 / 8) 1) % 256) (decide ((Go.bits .and .i64 x6_1 16) > 0)) (decide ((Go.bits .and .i64 x6_1 32) > 0)) (decide ((Go.bits .and .i64 x6_1 64) > 0)) (decide ((Go.bits .and .i64 x6_1 128) > 0)) t183 _ A13.out).mono ?_
            rintro e w24 ⟨rfl, hb⟩
            refine ⟨_, rfl, ?_⟩
            have n0_ := Aside0.mk (blk_below (g := gb168) (o := .cells #[.int .u8 a1_0, .bool a1_1, .int .u8 a1_2, .bool a1_3, .bool a1_4, .bool a1_5, .bool a1_6] 32 (0, 0)) (by (with_reducible repeat (first | refine blk_drewN ?_ _ | refine blk_drew ?_ | refine blk_alloc ?_ _)); exact BK168.out) hb)
            have n1_ := Aside0.mk (blk_below (g := gb179) (o := .cells #[.bool t169, .bool t170, .bool t171, .bool t172, .bool t173, .bool t174, .bool t175, .bool t176, .int .u64 t177, .int .u64 t178] 24 (0, 0)) (by (with_reducible repeat (first | refine blk_drewN ?_ _ | refine blk_drew ?_ | refine blk_alloc ?_ _)); exact BK179.out) hb)
            have n2_ := Aside0.mk (blk_below (g := gb180) (o := .cells #[.int .u8 ((Go.bits .and .i64 x6_1 3) % 256), .bool (decide ((Go.bits .and .i64 x6_1 4) > 0)), .int .u8 ((Go.bits .and .i64 (x6_1 / 8) 1) % 256), .bool (decide ((Go.bits .and .i64 x6_1 16) > 0)), .bool (decide ((Go.bits .and .i64 x6_1 32) > 0)), .bool (decide ((Go.bits .and .i64 x6_1 64) > 0)), .bool (decide ((Go.bits .and .i64 x6_1 128) > 0))] 32 (0, 0)) (by (with_reducible repeat (first | refine blk_drewN ?_ _ | refine blk_drew ?_ | refine blk_alloc ?_ _)); exact BK180.out) hb)
            have n3_ := Aside0.mk (below_step (by repeat (first | (with_reducible first | exact HB.out | apply below_alloc | apply pw_below_drewN | apply below_drew1 | refine below_set ?_ GE168.out | refine below_set ?_ GE179.out | refine below_set ?_ GE180.out) | exact HB.out)) hb)
            clear BK168
            clear BK179
            clear BK180
            clear HB
            have BK168 := n0_
            have BK179 := n1_
            have BK180 := n2_
            have HB := n3_
            clear n0_ n1_ n2_ n3_
            (try clear hb)
            (try clear hb2)
            (try clear hk)
            (try clear hi)
            refine hK.out _ _ ⟨(blk_cell BK180.out 0).trans rfl, (blk_cell BK180.out 1).trans rfl, (blk_cell BK180.out 2).trans rfl, (blk_cell BK180.out 3).trans rfl, (blk_cell BK180.out 4).trans rfl, (blk_cell BK180.out 5).trans rfl, (blk_cell BK180.out 6).trans rfl, (blk_cell BK179.out 0).trans rfl, (blk_cell BK179.out 1).trans rfl, (blk_cell BK179.out 2).trans rfl, (blk_cell BK179.out 3).trans rfl, (blk_cell BK179.out 4).trans rfl, (blk_cell BK179.out 5).trans rfl, (blk_cell BK179.out 6).trans rfl, (blk_cell BK179.out 7).trans rfl, (blk_cell BK179.out 8).trans rfl, (blk_cell BK179.out 9).trans rfl⟩ (fun hHeld => ?_)
            clear hK K
            refine norm_ (a' := ?_) ?_ ?_
            rotate_left
            · show Act.put _ (some 47) _ = _
              simp only [Act.put, List.setIfInBounds_toArray, List.set_cons_zero, List.set_cons_succ, i64_w, i32_w]
              rfl
            refine one_ (i := 13) (N := some 50) #[true, true, true, true, true, true, true, true, true, true, true, true, true, true, false, false] rfl rfl (one_of HT_.out (by kernel_rfl)) (by decide) (fun K hK => ?_)
            refine goes_ Try.func24 (by kernel_rfl) rfl #[.agg #[.bool t169, .bool t170, .bool t171, .bool t172, .bool t173, .bool t174, .bool t175, .bool t176, .int .u64 t177, .int .u64 t178], .agg #[.int .u8 ((Go.bits .and .i64 x6_1 3) % 256), .bool (decide ((Go.bits .and .i64 x6_1 4) > 0)), .int .u8 ((Go.bits .and .i64 (x6_1 / 8) 1) % 256), .bool (decide ((Go.bits .and .i64 x6_1 16) > 0)), .bool (decide ((Go.bits .and .i64 x6_1 32) > 0)), .bool (decide ((Go.bits .and .i64 x6_1 64) > 0)), .bool (decide ((Go.bits .and .i64 x6_1 128) > 0))]] (by rfl) rfl rfl (by (try simp only [List.map_toArray, List.map_cons, List.map_nil]); first | done | rfl | (simp only [List.length_drop, List.length_take]; rfl)) ?_
            with_reducible refine (mezzanineref15_Entry_Full.calls t169 t170 t171 t172 t173 t174 t175 t176 t177 t178 ((Go.bits .and .i64 x6_1 3) % 256) (decide ((Go.bits .and .i64 x6_1 4) > 0)) ((Go.bits .and .i64 (x6_1 / 8) 1) % 256) (decide ((Go.bits .and .i64 x6_1 16) > 0)) (decide ((Go.bits .and .i64 x6_1 32) > 0)) (decide ((Go.bits .and .i64 x6_1 64) > 0)) (decide ((Go.bits .and .i64 x6_1 128) > 0)) t184 _ A14.out).mono ?_
            rintro e w25 ⟨rfl, hb⟩
            refine ⟨_, rfl, ?_⟩
            have n0_ := Aside0.mk (blk_below (g := gb168) (o := .cells #[.int .u8 a1_0, .bool a1_1, .int .u8 a1_2, .bool a1_3, .bool a1_4, .bool a1_5, .bool a1_6] 32 (0, 0)) (by (with_reducible repeat (first | refine blk_drewN ?_ _ | refine blk_drew ?_ | refine blk_alloc ?_ _)); exact BK168.out) hb)
            have n1_ := Aside0.mk (blk_below (g := gb179) (o := .cells #[.bool t169, .bool t170, .bool t171, .bool t172, .bool t173, .bool t174, .bool t175, .bool t176, .int .u64 t177, .int .u64 t178] 24 (0, 0)) (by (with_reducible repeat (first | refine blk_drewN ?_ _ | refine blk_drew ?_ | refine blk_alloc ?_ _)); exact BK179.out) hb)
            have n2_ := Aside0.mk (blk_below (g := gb180) (o := .cells #[.int .u8 ((Go.bits .and .i64 x6_1 3) % 256), .bool (decide ((Go.bits .and .i64 x6_1 4) > 0)), .int .u8 ((Go.bits .and .i64 (x6_1 / 8) 1) % 256), .bool (decide ((Go.bits .and .i64 x6_1 16) > 0)), .bool (decide ((Go.bits .and .i64 x6_1 32) > 0)), .bool (decide ((Go.bits .and .i64 x6_1 64) > 0)), .bool (decide ((Go.bits .and .i64 x6_1 128) > 0))] 32 (0, 0)) (by (with_reducible repeat (first | refine blk_drewN ?_ _ | refine blk_drew ?_ | refine blk_alloc ?_ _)); exact BK180.out) hb)
            have n3_ := Aside0.mk (below_step (by repeat (first | (with_reducible first | exact HB.out | apply below_alloc | apply pw_below_drewN | apply below_drew1 | refine below_set ?_ GE168.out | refine below_set ?_ GE179.out | refine below_set ?_ GE180.out) | exact HB.out)) hb)
            clear BK168
            clear BK179
            clear BK180
            clear HB
            have BK168 := n0_
            have BK179 := n1_
            have BK180 := n2_
            have HB := n3_
            clear n0_ n1_ n2_ n3_
            (try clear hb)
            (try clear hb2)
            (try clear hk)
            (try clear hi)
            refine hK.out _ _ ⟨(blk_cell BK180.out 0).trans rfl, (blk_cell BK180.out 1).trans rfl, (blk_cell BK180.out 2).trans rfl, (blk_cell BK180.out 3).trans rfl, (blk_cell BK180.out 4).trans rfl, (blk_cell BK180.out 5).trans rfl, (blk_cell BK180.out 6).trans rfl, (blk_cell BK179.out 0).trans rfl, (blk_cell BK179.out 1).trans rfl, (blk_cell BK179.out 2).trans rfl, (blk_cell BK179.out 3).trans rfl, (blk_cell BK179.out 4).trans rfl, (blk_cell BK179.out 5).trans rfl, (blk_cell BK179.out 6).trans rfl, (blk_cell BK179.out 7).trans rfl, (blk_cell BK179.out 8).trans rfl, (blk_cell BK179.out 9).trans rfl⟩ (fun hHeld => ?_)
            clear hK K
            refine norm_ (a' := ?_) ?_ ?_
            rotate_left
            · show Act.put _ (some 50) _ = _
              simp only [Act.put, List.setIfInBounds_toArray, List.set_cons_zero, List.set_cons_succ, i64_w, i32_w]
              rfl
            refine pure_ (i := 14) (N := some 51) (v := ?_) (a' := ?_) #[true, true, true, true, true, true, true, true, true, true, true, true, true, true, true, false] rfl rfl (any_of HT_.out (by kernel_rfl)) (fun _ _ _ h => h) (Or.inl ⟨by rfl, ?_⟩) ?_ ?_
            rotate_left
            · intro w'
              go_simp
              with_reducible rfl
            rotate_left
            · simp only [Act.put, List.setIfInBounds_toArray, List.set_cons_zero, List.set_cons_succ, i64_w, i32_w]
              rfl
            refine pure_ (i := 15) (N := some 52) (v := ?_) (a' := ?_) #[true, true, true, true, true, true, true, true, true, true, true, true, true, true, true, true] rfl rfl (any_of HT_.out (by kernel_rfl)) (fun _ _ _ h => h) (Or.inl ⟨by rfl, ?_⟩) ?_ ?_
            rotate_left
            · intro w'
              go_simp
              with_reducible rfl
            rotate_left
            · simp only [Act.put, List.setIfInBounds_toArray, List.set_cons_zero, List.set_cons_succ, i64_w, i32_w]
              rfl
            refine done_ (done_of HT_.out (by kernel_rfl)) ?_
            try go_wp2
            go_roundg k1
            case measure => have := HK1.out; omega
            case rel => exact ⟨(wrap64 (x6_1 + 1)), (by first | rfl | (simp; done) | (simp [*]; done)), H', ⟨by have := HK1.out; omega⟩, ⟨by (with_reducible repeat (first | refine blk_drewN ?_ _ | refine blk_drew ?_ | refine blk_alloc ?_ _)); exact BK168.out⟩, ⟨by (with_reducible repeat (first | refine blk_drewN ?_ _ | refine blk_drew ?_ | refine blk_alloc ?_ _)); exact BK179.out⟩, ⟨by repeat (first | (with_reducible first | exact HB.out | apply below_alloc | apply pw_below_drewN | apply below_drew1 | refine below_set ?_ GE168.out | refine below_set ?_ GE179.out | refine below_set ?_ GE180.out) | exact HB.out)⟩⟩
      · rw [if_neg c9] at H
        have c9b0 : decide (x6_1 < 256) = false := decide_eq_false c9
        clear c9
        replace H := Option.bind_eq_some_iff.mp H
        obtain ⟨t185, A260, H⟩ := H
        replace H : (if t185 = true then ((pte_Allowed.f a0 a1_0 a1_1 a1_2 a1_3 a1_4 a1_5 a1_6).bind fun t186 => ((mezzanineref15_Entry_Allowed.f k1 t169 t170 t171 t172 t173 t174 t175 t176 t177 t178 a1_0 a1_1 a1_2 a1_3 a1_4 a1_5 a1_6).bind fun t187 => (if (t186 == t187) = true then ((pte_Full.f a0 a1_0 a1_1 a1_2 a1_3 a1_4 a1_5 a1_6).bind fun t188 => ((mezzanineref15_Entry_Full.f t169 t170 t171 t172 t173 t174 t175 t176 t177 t178 a1_0 a1_1 a1_2 a1_3 a1_4 a1_5 a1_6).bind fun t189 => (some (t188 == t189)))) else (some false)))) else (some false)) = some r := H
        have A26 := Aside0.mk A260
        clear A260
        by_cases c27 : t185 = true
        · subst c27
          have H1 : ((pte_Allowed.f a0 a1_0 a1_1 a1_2 a1_3 a1_4 a1_5 a1_6).bind fun t186 => ((mezzanineref15_Entry_Allowed.f k1 t169 t170 t171 t172 t173 t174 t175 t176 t177 t178 a1_0 a1_1 a1_2 a1_3 a1_4 a1_5 a1_6).bind fun t187 => (if (t186 == t187) = true then ((pte_Full.f a0 a1_0 a1_1 a1_2 a1_3 a1_4 a1_5 a1_6).bind fun t188 => ((mezzanineref15_Entry_Full.f t169 t170 t171 t172 t173 t174 t175 t176 t177 t178 a1_0 a1_1 a1_2 a1_3 a1_4 a1_5 a1_6).bind fun t189 => (some (t188 == t189)))) else (some false)))) = some r := by rw [if_pos rfl] at H; exact H
          clear H
          have H := H1
          clear H1
          replace H := Option.bind_eq_some_iff.mp H
          obtain ⟨t186, A280, H⟩ := H
          replace H : ((mezzanineref15_Entry_Allowed.f k1 t169 t170 t171 t172 t173 t174 t175 t176 t177 t178 a1_0 a1_1 a1_2 a1_3 a1_4 a1_5 a1_6).bind fun t187 => (if (t186 == t187) = true then ((pte_Full.f a0 a1_0 a1_1 a1_2 a1_3 a1_4 a1_5 a1_6).bind fun t188 => ((mezzanineref15_Entry_Full.f t169 t170 t171 t172 t173 t174 t175 t176 t177 t178 a1_0 a1_1 a1_2 a1_3 a1_4 a1_5 a1_6).bind fun t189 => (some (t188 == t189)))) else (some false))) = some r := H
          have A28 := Aside0.mk A280
          clear A280
          replace H := Option.bind_eq_some_iff.mp H
          obtain ⟨t187, A290, H⟩ := H
          replace H : (if (t186 == t187) = true then ((pte_Full.f a0 a1_0 a1_1 a1_2 a1_3 a1_4 a1_5 a1_6).bind fun t188 => ((mezzanineref15_Entry_Full.f t169 t170 t171 t172 t173 t174 t175 t176 t177 t178 a1_0 a1_1 a1_2 a1_3 a1_4 a1_5 a1_6).bind fun t189 => (some (t188 == t189)))) else (some false)) = some r := H
          have A29 := Aside0.mk A290
          clear A290
          by_cases c30 : (t186 == t187) = true
          · rw [if_pos c30] at H
            have c30b0 : (t186 == t187) = true := c30
            (try (have c30b1 : decide (t186 = t187) = true := by simpa using c30))
            (try (have c30b2 : (t186 == t187) = true := by simpa using c30))
            clear c30
            replace H := Option.bind_eq_some_iff.mp H
            obtain ⟨t188, A310, H⟩ := H
            replace H : ((mezzanineref15_Entry_Full.f t169 t170 t171 t172 t173 t174 t175 t176 t177 t178 a1_0 a1_1 a1_2 a1_3 a1_4 a1_5 a1_6).bind fun t189 => (some (t188 == t189))) = some r := H
            have A31 := Aside0.mk A310
            clear A310
            replace H := Option.bind_eq_some_iff.mp H
            obtain ⟨t189, A320, H⟩ := H
            replace H : (some (t188 == t189)) = some r := H
            have A32 := Aside0.mk A320
            clear A320
            obtain rfl := Option.some.inj H
            try go_wp2
            have n0_ := Aside0.mk (blk_drew BK168.out)
            have n1_ := Aside0.mk (blk_drew BK179.out)
            have n2_ := Aside0.mk (below_drew1 HB.out)
            clear BK168
            clear BK179
            clear HB
            have BK168 := n0_
            have BK179 := n1_
            have HB := n2_
            clear n0_ n1_ n2_
            refine start_ (n := 20) (S := fun w' => w'.cell? ⟨gb168, 0, none⟩ = some (.int .u8 a1_0) ∧ w'.cell? ⟨gb168, 1, none⟩ = some (.bool a1_1) ∧ w'.cell? ⟨gb168, 2, none⟩ = some (.int .u8 a1_2) ∧ w'.cell? ⟨gb168, 3, none⟩ = some (.bool a1_3) ∧ w'.cell? ⟨gb168, 4, none⟩ = some (.bool a1_4) ∧ w'.cell? ⟨gb168, 5, none⟩ = some (.bool a1_5) ∧ w'.cell? ⟨gb168, 6, none⟩ = some (.bool a1_6) ∧ w'.cell? ⟨gb179, 0, none⟩ = some (.bool t169) ∧ w'.cell? ⟨gb179, 1, none⟩ = some (.bool t170) ∧ w'.cell? ⟨gb179, 2, none⟩ = some (.bool t171) ∧ w'.cell? ⟨gb179, 3, none⟩ = some (.bool t172) ∧ w'.cell? ⟨gb179, 4, none⟩ = some (.bool t173) ∧ w'.cell? ⟨gb179, 5, none⟩ = some (.bool t174) ∧ w'.cell? ⟨gb179, 6, none⟩ = some (.bool t175) ∧ w'.cell? ⟨gb179, 7, none⟩ = some (.bool t176) ∧ w'.cell? ⟨gb179, 8, none⟩ = some (.int .u64 t177) ∧ w'.cell? ⟨gb179, 9, none⟩ = some (.int .u64 t178)) (ds := []) #[false, false, false, false, false, false, false, false, false, false, false, false, false, false, false, false, false, false, false, false] (by kernel_rfl) rfl rfl ⟨(blk_cell BK168.out 0).trans rfl, (blk_cell BK168.out 1).trans rfl, (blk_cell BK168.out 2).trans rfl, (blk_cell BK168.out 3).trans rfl, (blk_cell BK168.out 4).trans rfl, (blk_cell BK168.out 5).trans rfl, (blk_cell BK168.out 6).trans rfl, (blk_cell BK179.out 0).trans rfl, (blk_cell BK179.out 1).trans rfl, (blk_cell BK179.out 2).trans rfl, (blk_cell BK179.out 3).trans rfl, (blk_cell BK179.out 4).trans rfl, (blk_cell BK179.out 5).trans rfl, (blk_cell BK179.out 6).trans rfl, (blk_cell BK179.out 7).trans rfl, (blk_cell BK179.out 8).trans rfl, (blk_cell BK179.out 9).trans rfl⟩ (fun hHeld => ?_); refine with_tabW mezzaninelaw15_PteAllows.tab8 mezzaninelaw15_PteAllows.bits8 (fun HT_ HW_ => ?_)
            generalize wr.drew = w33 at BK168 BK179 HB hHeld ⊢
            refine one_ (i := 0) (N := some 53) #[true, false, false, false, false, false, false, false, false, false, false, false, false, false, false, false, false, false, false, false] rfl rfl (one_of HT_.out (by kernel_rfl)) (by decide) (fun K hK => ?_)
            refine goes_ Try.func11 (by kernel_rfl) rfl #[] (by rfl) rfl rfl (by (try simp only [List.map_toArray, List.map_cons, List.map_nil]); first | done | rfl | (simp only [List.length_drop, List.length_take]; rfl)) ?_
            with_reducible refine (mezzaninelaw15_awake.calls k1  true _ A26.out).mono ?_
            rintro e w34 ⟨rfl, hb⟩
            refine ⟨_, rfl, ?_⟩
            have n0_ := Aside0.mk (blk_below (g := gb168) (o := .cells #[.int .u8 a1_0, .bool a1_1, .int .u8 a1_2, .bool a1_3, .bool a1_4, .bool a1_5, .bool a1_6] 32 (0, 0)) (by (with_reducible repeat (first | refine blk_drewN ?_ _ | refine blk_drew ?_ | refine blk_alloc ?_ _)); exact BK168.out) hb)
            have n1_ := Aside0.mk (blk_below (g := gb179) (o := .cells #[.bool t169, .bool t170, .bool t171, .bool t172, .bool t173, .bool t174, .bool t175, .bool t176, .int .u64 t177, .int .u64 t178] 24 (0, 0)) (by (with_reducible repeat (first | refine blk_drewN ?_ _ | refine blk_drew ?_ | refine blk_alloc ?_ _)); exact BK179.out) hb)
            have n2_ := Aside0.mk (below_step (by repeat (first | (with_reducible first | exact HB.out | apply below_alloc | apply pw_below_drewN | apply below_drew1 | refine below_set ?_ GE168.out | refine below_set ?_ GE179.out) | exact HB.out)) hb)
            clear BK168
            clear BK179
            clear HB
            have BK168 := n0_
            have BK179 := n1_
            have HB := n2_
            clear n0_ n1_ n2_
            (try clear hb)
            (try clear hb2)
            (try clear hk)
            (try clear hi)
            refine hK.out _ _ ⟨(blk_cell BK168.out 0).trans rfl, (blk_cell BK168.out 1).trans rfl, (blk_cell BK168.out 2).trans rfl, (blk_cell BK168.out 3).trans rfl, (blk_cell BK168.out 4).trans rfl, (blk_cell BK168.out 5).trans rfl, (blk_cell BK168.out 6).trans rfl, (blk_cell BK179.out 0).trans rfl, (blk_cell BK179.out 1).trans rfl, (blk_cell BK179.out 2).trans rfl, (blk_cell BK179.out 3).trans rfl, (blk_cell BK179.out 4).trans rfl, (blk_cell BK179.out 5).trans rfl, (blk_cell BK179.out 6).trans rfl, (blk_cell BK179.out 7).trans rfl, (blk_cell BK179.out 8).trans rfl, (blk_cell BK179.out 9).trans rfl⟩ (fun hHeld => ?_)
            clear hK K
            refine norm_ (a' := ?_) ?_ ?_
            rotate_left
            · show Act.put _ (some 53) _ = _
              simp only [Act.put, List.setIfInBounds_toArray, List.set_cons_zero, List.set_cons_succ, i64_w, i32_w]
              rfl
            refine pure_ (i := 1) (N := some 54) (v := ?_) (a' := ?_) #[true, true, false, false, false, false, false, false, false, false, false, false, false, false, false, false, false, false, false, false] rfl rfl (any_of HT_.out (by kernel_rfl)) (fun _ _ _ h => h) (Or.inl ⟨by rfl, ?_⟩) ?_ ?_
            rotate_left
            · intro w'
              go_simp
              with_reducible rfl
            rotate_left
            · simp only [Act.put, List.setIfInBounds_toArray, List.set_cons_zero, List.set_cons_succ, i64_w, i32_w]
              rfl
            refine pure_ (i := 2) (N := some 55) (v := ?_) (a' := ?_) #[true, true, true, false, false, false, false, false, false, false, false, false, false, false, false, false, false, false, false, false] rfl rfl (any_of HT_.out (by kernel_rfl)) (fun _ _ _ h => h) (Or.inl ⟨by rfl, ?_⟩) ?_ ?_
            rotate_left
            · intro w'
              go_simp
              with_reducible rfl
            rotate_left
            · simp only [Act.put, List.setIfInBounds_toArray, List.set_cons_zero, List.set_cons_succ, i64_w, i32_w]
              rfl
            refine take_ (i := 3) (N := some 56) (v := ?_) (a' := ?_) #[true, true, true, true, false, false, false, false, false, false, false, false, false, false, false, false, false, false, false, false] rfl rfl (take_ofW HT_.out HW_.out (by kernel_rfl)) (fun _ _ _ h => h) (Or.inl ⟨by rfl, ?_⟩) hHeld ?_ ?_
            rotate_left
            · rintro w' ⟨s0, s1, s2, s3, s4, s5, s6, s7, s8, s9, s10, s11, s12, s13, s14, s15, s16⟩
              go_simp
              with_reducible rfl
            rotate_left
            · simp only [Act.put, List.setIfInBounds_toArray, List.set_cons_zero, List.set_cons_succ, i64_w, i32_w]
              rfl
            refine take_ (i := 5) (N := some 58) (v := ?_) (a' := ?_) #[true, true, true, true, false, true, false, false, false, false, false, false, false, false, false, false, false, false, false, false] rfl rfl (take_ofW HT_.out HW_.out (by kernel_rfl)) (fun _ _ _ h => h) (Or.inl ⟨by rfl, ?_⟩) hHeld ?_ ?_
            rotate_left
            · rintro w' ⟨s0, s1, s2, s3, s4, s5, s6, s7, s8, s9, s10, s11, s12, s13, s14, s15, s16⟩
              go_simp
              with_reducible rfl
            rotate_left
            · simp only [Act.put, List.setIfInBounds_toArray, List.set_cons_zero, List.set_cons_succ, i64_w, i32_w]
              rfl
            refine take_ (i := 6) (N := some 59) (v := ?_) (a' := ?_) #[true, true, true, true, false, true, true, false, false, false, false, false, false, false, false, false, false, false, false, false] rfl rfl (take_ofW HT_.out HW_.out (by kernel_rfl)) (fun _ _ _ h => h) (Or.inl ⟨by rfl, ?_⟩) hHeld ?_ ?_
            rotate_left
            · rintro w' ⟨s0, s1, s2, s3, s4, s5, s6, s7, s8, s9, s10, s11, s12, s13, s14, s15, s16⟩
              go_simp
              with_reducible rfl
            rotate_left
            · simp only [Act.put, List.setIfInBounds_toArray, List.set_cons_zero, List.set_cons_succ, i64_w, i32_w]
              rfl
            refine one_ (i := 4) (N := some 57) #[true, true, true, true, true, true, true, false, false, false, false, false, false, false, false, false, false, false, false, false] rfl rfl (one_of HT_.out (by kernel_rfl)) (by decide) (fun K hK => ?_)
            refine goes_ Try.func21 (by kernel_rfl) rfl #[.int .u64 a0, .agg #[.int .u8 a1_0, .bool a1_1, .int .u8 a1_2, .bool a1_3, .bool a1_4, .bool a1_5, .bool a1_6]] (by rfl) rfl rfl (by (try simp only [List.map_toArray, List.map_cons, List.map_nil]); first | done | rfl | (simp only [List.length_drop, List.length_take]; rfl)) ?_
            with_reducible refine (pte_Allowed.calls a0 a1_0 a1_1 a1_2 a1_3 a1_4 a1_5 a1_6 t186 _ A28.out).mono ?_
            rintro e w35 ⟨rfl, hb⟩
            refine ⟨_, rfl, ?_⟩
            have n0_ := Aside0.mk (blk_below (g := gb168) (o := .cells #[.int .u8 a1_0, .bool a1_1, .int .u8 a1_2, .bool a1_3, .bool a1_4, .bool a1_5, .bool a1_6] 32 (0, 0)) (by (with_reducible repeat (first | refine blk_drewN ?_ _ | refine blk_drew ?_ | refine blk_alloc ?_ _)); exact BK168.out) hb)
            have n1_ := Aside0.mk (blk_below (g := gb179) (o := .cells #[.bool t169, .bool t170, .bool t171, .bool t172, .bool t173, .bool t174, .bool t175, .bool t176, .int .u64 t177, .int .u64 t178] 24 (0, 0)) (by (with_reducible repeat (first | refine blk_drewN ?_ _ | refine blk_drew ?_ | refine blk_alloc ?_ _)); exact BK179.out) hb)
            have n2_ := Aside0.mk (below_step (by repeat (first | (with_reducible first | exact HB.out | apply below_alloc | apply pw_below_drewN | apply below_drew1 | refine below_set ?_ GE168.out | refine below_set ?_ GE179.out) | exact HB.out)) hb)
            clear BK168
            clear BK179
            clear HB
            have BK168 := n0_
            have BK179 := n1_
            have HB := n2_
            clear n0_ n1_ n2_
            (try clear hb)
            (try clear hb2)
            (try clear hk)
            (try clear hi)
            refine hK.out _ _ ⟨(blk_cell BK168.out 0).trans rfl, (blk_cell BK168.out 1).trans rfl, (blk_cell BK168.out 2).trans rfl, (blk_cell BK168.out 3).trans rfl, (blk_cell BK168.out 4).trans rfl, (blk_cell BK168.out 5).trans rfl, (blk_cell BK168.out 6).trans rfl, (blk_cell BK179.out 0).trans rfl, (blk_cell BK179.out 1).trans rfl, (blk_cell BK179.out 2).trans rfl, (blk_cell BK179.out 3).trans rfl, (blk_cell BK179.out 4).trans rfl, (blk_cell BK179.out 5).trans rfl, (blk_cell BK179.out 6).trans rfl, (blk_cell BK179.out 7).trans rfl, (blk_cell BK179.out 8).trans rfl, (blk_cell BK179.out 9).trans rfl⟩ (fun hHeld => ?_)
            clear hK K
            refine norm_ (a' := ?_) ?_ ?_
            rotate_left
            · show Act.put _ (some 57) _ = _
              simp only [Act.put, List.setIfInBounds_toArray, List.set_cons_zero, List.set_cons_succ, i64_w, i32_w]
              rfl
            refine one_ (i := 7) (N := some 60) #[true, true, true, true, true, true, true, true, false, false, false, false, false, false, false, false, false, false, false, false] rfl rfl (one_of HT_.out (by kernel_rfl)) (by decide) (fun K hK => ?_)
            refine goes_ Try.func22 (by kernel_rfl) rfl #[.agg #[.bool t169, .bool t170, .bool t171, .bool t172, .bool t173, .bool t174, .bool t175, .bool t176, .int .u64 t177, .int .u64 t178], .agg #[.int .u8 a1_0, .bool a1_1, .int .u8 a1_2, .bool a1_3, .bool a1_4, .bool a1_5, .bool a1_6]] (by rfl) rfl rfl (by (try simp only [List.map_toArray, List.map_cons, List.map_nil]); first | done | rfl | (simp only [List.length_drop, List.length_take]; rfl)) ?_
            with_reducible refine (mezzanineref15_Entry_Allowed.calls k1 t169 t170 t171 t172 t173 t174 t175 t176 t177 t178 a1_0 a1_1 a1_2 a1_3 a1_4 a1_5 a1_6 t187 _ A29.out).mono ?_
            rintro e w36 ⟨rfl, hb⟩
            refine ⟨_, rfl, ?_⟩
            have n0_ := Aside0.mk (blk_below (g := gb168) (o := .cells #[.int .u8 a1_0, .bool a1_1, .int .u8 a1_2, .bool a1_3, .bool a1_4, .bool a1_5, .bool a1_6] 32 (0, 0)) (by (with_reducible repeat (first | refine blk_drewN ?_ _ | refine blk_drew ?_ | refine blk_alloc ?_ _)); exact BK168.out) hb)
            have n1_ := Aside0.mk (blk_below (g := gb179) (o := .cells #[.bool t169, .bool t170, .bool t171, .bool t172, .bool t173, .bool t174, .bool t175, .bool t176, .int .u64 t177, .int .u64 t178] 24 (0, 0)) (by (with_reducible repeat (first | refine blk_drewN ?_ _ | refine blk_drew ?_ | refine blk_alloc ?_ _)); exact BK179.out) hb)
            have n2_ := Aside0.mk (below_step (by repeat (first | (with_reducible first | exact HB.out | apply below_alloc | apply pw_below_drewN | apply below_drew1 | refine below_set ?_ GE168.out | refine below_set ?_ GE179.out) | exact HB.out)) hb)
            clear BK168
            clear BK179
            clear HB
            have BK168 := n0_
            have BK179 := n1_
            have HB := n2_
            clear n0_ n1_ n2_
            (try clear hb)
            (try clear hb2)
            (try clear hk)
            (try clear hi)
            refine hK.out _ _ ⟨(blk_cell BK168.out 0).trans rfl, (blk_cell BK168.out 1).trans rfl, (blk_cell BK168.out 2).trans rfl, (blk_cell BK168.out 3).trans rfl, (blk_cell BK168.out 4).trans rfl, (blk_cell BK168.out 5).trans rfl, (blk_cell BK168.out 6).trans rfl, (blk_cell BK179.out 0).trans rfl, (blk_cell BK179.out 1).trans rfl, (blk_cell BK179.out 2).trans rfl, (blk_cell BK179.out 3).trans rfl, (blk_cell BK179.out 4).trans rfl, (blk_cell BK179.out 5).trans rfl, (blk_cell BK179.out 6).trans rfl, (blk_cell BK179.out 7).trans rfl, (blk_cell BK179.out 8).trans rfl, (blk_cell BK179.out 9).trans rfl⟩ (fun hHeld => ?_)
            clear hK K
            refine norm_ (a' := ?_) ?_ ?_
            rotate_left
            · show Act.put _ (some 60) _ = _
              simp only [Act.put, List.setIfInBounds_toArray, List.set_cons_zero, List.set_cons_succ, i64_w, i32_w]
              rfl
            refine pure_ (i := 8) (N := some 61) (v := ?_) (a' := ?_) #[true, true, true, true, true, true, true, true, true, false, false, false, false, false, false, false, false, false, false, false] rfl rfl (any_of HT_.out (by kernel_rfl)) (fun _ _ _ h => h) (Or.inl ⟨by rfl, ?_⟩) ?_ ?_
            rotate_left
            · intro w'
              go_simp
              with_reducible rfl
            rotate_left
            · simp only [Act.put, List.setIfInBounds_toArray, List.set_cons_zero, List.set_cons_succ, i64_w, i32_w]
              rfl
            refine pure_ (i := 9) (N := some 62) (v := ?_) (a' := ?_) #[true, true, true, true, true, true, true, true, true, true, false, false, false, false, false, false, false, false, false, false] rfl rfl (any_of HT_.out (by kernel_rfl)) (fun _ _ _ h => h) (Or.inl ⟨by rfl, ?_⟩) ?_ ?_
            rotate_left
            · intro w'
              go_simp
              with_reducible rfl
            rotate_left
            · simp only [Act.put, List.setIfInBounds_toArray, List.set_cons_zero, List.set_cons_succ, i64_w, i32_w]
              rfl
            refine pure_ (i := 10) (N := some 63) (v := ?_) (a' := ?_) #[true, true, true, true, true, true, true, true, true, true, true, false, false, false, false, false, false, false, false, false] rfl rfl (any_of HT_.out (by kernel_rfl)) (fun _ _ _ h => h) (Or.inl ⟨by rfl, ?_⟩) ?_ ?_
            rotate_left
            · intro w'
              go_simp
              with_reducible rfl
            rotate_left
            · simp only [Act.put, List.setIfInBounds_toArray, List.set_cons_zero, List.set_cons_succ, i64_w, i32_w]
              rfl
            refine pure_ (i := 11) (N := some 64) (v := ?_) (a' := ?_) #[true, true, true, true, true, true, true, true, true, true, true, true, false, false, false, false, false, false, false, false] rfl rfl (any_of HT_.out (by kernel_rfl)) (fun _ _ _ h => h) (Or.inl ⟨by rfl, ?_⟩) ?_ ?_
            rotate_left
            · intro w'
              go_simp
              with_reducible rfl
            rotate_left
            · simp only [Act.put, List.setIfInBounds_toArray, List.set_cons_zero, List.set_cons_succ, i64_w, i32_w]
              rfl
            refine take_ (i := 12) (N := some 65) (v := ?_) (a' := ?_) #[true, true, true, true, true, true, true, true, true, true, true, true, true, false, false, false, false, false, false, false] rfl rfl (take_ofW HT_.out HW_.out (by kernel_rfl)) (fun _ _ _ h => h) (Or.inl ⟨by rfl, ?_⟩) hHeld ?_ ?_
            rotate_left
            · rintro w' ⟨s0, s1, s2, s3, s4, s5, s6, s7, s8, s9, s10, s11, s12, s13, s14, s15, s16⟩
              go_simp
              with_reducible rfl
            rotate_left
            · simp only [Act.put, List.setIfInBounds_toArray, List.set_cons_zero, List.set_cons_succ, i64_w, i32_w]
              rfl
            refine take_ (i := 14) (N := some 67) (v := ?_) (a' := ?_) #[true, true, true, true, true, true, true, true, true, true, true, true, true, false, true, false, false, false, false, false] rfl rfl (take_ofW HT_.out HW_.out (by kernel_rfl)) (fun _ _ _ h => h) (Or.inl ⟨by rfl, ?_⟩) hHeld ?_ ?_
            rotate_left
            · rintro w' ⟨s0, s1, s2, s3, s4, s5, s6, s7, s8, s9, s10, s11, s12, s13, s14, s15, s16⟩
              go_simp
              with_reducible rfl
            rotate_left
            · simp only [Act.put, List.setIfInBounds_toArray, List.set_cons_zero, List.set_cons_succ, i64_w, i32_w]
              rfl
            refine take_ (i := 15) (N := some 68) (v := ?_) (a' := ?_) #[true, true, true, true, true, true, true, true, true, true, true, true, true, false, true, true, false, false, false, false] rfl rfl (take_ofW HT_.out HW_.out (by kernel_rfl)) (fun _ _ _ h => h) (Or.inl ⟨by rfl, ?_⟩) hHeld ?_ ?_
            rotate_left
            · rintro w' ⟨s0, s1, s2, s3, s4, s5, s6, s7, s8, s9, s10, s11, s12, s13, s14, s15, s16⟩
              go_simp
              with_reducible rfl
            rotate_left
            · simp only [Act.put, List.setIfInBounds_toArray, List.set_cons_zero, List.set_cons_succ, i64_w, i32_w]
              rfl
            refine one_ (i := 13) (N := some 66) #[true, true, true, true, true, true, true, true, true, true, true, true, true, true, true, true, false, false, false, false] rfl rfl (one_of HT_.out (by kernel_rfl)) (by decide) (fun K hK => ?_)
            refine goes_ Try.func23 (by kernel_rfl) rfl #[.int .u64 a0, .agg #[.int .u8 a1_0, .bool a1_1, .int .u8 a1_2, .bool a1_3, .bool a1_4, .bool a1_5, .bool a1_6]] (by rfl) rfl rfl (by (try simp only [List.map_toArray, List.map_cons, List.map_nil]); first | done | rfl | (simp only [List.length_drop, List.length_take]; rfl)) ?_
            with_reducible refine (pte_Full.calls a0 a1_0 a1_1 a1_2 a1_3 a1_4 a1_5 a1_6 t188 _ A31.out).mono ?_
            rintro e w37 ⟨rfl, hb⟩
            refine ⟨_, rfl, ?_⟩
            have n0_ := Aside0.mk (blk_below (g := gb168) (o := .cells #[.int .u8 a1_0, .bool a1_1, .int .u8 a1_2, .bool a1_3, .bool a1_4, .bool a1_5, .bool a1_6] 32 (0, 0)) (by (with_reducible repeat (first | refine blk_drewN ?_ _ | refine blk_drew ?_ | refine blk_alloc ?_ _)); exact BK168.out) hb)
            have n1_ := Aside0.mk (blk_below (g := gb179) (o := .cells #[.bool t169, .bool t170, .bool t171, .bool t172, .bool t173, .bool t174, .bool t175, .bool t176, .int .u64 t177, .int .u64 t178] 24 (0, 0)) (by (with_reducible repeat (first | refine blk_drewN ?_ _ | refine blk_drew ?_ | refine blk_alloc ?_ _)); exact BK179.out) hb)
            have n2_ := Aside0.mk (below_step (by repeat (first | (with_reducible first | exact HB.out | apply below_alloc | apply pw_below_drewN | apply below_drew1 | refine below_set ?_ GE168.out | refine below_set ?_ GE179.out) | exact HB.out)) hb)
            clear BK168
            clear BK179
            clear HB
            have BK168 := n0_
            have BK179 := n1_
            have HB := n2_
            clear n0_ n1_ n2_
            (try clear hb)
            (try clear hb2)
            (try clear hk)
            (try clear hi)
            refine hK.out _ _ ⟨(blk_cell BK168.out 0).trans rfl, (blk_cell BK168.out 1).trans rfl, (blk_cell BK168.out 2).trans rfl, (blk_cell BK168.out 3).trans rfl, (blk_cell BK168.out 4).trans rfl, (blk_cell BK168.out 5).trans rfl, (blk_cell BK168.out 6).trans rfl, (blk_cell BK179.out 0).trans rfl, (blk_cell BK179.out 1).trans rfl, (blk_cell BK179.out 2).trans rfl, (blk_cell BK179.out 3).trans rfl, (blk_cell BK179.out 4).trans rfl, (blk_cell BK179.out 5).trans rfl, (blk_cell BK179.out 6).trans rfl, (blk_cell BK179.out 7).trans rfl, (blk_cell BK179.out 8).trans rfl, (blk_cell BK179.out 9).trans rfl⟩ (fun hHeld => ?_)
            clear hK K
            refine norm_ (a' := ?_) ?_ ?_
            rotate_left
            · show Act.put _ (some 66) _ = _
              simp only [Act.put, List.setIfInBounds_toArray, List.set_cons_zero, List.set_cons_succ, i64_w, i32_w]
              rfl
            refine one_ (i := 16) (N := some 69) #[true, true, true, true, true, true, true, true, true, true, true, true, true, true, true, true, true, false, false, false] rfl rfl (one_of HT_.out (by kernel_rfl)) (by decide) (fun K hK => ?_)
            refine goes_ Try.func24 (by kernel_rfl) rfl #[.agg #[.bool t169, .bool t170, .bool t171, .bool t172, .bool t173, .bool t174, .bool t175, .bool t176, .int .u64 t177, .int .u64 t178], .agg #[.int .u8 a1_0, .bool a1_1, .int .u8 a1_2, .bool a1_3, .bool a1_4, .bool a1_5, .bool a1_6]] (by rfl) rfl rfl (by (try simp only [List.map_toArray, List.map_cons, List.map_nil]); first | done | rfl | (simp only [List.length_drop, List.length_take]; rfl)) ?_
            with_reducible refine (mezzanineref15_Entry_Full.calls t169 t170 t171 t172 t173 t174 t175 t176 t177 t178 a1_0 a1_1 a1_2 a1_3 a1_4 a1_5 a1_6 t189 _ A32.out).mono ?_
            rintro e w38 ⟨rfl, hb⟩
            refine ⟨_, rfl, ?_⟩
            have n0_ := Aside0.mk (blk_below (g := gb168) (o := .cells #[.int .u8 a1_0, .bool a1_1, .int .u8 a1_2, .bool a1_3, .bool a1_4, .bool a1_5, .bool a1_6] 32 (0, 0)) (by (with_reducible repeat (first | refine blk_drewN ?_ _ | refine blk_drew ?_ | refine blk_alloc ?_ _)); exact BK168.out) hb)
            have n1_ := Aside0.mk (blk_below (g := gb179) (o := .cells #[.bool t169, .bool t170, .bool t171, .bool t172, .bool t173, .bool t174, .bool t175, .bool t176, .int .u64 t177, .int .u64 t178] 24 (0, 0)) (by (with_reducible repeat (first | refine blk_drewN ?_ _ | refine blk_drew ?_ | refine blk_alloc ?_ _)); exact BK179.out) hb)
            have n2_ := Aside0.mk (below_step (by repeat (first | (with_reducible first | exact HB.out | apply below_alloc | apply pw_below_drewN | apply below_drew1 | refine below_set ?_ GE168.out | refine below_set ?_ GE179.out) | exact HB.out)) hb)
            clear BK168
            clear BK179
            clear HB
            have BK168 := n0_
            have BK179 := n1_
            have HB := n2_
            clear n0_ n1_ n2_
            (try clear hb)
            (try clear hb2)
            (try clear hk)
            (try clear hi)
            refine hK.out _ _ ⟨(blk_cell BK168.out 0).trans rfl, (blk_cell BK168.out 1).trans rfl, (blk_cell BK168.out 2).trans rfl, (blk_cell BK168.out 3).trans rfl, (blk_cell BK168.out 4).trans rfl, (blk_cell BK168.out 5).trans rfl, (blk_cell BK168.out 6).trans rfl, (blk_cell BK179.out 0).trans rfl, (blk_cell BK179.out 1).trans rfl, (blk_cell BK179.out 2).trans rfl, (blk_cell BK179.out 3).trans rfl, (blk_cell BK179.out 4).trans rfl, (blk_cell BK179.out 5).trans rfl, (blk_cell BK179.out 6).trans rfl, (blk_cell BK179.out 7).trans rfl, (blk_cell BK179.out 8).trans rfl, (blk_cell BK179.out 9).trans rfl⟩ (fun hHeld => ?_)
            clear hK K
            refine norm_ (a' := ?_) ?_ ?_
            rotate_left
            · show Act.put _ (some 69) _ = _
              simp only [Act.put, List.setIfInBounds_toArray, List.set_cons_zero, List.set_cons_succ, i64_w, i32_w]
              rfl
            refine pure_ (i := 17) (N := some 70) (v := ?_) (a' := ?_) #[true, true, true, true, true, true, true, true, true, true, true, true, true, true, true, true, true, true, false, false] rfl rfl (any_of HT_.out (by kernel_rfl)) (fun _ _ _ h => h) (Or.inl ⟨by rfl, ?_⟩) ?_ ?_
            rotate_left
            · intro w'
              go_simp
              with_reducible rfl
            rotate_left
            · simp only [Act.put, List.setIfInBounds_toArray, List.set_cons_zero, List.set_cons_succ, i64_w, i32_w]
              rfl
            refine pure_ (i := 18) (N := some 71) (v := ?_) (a' := ?_) #[true, true, true, true, true, true, true, true, true, true, true, true, true, true, true, true, true, true, true, false] rfl rfl (any_of HT_.out (by kernel_rfl)) (fun _ _ _ h => h) (Or.inl ⟨by rfl, ?_⟩) ?_ ?_
            rotate_left
            · intro w'
              go_simp
              with_reducible rfl
            rotate_left
            · simp only [Act.put, List.setIfInBounds_toArray, List.set_cons_zero, List.set_cons_succ, i64_w, i32_w]
              rfl
            refine pure_ (i := 19) (N := some 4) (v := ?_) (a' := ?_) #[true, true, true, true, true, true, true, true, true, true, true, true, true, true, true, true, true, true, true, true] rfl rfl (any_of HT_.out (by kernel_rfl)) (fun _ _ _ h => h) (Or.inl ⟨by rfl, ?_⟩) ?_ ?_
            rotate_left
            · intro w'
              go_simp
              with_reducible rfl
            rotate_left
            · simp only [Act.put, List.setIfInBounds_toArray, List.set_cons_zero, List.set_cons_succ, i64_w, i32_w]
              rfl
            refine done_ (done_of HT_.out (by kernel_rfl)) ?_
            try go_wp2
            go_ret
            exact ⟨by first | rfl | (simp [errW_none, errW_some] <;> rfl) | (simp [*, errW_none, errW_some] <;> rfl), by repeat (first | (with_reducible first | exact HB.out | apply below_alloc | apply pw_below_drewN | apply below_drew1 | refine below_set ?_ GE168.out | refine below_set ?_ GE179.out) | exact HB.out)⟩
          · rw [if_neg c30] at H
            have c30b0 : (t186 == t187) = false := by simpa using c30
            (try (have c30b1 : decide (t186 = t187) = false := by simpa using c30))
            (try (have c30b2 : (t186 == t187) = false := by simpa using c30))
            (try (have c30b3 : ¬ (t186 = t187) := by simpa using c30))
            clear c30
            exact absurd (Option.some.inj H) (by rw [HT.out]; decide)
        · replace c27 := Bool.eq_false_iff.mpr c27
          subst c27
          have H1 : (some false) = some r := by rw [if_neg (show ¬ (false = true) by decide)] at H; exact H
          clear H
          have H := H1
          clear H1
          exact absurd (Option.some.inj H) (by rw [HT.out]; decide)

/-- THE ONE PURE STATEMENT of mezzaninelaw15_PteAllows: yours. -/
def mezzaninelaw15_PteAllows.Pure : Prop := ∀ (a0 : Int) (a1_0 : Int) (a1_1 : Bool) (a1_2 : Int) (a1_3 : Bool) (a1_4 : Bool) (a1_5 : Bool) (a1_6 : Bool), (Lit.int .u64 a0).wf = true → (Lit.int .u8 a1_0).wf = true → (Lit.int .u8 a1_2).wf = true → ∃ k, mezzaninelaw15_PteAllows.f k a0 a1_0 a1_1 a1_2 a1_3 a1_4 a1_5 a1_6 = some true
theorem mezzaninelaw15_PteAllows.walk (P : mezzaninelaw15_PteAllows.Pure) (a0 : Int) (a1_0 : Int) (a1_1 : Bool) (a1_2 : Int) (a1_3 : Bool) (a1_4 : Bool) (a1_5 : Bool) (a1_6 : Bool) (w : World) (w0 : (Lit.int .u64 a0).wf = true) (w1_0 : (Lit.int .u8 a1_0).wf = true) (w1_2 : (Lit.int .u8 a1_2).wf = true) :
    Calls Try.prog 5 #[.int .u64 a0, .agg #[.int .u8 a1_0, .bool a1_1, .int .u8 a1_2, .bool a1_3, .bool a1_4, .bool a1_5, .bool a1_6]] w fun e w' => e = .returned (.bool true) ∧ Below w.heap.size w w' := by
  obtain ⟨k, h⟩ := P a0 a1_0 a1_1 a1_2 a1_3 a1_4 a1_5 a1_6 w0 w1_0 w1_2
  refine (mezzaninelaw15_PteAllows.calls k a0 a1_0 a1_1 a1_2 a1_3 a1_4 a1_5 a1_6 true w rfl h).mono ?_
  rintro e w' ⟨rfl, hd⟩
  exact ⟨rfl, hd⟩

end Go.Proofs.YteebgfcihoidmaaR.Q
