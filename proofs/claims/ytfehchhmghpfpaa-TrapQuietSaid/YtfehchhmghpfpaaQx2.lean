/- Where the Lean function of a Go function gives a value, the Go call returns that value and changes nothing that was there: for every input. (By a program of this session, and by hand.) -/
import Derived.Test.YtfehchhmghpfpaaQx0
import Derived.Test.YtfehchhmghpfpaaQx1
namespace Go.Proofs.Ytfehchhmghpfpaa.Q
open Go.RowKit Go.Proofs.YtfehchhmghpfpaaW.PrintWords Go.Proofs.YtfehchhmghpfpaaW.PrintLast Go.Proofs.YtfehchhmghpfpaaW.PrintMore
attribute [local go_sem] max2_int min2_int max_two min_two max_three min_three max_four min_four   -- for this text's walks alone
set_option linter.unusedVariables false
set_option linter.unusedSimpArgs false

/-! ### mezzanineref14_To: function 7 -/
def mezzanineref14_To.f (a0_0 : Int) (a0_1 : Int) (a0_2 : Int) (a0_3 : Int) (a0_4 : Int) (a0_5 : Int) (a0_6 : Int) (a0_7 : Int) (a0_8 : Int) (a0_9 : Int) (a0_10 : Int) (a0_11 : Int) (a0_12 : Int) (a0_13 : Int) (a0_14 : Int) (a0_15 : Int) (a0_16 : Int) (a0_17 : Int) (a0_18 : Int) (a0_19 : Int) (a0_20 : Int) (a0_21 : Int) (a0_22 : Int) (a0_23 : Int) (a0_24 : Int) (a0_25 : Int) (a0_26 : Int) (a0_27 : Int) (a0_28 : Int) (a0_29 : Int) (a0_30 : Int) (a0_31 : Int) (a0_32 : Int) (a0_33 : Int) (a0_34 : Bool) (a0_35 : Bool) (a0_36 : Bool) (a0_37 : Int) (a0_38 : Int) (a0_39 : Int) (a0_40 : Int) (a0_41 : Int) (a0_42 : Int) (a0_43 : Int) (a0_44 : Int) (a0_45 : Int) (a0_46 : Int) (a0_47 : Int) (a0_48 : Int) (a0_49 : Int) (a0_50 : Int) (a0_51 : Int) (a0_52 : Int) (a0_53 : Int) (a0_54 : Int) (a0_55 : Int) (a0_56 : Int) (a0_57 : Int) (a0_58 : Int) (a0_59 : Int) (a0_60 : Int) (a0_61 : Int) (a0_62 : Int) (a0_63 : Int) (a0_64 : Int) (a0_65 : Int) (a0_66 : Int) (a0_67 : Int) (a0_68 : Int) (a0_69 : Int) (a0_70 : Int) (a0_71 : Int) (a0_72 : Int) (a0_73 : Int) (a0_74 : Int) (a0_75 : Int) (a0_76 : Int) (a1 : Int) : Option (Int) := if a0_33 = 3 then (some 0) else (if (Int.tmod a1 9223372036854775808) > 63 then (some 0) else ((mezzanineref14_bit.f a1 63).bind fun t107 => (if t107 = true then ((mezzanineref14_bit.f a0_40 (Int.tmod a1 9223372036854775808)).bind fun t108 => (if t108 = true then (if a0_34 = true then ((mezzanineref14_bit.f a0_60 (Int.tmod a1 9223372036854775808)).bind fun t109 => (if t109 = true then (some 2) else (some 1))) else (some 1)) else (some 0))) else ((mezzanineref14_bit.f a0_39 (Int.tmod a1 9223372036854775808)).bind fun t110 => (if t110 = true then (if a0_34 = true then ((mezzanineref14_bit.f a0_59 (Int.tmod a1 9223372036854775808)).bind fun t111 => (if t111 = true then (some 2) else (some 1))) else (some 1)) else (some 0))))))
set_option maxHeartbeats 8000000 in
set_option maxRecDepth 100000 in
theorem mezzanineref14_To.calls (a0_0 : Int) (a0_1 : Int) (a0_2 : Int) (a0_3 : Int) (a0_4 : Int) (a0_5 : Int) (a0_6 : Int) (a0_7 : Int) (a0_8 : Int) (a0_9 : Int) (a0_10 : Int) (a0_11 : Int) (a0_12 : Int) (a0_13 : Int) (a0_14 : Int) (a0_15 : Int) (a0_16 : Int) (a0_17 : Int) (a0_18 : Int) (a0_19 : Int) (a0_20 : Int) (a0_21 : Int) (a0_22 : Int) (a0_23 : Int) (a0_24 : Int) (a0_25 : Int) (a0_26 : Int) (a0_27 : Int) (a0_28 : Int) (a0_29 : Int) (a0_30 : Int) (a0_31 : Int) (a0_32 : Int) (a0_33 : Int) (a0_34 : Bool) (a0_35 : Bool) (a0_36 : Bool) (a0_37 : Int) (a0_38 : Int) (a0_39 : Int) (a0_40 : Int) (a0_41 : Int) (a0_42 : Int) (a0_43 : Int) (a0_44 : Int) (a0_45 : Int) (a0_46 : Int) (a0_47 : Int) (a0_48 : Int) (a0_49 : Int) (a0_50 : Int) (a0_51 : Int) (a0_52 : Int) (a0_53 : Int) (a0_54 : Int) (a0_55 : Int) (a0_56 : Int) (a0_57 : Int) (a0_58 : Int) (a0_59 : Int) (a0_60 : Int) (a0_61 : Int) (a0_62 : Int) (a0_63 : Int) (a0_64 : Int) (a0_65 : Int) (a0_66 : Int) (a0_67 : Int) (a0_68 : Int) (a0_69 : Int) (a0_70 : Int) (a0_71 : Int) (a0_72 : Int) (a0_73 : Int) (a0_74 : Int) (a0_75 : Int) (a0_76 : Int) (a1 : Int) (r : Int) (w : World) (h : mezzanineref14_To.f a0_0 a0_1 a0_2 a0_3 a0_4 a0_5 a0_6 a0_7 a0_8 a0_9 a0_10 a0_11 a0_12 a0_13 a0_14 a0_15 a0_16 a0_17 a0_18 a0_19 a0_20 a0_21 a0_22 a0_23 a0_24 a0_25 a0_26 a0_27 a0_28 a0_29 a0_30 a0_31 a0_32 a0_33 a0_34 a0_35 a0_36 a0_37 a0_38 a0_39 a0_40 a0_41 a0_42 a0_43 a0_44 a0_45 a0_46 a0_47 a0_48 a0_49 a0_50 a0_51 a0_52 a0_53 a0_54 a0_55 a0_56 a0_57 a0_58 a0_59 a0_60 a0_61 a0_62 a0_63 a0_64 a0_65 a0_66 a0_67 a0_68 a0_69 a0_70 a0_71 a0_72 a0_73 a0_74 a0_75 a0_76 a1 = some r) :
    Calls Try.prog 7 #[.agg #[.int .u64 a0_0, .int .u64 a0_1, .int .u64 a0_2, .int .u64 a0_3, .int .u64 a0_4, .int .u64 a0_5, .int .u64 a0_6, .int .u64 a0_7, .int .u64 a0_8, .int .u64 a0_9, .int .u64 a0_10, .int .u64 a0_11, .int .u64 a0_12, .int .u64 a0_13, .int .u64 a0_14, .int .u64 a0_15, .int .u64 a0_16, .int .u64 a0_17, .int .u64 a0_18, .int .u64 a0_19, .int .u64 a0_20, .int .u64 a0_21, .int .u64 a0_22, .int .u64 a0_23, .int .u64 a0_24, .int .u64 a0_25, .int .u64 a0_26, .int .u64 a0_27, .int .u64 a0_28, .int .u64 a0_29, .int .u64 a0_30, .int .u64 a0_31, .int .u64 a0_32, .int .u8 a0_33, .bool a0_34, .bool a0_35, .bool a0_36, .int .u64 a0_37, .int .u64 a0_38, .int .u64 a0_39, .int .u64 a0_40, .int .u64 a0_41, .int .u64 a0_42, .int .u64 a0_43, .int .u64 a0_44, .int .u64 a0_45, .int .u64 a0_46, .int .u64 a0_47, .int .u64 a0_48, .int .u64 a0_49, .int .u64 a0_50, .int .u64 a0_51, .int .u64 a0_52, .int .u64 a0_53, .int .u64 a0_54, .int .u64 a0_55, .int .u64 a0_56, .int .u64 a0_57, .int .u64 a0_58, .int .u64 a0_59, .int .u64 a0_60, .int .u64 a0_61, .int .u64 a0_62, .int .u64 a0_63, .int .u64 a0_64, .int .u64 a0_65, .int .u64 a0_66, .int .u64 a0_67, .int .u64 a0_68, .int .u64 a0_69, .int .u64 a0_70, .int .u64 a0_71, .int .u64 a0_72, .int .u64 a0_73, .int .u64 a0_74, .int .u64 a0_75, .int .u64 a0_76], .int .u64 a1] w fun e w' => e = .returned (.int .i64 r) ∧ Below w.heap.size w w' := by
  have hu25 := Try.underlying25
  have HB := Aside0.mk (Below.refl w.heap.size w)
  have H : (if a0_33 = 3 then (some 0) else (if (Int.tmod a1 9223372036854775808) > 63 then (some 0) else ((mezzanineref14_bit.f a1 63).bind fun t107 => (if t107 = true then ((mezzanineref14_bit.f a0_40 (Int.tmod a1 9223372036854775808)).bind fun t108 => (if t108 = true then (if a0_34 = true then ((mezzanineref14_bit.f a0_60 (Int.tmod a1 9223372036854775808)).bind fun t109 => (if t109 = true then (some 2) else (some 1))) else (some 1)) else (some 0))) else ((mezzanineref14_bit.f a0_39 (Int.tmod a1 9223372036854775808)).bind fun t110 => (if t110 = true then (if a0_34 = true then ((mezzanineref14_bit.f a0_59 (Int.tmod a1 9223372036854775808)).bind fun t111 => (if t111 = true then (some 2) else (some 1))) else (some 1)) else (some 0))))))) = some r := h
  clear h
  by_cases c3 : a0_33 = 3
  · rw [if_pos c3] at H
    have c3b0 : (a0_33 == 3) = true := beq_iff_eq.mpr c3
    have c3b1 : (a0_33 != 3) = false := bne_eq_false_iff_eq.mpr c3
    clear c3
    obtain rfl := Option.some.inj H
    go_enter Try.func7, Try.ntmps7
    go_wp2_with (first | ((with_reducible refine gate_dst (N := 2) rfl ?_); refine box_event ?hg (N := 2) ?hd (cs := #[.int .u64 a0_0, .int .u64 a0_1, .int .u64 a0_2, .int .u64 a0_3, .int .u64 a0_4, .int .u64 a0_5, .int .u64 a0_6, .int .u64 a0_7, .int .u64 a0_8, .int .u64 a0_9, .int .u64 a0_10, .int .u64 a0_11, .int .u64 a0_12, .int .u64 a0_13, .int .u64 a0_14, .int .u64 a0_15, .int .u64 a0_16, .int .u64 a0_17, .int .u64 a0_18, .int .u64 a0_19, .int .u64 a0_20, .int .u64 a0_21, .int .u64 a0_22, .int .u64 a0_23, .int .u64 a0_24, .int .u64 a0_25, .int .u64 a0_26, .int .u64 a0_27, .int .u64 a0_28, .int .u64 a0_29, .int .u64 a0_30, .int .u64 a0_31, .int .u64 a0_32, .int .u8 a0_33, .bool a0_34, .bool a0_35, .bool a0_36, .int .u64 a0_37, .int .u64 a0_38, .int .u64 a0_39, .int .u64 a0_40, .int .u64 a0_41, .int .u64 a0_42, .int .u64 a0_43, .int .u64 a0_44, .int .u64 a0_45, .int .u64 a0_46, .int .u64 a0_47, .int .u64 a0_48, .int .u64 a0_49, .int .u64 a0_50, .int .u64 a0_51, .int .u64 a0_52, .int .u64 a0_53, .int .u64 a0_54, .int .u64 a0_55, .int .u64 a0_56, .int .u64 a0_57, .int .u64 a0_58, .int .u64 a0_59, .int .u64 a0_60, .int .u64 a0_61, .int .u64 a0_62, .int .u64 a0_63, .int .u64 a0_64, .int .u64 a0_65, .int .u64 a0_66, .int .u64 a0_67, .int .u64 a0_68, .int .u64 a0_69, .int .u64 a0_70, .int .u64 a0_71, .int .u64 a0_72, .int .u64 a0_73, .int .u64 a0_74, .int .u64 a0_75, .int .u64 a0_76]) (t := 25) ?hr ?_; (case hd => rfl); (case hg => rfl); (case hr => first | (go_simp; done) | (go_simp; rfl)); intro gb106 hg w4 hbox hb; have n0_ := Aside0.mk (below_step (by repeat (first | (with_reducible first | exact HB.out | apply below_alloc | apply pw_below_drewN | apply below_drew1) | exact HB.out)) hb); have n1_ := Aside0.mk (hbox); have n2_ := Aside0.mk ((by rw [hg]; exact (below_size (by repeat (first | (with_reducible first | exact HB.out | apply below_alloc | apply pw_below_drewN | apply below_drew1) | exact HB.out))) : w.heap.size ≤ gb106)); have n3_ := Aside0.mk ((by rw [hg]; exact (below_size (by repeat (first | (with_reducible first | exact HB.out | apply below_alloc | apply pw_below_drewN | apply below_drew1) | exact HB.out))) : w.heap.size ≤ gb106)); clear HB; have HB := n0_; have BK106 := n1_; have GW106 := n2_; have GE106 := n3_; clear n0_ n1_ n2_ n3_; clear hb hbox hg; have hcz5_33 : w4.cell? ⟨gb106, 33, none⟩ = some (.int .u8 a0_33) := (blk_cell BK106.out 33).trans rfl; have hcz5_34 : w4.cell? ⟨gb106, 34, none⟩ = some (.bool a0_34) := (blk_cell BK106.out 34).trans rfl; have hcz5_39 : w4.cell? ⟨gb106, 39, none⟩ = some (.int .u64 a0_39) := (blk_cell BK106.out 39).trans rfl; have hcz5_40 : w4.cell? ⟨gb106, 40, none⟩ = some (.int .u64 a0_40) := (blk_cell BK106.out 40).trans rfl; have hcz5_59 : w4.cell? ⟨gb106, 59, none⟩ = some (.int .u64 a0_59) := (blk_cell BK106.out 59).trans rfl; have hcz5_60 : w4.cell? ⟨gb106, 60, none⟩ = some (.int .u64 a0_60) := (blk_cell BK106.out 60).trans rfl; have hfz5_33 := blk_frozen BK106.out 33; have hfz5_34 := blk_frozen BK106.out 34; have hfz5_39 := blk_frozen BK106.out 39; have hfz5_40 := blk_frozen BK106.out 40; have hfz5_59 := blk_frozen BK106.out 59; have hfz5_60 := blk_frozen BK106.out 60))
    go_ret
    exact ⟨by first | rfl | (simp [errW_none, errW_some] <;> rfl) | (simp [*, errW_none, errW_some] <;> rfl), by repeat (first | (with_reducible first | exact HB.out | apply below_alloc | apply pw_below_drewN | apply below_drew1 | refine below_set ?_ GE106.out) | exact HB.out)⟩
  · rw [if_neg c3] at H
    have c3b0 : (a0_33 == 3) = false := beq_eq_false_iff_ne.mpr c3
    have c3b1 : (a0_33 != 3) = true := bne_iff_ne.mpr c3
    by_cases c6 : (Int.tmod a1 9223372036854775808) > 63
    · rw [if_pos c6] at H
      have c6b0 : decide (63 < (Int.tmod a1 9223372036854775808)) = true := decide_eq_true c6
      clear c6
      obtain rfl := Option.some.inj H
      go_enter Try.func7, Try.ntmps7
      go_wp2_with (first | ((with_reducible refine gate_dst (N := 2) rfl ?_); refine box_event ?hg (N := 2) ?hd (cs := #[.int .u64 a0_0, .int .u64 a0_1, .int .u64 a0_2, .int .u64 a0_3, .int .u64 a0_4, .int .u64 a0_5, .int .u64 a0_6, .int .u64 a0_7, .int .u64 a0_8, .int .u64 a0_9, .int .u64 a0_10, .int .u64 a0_11, .int .u64 a0_12, .int .u64 a0_13, .int .u64 a0_14, .int .u64 a0_15, .int .u64 a0_16, .int .u64 a0_17, .int .u64 a0_18, .int .u64 a0_19, .int .u64 a0_20, .int .u64 a0_21, .int .u64 a0_22, .int .u64 a0_23, .int .u64 a0_24, .int .u64 a0_25, .int .u64 a0_26, .int .u64 a0_27, .int .u64 a0_28, .int .u64 a0_29, .int .u64 a0_30, .int .u64 a0_31, .int .u64 a0_32, .int .u8 a0_33, .bool a0_34, .bool a0_35, .bool a0_36, .int .u64 a0_37, .int .u64 a0_38, .int .u64 a0_39, .int .u64 a0_40, .int .u64 a0_41, .int .u64 a0_42, .int .u64 a0_43, .int .u64 a0_44, .int .u64 a0_45, .int .u64 a0_46, .int .u64 a0_47, .int .u64 a0_48, .int .u64 a0_49, .int .u64 a0_50, .int .u64 a0_51, .int .u64 a0_52, .int .u64 a0_53, .int .u64 a0_54, .int .u64 a0_55, .int .u64 a0_56, .int .u64 a0_57, .int .u64 a0_58, .int .u64 a0_59, .int .u64 a0_60, .int .u64 a0_61, .int .u64 a0_62, .int .u64 a0_63, .int .u64 a0_64, .int .u64 a0_65, .int .u64 a0_66, .int .u64 a0_67, .int .u64 a0_68, .int .u64 a0_69, .int .u64 a0_70, .int .u64 a0_71, .int .u64 a0_72, .int .u64 a0_73, .int .u64 a0_74, .int .u64 a0_75, .int .u64 a0_76]) (t := 25) ?hr ?_; (case hd => rfl); (case hg => rfl); (case hr => first | (go_simp; done) | (go_simp; rfl)); intro gb106 hg w7 hbox hb; have n0_ := Aside0.mk (below_step (by repeat (first | (with_reducible first | exact HB.out | apply below_alloc | apply pw_below_drewN | apply below_drew1) | exact HB.out)) hb); have n1_ := Aside0.mk (hbox); have n2_ := Aside0.mk ((by rw [hg]; exact (below_size (by repeat (first | (with_reducible first | exact HB.out | apply below_alloc | apply pw_below_drewN | apply below_drew1) | exact HB.out))) : w.heap.size ≤ gb106)); have n3_ := Aside0.mk ((by rw [hg]; exact (below_size (by repeat (first | (with_reducible first | exact HB.out | apply below_alloc | apply pw_below_drewN | apply below_drew1) | exact HB.out))) : w.heap.size ≤ gb106)); clear HB; have HB := n0_; have BK106 := n1_; have GW106 := n2_; have GE106 := n3_; clear n0_ n1_ n2_ n3_; clear hb hbox hg; have hcz8_33 : w7.cell? ⟨gb106, 33, none⟩ = some (.int .u8 a0_33) := (blk_cell BK106.out 33).trans rfl; have hcz8_34 : w7.cell? ⟨gb106, 34, none⟩ = some (.bool a0_34) := (blk_cell BK106.out 34).trans rfl; have hcz8_39 : w7.cell? ⟨gb106, 39, none⟩ = some (.int .u64 a0_39) := (blk_cell BK106.out 39).trans rfl; have hcz8_40 : w7.cell? ⟨gb106, 40, none⟩ = some (.int .u64 a0_40) := (blk_cell BK106.out 40).trans rfl; have hcz8_59 : w7.cell? ⟨gb106, 59, none⟩ = some (.int .u64 a0_59) := (blk_cell BK106.out 59).trans rfl; have hcz8_60 : w7.cell? ⟨gb106, 60, none⟩ = some (.int .u64 a0_60) := (blk_cell BK106.out 60).trans rfl; have hfz8_33 := blk_frozen BK106.out 33; have hfz8_34 := blk_frozen BK106.out 34; have hfz8_39 := blk_frozen BK106.out 39; have hfz8_40 := blk_frozen BK106.out 40; have hfz8_59 := blk_frozen BK106.out 59; have hfz8_60 := blk_frozen BK106.out 60))
      go_ret
      exact ⟨by first | rfl | (simp [errW_none, errW_some] <;> rfl) | (simp [*, errW_none, errW_some] <;> rfl), by repeat (first | (with_reducible first | exact HB.out | apply below_alloc | apply pw_below_drewN | apply below_drew1 | refine below_set ?_ GE106.out) | exact HB.out)⟩
    · rw [if_neg c6] at H
      have c6b0 : decide (63 < (Int.tmod a1 9223372036854775808)) = false := decide_eq_false c6
      clear c6
      replace H := Option.bind_eq_some_iff.mp H
      obtain ⟨t107, A90, H⟩ := H
      replace H : (if t107 = true then ((mezzanineref14_bit.f a0_40 (Int.tmod a1 9223372036854775808)).bind fun t108 => (if t108 = true then (if a0_34 = true then ((mezzanineref14_bit.f a0_60 (Int.tmod a1 9223372036854775808)).bind fun t109 => (if t109 = true then (some 2) else (some 1))) else (some 1)) else (some 0))) else ((mezzanineref14_bit.f a0_39 (Int.tmod a1 9223372036854775808)).bind fun t110 => (if t110 = true then (if a0_34 = true then ((mezzanineref14_bit.f a0_59 (Int.tmod a1 9223372036854775808)).bind fun t111 => (if t111 = true then (some 2) else (some 1))) else (some 1)) else (some 0)))) = some r := H
      have A9 := Aside0.mk A90
      clear A90
      by_cases c10 : t107 = true
      · subst c10
        have H1 : ((mezzanineref14_bit.f a0_40 (Int.tmod a1 9223372036854775808)).bind fun t108 => (if t108 = true then (if a0_34 = true then ((mezzanineref14_bit.f a0_60 (Int.tmod a1 9223372036854775808)).bind fun t109 => (if t109 = true then (some 2) else (some 1))) else (some 1)) else (some 0))) = some r := by rw [if_pos rfl] at H; exact H
        clear H
        have H := H1
        clear H1
        replace H := Option.bind_eq_some_iff.mp H
        obtain ⟨t108, A110, H⟩ := H
        replace H : (if t108 = true then (if a0_34 = true then ((mezzanineref14_bit.f a0_60 (Int.tmod a1 9223372036854775808)).bind fun t109 => (if t109 = true then (some 2) else (some 1))) else (some 1)) else (some 0)) = some r := H
        have A11 := Aside0.mk A110
        clear A110
        by_cases c12 : t108 = true
        · subst c12
          have H1 : (if a0_34 = true then ((mezzanineref14_bit.f a0_60 (Int.tmod a1 9223372036854775808)).bind fun t109 => (if t109 = true then (some 2) else (some 1))) else (some 1)) = some r := by rw [if_pos rfl] at H; exact H
          clear H
          have H := H1
          clear H1
          by_cases c13 : a0_34 = true
          · subst c13
            have H1 : ((mezzanineref14_bit.f a0_60 (Int.tmod a1 9223372036854775808)).bind fun t109 => (if t109 = true then (some 2) else (some 1))) = some r := by rw [if_pos rfl] at H; exact H
            clear H
            have H := H1
            clear H1
            replace H := Option.bind_eq_some_iff.mp H
            obtain ⟨t109, A140, H⟩ := H
            replace H : (if t109 = true then (some 2) else (some 1)) = some r := H
            have A14 := Aside0.mk A140
            clear A140
            by_cases c15 : t109 = true
            · subst c15
              have H1 : (some 2) = some r := by rw [if_pos rfl] at H; exact H
              clear H
              have H := H1
              clear H1
              obtain rfl := Option.some.inj H
              go_enter Try.func7, Try.ntmps7
              go_wp2_with (first | ((with_reducible refine gate_dst (N := 2) rfl ?_); refine box_event ?hg (N := 2) ?hd (cs := #[.int .u64 a0_0, .int .u64 a0_1, .int .u64 a0_2, .int .u64 a0_3, .int .u64 a0_4, .int .u64 a0_5, .int .u64 a0_6, .int .u64 a0_7, .int .u64 a0_8, .int .u64 a0_9, .int .u64 a0_10, .int .u64 a0_11, .int .u64 a0_12, .int .u64 a0_13, .int .u64 a0_14, .int .u64 a0_15, .int .u64 a0_16, .int .u64 a0_17, .int .u64 a0_18, .int .u64 a0_19, .int .u64 a0_20, .int .u64 a0_21, .int .u64 a0_22, .int .u64 a0_23, .int .u64 a0_24, .int .u64 a0_25, .int .u64 a0_26, .int .u64 a0_27, .int .u64 a0_28, .int .u64 a0_29, .int .u64 a0_30, .int .u64 a0_31, .int .u64 a0_32, .int .u8 a0_33, .bool true, .bool a0_35, .bool a0_36, .int .u64 a0_37, .int .u64 a0_38, .int .u64 a0_39, .int .u64 a0_40, .int .u64 a0_41, .int .u64 a0_42, .int .u64 a0_43, .int .u64 a0_44, .int .u64 a0_45, .int .u64 a0_46, .int .u64 a0_47, .int .u64 a0_48, .int .u64 a0_49, .int .u64 a0_50, .int .u64 a0_51, .int .u64 a0_52, .int .u64 a0_53, .int .u64 a0_54, .int .u64 a0_55, .int .u64 a0_56, .int .u64 a0_57, .int .u64 a0_58, .int .u64 a0_59, .int .u64 a0_60, .int .u64 a0_61, .int .u64 a0_62, .int .u64 a0_63, .int .u64 a0_64, .int .u64 a0_65, .int .u64 a0_66, .int .u64 a0_67, .int .u64 a0_68, .int .u64 a0_69, .int .u64 a0_70, .int .u64 a0_71, .int .u64 a0_72, .int .u64 a0_73, .int .u64 a0_74, .int .u64 a0_75, .int .u64 a0_76]) (t := 25) ?hr ?_; (case hd => rfl); (case hg => rfl); (case hr => first | (go_simp; done) | (go_simp; rfl)); intro gb106 hg w16 hbox hb; have n0_ := Aside0.mk (below_step (by repeat (first | (with_reducible first | exact HB.out | apply below_alloc | apply pw_below_drewN | apply below_drew1) | exact HB.out)) hb); have n1_ := Aside0.mk (hbox); have n2_ := Aside0.mk ((by rw [hg]; exact (below_size (by repeat (first | (with_reducible first | exact HB.out | apply below_alloc | apply pw_below_drewN | apply below_drew1) | exact HB.out))) : w.heap.size ≤ gb106)); have n3_ := Aside0.mk ((by rw [hg]; exact (below_size (by repeat (first | (with_reducible first | exact HB.out | apply below_alloc | apply pw_below_drewN | apply below_drew1) | exact HB.out))) : w.heap.size ≤ gb106)); clear HB; have HB := n0_; have BK106 := n1_; have GW106 := n2_; have GE106 := n3_; clear n0_ n1_ n2_ n3_; clear hb hbox hg; have hcz17_33 : w16.cell? ⟨gb106, 33, none⟩ = some (.int .u8 a0_33) := (blk_cell BK106.out 33).trans rfl; have hcz17_34 : w16.cell? ⟨gb106, 34, none⟩ = some (.bool true) := (blk_cell BK106.out 34).trans rfl; have hcz17_39 : w16.cell? ⟨gb106, 39, none⟩ = some (.int .u64 a0_39) := (blk_cell BK106.out 39).trans rfl; have hcz17_40 : w16.cell? ⟨gb106, 40, none⟩ = some (.int .u64 a0_40) := (blk_cell BK106.out 40).trans rfl; have hcz17_59 : w16.cell? ⟨gb106, 59, none⟩ = some (.int .u64 a0_59) := (blk_cell BK106.out 59).trans rfl; have hcz17_60 : w16.cell? ⟨gb106, 60, none⟩ = some (.int .u64 a0_60) := (blk_cell BK106.out 60).trans rfl; have hfz17_33 := blk_frozen BK106.out 33; have hfz17_34 := blk_frozen BK106.out 34; have hfz17_39 := blk_frozen BK106.out 39; have hfz17_40 := blk_frozen BK106.out 40; have hfz17_59 := blk_frozen BK106.out 59; have hfz17_60 := blk_frozen BK106.out 60) | ((with_reducible refine gate_callee (f := 17) rfl ?_); refine goesL_ (some 14) rfl rfl Try.func17 (by kernel_rfl) rfl #[.int .u64 a1, .int .u64 63] rfl (by (try simp only [List.map_toArray, List.map_cons, List.map_nil]); first | done | rfl | (simp only [List.length_drop, List.length_take]; rfl)) ?_; (with_reducible refine (mezzanineref14_bit.calls a1 63 true _ A9.out).mono ?_); rintro e w' ⟨rfl, ⟨nd, rfl⟩⟩; refine ⟨_, rfl, ?_⟩) | ((with_reducible refine gate_callee (f := 17) rfl ?_); refine goesL_ (some 18) rfl rfl Try.func17 (by kernel_rfl) rfl #[.int .u64 a0_40, .int .u64 (Int.tmod a1 9223372036854775808)] rfl (by (try simp only [List.map_toArray, List.map_cons, List.map_nil]); first | done | rfl | (simp only [List.length_drop, List.length_take]; rfl)) ?_; (with_reducible refine (mezzanineref14_bit.calls a0_40 (Int.tmod a1 9223372036854775808) true _ A11.out).mono ?_); rintro e w' ⟨rfl, ⟨nd, rfl⟩⟩; refine ⟨_, rfl, ?_⟩) | (go_at_call 17; (with_reducible refine (mezzanineref14_bit.calls a0_60 (Int.tmod a1 9223372036854775808) true _ A14.out).mono ?_); rintro e w' ⟨rfl, ⟨nd, rfl⟩⟩))
              go_ret
              exact ⟨by first | rfl | (simp [errW_none, errW_some] <;> rfl) | (simp [*, errW_none, errW_some] <;> rfl), by repeat (first | (with_reducible first | exact HB.out | apply below_alloc | apply pw_below_drewN | apply below_drew1 | refine below_set ?_ GE106.out) | exact HB.out)⟩
            · replace c15 := Bool.eq_false_iff.mpr c15
              subst c15
              have H1 : (some 1) = some r := by rw [if_neg (show ¬ (false = true) by decide)] at H; exact H
              clear H
              have H := H1
              clear H1
              obtain rfl := Option.some.inj H
              go_enter Try.func7, Try.ntmps7
              go_wp2_with (first | ((with_reducible refine gate_dst (N := 2) rfl ?_); refine box_event ?hg (N := 2) ?hd (cs := #[.int .u64 a0_0, .int .u64 a0_1, .int .u64 a0_2, .int .u64 a0_3, .int .u64 a0_4, .int .u64 a0_5, .int .u64 a0_6, .int .u64 a0_7, .int .u64 a0_8, .int .u64 a0_9, .int .u64 a0_10, .int .u64 a0_11, .int .u64 a0_12, .int .u64 a0_13, .int .u64 a0_14, .int .u64 a0_15, .int .u64 a0_16, .int .u64 a0_17, .int .u64 a0_18, .int .u64 a0_19, .int .u64 a0_20, .int .u64 a0_21, .int .u64 a0_22, .int .u64 a0_23, .int .u64 a0_24, .int .u64 a0_25, .int .u64 a0_26, .int .u64 a0_27, .int .u64 a0_28, .int .u64 a0_29, .int .u64 a0_30, .int .u64 a0_31, .int .u64 a0_32, .int .u8 a0_33, .bool true, .bool a0_35, .bool a0_36, .int .u64 a0_37, .int .u64 a0_38, .int .u64 a0_39, .int .u64 a0_40, .int .u64 a0_41, .int .u64 a0_42, .int .u64 a0_43, .int .u64 a0_44, .int .u64 a0_45, .int .u64 a0_46, .int .u64 a0_47, .int .u64 a0_48, .int .u64 a0_49, .int .u64 a0_50, .int .u64 a0_51, .int .u64 a0_52, .int .u64 a0_53, .int .u64 a0_54, .int .u64 a0_55, .int .u64 a0_56, .int .u64 a0_57, .int .u64 a0_58, .int .u64 a0_59, .int .u64 a0_60, .int .u64 a0_61, .int .u64 a0_62, .int .u64 a0_63, .int .u64 a0_64, .int .u64 a0_65, .int .u64 a0_66, .int .u64 a0_67, .int .u64 a0_68, .int .u64 a0_69, .int .u64 a0_70, .int .u64 a0_71, .int .u64 a0_72, .int .u64 a0_73, .int .u64 a0_74, .int .u64 a0_75, .int .u64 a0_76]) (t := 25) ?hr ?_; (case hd => rfl); (case hg => rfl); (case hr => first | (go_simp; done) | (go_simp; rfl)); intro gb106 hg w18 hbox hb; have n0_ := Aside0.mk (below_step (by repeat (first | (with_reducible first | exact HB.out | apply below_alloc | apply pw_below_drewN | apply below_drew1) | exact HB.out)) hb); have n1_ := Aside0.mk (hbox); have n2_ := Aside0.mk ((by rw [hg]; exact (below_size (by repeat (first | (with_reducible first | exact HB.out | apply below_alloc | apply pw_below_drewN | apply below_drew1) | exact HB.out))) : w.heap.size ≤ gb106)); have n3_ := Aside0.mk ((by rw [hg]; exact (below_size (by repeat (first | (with_reducible first | exact HB.out | apply below_alloc | apply pw_below_drewN | apply below_drew1) | exact HB.out))) : w.heap.size ≤ gb106)); clear HB; have HB := n0_; have BK106 := n1_; have GW106 := n2_; have GE106 := n3_; clear n0_ n1_ n2_ n3_; clear hb hbox hg; have hcz19_33 : w18.cell? ⟨gb106, 33, none⟩ = some (.int .u8 a0_33) := (blk_cell BK106.out 33).trans rfl; have hcz19_34 : w18.cell? ⟨gb106, 34, none⟩ = some (.bool true) := (blk_cell BK106.out 34).trans rfl; have hcz19_39 : w18.cell? ⟨gb106, 39, none⟩ = some (.int .u64 a0_39) := (blk_cell BK106.out 39).trans rfl; have hcz19_40 : w18.cell? ⟨gb106, 40, none⟩ = some (.int .u64 a0_40) := (blk_cell BK106.out 40).trans rfl; have hcz19_59 : w18.cell? ⟨gb106, 59, none⟩ = some (.int .u64 a0_59) := (blk_cell BK106.out 59).trans rfl; have hcz19_60 : w18.cell? ⟨gb106, 60, none⟩ = some (.int .u64 a0_60) := (blk_cell BK106.out 60).trans rfl; have hfz19_33 := blk_frozen BK106.out 33; have hfz19_34 := blk_frozen BK106.out 34; have hfz19_39 := blk_frozen BK106.out 39; have hfz19_40 := blk_frozen BK106.out 40; have hfz19_59 := blk_frozen BK106.out 59; have hfz19_60 := blk_frozen BK106.out 60) | ((with_reducible refine gate_callee (f := 17) rfl ?_); refine goesL_ (some 14) rfl rfl Try.func17 (by kernel_rfl) rfl #[.int .u64 a1, .int .u64 63] rfl (by (try simp only [List.map_toArray, List.map_cons, List.map_nil]); first | done | rfl | (simp only [List.length_drop, List.length_take]; rfl)) ?_; (with_reducible refine (mezzanineref14_bit.calls a1 63 true _ A9.out).mono ?_); rintro e w' ⟨rfl, ⟨nd, rfl⟩⟩; refine ⟨_, rfl, ?_⟩) | ((with_reducible refine gate_callee (f := 17) rfl ?_); refine goesL_ (some 18) rfl rfl Try.func17 (by kernel_rfl) rfl #[.int .u64 a0_40, .int .u64 (Int.tmod a1 9223372036854775808)] rfl (by (try simp only [List.map_toArray, List.map_cons, List.map_nil]); first | done | rfl | (simp only [List.length_drop, List.length_take]; rfl)) ?_; (with_reducible refine (mezzanineref14_bit.calls a0_40 (Int.tmod a1 9223372036854775808) true _ A11.out).mono ?_); rintro e w' ⟨rfl, ⟨nd, rfl⟩⟩; refine ⟨_, rfl, ?_⟩) | (go_at_call 17; (with_reducible refine (mezzanineref14_bit.calls a0_60 (Int.tmod a1 9223372036854775808) false _ A14.out).mono ?_); rintro e w' ⟨rfl, ⟨nd, rfl⟩⟩))
              go_ret
              exact ⟨by first | rfl | (simp [errW_none, errW_some] <;> rfl) | (simp [*, errW_none, errW_some] <;> rfl), by repeat (first | (with_reducible first | exact HB.out | apply below_alloc | apply pw_below_drewN | apply below_drew1 | refine below_set ?_ GE106.out) | exact HB.out)⟩
          · replace c13 := Bool.eq_false_iff.mpr c13
            subst c13
            have H1 : (some 1) = some r := by rw [if_neg (show ¬ (false = true) by decide)] at H; exact H
            clear H
            have H := H1
            clear H1
            obtain rfl := Option.some.inj H
            go_enter Try.func7, Try.ntmps7
            go_wp2_with (first | ((with_reducible refine gate_dst (N := 2) rfl ?_); refine box_event ?hg (N := 2) ?hd (cs := #[.int .u64 a0_0, .int .u64 a0_1, .int .u64 a0_2, .int .u64 a0_3, .int .u64 a0_4, .int .u64 a0_5, .int .u64 a0_6, .int .u64 a0_7, .int .u64 a0_8, .int .u64 a0_9, .int .u64 a0_10, .int .u64 a0_11, .int .u64 a0_12, .int .u64 a0_13, .int .u64 a0_14, .int .u64 a0_15, .int .u64 a0_16, .int .u64 a0_17, .int .u64 a0_18, .int .u64 a0_19, .int .u64 a0_20, .int .u64 a0_21, .int .u64 a0_22, .int .u64 a0_23, .int .u64 a0_24, .int .u64 a0_25, .int .u64 a0_26, .int .u64 a0_27, .int .u64 a0_28, .int .u64 a0_29, .int .u64 a0_30, .int .u64 a0_31, .int .u64 a0_32, .int .u8 a0_33, .bool false, .bool a0_35, .bool a0_36, .int .u64 a0_37, .int .u64 a0_38, .int .u64 a0_39, .int .u64 a0_40, .int .u64 a0_41, .int .u64 a0_42, .int .u64 a0_43, .int .u64 a0_44, .int .u64 a0_45, .int .u64 a0_46, .int .u64 a0_47, .int .u64 a0_48, .int .u64 a0_49, .int .u64 a0_50, .int .u64 a0_51, .int .u64 a0_52, .int .u64 a0_53, .int .u64 a0_54, .int .u64 a0_55, .int .u64 a0_56, .int .u64 a0_57, .int .u64 a0_58, .int .u64 a0_59, .int .u64 a0_60, .int .u64 a0_61, .int .u64 a0_62, .int .u64 a0_63, .int .u64 a0_64, .int .u64 a0_65, .int .u64 a0_66, .int .u64 a0_67, .int .u64 a0_68, .int .u64 a0_69, .int .u64 a0_70, .int .u64 a0_71, .int .u64 a0_72, .int .u64 a0_73, .int .u64 a0_74, .int .u64 a0_75, .int .u64 a0_76]) (t := 25) ?hr ?_; (case hd => rfl); (case hg => rfl); (case hr => first | (go_simp; done) | (go_simp; rfl)); intro gb106 hg w20 hbox hb; have n0_ := Aside0.mk (below_step (by repeat (first | (with_reducible first | exact HB.out | apply below_alloc | apply pw_below_drewN | apply below_drew1) | exact HB.out)) hb); have n1_ := Aside0.mk (hbox); have n2_ := Aside0.mk ((by rw [hg]; exact (below_size (by repeat (first | (with_reducible first | exact HB.out | apply below_alloc | apply pw_below_drewN | apply below_drew1) | exact HB.out))) : w.heap.size ≤ gb106)); have n3_ := Aside0.mk ((by rw [hg]; exact (below_size (by repeat (first | (with_reducible first | exact HB.out | apply below_alloc | apply pw_below_drewN | apply below_drew1) | exact HB.out))) : w.heap.size ≤ gb106)); clear HB; have HB := n0_; have BK106 := n1_; have GW106 := n2_; have GE106 := n3_; clear n0_ n1_ n2_ n3_; clear hb hbox hg; have hcz21_33 : w20.cell? ⟨gb106, 33, none⟩ = some (.int .u8 a0_33) := (blk_cell BK106.out 33).trans rfl; have hcz21_34 : w20.cell? ⟨gb106, 34, none⟩ = some (.bool false) := (blk_cell BK106.out 34).trans rfl; have hcz21_39 : w20.cell? ⟨gb106, 39, none⟩ = some (.int .u64 a0_39) := (blk_cell BK106.out 39).trans rfl; have hcz21_40 : w20.cell? ⟨gb106, 40, none⟩ = some (.int .u64 a0_40) := (blk_cell BK106.out 40).trans rfl; have hcz21_59 : w20.cell? ⟨gb106, 59, none⟩ = some (.int .u64 a0_59) := (blk_cell BK106.out 59).trans rfl; have hcz21_60 : w20.cell? ⟨gb106, 60, none⟩ = some (.int .u64 a0_60) := (blk_cell BK106.out 60).trans rfl; have hfz21_33 := blk_frozen BK106.out 33; have hfz21_34 := blk_frozen BK106.out 34; have hfz21_39 := blk_frozen BK106.out 39; have hfz21_40 := blk_frozen BK106.out 40; have hfz21_59 := blk_frozen BK106.out 59; have hfz21_60 := blk_frozen BK106.out 60) | ((with_reducible refine gate_callee (f := 17) rfl ?_); refine goesL_ (some 14) rfl rfl Try.func17 (by kernel_rfl) rfl #[.int .u64 a1, .int .u64 63] rfl (by (try simp only [List.map_toArray, List.map_cons, List.map_nil]); first | done | rfl | (simp only [List.length_drop, List.length_take]; rfl)) ?_; (with_reducible refine (mezzanineref14_bit.calls a1 63 true _ A9.out).mono ?_); rintro e w' ⟨rfl, ⟨nd, rfl⟩⟩; refine ⟨_, rfl, ?_⟩) | ((with_reducible refine gate_callee (f := 17) rfl ?_); refine goesL_ (some 18) rfl rfl Try.func17 (by kernel_rfl) rfl #[.int .u64 a0_40, .int .u64 (Int.tmod a1 9223372036854775808)] rfl (by (try simp only [List.map_toArray, List.map_cons, List.map_nil]); first | done | rfl | (simp only [List.length_drop, List.length_take]; rfl)) ?_; (with_reducible refine (mezzanineref14_bit.calls a0_40 (Int.tmod a1 9223372036854775808) true _ A11.out).mono ?_); rintro e w' ⟨rfl, ⟨nd, rfl⟩⟩; refine ⟨_, rfl, ?_⟩))
            go_ret
            exact ⟨by first | rfl | (simp [errW_none, errW_some] <;> rfl) | (simp [*, errW_none, errW_some] <;> rfl), by repeat (first | (with_reducible first | exact HB.out | apply below_alloc | apply pw_below_drewN | apply below_drew1 | refine below_set ?_ GE106.out) | exact HB.out)⟩
        · replace c12 := Bool.eq_false_iff.mpr c12
          subst c12
          have H1 : (some 0) = some r := by rw [if_neg (show ¬ (false = true) by decide)] at H; exact H
          clear H
          have H := H1
          clear H1
          obtain rfl := Option.some.inj H
          go_enter Try.func7, Try.ntmps7
          go_wp2_with (first | ((with_reducible refine gate_dst (N := 2) rfl ?_); refine box_event ?hg (N := 2) ?hd (cs := #[.int .u64 a0_0, .int .u64 a0_1, .int .u64 a0_2, .int .u64 a0_3, .int .u64 a0_4, .int .u64 a0_5, .int .u64 a0_6, .int .u64 a0_7, .int .u64 a0_8, .int .u64 a0_9, .int .u64 a0_10, .int .u64 a0_11, .int .u64 a0_12, .int .u64 a0_13, .int .u64 a0_14, .int .u64 a0_15, .int .u64 a0_16, .int .u64 a0_17, .int .u64 a0_18, .int .u64 a0_19, .int .u64 a0_20, .int .u64 a0_21, .int .u64 a0_22, .int .u64 a0_23, .int .u64 a0_24, .int .u64 a0_25, .int .u64 a0_26, .int .u64 a0_27, .int .u64 a0_28, .int .u64 a0_29, .int .u64 a0_30, .int .u64 a0_31, .int .u64 a0_32, .int .u8 a0_33, .bool a0_34, .bool a0_35, .bool a0_36, .int .u64 a0_37, .int .u64 a0_38, .int .u64 a0_39, .int .u64 a0_40, .int .u64 a0_41, .int .u64 a0_42, .int .u64 a0_43, .int .u64 a0_44, .int .u64 a0_45, .int .u64 a0_46, .int .u64 a0_47, .int .u64 a0_48, .int .u64 a0_49, .int .u64 a0_50, .int .u64 a0_51, .int .u64 a0_52, .int .u64 a0_53, .int .u64 a0_54, .int .u64 a0_55, .int .u64 a0_56, .int .u64 a0_57, .int .u64 a0_58, .int .u64 a0_59, .int .u64 a0_60, .int .u64 a0_61, .int .u64 a0_62, .int .u64 a0_63, .int .u64 a0_64, .int .u64 a0_65, .int .u64 a0_66, .int .u64 a0_67, .int .u64 a0_68, .int .u64 a0_69, .int .u64 a0_70, .int .u64 a0_71, .int .u64 a0_72, .int .u64 a0_73, .int .u64 a0_74, .int .u64 a0_75, .int .u64 a0_76]) (t := 25) ?hr ?_; (case hd => rfl); (case hg => rfl); (case hr => first | (go_simp; done) | (go_simp; rfl)); intro gb106 hg w22 hbox hb; have n0_ := Aside0.mk (below_step (by repeat (first | (with_reducible first | exact HB.out | apply below_alloc | apply pw_below_drewN | apply below_drew1) | exact HB.out)) hb); have n1_ := Aside0.mk (hbox); have n2_ := Aside0.mk ((by rw [hg]; exact (below_size (by repeat (first | (with_reducible first | exact HB.out | apply below_alloc | apply pw_below_drewN | apply below_drew1) | exact HB.out))) : w.heap.size ≤ gb106)); have n3_ := Aside0.mk ((by rw [hg]; exact (below_size (by repeat (first | (with_reducible first | exact HB.out | apply below_alloc | apply pw_below_drewN | apply below_drew1) | exact HB.out))) : w.heap.size ≤ gb106)); clear HB; have HB := n0_; have BK106 := n1_; have GW106 := n2_; have GE106 := n3_; clear n0_ n1_ n2_ n3_; clear hb hbox hg; have hcz23_33 : w22.cell? ⟨gb106, 33, none⟩ = some (.int .u8 a0_33) := (blk_cell BK106.out 33).trans rfl; have hcz23_34 : w22.cell? ⟨gb106, 34, none⟩ = some (.bool a0_34) := (blk_cell BK106.out 34).trans rfl; have hcz23_39 : w22.cell? ⟨gb106, 39, none⟩ = some (.int .u64 a0_39) := (blk_cell BK106.out 39).trans rfl; have hcz23_40 : w22.cell? ⟨gb106, 40, none⟩ = some (.int .u64 a0_40) := (blk_cell BK106.out 40).trans rfl; have hcz23_59 : w22.cell? ⟨gb106, 59, none⟩ = some (.int .u64 a0_59) := (blk_cell BK106.out 59).trans rfl; have hcz23_60 : w22.cell? ⟨gb106, 60, none⟩ = some (.int .u64 a0_60) := (blk_cell BK106.out 60).trans rfl; have hfz23_33 := blk_frozen BK106.out 33; have hfz23_34 := blk_frozen BK106.out 34; have hfz23_39 := blk_frozen BK106.out 39; have hfz23_40 := blk_frozen BK106.out 40; have hfz23_59 := blk_frozen BK106.out 59; have hfz23_60 := blk_frozen BK106.out 60) | ((with_reducible refine gate_callee (f := 17) rfl ?_); refine goesL_ (some 14) rfl rfl Try.func17 (by kernel_rfl) rfl #[.int .u64 a1, .int .u64 63] rfl (by (try simp only [List.map_toArray, List.map_cons, List.map_nil]); first | done | rfl | (simp only [List.length_drop, List.length_take]; rfl)) ?_; (with_reducible refine (mezzanineref14_bit.calls a1 63 true _ A9.out).mono ?_); rintro e w' ⟨rfl, ⟨nd, rfl⟩⟩; refine ⟨_, rfl, ?_⟩) | ((with_reducible refine gate_callee (f := 17) rfl ?_); refine goesL_ (some 18) rfl rfl Try.func17 (by kernel_rfl) rfl #[.int .u64 a0_40, .int .u64 (Int.tmod a1 9223372036854775808)] rfl (by (try simp only [List.map_toArray, List.map_cons, List.map_nil]); first | done | rfl | (simp only [List.length_drop, List.length_take]; rfl)) ?_; (with_reducible refine (mezzanineref14_bit.calls a0_40 (Int.tmod a1 9223372036854775808) false _ A11.out).mono ?_); rintro e w' ⟨rfl, ⟨nd, rfl⟩⟩; refine ⟨_, rfl, ?_⟩))
          go_ret
          exact ⟨by first | rfl | (simp [errW_none, errW_some] <;> rfl) | (simp [*, errW_none, errW_some] <;> rfl), by repeat (first | (with_reducible first | exact HB.out | apply below_alloc | apply pw_below_drewN | apply below_drew1 | refine below_set ?_ GE106.out) | exact HB.out)⟩
      · replace c10 := Bool.eq_false_iff.mpr c10
        subst c10
        have H1 : ((mezzanineref14_bit.f a0_39 (Int.tmod a1 9223372036854775808)).bind fun t110 => (if t110 = true then (if a0_34 = true then ((mezzanineref14_bit.f a0_59 (Int.tmod a1 9223372036854775808)).bind fun t111 => (if t111 = true then (some 2) else (some 1))) else (some 1)) else (some 0))) = some r := by rw [if_neg (show ¬ (false = true) by decide)] at H; exact H
        clear H
        have H := H1
        clear H1
        replace H := Option.bind_eq_some_iff.mp H
        obtain ⟨t110, A240, H⟩ := H
        replace H : (if t110 = true then (if a0_34 = true then ((mezzanineref14_bit.f a0_59 (Int.tmod a1 9223372036854775808)).bind fun t111 => (if t111 = true then (some 2) else (some 1))) else (some 1)) else (some 0)) = some r := H
        have A24 := Aside0.mk A240
        clear A240
        by_cases c25 : t110 = true
        · subst c25
          have H1 : (if a0_34 = true then ((mezzanineref14_bit.f a0_59 (Int.tmod a1 9223372036854775808)).bind fun t111 => (if t111 = true then (some 2) else (some 1))) else (some 1)) = some r := by rw [if_pos rfl] at H; exact H
          clear H
          have H := H1
          clear H1
          by_cases c26 : a0_34 = true
          · subst c26
            have H1 : ((mezzanineref14_bit.f a0_59 (Int.tmod a1 9223372036854775808)).bind fun t111 => (if t111 = true then (some 2) else (some 1))) = some r := by rw [if_pos rfl] at H; exact H
            clear H
            have H := H1
            clear H1
            replace H := Option.bind_eq_some_iff.mp H
            obtain ⟨t111, A270, H⟩ := H
            replace H : (if t111 = true then (some 2) else (some 1)) = some r := H
            have A27 := Aside0.mk A270
            clear A270
            by_cases c28 : t111 = true
            · subst c28
              have H1 : (some 2) = some r := by rw [if_pos rfl] at H; exact H
              clear H
              have H := H1
              clear H1
              obtain rfl := Option.some.inj H
              go_enter Try.func7, Try.ntmps7
              go_wp2_with (first | ((with_reducible refine gate_dst (N := 2) rfl ?_); refine box_event ?hg (N := 2) ?hd (cs := #[.int .u64 a0_0, .int .u64 a0_1, .int .u64 a0_2, .int .u64 a0_3, .int .u64 a0_4, .int .u64 a0_5, .int .u64 a0_6, .int .u64 a0_7, .int .u64 a0_8, .int .u64 a0_9, .int .u64 a0_10, .int .u64 a0_11, .int .u64 a0_12, .int .u64 a0_13, .int .u64 a0_14, .int .u64 a0_15, .int .u64 a0_16, .int .u64 a0_17, .int .u64 a0_18, .int .u64 a0_19, .int .u64 a0_20, .int .u64 a0_21, .int .u64 a0_22, .int .u64 a0_23, .int .u64 a0_24, .int .u64 a0_25, .int .u64 a0_26, .int .u64 a0_27, .int .u64 a0_28, .int .u64 a0_29, .int .u64 a0_30, .int .u64 a0_31, .int .u64 a0_32, .int .u8 a0_33, .bool true, .bool a0_35, .bool a0_36, .int .u64 a0_37, .int .u64 a0_38, .int .u64 a0_39, .int .u64 a0_40, .int .u64 a0_41, .int .u64 a0_42, .int .u64 a0_43, .int .u64 a0_44, .int .u64 a0_45, .int .u64 a0_46, .int .u64 a0_47, .int .u64 a0_48, .int .u64 a0_49, .int .u64 a0_50, .int .u64 a0_51, .int .u64 a0_52, .int .u64 a0_53, .int .u64 a0_54, .int .u64 a0_55, .int .u64 a0_56, .int .u64 a0_57, .int .u64 a0_58, .int .u64 a0_59, .int .u64 a0_60, .int .u64 a0_61, .int .u64 a0_62, .int .u64 a0_63, .int .u64 a0_64, .int .u64 a0_65, .int .u64 a0_66, .int .u64 a0_67, .int .u64 a0_68, .int .u64 a0_69, .int .u64 a0_70, .int .u64 a0_71, .int .u64 a0_72, .int .u64 a0_73, .int .u64 a0_74, .int .u64 a0_75, .int .u64 a0_76]) (t := 25) ?hr ?_; (case hd => rfl); (case hg => rfl); (case hr => first | (go_simp; done) | (go_simp; rfl)); intro gb106 hg w29 hbox hb; have n0_ := Aside0.mk (below_step (by repeat (first | (with_reducible first | exact HB.out | apply below_alloc | apply pw_below_drewN | apply below_drew1) | exact HB.out)) hb); have n1_ := Aside0.mk (hbox); have n2_ := Aside0.mk ((by rw [hg]; exact (below_size (by repeat (first | (with_reducible first | exact HB.out | apply below_alloc | apply pw_below_drewN | apply below_drew1) | exact HB.out))) : w.heap.size ≤ gb106)); have n3_ := Aside0.mk ((by rw [hg]; exact (below_size (by repeat (first | (with_reducible first | exact HB.out | apply below_alloc | apply pw_below_drewN | apply below_drew1) | exact HB.out))) : w.heap.size ≤ gb106)); clear HB; have HB := n0_; have BK106 := n1_; have GW106 := n2_; have GE106 := n3_; clear n0_ n1_ n2_ n3_; clear hb hbox hg; have hcz30_33 : w29.cell? ⟨gb106, 33, none⟩ = some (.int .u8 a0_33) := (blk_cell BK106.out 33).trans rfl; have hcz30_34 : w29.cell? ⟨gb106, 34, none⟩ = some (.bool true) := (blk_cell BK106.out 34).trans rfl; have hcz30_39 : w29.cell? ⟨gb106, 39, none⟩ = some (.int .u64 a0_39) := (blk_cell BK106.out 39).trans rfl; have hcz30_40 : w29.cell? ⟨gb106, 40, none⟩ = some (.int .u64 a0_40) := (blk_cell BK106.out 40).trans rfl; have hcz30_59 : w29.cell? ⟨gb106, 59, none⟩ = some (.int .u64 a0_59) := (blk_cell BK106.out 59).trans rfl; have hcz30_60 : w29.cell? ⟨gb106, 60, none⟩ = some (.int .u64 a0_60) := (blk_cell BK106.out 60).trans rfl; have hfz30_33 := blk_frozen BK106.out 33; have hfz30_34 := blk_frozen BK106.out 34; have hfz30_39 := blk_frozen BK106.out 39; have hfz30_40 := blk_frozen BK106.out 40; have hfz30_59 := blk_frozen BK106.out 59; have hfz30_60 := blk_frozen BK106.out 60) | ((with_reducible refine gate_callee (f := 17) rfl ?_); refine goesL_ (some 14) rfl rfl Try.func17 (by kernel_rfl) rfl #[.int .u64 a1, .int .u64 63] rfl (by (try simp only [List.map_toArray, List.map_cons, List.map_nil]); first | done | rfl | (simp only [List.length_drop, List.length_take]; rfl)) ?_; (with_reducible refine (mezzanineref14_bit.calls a1 63 false _ A9.out).mono ?_); rintro e w' ⟨rfl, ⟨nd, rfl⟩⟩; refine ⟨_, rfl, ?_⟩) | ((with_reducible refine gate_callee (f := 17) rfl ?_); refine goesL_ (some 31) rfl rfl Try.func17 (by kernel_rfl) rfl #[.int .u64 a0_39, .int .u64 (Int.tmod a1 9223372036854775808)] rfl (by (try simp only [List.map_toArray, List.map_cons, List.map_nil]); first | done | rfl | (simp only [List.length_drop, List.length_take]; rfl)) ?_; (with_reducible refine (mezzanineref14_bit.calls a0_39 (Int.tmod a1 9223372036854775808) true _ A24.out).mono ?_); rintro e w' ⟨rfl, ⟨nd, rfl⟩⟩; refine ⟨_, rfl, ?_⟩) | (go_at_call 17; (with_reducible refine (mezzanineref14_bit.calls a0_59 (Int.tmod a1 9223372036854775808) true _ A27.out).mono ?_); rintro e w' ⟨rfl, ⟨nd, rfl⟩⟩))
              go_ret
              exact ⟨by first | rfl | (simp [errW_none, errW_some] <;> rfl) | (simp [*, errW_none, errW_some] <;> rfl), by repeat (first | (with_reducible first | exact HB.out | apply below_alloc | apply pw_below_drewN | apply below_drew1 | refine below_set ?_ GE106.out) | exact HB.out)⟩
            · replace c28 := Bool.eq_false_iff.mpr c28
              subst c28
              have H1 : (some 1) = some r := by rw [if_neg (show ¬ (false = true) by decide)] at H; exact H
              clear H
              have H := H1
              clear H1
              obtain rfl := Option.some.inj H
              go_enter Try.func7, Try.ntmps7
              go_wp2_with (first | ((with_reducible refine gate_dst (N := 2) rfl ?_); refine box_event ?hg (N := 2) ?hd (cs := #[.int .u64 a0_0, .int .u64 a0_1, .int .u64 a0_2, .int .u64 a0_3, .int .u64 a0_4, .int .u64 a0_5, .int .u64 a0_6, .int .u64 a0_7, .int .u64 a0_8, .int .u64 a0_9, .int .u64 a0_10, .int .u64 a0_11, .int .u64 a0_12, .int .u64 a0_13, .int .u64 a0_14, .int .u64 a0_15, .int .u64 a0_16, .int .u64 a0_17, .int .u64 a0_18, .int .u64 a0_19, .int .u64 a0_20, .int .u64 a0_21, .int .u64 a0_22, .int .u64 a0_23, .int .u64 a0_24, .int .u64 a0_25, .int .u64 a0_26, .int .u64 a0_27, .int .u64 a0_28, .int .u64 a0_29, .int .u64 a0_30, .int .u64 a0_31, .int .u64 a0_32, .int .u8 a0_33, .bool true, .bool a0_35, .bool a0_36, .int .u64 a0_37, .int .u64 a0_38, .int .u64 a0_39, .int .u64 a0_40, .int .u64 a0_41, .int .u64 a0_42, .int .u64 a0_43, .int .u64 a0_44, .int .u64 a0_45, .int .u64 a0_46, .int .u64 a0_47, .int .u64 a0_48, .int .u64 a0_49, .int .u64 a0_50, .int .u64 a0_51, .int .u64 a0_52, .int .u64 a0_53, .int .u64 a0_54, .int .u64 a0_55, .int .u64 a0_56, .int .u64 a0_57, .int .u64 a0_58, .int .u64 a0_59, .int .u64 a0_60, .int .u64 a0_61, .int .u64 a0_62, .int .u64 a0_63, .int .u64 a0_64, .int .u64 a0_65, .int .u64 a0_66, .int .u64 a0_67, .int .u64 a0_68, .int .u64 a0_69, .int .u64 a0_70, .int .u64 a0_71, .int .u64 a0_72, .int .u64 a0_73, .int .u64 a0_74, .int .u64 a0_75, .int .u64 a0_76]) (t := 25) ?hr ?_; (case hd => rfl); (case hg => rfl); (case hr => first | (go_simp; done) | (go_simp; rfl)); intro gb106 hg w31 hbox hb; have n0_ := Aside0.mk (below_step (by repeat (first | (with_reducible first | exact HB.out | apply below_alloc | apply pw_below_drewN | apply below_drew1) | exact HB.out)) hb); have n1_ := Aside0.mk (hbox); have n2_ := Aside0.mk ((by rw [hg]; exact (below_size (by repeat (first | (with_reducible first | exact HB.out | apply below_alloc | apply pw_below_drewN | apply below_drew1) | exact HB.out))) : w.heap.size ≤ gb106)); have n3_ := Aside0.mk ((by rw [hg]; exact (below_size (by repeat (first | (with_reducible first | exact HB.out | apply below_alloc | apply pw_below_drewN | apply below_drew1) | exact HB.out))) : w.heap.size ≤ gb106)); clear HB; have HB := n0_; have BK106 := n1_; have GW106 := n2_; have GE106 := n3_; clear n0_ n1_ n2_ n3_; clear hb hbox hg; have hcz32_33 : w31.cell? ⟨gb106, 33, none⟩ = some (.int .u8 a0_33) := (blk_cell BK106.out 33).trans rfl; have hcz32_34 : w31.cell? ⟨gb106, 34, none⟩ = some (.bool true) := (blk_cell BK106.out 34).trans rfl; have hcz32_39 : w31.cell? ⟨gb106, 39, none⟩ = some (.int .u64 a0_39) := (blk_cell BK106.out 39).trans rfl; have hcz32_40 : w31.cell? ⟨gb106, 40, none⟩ = some (.int .u64 a0_40) := (blk_cell BK106.out 40).trans rfl; have hcz32_59 : w31.cell? ⟨gb106, 59, none⟩ = some (.int .u64 a0_59) := (blk_cell BK106.out 59).trans rfl; have hcz32_60 : w31.cell? ⟨gb106, 60, none⟩ = some (.int .u64 a0_60) := (blk_cell BK106.out 60).trans rfl; have hfz32_33 := blk_frozen BK106.out 33; have hfz32_34 := blk_frozen BK106.out 34; have hfz32_39 := blk_frozen BK106.out 39; have hfz32_40 := blk_frozen BK106.out 40; have hfz32_59 := blk_frozen BK106.out 59; have hfz32_60 := blk_frozen BK106.out 60) | ((with_reducible refine gate_callee (f := 17) rfl ?_); refine goesL_ (some 14) rfl rfl Try.func17 (by kernel_rfl) rfl #[.int .u64 a1, .int .u64 63] rfl (by (try simp only [List.map_toArray, List.map_cons, List.map_nil]); first | done | rfl | (simp only [List.length_drop, List.length_take]; rfl)) ?_; (with_reducible refine (mezzanineref14_bit.calls a1 63 false _ A9.out).mono ?_); rintro e w' ⟨rfl, ⟨nd, rfl⟩⟩; refine ⟨_, rfl, ?_⟩) | ((with_reducible refine gate_callee (f := 17) rfl ?_); refine goesL_ (some 31) rfl rfl Try.func17 (by kernel_rfl) rfl #[.int .u64 a0_39, .int .u64 (Int.tmod a1 9223372036854775808)] rfl (by (try simp only [List.map_toArray, List.map_cons, List.map_nil]); first | done | rfl | (simp only [List.length_drop, List.length_take]; rfl)) ?_; (with_reducible refine (mezzanineref14_bit.calls a0_39 (Int.tmod a1 9223372036854775808) true _ A24.out).mono ?_); rintro e w' ⟨rfl, ⟨nd, rfl⟩⟩; refine ⟨_, rfl, ?_⟩) | (go_at_call 17; (with_reducible refine (mezzanineref14_bit.calls a0_59 (Int.tmod a1 9223372036854775808) false _ A27.out).mono ?_); rintro e w' ⟨rfl, ⟨nd, rfl⟩⟩))
              go_ret
              exact ⟨by first | rfl | (simp [errW_none, errW_some] <;> rfl) | (simp [*, errW_none, errW_some] <;> rfl), by repeat (first | (with_reducible first | exact HB.out | apply below_alloc | apply pw_below_drewN | apply below_drew1 | refine below_set ?_ GE106.out) | exact HB.out)⟩
          · replace c26 := Bool.eq_false_iff.mpr c26
            subst c26
            have H1 : (some 1) = some r := by rw [if_neg (show ¬ (false = true) by decide)] at H; exact H
            clear H
            have H := H1
            clear H1
            obtain rfl := Option.some.inj H
            go_enter Try.func7, Try.ntmps7
            go_wp2_with (first | ((with_reducible refine gate_dst (N := 2) rfl ?_); refine box_event ?hg (N := 2) ?hd (cs := #[.int .u64 a0_0, .int .u64 a0_1, .int .u64 a0_2, .int .u64 a0_3, .int .u64 a0_4, .int .u64 a0_5, .int .u64 a0_6, .int .u64 a0_7, .int .u64 a0_8, .int .u64 a0_9, .int .u64 a0_10, .int .u64 a0_11, .int .u64 a0_12, .int .u64 a0_13, .int .u64 a0_14, .int .u64 a0_15, .int .u64 a0_16, .int .u64 a0_17, .int .u64 a0_18, .int .u64 a0_19, .int .u64 a0_20, .int .u64 a0_21, .int .u64 a0_22, .int .u64 a0_23, .int .u64 a0_24, .int .u64 a0_25, .int .u64 a0_26, .int .u64 a0_27, .int .u64 a0_28, .int .u64 a0_29, .int .u64 a0_30, .int .u64 a0_31, .int .u64 a0_32, .int .u8 a0_33, .bool false, .bool a0_35, .bool a0_36, .int .u64 a0_37, .int .u64 a0_38, .int .u64 a0_39, .int .u64 a0_40, .int .u64 a0_41, .int .u64 a0_42, .int .u64 a0_43, .int .u64 a0_44, .int .u64 a0_45, .int .u64 a0_46, .int .u64 a0_47, .int .u64 a0_48, .int .u64 a0_49, .int .u64 a0_50, .int .u64 a0_51, .int .u64 a0_52, .int .u64 a0_53, .int .u64 a0_54, .int .u64 a0_55, .int .u64 a0_56, .int .u64 a0_57, .int .u64 a0_58, .int .u64 a0_59, .int .u64 a0_60, .int .u64 a0_61, .int .u64 a0_62, .int .u64 a0_63, .int .u64 a0_64, .int .u64 a0_65, .int .u64 a0_66, .int .u64 a0_67, .int .u64 a0_68, .int .u64 a0_69, .int .u64 a0_70, .int .u64 a0_71, .int .u64 a0_72, .int .u64 a0_73, .int .u64 a0_74, .int .u64 a0_75, .int .u64 a0_76]) (t := 25) ?hr ?_; (case hd => rfl); (case hg => rfl); (case hr => first | (go_simp; done) | (go_simp; rfl)); intro gb106 hg w33 hbox hb; have n0_ := Aside0.mk (below_step (by repeat (first | (with_reducible first | exact HB.out | apply below_alloc | apply pw_below_drewN | apply below_drew1) | exact HB.out)) hb); have n1_ := Aside0.mk (hbox); have n2_ := Aside0.mk ((by rw [hg]; exact (below_size (by repeat (first | (with_reducible first | exact HB.out | apply below_alloc | apply pw_below_drewN | apply below_drew1) | exact HB.out))) : w.heap.size ≤ gb106)); have n3_ := Aside0.mk ((by rw [hg]; exact (below_size (by repeat (first | (with_reducible first | exact HB.out | apply below_alloc | apply pw_below_drewN | apply below_drew1) | exact HB.out))) : w.heap.size ≤ gb106)); clear HB; have HB := n0_; have BK106 := n1_; have GW106 := n2_; have GE106 := n3_; clear n0_ n1_ n2_ n3_; clear hb hbox hg; have hcz34_33 : w33.cell? ⟨gb106, 33, none⟩ = some (.int .u8 a0_33) := (blk_cell BK106.out 33).trans rfl; have hcz34_34 : w33.cell? ⟨gb106, 34, none⟩ = some (.bool false) := (blk_cell BK106.out 34).trans rfl; have hcz34_39 : w33.cell? ⟨gb106, 39, none⟩ = some (.int .u64 a0_39) := (blk_cell BK106.out 39).trans rfl; have hcz34_40 : w33.cell? ⟨gb106, 40, none⟩ = some (.int .u64 a0_40) := (blk_cell BK106.out 40).trans rfl; have hcz34_59 : w33.cell? ⟨gb106, 59, none⟩ = some (.int .u64 a0_59) := (blk_cell BK106.out 59).trans rfl; have hcz34_60 : w33.cell? ⟨gb106, 60, none⟩ = some (.int .u64 a0_60) := (blk_cell BK106.out 60).trans rfl; have hfz34_33 := blk_frozen BK106.out 33; have hfz34_34 := blk_frozen BK106.out 34; have hfz34_39 := blk_frozen BK106.out 39; have hfz34_40 := blk_frozen BK106.out 40; have hfz34_59 := blk_frozen BK106.out 59; have hfz34_60 := blk_frozen BK106.out 60) | ((with_reducible refine gate_callee (f := 17) rfl ?_); refine goesL_ (some 14) rfl rfl Try.func17 (by kernel_rfl) rfl #[.int .u64 a1, .int .u64 63] rfl (by (try simp only [List.map_toArray, List.map_cons, List.map_nil]); first | done | rfl | (simp only [List.length_drop, List.length_take]; rfl)) ?_; (with_reducible refine (mezzanineref14_bit.calls a1 63 false _ A9.out).mono ?_); rintro e w' ⟨rfl, ⟨nd, rfl⟩⟩; refine ⟨_, rfl, ?_⟩) | ((with_reducible refine gate_callee (f := 17) rfl ?_); refine goesL_ (some 31) rfl rfl Try.func17 (by kernel_rfl) rfl #[.int .u64 a0_39, .int .u64 (Int.tmod a1 9223372036854775808)] rfl (by (try simp only [List.map_toArray, List.map_cons, List.map_nil]); first | done | rfl | (simp only [List.length_drop, List.length_take]; rfl)) ?_; (with_reducible refine (mezzanineref14_bit.calls a0_39 (Int.tmod a1 9223372036854775808) true _ A24.out).mono ?_); rintro e w' ⟨rfl, ⟨nd, rfl⟩⟩; refine ⟨_, rfl, ?_⟩))
            go_ret
            exact ⟨by first | rfl | (simp [errW_none, errW_some] <;> rfl) | (simp [*, errW_none, errW_some] <;> rfl), by repeat (first | (with_reducible first | exact HB.out | apply below_alloc | apply pw_below_drewN | apply below_drew1 | refine below_set ?_ GE106.out) | exact HB.out)⟩
        · replace c25 := Bool.eq_false_iff.mpr c25
          subst c25
          have H1 : (some 0) = some r := by rw [if_neg (show ¬ (false = true) by decide)] at H; exact H
          clear H
          have H := H1
          clear H1
          obtain rfl := Option.some.inj H
          go_enter Try.func7, Try.ntmps7
          go_wp2_with (first | ((with_reducible refine gate_dst (N := 2) rfl ?_); refine box_event ?hg (N := 2) ?hd (cs := #[.int .u64 a0_0, .int .u64 a0_1, .int .u64 a0_2, .int .u64 a0_3, .int .u64 a0_4, .int .u64 a0_5, .int .u64 a0_6, .int .u64 a0_7, .int .u64 a0_8, .int .u64 a0_9, .int .u64 a0_10, .int .u64 a0_11, .int .u64 a0_12, .int .u64 a0_13, .int .u64 a0_14, .int .u64 a0_15, .int .u64 a0_16, .int .u64 a0_17, .int .u64 a0_18, .int .u64 a0_19, .int .u64 a0_20, .int .u64 a0_21, .int .u64 a0_22, .int .u64 a0_23, .int .u64 a0_24, .int .u64 a0_25, .int .u64 a0_26, .int .u64 a0_27, .int .u64 a0_28, .int .u64 a0_29, .int .u64 a0_30, .int .u64 a0_31, .int .u64 a0_32, .int .u8 a0_33, .bool a0_34, .bool a0_35, .bool a0_36, .int .u64 a0_37, .int .u64 a0_38, .int .u64 a0_39, .int .u64 a0_40, .int .u64 a0_41, .int .u64 a0_42, .int .u64 a0_43, .int .u64 a0_44, .int .u64 a0_45, .int .u64 a0_46, .int .u64 a0_47, .int .u64 a0_48, .int .u64 a0_49, .int .u64 a0_50, .int .u64 a0_51, .int .u64 a0_52, .int .u64 a0_53, .int .u64 a0_54, .int .u64 a0_55, .int .u64 a0_56, .int .u64 a0_57, .int .u64 a0_58, .int .u64 a0_59, .int .u64 a0_60, .int .u64 a0_61, .int .u64 a0_62, .int .u64 a0_63, .int .u64 a0_64, .int .u64 a0_65, .int .u64 a0_66, .int .u64 a0_67, .int .u64 a0_68, .int .u64 a0_69, .int .u64 a0_70, .int .u64 a0_71, .int .u64 a0_72, .int .u64 a0_73, .int .u64 a0_74, .int .u64 a0_75, .int .u64 a0_76]) (t := 25) ?hr ?_; (case hd => rfl); (case hg => rfl); (case hr => first | (go_simp; done) | (go_simp; rfl)); intro gb106 hg w35 hbox hb; have n0_ := Aside0.mk (below_step (by repeat (first | (with_reducible first | exact HB.out | apply below_alloc | apply pw_below_drewN | apply below_drew1) | exact HB.out)) hb); have n1_ := Aside0.mk (hbox); have n2_ := Aside0.mk ((by rw [hg]; exact (below_size (by repeat (first | (with_reducible first | exact HB.out | apply below_alloc | apply pw_below_drewN | apply below_drew1) | exact HB.out))) : w.heap.size ≤ gb106)); have n3_ := Aside0.mk ((by rw [hg]; exact (below_size (by repeat (first | (with_reducible first | exact HB.out | apply below_alloc | apply pw_below_drewN | apply below_drew1) | exact HB.out))) : w.heap.size ≤ gb106)); clear HB; have HB := n0_; have BK106 := n1_; have GW106 := n2_; have GE106 := n3_; clear n0_ n1_ n2_ n3_; clear hb hbox hg; have hcz36_33 : w35.cell? ⟨gb106, 33, none⟩ = some (.int .u8 a0_33) := (blk_cell BK106.out 33).trans rfl; have hcz36_34 : w35.cell? ⟨gb106, 34, none⟩ = some (.bool a0_34) := (blk_cell BK106.out 34).trans rfl; have hcz36_39 : w35.cell? ⟨gb106, 39, none⟩ = some (.int .u64 a0_39) := (blk_cell BK106.out 39).trans rfl; have hcz36_40 : w35.cell? ⟨gb106, 40, none⟩ = some (.int .u64 a0_40) := (blk_cell BK106.out 40).trans rfl; have hcz36_59 : w35.cell? ⟨gb106, 59, none⟩ = some (.int .u64 a0_59) := (blk_cell BK106.out 59).trans rfl; have hcz36_60 : w35.cell? ⟨gb106, 60, none⟩ = some (.int .u64 a0_60) := (blk_cell BK106.out 60).trans rfl; have hfz36_33 := blk_frozen BK106.out 33; have hfz36_34 := blk_frozen BK106.out 34; have hfz36_39 := blk_frozen BK106.out 39; have hfz36_40 := blk_frozen BK106.out 40; have hfz36_59 := blk_frozen BK106.out 59; have hfz36_60 := blk_frozen BK106.out 60) | ((with_reducible refine gate_callee (f := 17) rfl ?_); refine goesL_ (some 14) rfl rfl Try.func17 (by kernel_rfl) rfl #[.int .u64 a1, .int .u64 63] rfl (by (try simp only [List.map_toArray, List.map_cons, List.map_nil]); first | done | rfl | (simp only [List.length_drop, List.length_take]; rfl)) ?_; (with_reducible refine (mezzanineref14_bit.calls a1 63 false _ A9.out).mono ?_); rintro e w' ⟨rfl, ⟨nd, rfl⟩⟩; refine ⟨_, rfl, ?_⟩) | ((with_reducible refine gate_callee (f := 17) rfl ?_); refine goesL_ (some 31) rfl rfl Try.func17 (by kernel_rfl) rfl #[.int .u64 a0_39, .int .u64 (Int.tmod a1 9223372036854775808)] rfl (by (try simp only [List.map_toArray, List.map_cons, List.map_nil]); first | done | rfl | (simp only [List.length_drop, List.length_take]; rfl)) ?_; (with_reducible refine (mezzanineref14_bit.calls a0_39 (Int.tmod a1 9223372036854775808) false _ A24.out).mono ?_); rintro e w' ⟨rfl, ⟨nd, rfl⟩⟩; refine ⟨_, rfl, ?_⟩))
          go_ret
          exact ⟨by first | rfl | (simp [errW_none, errW_some] <;> rfl) | (simp [*, errW_none, errW_some] <;> rfl), by repeat (first | (with_reducible first | exact HB.out | apply below_alloc | apply pw_below_drewN | apply below_drew1 | refine below_set ?_ GE106.out) | exact HB.out)⟩

/-! ### trap_set: function 18 -/
def trap_set.f (a0 : Int) (a1 : Int) (a2 : Bool) : Option (Int) := if a2 = true then (if 0 ≤ a1 then (some (Go.bits .or .u64 a0 (shl .u64 1 a1))) else (none)) else (if 0 ≤ a1 then (some (Go.bits .andNot .u64 a0 (shl .u64 1 a1))) else (none))
set_option maxHeartbeats 8000000 in
set_option maxRecDepth 100000 in
theorem trap_set.calls (a0 : Int) (a1 : Int) (a2 : Bool) (r : Int) (w : World) (h : trap_set.f a0 a1 a2 = some r) :
    Calls Try.prog 18 #[.int .u64 a0, .int .i64 a1, .bool a2] w fun e w' => e = .returned (.int .u64 r) ∧ Drawn0 w w' := by
  have H : (if a2 = true then (if 0 ≤ a1 then (some (Go.bits .or .u64 a0 (shl .u64 1 a1))) else (none)) else (if 0 ≤ a1 then (some (Go.bits .andNot .u64 a0 (shl .u64 1 a1))) else (none))) = some r := h
  clear h
  by_cases c4 : a2 = true
  · subst c4
    have H1 : (if 0 ≤ a1 then (some (Go.bits .or .u64 a0 (shl .u64 1 a1))) else (none)) = some r := by rw [if_pos rfl] at H; exact H
    clear H
    have H := H1
    clear H1
    by_cases c5 : 0 ≤ a1
    · rw [if_pos c5] at H
      have c5b0 := eq_true c5
      have c5b1 : decide (0 ≤ a1) = true := decide_eq_true c5
      clear c5
      obtain ⟨ji6, hji6⟩ : ∃ j_ : Int, (shl .u64 1 a1) = j_ := ⟨_, rfl⟩
      replace H : (some (Go.bits .or .u64 a0 (ji6))) = some r := by first | (rw [hji6] at H; exact H) | (simp only [hji6] at H ⊢; exact H)
      have hji6_ : (IntKind.u64.wrap (1 * 2 ^ min a1.toNat 64)) = ji6 := hji6
      have hji6z : a1 ≤ 64 → (IntKind.u64.wrap (1 * 2 ^ a1.toNat)) = ji6 := shl_small hji6
      have hji6u : (IntKind.u64.wrap (2 ^ min a1.toNat 64)) = ji6 := by have h_ := hji6_; rw [Int.one_mul] at h_; exact h_
      have hji6v : a1 ≤ 64 → (IntKind.u64.wrap (2 ^ a1.toNat)) = ji6 := fun hle_ => by have h_ := hji6z hle_; rw [Int.one_mul] at h_; exact h_
      obtain rfl := Option.some.inj H
      go_enter Try.func18, Try.ntmps18
      go_wp2
      go_ret
      exact ⟨by first | rfl | (simp; done) | (simp only [← hji6] <;> (first | rfl | simp)) | (simp [*]; done), by repeat (first | exact Drawn0.refl _ | apply Drawn0.step)⟩
    · rw [if_neg c5] at H
      exact absurd H (by simp)
  · replace c4 := Bool.eq_false_iff.mpr c4
    subst c4
    have H1 : (if 0 ≤ a1 then (some (Go.bits .andNot .u64 a0 (shl .u64 1 a1))) else (none)) = some r := by rw [if_neg (show ¬ (false = true) by decide)] at H; exact H
    clear H
    have H := H1
    clear H1
    by_cases c7 : 0 ≤ a1
    · rw [if_pos c7] at H
      have c7b0 := eq_true c7
      have c7b1 : decide (0 ≤ a1) = true := decide_eq_true c7
      clear c7
      obtain ⟨ji8, hji8⟩ : ∃ j_ : Int, (shl .u64 1 a1) = j_ := ⟨_, rfl⟩
      replace H : (some (Go.bits .andNot .u64 a0 (ji8))) = some r := by first | (rw [hji8] at H; exact H) | (simp only [hji8] at H ⊢; exact H)
      have hji8_ : (IntKind.u64.wrap (1 * 2 ^ min a1.toNat 64)) = ji8 := hji8
      have hji8z : a1 ≤ 64 → (IntKind.u64.wrap (1 * 2 ^ a1.toNat)) = ji8 := shl_small hji8
      have hji8u : (IntKind.u64.wrap (2 ^ min a1.toNat 64)) = ji8 := by have h_ := hji8_; rw [Int.one_mul] at h_; exact h_
      have hji8v : a1 ≤ 64 → (IntKind.u64.wrap (2 ^ a1.toNat)) = ji8 := fun hle_ => by have h_ := hji8z hle_; rw [Int.one_mul] at h_; exact h_
      obtain rfl := Option.some.inj H
      go_enter Try.func18, Try.ntmps18
      go_wp2
      go_ret
      exact ⟨by first | rfl | (simp; done) | (simp only [← hji8] <;> (first | rfl | simp)) | (simp [*]; done), by repeat (first | exact Drawn0.refl _ | apply Drawn0.step)⟩
    · rw [if_neg c7] at H
      exact absurd H (by simp)

/-! ### trap_place: function 19 -/
def trap_place.f (a0 : Int) (a1 : Int) : Option (Int) := (trap_split.f a1).bind fun bt112 => (if bt112.2 = true then (if (Go.bits .and .u64 a0 1) = 1 then (some (IntKind.u64.wrap ((Go.bits .andNot .u64 a0 3) + (IntKind.u64.wrap (4 * bt112.1))))) else (some (Go.bits .andNot .u64 a0 3))) else (some (Go.bits .andNot .u64 a0 3)))
set_option maxHeartbeats 8000000 in
set_option maxRecDepth 100000 in
theorem trap_place.calls (a0 : Int) (a1 : Int) (r : Int) (w : World) (h : trap_place.f a0 a1 = some r) :
    Calls Try.prog 19 #[.int .u64 a0, .int .u64 a1] w fun e w' => e = .returned (.int .u64 r) ∧ Drawn0 w w' := by
  have H : ((trap_split.f a1).bind fun bt112 => (if bt112.2 = true then (if (Go.bits .and .u64 a0 1) = 1 then (some (IntKind.u64.wrap ((Go.bits .andNot .u64 a0 3) + (IntKind.u64.wrap (4 * bt112.1))))) else (some (Go.bits .andNot .u64 a0 3))) else (some (Go.bits .andNot .u64 a0 3)))) = some r := h
  clear h
  replace H := Option.bind_eq_some_iff.mp H
  obtain ⟨⟨t112, t113⟩, A30, H⟩ := H
  replace H : (if t113 = true then (if (Go.bits .and .u64 a0 1) = 1 then (some (IntKind.u64.wrap ((Go.bits .andNot .u64 a0 3) + (IntKind.u64.wrap (4 * t112))))) else (some (Go.bits .andNot .u64 a0 3))) else (some (Go.bits .andNot .u64 a0 3))) = some r := H
  have A3 := Aside0.mk A30
  clear A30
  by_cases c4 : t113 = true
  · subst c4
    have H1 : (if (Go.bits .and .u64 a0 1) = 1 then (some (IntKind.u64.wrap ((Go.bits .andNot .u64 a0 3) + (IntKind.u64.wrap (4 * t112))))) else (some (Go.bits .andNot .u64 a0 3))) = some r := by rw [if_pos rfl] at H; exact H
    clear H
    have H := H1
    clear H1
    by_cases c5 : (Go.bits .and .u64 a0 1) = 1
    · rw [if_pos c5] at H
      have c5b0 : ((Go.bits .and .u64 a0 1) == 1) = true := beq_iff_eq.mpr c5
      have c5b1 : ((Go.bits .and .u64 a0 1) != 1) = false := bne_eq_false_iff_eq.mpr c5
      clear c5
      obtain rfl := Option.some.inj H
      go_enter Try.func19, Try.ntmps19
      go_wp2_with (first | ((with_reducible refine gate_callee (f := 15) rfl ?_); refine goesL_ (some 9) rfl rfl Try.func15 (by kernel_rfl) rfl #[.int .u64 a1] rfl (by (try simp only [List.map_toArray, List.map_cons, List.map_nil]); first | done | rfl | (simp only [List.length_drop, List.length_take]; rfl)) ?_; (with_reducible refine (trap_split.calls a1 t112 true _ A3.out).mono ?_); rintro e w' ⟨rfl, ⟨nd, rfl⟩⟩; refine ⟨_, rfl, ?_⟩))
      go_ret
      exact ⟨by first | rfl | (simp; done) | (simp [*]; done), by repeat (first | exact Drawn0.refl _ | apply Drawn0.step)⟩
    · rw [if_neg c5] at H
      have c5b0 : ((Go.bits .and .u64 a0 1) == 1) = false := beq_eq_false_iff_ne.mpr c5
      have c5b1 : ((Go.bits .and .u64 a0 1) != 1) = true := bne_iff_ne.mpr c5
      obtain rfl := Option.some.inj H
      go_enter Try.func19, Try.ntmps19
      go_wp2_with (first | ((with_reducible refine gate_callee (f := 15) rfl ?_); refine goesL_ (some 9) rfl rfl Try.func15 (by kernel_rfl) rfl #[.int .u64 a1] rfl (by (try simp only [List.map_toArray, List.map_cons, List.map_nil]); first | done | rfl | (simp only [List.length_drop, List.length_take]; rfl)) ?_; (with_reducible refine (trap_split.calls a1 t112 true _ A3.out).mono ?_); rintro e w' ⟨rfl, ⟨nd, rfl⟩⟩; refine ⟨_, rfl, ?_⟩))
      go_ret
      exact ⟨by first | rfl | (simp; done) | (simp [*]; done), by repeat (first | exact Drawn0.refl _ | apply Drawn0.step)⟩
  · replace c4 := Bool.eq_false_iff.mpr c4
    subst c4
    have H1 : (some (Go.bits .andNot .u64 a0 3)) = some r := by rw [if_neg (show ¬ (false = true) by decide)] at H; exact H
    clear H
    have H := H1
    clear H1
    obtain rfl := Option.some.inj H
    go_enter Try.func19, Try.ntmps19
    go_wp2_with (first | ((with_reducible refine gate_callee (f := 15) rfl ?_); refine goesL_ (some 9) rfl rfl Try.func15 (by kernel_rfl) rfl #[.int .u64 a1] rfl (by (try simp only [List.map_toArray, List.map_cons, List.map_nil]); first | done | rfl | (simp only [List.length_drop, List.length_take]; rfl)) ?_; (with_reducible refine (trap_split.calls a1 t112 false _ A3.out).mono ?_); rintro e w' ⟨rfl, ⟨nd, rfl⟩⟩; refine ⟨_, rfl, ?_⟩))
    go_ret
    exact ⟨by first | rfl | (simp; done) | (simp [*]; done), by repeat (first | exact Drawn0.refl _ | apply Drawn0.step)⟩

/-! ### trap_taken: function 20 -/
def trap_taken.f (a0 : Int) (a1 : Bool) : Option (Int) := (trap_on.f a0 1).bind fun t114 => ((trap_set.f a0 5 t114).bind fun t115 => ((trap_set.f t115 1 false).bind fun t116 => ((trap_set.f t116 8 a1).bind fun t117 => (some t117))))
set_option maxHeartbeats 8000000 in
set_option maxRecDepth 100000 in
theorem trap_taken.calls (a0 : Int) (a1 : Bool) (r : Int) (w : World) (h : trap_taken.f a0 a1 = some r) :
    Calls Try.prog 20 #[.int .u64 a0, .bool a1] w fun e w' => e = .returned (.int .u64 r) ∧ Drawn0 w w' := by
  have H : ((trap_on.f a0 1).bind fun t114 => ((trap_set.f a0 5 t114).bind fun t115 => ((trap_set.f t115 1 false).bind fun t116 => ((trap_set.f t116 8 a1).bind fun t117 => (some t117))))) = some r := h
  clear h
  replace H := Option.bind_eq_some_iff.mp H
  obtain ⟨t114, A30, H⟩ := H
  replace H : ((trap_set.f a0 5 t114).bind fun t115 => ((trap_set.f t115 1 false).bind fun t116 => ((trap_set.f t116 8 a1).bind fun t117 => (some t117)))) = some r := H
  have A3 := Aside0.mk A30
  clear A30
  replace H := Option.bind_eq_some_iff.mp H
  obtain ⟨t115, A40, H⟩ := H
  replace H : ((trap_set.f t115 1 false).bind fun t116 => ((trap_set.f t116 8 a1).bind fun t117 => (some t117))) = some r := H
  have A4 := Aside0.mk A40
  clear A40
  replace H := Option.bind_eq_some_iff.mp H
  obtain ⟨t116, A50, H⟩ := H
  replace H : ((trap_set.f t116 8 a1).bind fun t117 => (some t117)) = some r := H
  have A5 := Aside0.mk A50
  clear A50
  replace H := Option.bind_eq_some_iff.mp H
  obtain ⟨t117, A60, H⟩ := H
  replace H : (some t117) = some r := H
  have A6 := Aside0.mk A60
  clear A60
  obtain rfl := Option.some.inj H
  go_enter Try.func20, Try.ntmps20
  go_wp2_with (first | ((with_reducible refine gate_callee (f := 16) rfl ?_); refine goesL_ (some 7) rfl rfl Try.func16 (by kernel_rfl) rfl #[.int .u64 a0, .int .i64 1] rfl (by (try simp only [List.map_toArray, List.map_cons, List.map_nil]); first | done | rfl | (simp only [List.length_drop, List.length_take]; rfl)) ?_; (with_reducible refine (trap_on.calls a0 1 t114 _ A3.out).mono ?_); rintro e w' ⟨rfl, ⟨nd, rfl⟩⟩; refine ⟨_, rfl, ?_⟩) | ((with_reducible refine gate_callee (f := 18) rfl ?_); refine goesL_ (some 8) rfl rfl Try.func18 (by kernel_rfl) rfl #[.int .u64 a0, .int .i64 5, .bool t114] rfl (by (try simp only [List.map_toArray, List.map_cons, List.map_nil]); first | done | rfl | (simp only [List.length_drop, List.length_take]; rfl)) ?_; (with_reducible refine (trap_set.calls a0 5 t114 t115 _ A4.out).mono ?_); rintro e w' ⟨rfl, ⟨nd, rfl⟩⟩; refine ⟨_, rfl, ?_⟩) | ((with_reducible refine gate_callee (f := 18) rfl ?_); refine goesL_ (some 9) rfl rfl Try.func18 (by kernel_rfl) rfl #[.int .u64 t115, .int .i64 1, .bool false] rfl (by (try simp only [List.map_toArray, List.map_cons, List.map_nil]); first | done | rfl | (simp only [List.length_drop, List.length_take]; rfl)) ?_; (with_reducible refine (trap_set.calls t115 1 false t116 _ A5.out).mono ?_); rintro e w' ⟨rfl, ⟨nd, rfl⟩⟩; refine ⟨_, rfl, ?_⟩) | ((with_reducible refine gate_callee (f := 18) rfl ?_); refine goesL_ (some 11) rfl rfl Try.func18 (by kernel_rfl) rfl #[.int .u64 t116, .int .i64 8, .bool a1] rfl (by (try simp only [List.map_toArray, List.map_cons, List.map_nil]); first | done | rfl | (simp only [List.length_drop, List.length_take]; rfl)) ?_; (with_reducible refine (trap_set.calls t116 8 a1 t117 _ A6.out).mono ?_); rintro e w' ⟨rfl, ⟨nd, rfl⟩⟩; refine ⟨_, rfl, ?_⟩))
  go_ret
  exact ⟨by first | rfl | (simp; done) | (simp [*]; done), by repeat (first | exact Drawn0.refl _ | apply Drawn0.step)⟩

-- NOT PRINTED: function 8 (trap_Enter)

/-! ### mezzanineref14_With: function 21 -/
def mezzanineref14_With.f (a0 : Int) (a1 : Int) (a2 : Bool) : Option (Int) := if 0 ≤ a1 then (if a2 = true then (some (Go.bits .or .u64 (Go.bits .andNot .u64 a0 (shl .u64 1 a1)) (shl .u64 1 a1))) else (some (Go.bits .andNot .u64 a0 (shl .u64 1 a1)))) else (none)
set_option maxHeartbeats 8000000 in
set_option maxRecDepth 100000 in
theorem mezzanineref14_With.calls (a0 : Int) (a1 : Int) (a2 : Bool) (r : Int) (w : World) (h : mezzanineref14_With.f a0 a1 a2 = some r) :
    Calls Try.prog 21 #[.int .u64 a0, .int .u64 a1, .bool a2] w fun e w' => e = .returned (.int .u64 r) ∧ Drawn0 w w' := by
  have H : (if 0 ≤ a1 then (if a2 = true then (some (Go.bits .or .u64 (Go.bits .andNot .u64 a0 (shl .u64 1 a1)) (shl .u64 1 a1))) else (some (Go.bits .andNot .u64 a0 (shl .u64 1 a1)))) else (none)) = some r := h
  clear h
  by_cases c4 : 0 ≤ a1
  · rw [if_pos c4] at H
    have c4b0 := eq_true c4
    have c4b1 : decide (0 ≤ a1) = true := decide_eq_true c4
    clear c4
    obtain ⟨ji5, hji5⟩ : ∃ j_ : Int, (shl .u64 1 a1) = j_ := ⟨_, rfl⟩
    replace H : (if a2 = true then (some (Go.bits .or .u64 (Go.bits .andNot .u64 a0 (ji5)) (ji5))) else (some (Go.bits .andNot .u64 a0 (ji5)))) = some r := by first | (rw [hji5] at H; exact H) | (simp only [hji5] at H ⊢; exact H)
    have hji5_ : (IntKind.u64.wrap (1 * 2 ^ min a1.toNat 64)) = ji5 := hji5
    have hji5z : a1 ≤ 64 → (IntKind.u64.wrap (1 * 2 ^ a1.toNat)) = ji5 := shl_small hji5
    have hji5u : (IntKind.u64.wrap (2 ^ min a1.toNat 64)) = ji5 := by have h_ := hji5_; rw [Int.one_mul] at h_; exact h_
    have hji5v : a1 ≤ 64 → (IntKind.u64.wrap (2 ^ a1.toNat)) = ji5 := fun hle_ => by have h_ := hji5z hle_; rw [Int.one_mul] at h_; exact h_
    by_cases c6 : a2 = true
    · subst c6
      have H1 : (some (Go.bits .or .u64 (Go.bits .andNot .u64 a0 (ji5)) (ji5))) = some r := by rw [if_pos rfl] at H; exact H
      clear H
      have H := H1
      clear H1
      have c7b0 := eq_true (of_decide_eq_true (by first | (with_reducible assumption) | assumption) : 0 ≤ a1)
      obtain rfl := Option.some.inj H
      go_enter Try.func21, Try.ntmps21
      go_wp2
      go_ret
      exact ⟨by first | rfl | (simp; done) | (simp only [← hji5] <;> (first | rfl | simp)) | (simp [*]; done), by repeat (first | exact Drawn0.refl _ | apply Drawn0.step)⟩
    · replace c6 := Bool.eq_false_iff.mpr c6
      subst c6
      have H1 : (some (Go.bits .andNot .u64 a0 (ji5))) = some r := by rw [if_neg (show ¬ (false = true) by decide)] at H; exact H
      clear H
      have H := H1
      clear H1
      obtain rfl := Option.some.inj H
      go_enter Try.func21, Try.ntmps21
      go_wp2
      go_ret
      exact ⟨by first | rfl | (simp; done) | (simp only [← hji5] <;> (first | rfl | simp)) | (simp [*]; done), by repeat (first | exact Drawn0.refl _ | apply Drawn0.step)⟩
  · rw [if_neg c4] at H
    exact absurd H (by simp)

/-! ### mezzanineref14_Place: function 22 -/
def mezzanineref14_Place.f (a0 : Int) (a1 : Int) : Option (Int) := (mezzanineref14_bit.f a1 63).bind fun t142 => (if t142 = true then ((mezzanineref14_bit.f a0 0).bind fun t143 => (if t143 = true then (some (IntKind.u64.wrap ((IntKind.u64.wrap (a0 - (Int.tmod a0 4))) + (IntKind.u64.wrap (4 * (Int.tmod a1 9223372036854775808)))))) else (some (IntKind.u64.wrap (a0 - (Int.tmod a0 4)))))) else (some (IntKind.u64.wrap (a0 - (Int.tmod a0 4)))))
set_option maxHeartbeats 8000000 in
set_option maxRecDepth 100000 in
theorem mezzanineref14_Place.calls (a0 : Int) (a1 : Int) (r : Int) (w : World) (h : mezzanineref14_Place.f a0 a1 = some r) :
    Calls Try.prog 22 #[.int .u64 a0, .int .u64 a1] w fun e w' => e = .returned (.int .u64 r) ∧ Drawn0 w w' := by
  have H : ((mezzanineref14_bit.f a1 63).bind fun t142 => (if t142 = true then ((mezzanineref14_bit.f a0 0).bind fun t143 => (if t143 = true then (some (IntKind.u64.wrap ((IntKind.u64.wrap (a0 - (Int.tmod a0 4))) + (IntKind.u64.wrap (4 * (Int.tmod a1 9223372036854775808)))))) else (some (IntKind.u64.wrap (a0 - (Int.tmod a0 4)))))) else (some (IntKind.u64.wrap (a0 - (Int.tmod a0 4)))))) = some r := h
  clear h
  replace H := Option.bind_eq_some_iff.mp H
  obtain ⟨t142, A30, H⟩ := H
  replace H : (if t142 = true then ((mezzanineref14_bit.f a0 0).bind fun t143 => (if t143 = true then (some (IntKind.u64.wrap ((IntKind.u64.wrap (a0 - (Int.tmod a0 4))) + (IntKind.u64.wrap (4 * (Int.tmod a1 9223372036854775808)))))) else (some (IntKind.u64.wrap (a0 - (Int.tmod a0 4)))))) else (some (IntKind.u64.wrap (a0 - (Int.tmod a0 4))))) = some r := H
  have A3 := Aside0.mk A30
  clear A30
  by_cases c4 : t142 = true
  · subst c4
    have H1 : ((mezzanineref14_bit.f a0 0).bind fun t143 => (if t143 = true then (some (IntKind.u64.wrap ((IntKind.u64.wrap (a0 - (Int.tmod a0 4))) + (IntKind.u64.wrap (4 * (Int.tmod a1 9223372036854775808)))))) else (some (IntKind.u64.wrap (a0 - (Int.tmod a0 4)))))) = some r := by rw [if_pos rfl] at H; exact H
    clear H
    have H := H1
    clear H1
    replace H := Option.bind_eq_some_iff.mp H
    obtain ⟨t143, A50, H⟩ := H
    replace H : (if t143 = true then (some (IntKind.u64.wrap ((IntKind.u64.wrap (a0 - (Int.tmod a0 4))) + (IntKind.u64.wrap (4 * (Int.tmod a1 9223372036854775808)))))) else (some (IntKind.u64.wrap (a0 - (Int.tmod a0 4))))) = some r := H
    have A5 := Aside0.mk A50
    clear A50
    by_cases c6 : t143 = true
    · subst c6
      have H1 : (some (IntKind.u64.wrap ((IntKind.u64.wrap (a0 - (Int.tmod a0 4))) + (IntKind.u64.wrap (4 * (Int.tmod a1 9223372036854775808)))))) = some r := by rw [if_pos rfl] at H; exact H
      clear H
      have H := H1
      clear H1
      obtain rfl := Option.some.inj H
      go_enter Try.func22, Try.ntmps22
      go_wp2_with (first | ((with_reducible refine gate_callee (f := 17) rfl ?_); refine goesL_ (some 11) rfl rfl Try.func17 (by kernel_rfl) rfl #[.int .u64 a1, .int .u64 63] rfl (by (try simp only [List.map_toArray, List.map_cons, List.map_nil]); first | done | rfl | (simp only [List.length_drop, List.length_take]; rfl)) ?_; (with_reducible refine (mezzanineref14_bit.calls a1 63 true _ A3.out).mono ?_); rintro e w' ⟨rfl, ⟨nd, rfl⟩⟩; refine ⟨_, rfl, ?_⟩) | (go_at_call 17; (with_reducible refine (mezzanineref14_bit.calls a0 0 true _ A5.out).mono ?_); rintro e w' ⟨rfl, ⟨nd, rfl⟩⟩))
      go_ret
      exact ⟨by first | rfl | (simp; done) | (simp [*]; done), by repeat (first | exact Drawn0.refl _ | apply Drawn0.step)⟩
    · replace c6 := Bool.eq_false_iff.mpr c6
      subst c6
      have H1 : (some (IntKind.u64.wrap (a0 - (Int.tmod a0 4)))) = some r := by rw [if_neg (show ¬ (false = true) by decide)] at H; exact H
      clear H
      have H := H1
      clear H1
      obtain rfl := Option.some.inj H
      go_enter Try.func22, Try.ntmps22
      go_wp2_with (first | ((with_reducible refine gate_callee (f := 17) rfl ?_); refine goesL_ (some 11) rfl rfl Try.func17 (by kernel_rfl) rfl #[.int .u64 a1, .int .u64 63] rfl (by (try simp only [List.map_toArray, List.map_cons, List.map_nil]); first | done | rfl | (simp only [List.length_drop, List.length_take]; rfl)) ?_; (with_reducible refine (mezzanineref14_bit.calls a1 63 true _ A3.out).mono ?_); rintro e w' ⟨rfl, ⟨nd, rfl⟩⟩; refine ⟨_, rfl, ?_⟩) | (go_at_call 17; (with_reducible refine (mezzanineref14_bit.calls a0 0 false _ A5.out).mono ?_); rintro e w' ⟨rfl, ⟨nd, rfl⟩⟩))
      go_ret
      exact ⟨by first | rfl | (simp; done) | (simp [*]; done), by repeat (first | exact Drawn0.refl _ | apply Drawn0.step)⟩
  · replace c4 := Bool.eq_false_iff.mpr c4
    subst c4
    have H1 : (some (IntKind.u64.wrap (a0 - (Int.tmod a0 4)))) = some r := by rw [if_neg (show ¬ (false = true) by decide)] at H; exact H
    clear H
    have H := H1
    clear H1
    obtain rfl := Option.some.inj H
    go_enter Try.func22, Try.ntmps22
    go_wp2_with (first | ((with_reducible refine gate_callee (f := 17) rfl ?_); refine goesL_ (some 11) rfl rfl Try.func17 (by kernel_rfl) rfl #[.int .u64 a1, .int .u64 63] rfl (by (try simp only [List.map_toArray, List.map_cons, List.map_nil]); first | done | rfl | (simp only [List.length_drop, List.length_take]; rfl)) ?_; (with_reducible refine (mezzanineref14_bit.calls a1 63 false _ A3.out).mono ?_); rintro e w' ⟨rfl, ⟨nd, rfl⟩⟩; refine ⟨_, rfl, ?_⟩))
    go_ret
    exact ⟨by first | rfl | (simp; done) | (simp [*]; done), by repeat (first | exact Drawn0.refl _ | apply Drawn0.step)⟩

-- NOT PRINTED: function 9 (mezzanineref14_Enter)

-- NOT PRINTED: function 11 (trap_Mret)

-- NOT PRINTED: function 10 (mezzaninelaw14_wakes)

-- NOT PRINTED: function 3 (mezzaninelaw14_TrapEnters)

-- NOT PRINTED: function 4 (mezzaninelaw14_TrapQuiet)

-- NOT PRINTED: function 12 (mezzanineref14_Mret)

/-! ### trap_given: function 23 -/
def trap_given.f (a0 : Int) : Option (Int × Int) := (trap_on.f a0 5).bind fun t200 => ((trap_set.f a0 1 t200).bind fun t201 => ((trap_set.f t201 5 true).bind fun t202 => ((trap_set.f t202 8 false).bind fun t203 => ((trap_on.f a0 8).bind fun t204 => (if t204 = true then (some (t203, 1)) else (some (t203, 0)))))))
set_option maxHeartbeats 8000000 in
set_option maxRecDepth 100000 in
theorem trap_given.calls (a0 : Int) (r1 : Int) (r2 : Int) (w : World) (h : trap_given.f a0 = some (r1, r2)) :
    Calls Try.prog 23 #[.int .u64 a0] w fun e w' => e = .returned (.tuple #[.int .u64 r1, .int .u8 r2]) ∧ Drawn0 w w' := by
  have H : ((trap_on.f a0 5).bind fun t200 => ((trap_set.f a0 1 t200).bind fun t201 => ((trap_set.f t201 5 true).bind fun t202 => ((trap_set.f t202 8 false).bind fun t203 => ((trap_on.f a0 8).bind fun t204 => (if t204 = true then (some (t203, 1)) else (some (t203, 0)))))))) = some (r1, r2) := h
  clear h
  replace H := Option.bind_eq_some_iff.mp H
  obtain ⟨t200, A20, H⟩ := H
  replace H : ((trap_set.f a0 1 t200).bind fun t201 => ((trap_set.f t201 5 true).bind fun t202 => ((trap_set.f t202 8 false).bind fun t203 => ((trap_on.f a0 8).bind fun t204 => (if t204 = true then (some (t203, 1)) else (some (t203, 0))))))) = some (r1, r2) := H
  have A2 := Aside0.mk A20
  clear A20
  replace H := Option.bind_eq_some_iff.mp H
  obtain ⟨t201, A30, H⟩ := H
  replace H : ((trap_set.f t201 5 true).bind fun t202 => ((trap_set.f t202 8 false).bind fun t203 => ((trap_on.f a0 8).bind fun t204 => (if t204 = true then (some (t203, 1)) else (some (t203, 0)))))) = some (r1, r2) := H
  have A3 := Aside0.mk A30
  clear A30
  replace H := Option.bind_eq_some_iff.mp H
  obtain ⟨t202, A40, H⟩ := H
  replace H : ((trap_set.f t202 8 false).bind fun t203 => ((trap_on.f a0 8).bind fun t204 => (if t204 = true then (some (t203, 1)) else (some (t203, 0))))) = some (r1, r2) := H
  have A4 := Aside0.mk A40
  clear A40
  replace H := Option.bind_eq_some_iff.mp H
  obtain ⟨t203, A50, H⟩ := H
  replace H : ((trap_on.f a0 8).bind fun t204 => (if t204 = true then (some (t203, 1)) else (some (t203, 0)))) = some (r1, r2) := H
  have A5 := Aside0.mk A50
  clear A50
  replace H := Option.bind_eq_some_iff.mp H
  obtain ⟨t204, A60, H⟩ := H
  replace H : (if t204 = true then (some (t203, 1)) else (some (t203, 0))) = some (r1, r2) := H
  have A6 := Aside0.mk A60
  clear A60
  by_cases c7 : t204 = true
  · subst c7
    have H1 : (some (t203, 1)) = some (r1, r2) := by rw [if_pos rfl] at H; exact H
    clear H
    have H := H1
    clear H1
    simp only [Option.some.injEq, Prod.mk.injEq] at H
    obtain ⟨rfl, rfl⟩ := H
    go_enter Try.func23, Try.ntmps23
    go_wp2_with (first | ((with_reducible refine gate_callee (f := 16) rfl ?_); refine goesL_ (some 6) rfl rfl Try.func16 (by kernel_rfl) rfl #[.int .u64 a0, .int .i64 5] rfl (by (try simp only [List.map_toArray, List.map_cons, List.map_nil]); first | done | rfl | (simp only [List.length_drop, List.length_take]; rfl)) ?_; (with_reducible refine (trap_on.calls a0 5 t200 _ A2.out).mono ?_); rintro e w' ⟨rfl, ⟨nd, rfl⟩⟩; refine ⟨_, rfl, ?_⟩) | ((with_reducible refine gate_callee (f := 18) rfl ?_); refine goesL_ (some 7) rfl rfl Try.func18 (by kernel_rfl) rfl #[.int .u64 a0, .int .i64 1, .bool t200] rfl (by (try simp only [List.map_toArray, List.map_cons, List.map_nil]); first | done | rfl | (simp only [List.length_drop, List.length_take]; rfl)) ?_; (with_reducible refine (trap_set.calls a0 1 t200 t201 _ A3.out).mono ?_); rintro e w' ⟨rfl, ⟨nd, rfl⟩⟩; refine ⟨_, rfl, ?_⟩) | ((with_reducible refine gate_callee (f := 18) rfl ?_); refine goesL_ (some 8) rfl rfl Try.func18 (by kernel_rfl) rfl #[.int .u64 t201, .int .i64 5, .bool true] rfl (by (try simp only [List.map_toArray, List.map_cons, List.map_nil]); first | done | rfl | (simp only [List.length_drop, List.length_take]; rfl)) ?_; (with_reducible refine (trap_set.calls t201 5 true t202 _ A4.out).mono ?_); rintro e w' ⟨rfl, ⟨nd, rfl⟩⟩; refine ⟨_, rfl, ?_⟩) | ((with_reducible refine gate_callee (f := 18) rfl ?_); refine goesL_ (some 9) rfl rfl Try.func18 (by kernel_rfl) rfl #[.int .u64 t202, .int .i64 8, .bool false] rfl (by (try simp only [List.map_toArray, List.map_cons, List.map_nil]); first | done | rfl | (simp only [List.length_drop, List.length_take]; rfl)) ?_; (with_reducible refine (trap_set.calls t202 8 false t203 _ A5.out).mono ?_); rintro e w' ⟨rfl, ⟨nd, rfl⟩⟩; refine ⟨_, rfl, ?_⟩) | ((with_reducible refine gate_callee (f := 16) rfl ?_); refine goesL_ (some 11) rfl rfl Try.func16 (by kernel_rfl) rfl #[.int .u64 a0, .int .i64 8] rfl (by (try simp only [List.map_toArray, List.map_cons, List.map_nil]); first | done | rfl | (simp only [List.length_drop, List.length_take]; rfl)) ?_; (with_reducible refine (trap_on.calls a0 8 true _ A6.out).mono ?_); rintro e w' ⟨rfl, ⟨nd, rfl⟩⟩; refine ⟨_, rfl, ?_⟩))
    go_ret2
    exact ⟨by first | rfl | (simp; done) | (simp [*]; done), by repeat (first | exact Drawn0.refl _ | apply Drawn0.step)⟩
  · replace c7 := Bool.eq_false_iff.mpr c7
    subst c7
    have H1 : (some (t203, 0)) = some (r1, r2) := by rw [if_neg (show ¬ (false = true) by decide)] at H; exact H
    clear H
    have H := H1
    clear H1
    simp only [Option.some.injEq, Prod.mk.injEq] at H
    obtain ⟨rfl, rfl⟩ := H
    go_enter Try.func23, Try.ntmps23
    go_wp2_with (first | ((with_reducible refine gate_callee (f := 16) rfl ?_); refine goesL_ (some 6) rfl rfl Try.func16 (by kernel_rfl) rfl #[.int .u64 a0, .int .i64 5] rfl (by (try simp only [List.map_toArray, List.map_cons, List.map_nil]); first | done | rfl | (simp only [List.length_drop, List.length_take]; rfl)) ?_; (with_reducible refine (trap_on.calls a0 5 t200 _ A2.out).mono ?_); rintro e w' ⟨rfl, ⟨nd, rfl⟩⟩; refine ⟨_, rfl, ?_⟩) | ((with_reducible refine gate_callee (f := 18) rfl ?_); refine goesL_ (some 7) rfl rfl Try.func18 (by kernel_rfl) rfl #[.int .u64 a0, .int .i64 1, .bool t200] rfl (by (try simp only [List.map_toArray, List.map_cons, List.map_nil]); first | done | rfl | (simp only [List.length_drop, List.length_take]; rfl)) ?_; (with_reducible refine (trap_set.calls a0 1 t200 t201 _ A3.out).mono ?_); rintro e w' ⟨rfl, ⟨nd, rfl⟩⟩; refine ⟨_, rfl, ?_⟩) | ((with_reducible refine gate_callee (f := 18) rfl ?_); refine goesL_ (some 8) rfl rfl Try.func18 (by kernel_rfl) rfl #[.int .u64 t201, .int .i64 5, .bool true] rfl (by (try simp only [List.map_toArray, List.map_cons, List.map_nil]); first | done | rfl | (simp only [List.length_drop, List.length_take]; rfl)) ?_; (with_reducible refine (trap_set.calls t201 5 true t202 _ A4.out).mono ?_); rintro e w' ⟨rfl, ⟨nd, rfl⟩⟩; refine ⟨_, rfl, ?_⟩) | ((with_reducible refine gate_callee (f := 18) rfl ?_); refine goesL_ (some 9) rfl rfl Try.func18 (by kernel_rfl) rfl #[.int .u64 t202, .int .i64 8, .bool false] rfl (by (try simp only [List.map_toArray, List.map_cons, List.map_nil]); first | done | rfl | (simp only [List.length_drop, List.length_take]; rfl)) ?_; (with_reducible refine (trap_set.calls t202 8 false t203 _ A5.out).mono ?_); rintro e w' ⟨rfl, ⟨nd, rfl⟩⟩; refine ⟨_, rfl, ?_⟩) | ((with_reducible refine gate_callee (f := 16) rfl ?_); refine goesL_ (some 11) rfl rfl Try.func16 (by kernel_rfl) rfl #[.int .u64 a0, .int .i64 8] rfl (by (try simp only [List.map_toArray, List.map_cons, List.map_nil]); first | done | rfl | (simp only [List.length_drop, List.length_take]; rfl)) ?_; (with_reducible refine (trap_on.calls a0 8 false _ A6.out).mono ?_); rintro e w' ⟨rfl, ⟨nd, rfl⟩⟩; refine ⟨_, rfl, ?_⟩))
    go_ret2
    exact ⟨by first | rfl | (simp; done) | (simp [*]; done), by repeat (first | exact Drawn0.refl _ | apply Drawn0.step)⟩

end Go.Proofs.Ytfehchhmghpfpaa.Q
