/- What the printed functions of package pte tell, as bits: those of PteMarks alone. -/
import Derived.Test.YteebgfcihoidmaaRQx3
import Derived.Test.YteebgfcihoidmaaRQx2

import Derived.Test.YteebgfcihoidmaaRArr
set_option linter.unusedSimpArgs false
set_option linter.unusedVariables false
namespace Go.Proofs.YteebgfcihoidmaaR.Q
open Go.RowKit Go.Proofs.YteebgfcihoidmaaRW.PrintWords Go.Proofs.YteebgfcihoidmaaRW.PrintLast Go.Proofs.YteebgfcihoidmaaRW.PrintMore
/-! ### pte_Full: function 23 -/
def pte_Full.f (a0 : Int) (a1_0 : Int) (a1_1 : Bool) (a1_2 : Int) (a1_3 : Bool) (a1_4 : Bool) (a1_5 : Bool) (a1_6 : Bool) : Option (Bool) := if (Go.bits .and .u64 a0 64) = 0 then (some false) else (if a1_0 = 1 then (some ((Go.bits .and .u64 a0 128) != 0)) else (some true))
set_option maxHeartbeats 8000000 in
set_option maxRecDepth 100000 in
theorem pte_Full.calls (a0 : Int) (a1_0 : Int) (a1_1 : Bool) (a1_2 : Int) (a1_3 : Bool) (a1_4 : Bool) (a1_5 : Bool) (a1_6 : Bool) (r : Bool) (w : World) (h : pte_Full.f a0 a1_0 a1_1 a1_2 a1_3 a1_4 a1_5 a1_6 = some r) :
    Calls Try.prog 23 #[.int .u64 a0, .agg #[.int .u8 a1_0, .bool a1_1, .int .u8 a1_2, .bool a1_3, .bool a1_4, .bool a1_5, .bool a1_6]] w fun e w' => e = .returned (.bool r) ∧ Below w.heap.size w w' := by
  have hu32 := Try.underlying32
  have HB := Aside0.mk (Below.refl w.heap.size w)
  have H : (if (Go.bits .and .u64 a0 64) = 0 then (some false) else (if a1_0 = 1 then (some ((Go.bits .and .u64 a0 128) != 0)) else (some true))) = some r := h
  clear h
  by_cases c3 : (Go.bits .and .u64 a0 64) = 0
  · rw [if_pos c3] at H
    have c3b0 : ((Go.bits .and .u64 a0 64) == 0) = true := beq_iff_eq.mpr c3
    have c3b1 : ((Go.bits .and .u64 a0 64) != 0) = false := bne_eq_false_iff_eq.mpr c3
    clear c3
    obtain rfl := Option.some.inj H
    go_enter Try.func23, Try.ntmps23
    go_wp2_with (first | ((with_reducible refine gate_dst (N := 3) rfl ?_); refine box_event ?hg (N := 3) ?hd (cs := #[.int .u8 a1_0, .bool a1_1, .int .u8 a1_2, .bool a1_3, .bool a1_4, .bool a1_5, .bool a1_6]) (t := 32) ?hr ?_; (case hd => rfl); (case hg => rfl); (case hr => first | (go_simp; done) | (go_simp; rfl)); intro gb165 hg w4 hbox hb; have n0_ := Aside0.mk (below_step (by repeat (first | (with_reducible first | exact HB.out | apply below_alloc | apply pw_below_drewN | apply below_drew1) | exact HB.out)) hb); have n1_ := Aside0.mk (hbox); have n2_ := Aside0.mk ((by rw [hg]; exact (below_size (by repeat (first | (with_reducible first | exact HB.out | apply below_alloc | apply pw_below_drewN | apply below_drew1) | exact HB.out))) : w.heap.size ≤ gb165)); have n3_ := Aside0.mk ((by rw [hg]; exact (below_size (by repeat (first | (with_reducible first | exact HB.out | apply below_alloc | apply pw_below_drewN | apply below_drew1) | exact HB.out))) : w.heap.size ≤ gb165)); clear HB; have HB := n0_; have BK165 := n1_; have GW165 := n2_; have GE165 := n3_; clear n0_ n1_ n2_ n3_; clear hb hbox hg))
    go_ret
    exact ⟨by first | rfl | (simp [errW_none, errW_some] <;> rfl) | (simp [*, errW_none, errW_some] <;> rfl), by repeat (first | (with_reducible first | exact HB.out | apply below_alloc | apply pw_below_drewN | apply below_drew1 | refine below_set ?_ GE165.out) | exact HB.out)⟩
  · rw [if_neg c3] at H
    have c3b0 : ((Go.bits .and .u64 a0 64) == 0) = false := beq_eq_false_iff_ne.mpr c3
    have c3b1 : ((Go.bits .and .u64 a0 64) != 0) = true := bne_iff_ne.mpr c3
    by_cases c5 : a1_0 = 1
    · rw [if_pos c5] at H
      have c5b0 : (a1_0 == 1) = true := beq_iff_eq.mpr c5
      have c5b1 : (a1_0 != 1) = false := bne_eq_false_iff_eq.mpr c5
      clear c5
      obtain rfl := Option.some.inj H
      go_enter Try.func23, Try.ntmps23
      go_wp2_with (first | ((with_reducible refine gate_dst (N := 3) rfl ?_); refine box_event ?hg (N := 3) ?hd (cs := #[.int .u8 a1_0, .bool a1_1, .int .u8 a1_2, .bool a1_3, .bool a1_4, .bool a1_5, .bool a1_6]) (t := 32) ?hr ?_; (case hd => rfl); (case hg => rfl); (case hr => first | (go_simp; done) | (go_simp; rfl)); intro gb165 hg w6 hbox hb; have n0_ := Aside0.mk (below_step (by repeat (first | (with_reducible first | exact HB.out | apply below_alloc | apply pw_below_drewN | apply below_drew1) | exact HB.out)) hb); have n1_ := Aside0.mk (hbox); have n2_ := Aside0.mk ((by rw [hg]; exact (below_size (by repeat (first | (with_reducible first | exact HB.out | apply below_alloc | apply pw_below_drewN | apply below_drew1) | exact HB.out))) : w.heap.size ≤ gb165)); have n3_ := Aside0.mk ((by rw [hg]; exact (below_size (by repeat (first | (with_reducible first | exact HB.out | apply below_alloc | apply pw_below_drewN | apply below_drew1) | exact HB.out))) : w.heap.size ≤ gb165)); clear HB; have HB := n0_; have BK165 := n1_; have GW165 := n2_; have GE165 := n3_; clear n0_ n1_ n2_ n3_; clear hb hbox hg; have hcz7_0 : w6.cell? ⟨gb165, 0, none⟩ = some (.int .u8 a1_0) := (blk_cell BK165.out 0).trans rfl; have hcz7_1 : w6.cell? ⟨gb165, 1, none⟩ = some (.bool a1_1) := (blk_cell BK165.out 1).trans rfl; have hcz7_2 : w6.cell? ⟨gb165, 2, none⟩ = some (.int .u8 a1_2) := (blk_cell BK165.out 2).trans rfl; have hcz7_3 : w6.cell? ⟨gb165, 3, none⟩ = some (.bool a1_3) := (blk_cell BK165.out 3).trans rfl; have hcz7_4 : w6.cell? ⟨gb165, 4, none⟩ = some (.bool a1_4) := (blk_cell BK165.out 4).trans rfl; have hcz7_5 : w6.cell? ⟨gb165, 5, none⟩ = some (.bool a1_5) := (blk_cell BK165.out 5).trans rfl; have hcz7_6 : w6.cell? ⟨gb165, 6, none⟩ = some (.bool a1_6) := (blk_cell BK165.out 6).trans rfl; have hfz7_0 := blk_frozen BK165.out 0; have hfz7_1 := blk_frozen BK165.out 1; have hfz7_2 := blk_frozen BK165.out 2; have hfz7_3 := blk_frozen BK165.out 3; have hfz7_4 := blk_frozen BK165.out 4; have hfz7_5 := blk_frozen BK165.out 5; have hfz7_6 := blk_frozen BK165.out 6))
      go_ret
      exact ⟨by first | rfl | (simp [errW_none, errW_some] <;> rfl) | (simp [*, errW_none, errW_some] <;> rfl), by repeat (first | (with_reducible first | exact HB.out | apply below_alloc | apply pw_below_drewN | apply below_drew1 | refine below_set ?_ GE165.out) | exact HB.out)⟩
    · rw [if_neg c5] at H
      have c5b0 : (a1_0 == 1) = false := beq_eq_false_iff_ne.mpr c5
      have c5b1 : (a1_0 != 1) = true := bne_iff_ne.mpr c5
      obtain rfl := Option.some.inj H
      go_enter Try.func23, Try.ntmps23
      go_wp2_with (first | ((with_reducible refine gate_dst (N := 3) rfl ?_); refine box_event ?hg (N := 3) ?hd (cs := #[.int .u8 a1_0, .bool a1_1, .int .u8 a1_2, .bool a1_3, .bool a1_4, .bool a1_5, .bool a1_6]) (t := 32) ?hr ?_; (case hd => rfl); (case hg => rfl); (case hr => first | (go_simp; done) | (go_simp; rfl)); intro gb165 hg w8 hbox hb; have n0_ := Aside0.mk (below_step (by repeat (first | (with_reducible first | exact HB.out | apply below_alloc | apply pw_below_drewN | apply below_drew1) | exact HB.out)) hb); have n1_ := Aside0.mk (hbox); have n2_ := Aside0.mk ((by rw [hg]; exact (below_size (by repeat (first | (with_reducible first | exact HB.out | apply below_alloc | apply pw_below_drewN | apply below_drew1) | exact HB.out))) : w.heap.size ≤ gb165)); have n3_ := Aside0.mk ((by rw [hg]; exact (below_size (by repeat (first | (with_reducible first | exact HB.out | apply below_alloc | apply pw_below_drewN | apply below_drew1) | exact HB.out))) : w.heap.size ≤ gb165)); clear HB; have HB := n0_; have BK165 := n1_; have GW165 := n2_; have GE165 := n3_; clear n0_ n1_ n2_ n3_; clear hb hbox hg; have hcz9_0 : w8.cell? ⟨gb165, 0, none⟩ = some (.int .u8 a1_0) := (blk_cell BK165.out 0).trans rfl; have hcz9_1 : w8.cell? ⟨gb165, 1, none⟩ = some (.bool a1_1) := (blk_cell BK165.out 1).trans rfl; have hcz9_2 : w8.cell? ⟨gb165, 2, none⟩ = some (.int .u8 a1_2) := (blk_cell BK165.out 2).trans rfl; have hcz9_3 : w8.cell? ⟨gb165, 3, none⟩ = some (.bool a1_3) := (blk_cell BK165.out 3).trans rfl; have hcz9_4 : w8.cell? ⟨gb165, 4, none⟩ = some (.bool a1_4) := (blk_cell BK165.out 4).trans rfl; have hcz9_5 : w8.cell? ⟨gb165, 5, none⟩ = some (.bool a1_5) := (blk_cell BK165.out 5).trans rfl; have hcz9_6 : w8.cell? ⟨gb165, 6, none⟩ = some (.bool a1_6) := (blk_cell BK165.out 6).trans rfl; have hfz9_0 := blk_frozen BK165.out 0; have hfz9_1 := blk_frozen BK165.out 1; have hfz9_2 := blk_frozen BK165.out 2; have hfz9_3 := blk_frozen BK165.out 3; have hfz9_4 := blk_frozen BK165.out 4; have hfz9_5 := blk_frozen BK165.out 5; have hfz9_6 := blk_frozen BK165.out 6))
      go_ret
      exact ⟨by first | rfl | (simp [errW_none, errW_some] <;> rfl) | (simp [*, errW_none, errW_some] <;> rfl), by repeat (first | (with_reducible first | exact HB.out | apply below_alloc | apply pw_below_drewN | apply below_drew1 | refine below_set ?_ GE165.out) | exact HB.out)⟩


end Go.Proofs.YteebgfcihoidmaaR.Q
namespace Go.Proofs.YteebgfcihoidmaaR.QF
open Go.RowKit Go.Proofs.YteebgfcihoidmaaR.Q Go.Proofs.YteebgfcihoidmaaRW.PrintWords Go.Proofs.YteebgfcihoidmaaRW.PrintLast Go.Proofs.YteebgfcihoidmaaRW.PrintMore Go.Proofs.YteebgfcihoidmaaR.Bv
theorem bsm {α β : Type} (a : α) (f : α → Option β) : (some a).bind f = f a := by cases h : (some a).bind f <;> simp_all

theorem pte_awake (k : Nat) : mezzaninelaw15_awake.f (k + 5) = some true := by kernel_rfl

theorem U_nat (x : BitVec 64) : U x = (x.toNat : Int) := rfl

theorem and_low (a m : Nat) (hm : m < 256) : a &&& m = (a % 256) &&& m := by
  apply Nat.eq_of_testBit_eq; intro i
  rw [Nat.testBit_and, Nat.testBit_and, show (256 : Nat) = 2 ^ 8 from rfl, Nat.testBit_mod_two_pow]
  by_cases h : i < 8
  · simp [h]
  · rw [Nat.testBit_lt_two_pow (x := m) (i := i) (Nat.lt_of_lt_of_le hm (by rw [show 256 = 2 ^ 8 from rfl]; exact Nat.pow_le_pow_right (by decide) (by omega)))]; simp

theorem bit_low (x : BitVec 64) (i : Nat) (h : i < 8) : bitOf x i = (x.toNat % 256).testBit i := by
  unfold bitOf; rw [← BitVec.testBit_toNat, show (256 : Nat) = 2 ^ 8 from rfl, Nat.testBit_mod_two_pow]; simp [h]

theorem and_lit (x : BitVec 64) (m : Nat) (hm : m < 256) : Go.bits .and .u64 (U x) (m : Int) = (((x.toNat % 256) &&& m : Nat) : Int) := by
  rw [U_nat, u64_and_nat _ _ x.isLt (by omega), and_low _ _ hm]

theorem small {P : Nat → Prop} (h : ∀ v : Fin 256, P v.val) (x : BitVec 64) : P (x.toNat % 256) := h ⟨x.toNat % 256, Nat.mod_lt _ (by decide)⟩

theorem f1 (x : BitVec 64) : (Go.bits .and .u64 (U x) 1 = 0) = (bitOf x 0 = false) := by
  rw [show (1 : Int) = ((1 : Nat) : Int) from rfl, and_lit x 1 (by decide), bit_low x 0 (by decide), eq_iff_iff]
  exact small (P := fun v => ((((v &&& 1 : Nat) : Int) = 0) ↔ v.testBit 0 = false)) (by decide +kernel) x

theorem f1' (x : BitVec 64) : (Go.bits .and .u64 (U x) 1 == 0) = !bitOf x 0 := by
  rw [show (1 : Int) = ((1 : Nat) : Int) from rfl, and_lit x 1 (by decide), bit_low x 0 (by decide)]
  exact small (P := fun v => ((((v &&& 1 : Nat) : Int) == 0) = !v.testBit 0)) (by decide +kernel) x

theorem f6 (x : BitVec 64) : (Go.bits .and .u64 (U x) 6 = 4) = (bitOf x 2 = true ∧ bitOf x 1 = false) := by
  rw [show (6 : Int) = ((6 : Nat) : Int) from rfl, and_lit x 6 (by decide), bit_low x 2 (by decide), bit_low x 1 (by decide), eq_iff_iff]
  exact small (P := fun v => ((((v &&& 6 : Nat) : Int) = 4) ↔ (v.testBit 2 = true ∧ v.testBit 1 = false))) (by decide +kernel) x

theorem f6' (x : BitVec 64) : (Go.bits .and .u64 (U x) 6 == 4) = (bitOf x 2 && !bitOf x 1) := by
  rw [show (6 : Int) = ((6 : Nat) : Int) from rfl, and_lit x 6 (by decide), bit_low x 2 (by decide), bit_low x 1 (by decide)]
  exact small (P := fun v => ((((v &&& 6 : Nat) : Int) == 4) = (v.testBit 2 && !v.testBit 1))) (by decide +kernel) x

theorem f10 (x : BitVec 64) : (Go.bits .and .u64 (U x) 10 != 0) = (bitOf x 1 || bitOf x 3) := by
  rw [show (10 : Int) = ((10 : Nat) : Int) from rfl, and_lit x 10 (by decide), bit_low x 1 (by decide), bit_low x 3 (by decide)]
  exact small (P := fun v => ((((v &&& 10 : Nat) : Int) != 0) = (v.testBit 1 || v.testBit 3))) (by decide +kernel) x

theorem f208 (x : BitVec 64) : (Go.bits .and .u64 (U x) 208 == 0) = (!bitOf x 4 && !bitOf x 6 && !bitOf x 7) := by
  rw [show (208 : Int) = ((208 : Nat) : Int) from rfl, and_lit x 208 (by decide), bit_low x 4 (by decide), bit_low x 6 (by decide), bit_low x 7 (by decide)]
  exact small (P := fun v => ((((v &&& 208 : Nat) : Int) == 0) = (!v.testBit 4 && !v.testBit 6 && !v.testBit 7))) (by decide +kernel) x

theorem one (x : BitVec 64) (i : Nat) (hi : i < 8) : (Go.bits .and .u64 (U x) ((2 ^ i : Nat) : Int) = 0) = (bitOf x i = false) := by
  have hp : 2 ^ i < 256 := by rw [show 256 = 2 ^ 8 from rfl]; exact Nat.pow_lt_pow_right (by decide) hi
  have h : ∀ i : Fin 8, ∀ v : Fin 256, ((((v.val &&& 2 ^ i.val : Nat) : Int) = 0) ↔ v.val.testBit i.val = false) := by decide +kernel
  rw [and_lit x _ hp, bit_low x i hi, eq_iff_iff]
  exact h ⟨i, hi⟩ ⟨x.toNat % 256, Nat.mod_lt _ (by decide)⟩

theorem one' (x : BitVec 64) (i : Nat) (hi : i < 8) : (Go.bits .and .u64 (U x) ((2 ^ i : Nat) : Int) != 0) = bitOf x i := by
  have h := one x i hi
  cases hb : bitOf x i
  · rw [hb] at h; have h2 := h.mpr rfl; rw [h2]; rfl
  · rw [hb] at h; rw [bne_iff_ne]; intro h2; have := h.mp h2; cases this

theorem t2 (x : BitVec 64) : (Go.bits .and .u64 (U x) 2 = 0) = (bitOf x 1 = false) := one x 1 (by decide)

theorem t8 (x : BitVec 64) : (Go.bits .and .u64 (U x) 8 = 0) = (bitOf x 3 = false) := one x 3 (by decide)

theorem t16 (x : BitVec 64) : (Go.bits .and .u64 (U x) 16 = 0) = (bitOf x 4 = false) := one x 4 (by decide)

theorem t64 (x : BitVec 64) : (Go.bits .and .u64 (U x) 64 = 0) = (bitOf x 6 = false) := one x 6 (by decide)

theorem n4 (x : BitVec 64) : (Go.bits .and .u64 (U x) 4 != 0) = bitOf x 2 := one' x 2 (by decide)

theorem n8 (x : BitVec 64) : (Go.bits .and .u64 (U x) 8 != 0) = bitOf x 3 := one' x 3 (by decide)

theorem n16 (x : BitVec 64) : (Go.bits .and .u64 (U x) 16 != 0) = bitOf x 4 := one' x 4 (by decide)

theorem n128 (x : BitVec 64) : (Go.bits .and .u64 (U x) 128 != 0) = bitOf x 7 := one' x 7 (by decide)

def lf (x : BitVec 64) : Bool := bitOf x 1 || bitOf x 3

def okE (x : BitVec 64) : Bool := bitOf x 0 && !(bitOf x 2 && !bitOf x 1) && decide (x.toNat / 18014398509481984 = 0) && (lf x || (!bitOf x 4 && !bitOf x 6 && !bitOf x 7))

theorem leaf_eq (x : BitVec 64) : pte_Leaf.f (U x) = some (lf x) := by unfold pte_Leaf.f lf; rw [f10]

theorem free_eq (x : BitVec 64) : (U x / 18014398509481984 != 0) = !decide (x.toNat / 18014398509481984 = 0) := by
  have e : U x / 18014398509481984 = ((x.toNat / 18014398509481984 : Nat) : Int) := by rw [U_nat]; omega
  rw [e, Bool.eq_iff_iff, bne_iff_ne, Bool.not_eq_true', decide_eq_false_iff_not]; omega

theorem ok_eq (x : BitVec 64) (k : Nat) : pte_Ok.f (k + 1) (U x) = some (okE x) := by
  unfold pte_Ok.f okE
  rw [pte_Ok.j0, pte_Ok.j0, pte_Ok.j0, leaf_eq, f1', f6', free_eq, f208, bsm]
  simp only [f1, f6]
  generalize lf x = l
  generalize decide (x.toNat / 18014398509481984 = 0) = z
  generalize bitOf x 0 = b0; generalize bitOf x 1 = b1; generalize bitOf x 2 = b2; generalize bitOf x 4 = b4; generalize bitOf x 6 = b6; generalize bitOf x 7 = b7
  cases b0 <;> cases b1 <;> cases b2 <;> cases z <;> cases l <;> simp

def md (x : BitVec 64) (kind priv : Int) (sum : Bool) : Bool := if priv = 0 then bitOf x 4 else (!bitOf x 4 || (decide (kind ≠ 2) && sum))

def al (x : BitVec 64) (kind : Int) (exec : Bool) (priv : Int) (v sum mxr vmxr : Bool) : Bool :=
  md x kind priv sum && (if kind = 2 then bitOf x 3 else if kind = 1 then bitOf x 2 else if kind = 0 then (if exec = true then bitOf x 3 else (bitOf x 1 || (bitOf x 3 && (mxr || (v && vmxr))))) else false)

theorem mode_eq (x : BitVec 64) (kind : Int) (exec : Bool) (priv : Int) (v sum mxr vmxr : Bool) : pte_mode.f (U x) kind exec priv v sum mxr vmxr = some (md x kind priv sum) := by
  unfold pte_mode.f md; rw [n16]; simp only [t16]
  generalize bitOf x 4 = b4
  by_cases h : priv = 0
  · simp [h]
  · by_cases h2 : kind = 2 <;> cases b4 <;> simp [h, h2]

theorem allowed_eq (x : BitVec 64) (kind : Int) (exec : Bool) (priv : Int) (v sum mxr vmxr : Bool) : pte_Allowed.f (U x) kind exec priv v sum mxr vmxr = some (al x kind exec priv v sum mxr vmxr) := by
  unfold pte_Allowed.f al
  rw [mode_eq, bsm, n8, n4]; simp only [t2, t8]
  generalize md x kind priv sum = m
  generalize bitOf x 1 = b1; generalize bitOf x 2 = b2; generalize bitOf x 3 = b3
  by_cases h0 : kind = 0
  · subst h0; cases m <;> cases exec <;> cases b1 <;> cases b3 <;> cases mxr <;> cases v <;> simp
  · by_cases h1 : kind = 1
    · subst h1; cases m <;> simp
    · by_cases h2 : kind = 2
      · subst h2; cases m <;> simp
      · cases m <;> simp [h0, h1, h2]

def fu (x : BitVec 64) (kind : Int) : Bool := bitOf x 6 && (decide (kind ≠ 1) || bitOf x 7)

theorem full_eq (x : BitVec 64) (kind : Int) (exec : Bool) (priv : Int) (v sum mxr vmxr : Bool) : pte_Full.f (U x) kind exec priv v sum mxr vmxr = some (fu x kind) := by
  unfold pte_Full.f fu; rw [n128]; simp only [t64]
  generalize bitOf x 6 = b6
  by_cases h : kind = 1 <;> cases b6 <;> simp [h]

end Go.Proofs.YteebgfcihoidmaaR.QF
