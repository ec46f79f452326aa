/- Where the Lean function of a Go function gives a value, the Go call returns that value and changes nothing that was there: for every input. (By a program of this session, and by hand.) -/
import Derived.Test.YtdfldddcaeokpaaQx0
import Derived.Test.YtdfldddcaeokpaaQx1
import Derived.Test.YtdfldddcaeokpaaQx4
import Derived.Test.YtdfldddcaeokpaaQx5
import Derived.Test.YtdfldddcaeokpaaQx6
import Derived.Test.YtdfldddcaeokpaaQx8
namespace Go.Proofs.Ytdfldddcaeokpaa.Q
open Go.RowKit Go.Proofs.YtdfldddcaeokpaaW.PrintWords Go.Proofs.YtdfldddcaeokpaaW.PrintLast Go.Proofs.YtdfldddcaeokpaaW.PrintMore
attribute [local go_sem] max2_int min2_int max_two min_two max_three min_three max_four min_four   -- for this text's walks alone
set_option linter.unusedVariables false
set_option linter.unusedSimpArgs false

/-! ### mezzaninelaw02_ArithLow: by hand -/
section
open Go.Proofs.Ytdfldddcaeokpaa.Bv
/-- What the walk asks of one operation: what Do tells of halves, of other words with these halves, of words; and where it stands in the lists. -/
def mezzaninelaw02_ArithLow.Row (a b x y : Int) (hs ws : Array Value) (i : Nat) (e : Int) : Prop :=
  ∃ p v : Int, arith_Do.f i true a b = some (p, e) ∧ arith_Do.f i true x y = some (p, e) ∧ arith_Do.f i false a b = some (v, 0) ∧ hs[i]? = some (.int .u64 p) ∧ ws[i]? = some (.int .u64 v) ∧ IntKind.u64.wrap (wrap64 (wrap32 p)) = p
def mezzaninelaw02_ArithLow.X (a c : Int) : Int := IntKind.u64.wrap (IntKind.u64.wrap (a * 4294967296) / 4294967296 + IntKind.u64.wrap (c * 4294967296))
def mezzaninelaw02_ArithLow.E (i : Nat) : Int := if i = 1 then 1 else if i = 2 then 1 else if i = 3 then 1 else 0
abbrev mezzaninelaw02_ArithLow.zs : Array Value := #[.int .u64 0, .int .u64 0, .int .u64 0, .int .u64 0, .int .u64 0, .int .u64 0, .int .u64 0, .int .u64 0]
theorem mezzaninelaw02_ArithLow.zero : (Try.prog.info? 35).map (fun i => (i.zero, i.size)) = some (some (.agg mezzaninelaw02_ArithLow.zs), 8) := by kernel_rfl
theorem mezzaninelaw02_ArithLow.one {a0 a1 a2 a3 a4 a5 a6 a7 : Int} : (#[.int .u64 a0, .int .u64 a1, .int .u64 a2, .int .u64 a3, .int .u64 a4, .int .u64 a5, .int .u64 a6, .int .u64 a7] : Array Value).all (·.oneCell') = true := by simp [Value.oneCell']
set_option maxHeartbeats 16000000 in
set_option maxRecDepth 100000 in
theorem mezzaninelaw02_ArithLow.callsB (a b c d h0 h4 h5 h6 h7 w1 w2 w3 w4 w5 w6 w7 : Int) (w : World) (haw : mezzaninelaw02_awake.f = some true)
    (e0 : arith_Mulw.f a b = some h0) (e4 : arith_Divw.f a b = some h4) (e5 : arith_Divuw.f a b = some h5) (e6 : arith_Remw.f a b = some h6) (e7 : arith_Remuw.f a b = some h7)
    (f1 : arith_Mulh.f a b = some w1) (f2 : arith_Mulhsu.f a b = some w2) (f3 : arith_Mulhu.f a b = some w3) (f4 : arith_Div.f a b = some w4) (f5 : arith_Divu.f a b = some w5) (f6 : arith_Rem.f a b = some w6) (f7 : arith_Remu.f a b = some w7)
    (hr : ∀ i, i < 8 → mezzaninelaw02_ArithLow.Row a b (mezzaninelaw02_ArithLow.X a c) (mezzaninelaw02_ArithLow.X b d) #[.int .u64 h0, .int .u64 0, .int .u64 0, .int .u64 0, .int .u64 h4, .int .u64 h5, .int .u64 h6, .int .u64 h7]
      #[.int .u64 (IntKind.u64.wrap (a * b)), .int .u64 w1, .int .u64 w2, .int .u64 w3, .int .u64 w4, .int .u64 w5, .int .u64 w6, .int .u64 w7] i (mezzaninelaw02_ArithLow.E i)) :
    Calls Try.prog 10 #[.int .u64 a, .int .u64 b, .int .u64 c, .int .u64 d] w fun e w' => e = .returned (.bool true) ∧ Below w.heap.size w w' := by
  obtain ⟨hz, hi⟩ := zero_of_info mezzaninelaw02_ArithLow.zero
  have HI := Lib.hid hi
  have HR := Lib.hid hr
  have He0 := Lib.hid e0; have He4 := Lib.hid e4; have He5 := Lib.hid e5; have He6 := Lib.hid e6; have He7 := Lib.hid e7; have Hf1 := Lib.hid f1; have Hf2 := Lib.hid f2; have Hf3 := Lib.hid f3; have Hf4 := Lib.hid f4; have Hf5 := Lib.hid f5; have Hf6 := Lib.hid f6; have Hf7 := Lib.hid f7
  have HA := Lib.hid haw
  clear hi hr e0 e4 e5 e6 e7 f1 f2 f3 f4 f5 f6 f7 haw
  go_enter Try.func10, Try.ntmps10
  go_wp2_with fail
  refine (mezzaninelaw02_awake.calls true _ HA.out).mono ?_
  rintro r0 q0 ⟨rfl, hb0⟩
  have B0 : Below w.heap.size w q0 := hb0.below
  clear hb0
  go_wp2_with fail
  refine (arith_Mulw.calls a b h0 _ He0.out).mono ?_
  rintro r1 q1 ⟨rfl, hb⟩
  have B1 := below_step B0 hb.below
  clear hb B0
  go_wp2_with fail
  refine (arith_Divw.calls a b h4 _ He4.out).mono ?_
  rintro r2 q2 ⟨rfl, hb⟩
  have B2 := below_step B1 hb.below
  clear hb B1
  go_wp2_with fail
  refine (arith_Divuw.calls a b h5 _ He5.out).mono ?_
  rintro r3 q3 ⟨rfl, hb⟩
  have B3 := below_step B2 hb.below
  clear hb B2
  go_wp2_with fail
  refine (arith_Remw.calls a b h6 _ He6.out).mono ?_
  rintro r4 q4 ⟨rfl, hb⟩
  have B4 := below_step B3 hb.below
  clear hb B3
  go_wp2_with fail
  refine (arith_Remuw.calls a b h7 _ He7.out).mono ?_
  rintro r5 q5 ⟨rfl, hb⟩
  have B5 := below_step B4 hb.below
  clear hb B4
  go_wp2_with (refine wpList_store_row rfl 35 _ _ rfl q5.heap.size #[.int .u64 h0, .int .u64 0, .int .u64 0, .int .u64 0, .int .u64 h4, .int .u64 h5, .int .u64 h6, .int .u64 h7] rfl rfl 35 mezzaninelaw02_ArithLow.zs (heap_alloc_last _ _) HI.out rfl mezzaninelaw02_ArithLow.one ?_; rw [blk_stored])
  have X5 := heap_alloc_last q5 (.cells #[.int .u64 h0, .int .u64 0, .int .u64 0, .int .u64 0, .int .u64 h4, .int .u64 h5, .int .u64 h6, .int .u64 h7] 35)
  have C5 := B5.alloc B5.size (.cells #[.int .u64 h0, .int .u64 0, .int .u64 0, .int .u64 0, .int .u64 h4, .int .u64 h5, .int .u64 h6, .int .u64 h7] 35)
  have G5 := B5.size
  clear B5
  generalize q5.alloc (.cells #[.int .u64 h0, .int .u64 0, .int .u64 0, .int .u64 0, .int .u64 h4, .int .u64 h5, .int .u64 h6, .int .u64 h7] 35) = q5a at X5 C5 ⊢
  generalize q5.heap.size = gh at X5 G5 ⊢
  refine (arith_Mulh.calls a b w1 _ Hf1.out).mono ?_
  rintro r6 q6 ⟨rfl, hb⟩
  have B6 := below_step C5 hb.below
  have X6 := blk_below hb.below X5
  clear hb C5 X5
  go_wp2_with fail
  refine (arith_Mulhsu.calls a b w2 _ Hf2.out).mono ?_
  rintro r7 q7 ⟨rfl, hb⟩
  have B7 := below_step B6 hb.below
  have X7 := blk_below hb.below X6
  clear hb B6 X6
  go_wp2_with fail
  refine (arith_Mulhu.calls a b w3 _ Hf3.out).mono ?_
  rintro r8 q8 ⟨rfl, hb⟩
  have B8 := below_step B7 hb.below
  have X8 := blk_below hb.below X7
  clear hb B7 X7
  go_wp2_with fail
  refine (arith_Div.calls a b w4 _ Hf4.out).mono ?_
  rintro r9 q9 ⟨rfl, hb⟩
  have B9 := below_step B8 hb.below
  have X9 := blk_below hb.below X8
  clear hb B8 X8
  go_wp2_with fail
  refine (arith_Divu.calls a b w5 _ Hf5.out).mono ?_
  rintro r10 q10 ⟨rfl, hb⟩
  have B10 := below_step B9 hb.below
  have X10 := blk_below hb.below X9
  clear hb B9 X9
  go_wp2_with fail
  refine (arith_Rem.calls a b w6 _ Hf6.out).mono ?_
  rintro r11 q11 ⟨rfl, hb⟩
  have B11 := below_step B10 hb.below
  have X11 := blk_below hb.below X10
  clear hb B10 X10
  go_wp2_with fail
  refine (arith_Remu.calls a b w7 _ Hf7.out).mono ?_
  rintro r12 q12 ⟨rfl, hb⟩
  have B12 := below_step B11 hb.below
  have X12 := blk_below hb.below X11
  clear hb B11 X11
  go_wp2_with (refine wpList_store_row rfl 35 _ _ rfl q12.heap.size #[.int .u64 (IntKind.u64.wrap (a * b)), .int .u64 w1, .int .u64 w2, .int .u64 w3, .int .u64 w4, .int .u64 w5, .int .u64 w6, .int .u64 w7] rfl rfl 35 mezzaninelaw02_ArithLow.zs (heap_alloc_last _ _) HI.out rfl mezzaninelaw02_ArithLow.one ?_; rw [blk_stored])
  have X12a := blk_alloc X12 (.cells #[.int .u64 (IntKind.u64.wrap (a * b)), .int .u64 w1, .int .u64 w2, .int .u64 w3, .int .u64 w4, .int .u64 w5, .int .u64 w6, .int .u64 w7] 35)
  have Y12 := heap_alloc_last q12 (.cells #[.int .u64 (IntKind.u64.wrap (a * b)), .int .u64 w1, .int .u64 w2, .int .u64 w3, .int .u64 w4, .int .u64 w5, .int .u64 w6, .int .u64 w7] 35)
  have C12 := B12.alloc B12.size (.cells #[.int .u64 (IntKind.u64.wrap (a * b)), .int .u64 w1, .int .u64 w2, .int .u64 w3, .int .u64 w4, .int .u64 w5, .int .u64 w6, .int .u64 w7] 35)
  clear B12 X12
  generalize q12.alloc (.cells #[.int .u64 (IntKind.u64.wrap (a * b)), .int .u64 w1, .int .u64 w2, .int .u64 w3, .int .u64 w4, .int .u64 w5, .int .u64 w6, .int .u64 w7] 35) = q12a at X12a Y12 C12 ⊢
  generalize q12.heap.size = gw at Y12 ⊢
  go_wp2_with fail
  go_loopw [13] (fun v13 wr => ∃ k : Nat, k ≤ 8 ∧ v13 = .int .i64 k ∧ wr.heap[gh]? = some (.cells #[.int .u64 h0, .int .u64 0, .int .u64 0, .int .u64 0, .int .u64 h4, .int .u64 h5, .int .u64 h6, .int .u64 h7] 35) ∧ wr.heap[gw]? = some (.cells #[.int .u64 (IntKind.u64.wrap (a * b)), .int .u64 w1, .int .u64 w2, .int .u64 w3, .int .u64 w4, .int .u64 w5, .int .u64 w6, .int .u64 w7] 35) ∧ Below w.heap.size w wr) (fun v13 _ => 8 - (intOf v13).toNat)
  case atStart => exact ⟨0, by omega, rfl, X12a, Y12, C12⟩
  case round =>
    obtain ⟨k, hk, rfl, hX, hY, hB⟩ := hrel
    by_cases hlt : k < 8
    · obtain ⟨p, v, d1, d2, d3, g1, g2, hp⟩ := HR.out k hlt
      have hpn : (IntKind.u64.wrap (wrap64 (wrap32 p)) != p) = false := by rw [hp]; exact bne_self_eq_false _
      clear hp
      obtain ⟨z, hz⟩ : ∃ z : Int, z = (k : Int) := ⟨_, rfl⟩
      rw [← hz] at d1 d2 d3 ⊢
      have hc : k = 0 ∨ k = 1 ∨ k = 2 ∨ k = 3 ∨ k = 4 ∨ k = 5 ∨ k = 6 ∨ k = 7 := by omega
      rcases hc with rfl | rfl | rfl | rfl | rfl | rfl | rfl | rfl
      · obtain rfl : z = 0 := hz
        rw [show mezzaninelaw02_ArithLow.E 0 = 0 from rfl] at d1 d2
        have D1 := Lib.hid d1; have D2 := Lib.hid d2; have D3 := Lib.hid d3
        clear d1 d2 d3
        go_wp2_with fail
        refine (arith_Do.calls 0 true a b p 0 _ D1.out).mono ?_
        rintro r1 W1 ⟨rfl, hb1⟩
        have hX1 := blk_below hb1 hX; have hY1 := blk_below hb1 hY; have hB1 := below_step hB hb1
        clear hb1 hX hY hB
        go_wp2_with fail
        refine (arith_Do.calls 0 true (mezzaninelaw02_ArithLow.X a c) (mezzaninelaw02_ArithLow.X b d) p 0 _ D2.out).mono ?_
        rintro r2 W2 ⟨rfl, hb2⟩
        have hX2 := blk_below hb2 hX1; have hY2 := blk_below hb2 hY1; have hB2 := below_step hB1 hb2
        clear hb2 hX1 hY1 hB1
        have cX : W2.cell? ⟨gh, 0, none⟩ = some (.int .u64 p) := blk_cell hX2 g1
        go_wp2_with fail
        refine (arith_Do.calls 0 false a b v 0 _ D3.out).mono ?_
        rintro r3 W3 ⟨rfl, hb3⟩
        have hX3 := blk_below hb3 hX2; have hY3 := blk_below hb3 hY2; have hB3 := below_step hB2 hb3
        clear hb3 hX2 hY2 hB2 cX
        have cY : W3.cell? ⟨gw, 0, none⟩ = some (.int .u64 v) := blk_cell hY3 g2
        go_wp2
        go_roundw
        case rel => exact ⟨1, by omega, by go_num, hX3, hY3, hB3⟩
        case measure => first | (simp [intOf]; done) | (simp [intOf]; omega)
      · obtain rfl : z = 1 := hz
        rw [show mezzaninelaw02_ArithLow.E 1 = 1 from rfl] at d1 d2
        have D1 := Lib.hid d1; have D2 := Lib.hid d2; have D3 := Lib.hid d3
        clear d1 d2 d3
        go_wp2_with fail
        refine (arith_Do.calls 1 true a b p 1 _ D1.out).mono ?_
        rintro r1 W1 ⟨rfl, hb1⟩
        have hX1 := blk_below hb1 hX; have hY1 := blk_below hb1 hY; have hB1 := below_step hB hb1
        clear hb1 hX hY hB
        go_wp2_with fail
        refine (arith_Do.calls 1 true (mezzaninelaw02_ArithLow.X a c) (mezzaninelaw02_ArithLow.X b d) p 1 _ D2.out).mono ?_
        rintro r2 W2 ⟨rfl, hb2⟩
        have hX2 := blk_below hb2 hX1; have hY2 := blk_below hb2 hY1; have hB2 := below_step hB1 hb2
        clear hb2 hX1 hY1 hB1
        have cX : W2.cell? ⟨gh, 1, none⟩ = some (.int .u64 p) := blk_cell hX2 g1
        go_wp2_with fail
        refine (arith_Do.calls 1 false a b v 0 _ D3.out).mono ?_
        rintro r3 W3 ⟨rfl, hb3⟩
        have hX3 := blk_below hb3 hX2; have hY3 := blk_below hb3 hY2; have hB3 := below_step hB2 hb3
        clear hb3 hX2 hY2 hB2 cX
        have cY : W3.cell? ⟨gw, 1, none⟩ = some (.int .u64 v) := blk_cell hY3 g2
        go_wp2
        go_roundw
        case rel => exact ⟨2, by omega, by go_num, hX3, hY3, hB3⟩
        case measure => first | (simp [intOf]; done) | (simp [intOf]; omega)
      · obtain rfl : z = 2 := hz
        rw [show mezzaninelaw02_ArithLow.E 2 = 1 from rfl] at d1 d2
        have D1 := Lib.hid d1; have D2 := Lib.hid d2; have D3 := Lib.hid d3
        clear d1 d2 d3
        go_wp2_with fail
        refine (arith_Do.calls 2 true a b p 1 _ D1.out).mono ?_
        rintro r1 W1 ⟨rfl, hb1⟩
        have hX1 := blk_below hb1 hX; have hY1 := blk_below hb1 hY; have hB1 := below_step hB hb1
        clear hb1 hX hY hB
        go_wp2_with fail
        refine (arith_Do.calls 2 true (mezzaninelaw02_ArithLow.X a c) (mezzaninelaw02_ArithLow.X b d) p 1 _ D2.out).mono ?_
        rintro r2 W2 ⟨rfl, hb2⟩
        have hX2 := blk_below hb2 hX1; have hY2 := blk_below hb2 hY1; have hB2 := below_step hB1 hb2
        clear hb2 hX1 hY1 hB1
        have cX : W2.cell? ⟨gh, 2, none⟩ = some (.int .u64 p) := blk_cell hX2 g1
        go_wp2_with fail
        refine (arith_Do.calls 2 false a b v 0 _ D3.out).mono ?_
        rintro r3 W3 ⟨rfl, hb3⟩
        have hX3 := blk_below hb3 hX2; have hY3 := blk_below hb3 hY2; have hB3 := below_step hB2 hb3
        clear hb3 hX2 hY2 hB2 cX
        have cY : W3.cell? ⟨gw, 2, none⟩ = some (.int .u64 v) := blk_cell hY3 g2
        go_wp2
        go_roundw
        case rel => exact ⟨3, by omega, by go_num, hX3, hY3, hB3⟩
        case measure => first | (simp [intOf]; done) | (simp [intOf]; omega)
      · obtain rfl : z = 3 := hz
        rw [show mezzaninelaw02_ArithLow.E 3 = 1 from rfl] at d1 d2
        have D1 := Lib.hid d1; have D2 := Lib.hid d2; have D3 := Lib.hid d3
        clear d1 d2 d3
        go_wp2_with fail
        refine (arith_Do.calls 3 true a b p 1 _ D1.out).mono ?_
        rintro r1 W1 ⟨rfl, hb1⟩
        have hX1 := blk_below hb1 hX; have hY1 := blk_below hb1 hY; have hB1 := below_step hB hb1
        clear hb1 hX hY hB
        go_wp2_with fail
        refine (arith_Do.calls 3 true (mezzaninelaw02_ArithLow.X a c) (mezzaninelaw02_ArithLow.X b d) p 1 _ D2.out).mono ?_
        rintro r2 W2 ⟨rfl, hb2⟩
        have hX2 := blk_below hb2 hX1; have hY2 := blk_below hb2 hY1; have hB2 := below_step hB1 hb2
        clear hb2 hX1 hY1 hB1
        have cX : W2.cell? ⟨gh, 3, none⟩ = some (.int .u64 p) := blk_cell hX2 g1
        go_wp2_with fail
        refine (arith_Do.calls 3 false a b v 0 _ D3.out).mono ?_
        rintro r3 W3 ⟨rfl, hb3⟩
        have hX3 := blk_below hb3 hX2; have hY3 := blk_below hb3 hY2; have hB3 := below_step hB2 hb3
        clear hb3 hX2 hY2 hB2 cX
        have cY : W3.cell? ⟨gw, 3, none⟩ = some (.int .u64 v) := blk_cell hY3 g2
        go_wp2
        go_roundw
        case rel => exact ⟨4, by omega, by go_num, hX3, hY3, hB3⟩
        case measure => first | (simp [intOf]; done) | (simp [intOf]; omega)
      · obtain rfl : z = 4 := hz
        rw [show mezzaninelaw02_ArithLow.E 4 = 0 from rfl] at d1 d2
        have D1 := Lib.hid d1; have D2 := Lib.hid d2; have D3 := Lib.hid d3
        clear d1 d2 d3
        go_wp2_with fail
        refine (arith_Do.calls 4 true a b p 0 _ D1.out).mono ?_
        rintro r1 W1 ⟨rfl, hb1⟩
        have hX1 := blk_below hb1 hX; have hY1 := blk_below hb1 hY; have hB1 := below_step hB hb1
        clear hb1 hX hY hB
        go_wp2_with fail
        refine (arith_Do.calls 4 true (mezzaninelaw02_ArithLow.X a c) (mezzaninelaw02_ArithLow.X b d) p 0 _ D2.out).mono ?_
        rintro r2 W2 ⟨rfl, hb2⟩
        have hX2 := blk_below hb2 hX1; have hY2 := blk_below hb2 hY1; have hB2 := below_step hB1 hb2
        clear hb2 hX1 hY1 hB1
        have cX : W2.cell? ⟨gh, 4, none⟩ = some (.int .u64 p) := blk_cell hX2 g1
        go_wp2_with fail
        refine (arith_Do.calls 4 false a b v 0 _ D3.out).mono ?_
        rintro r3 W3 ⟨rfl, hb3⟩
        have hX3 := blk_below hb3 hX2; have hY3 := blk_below hb3 hY2; have hB3 := below_step hB2 hb3
        clear hb3 hX2 hY2 hB2 cX
        have cY : W3.cell? ⟨gw, 4, none⟩ = some (.int .u64 v) := blk_cell hY3 g2
        go_wp2
        go_roundw
        case rel => exact ⟨5, by omega, by go_num, hX3, hY3, hB3⟩
        case measure => first | (simp [intOf]; done) | (simp [intOf]; omega)
      · obtain rfl : z = 5 := hz
        rw [show mezzaninelaw02_ArithLow.E 5 = 0 from rfl] at d1 d2
        have D1 := Lib.hid d1; have D2 := Lib.hid d2; have D3 := Lib.hid d3
        clear d1 d2 d3
        go_wp2_with fail
        refine (arith_Do.calls 5 true a b p 0 _ D1.out).mono ?_
        rintro r1 W1 ⟨rfl, hb1⟩
        have hX1 := blk_below hb1 hX; have hY1 := blk_below hb1 hY; have hB1 := below_step hB hb1
        clear hb1 hX hY hB
        go_wp2_with fail
        refine (arith_Do.calls 5 true (mezzaninelaw02_ArithLow.X a c) (mezzaninelaw02_ArithLow.X b d) p 0 _ D2.out).mono ?_
        rintro r2 W2 ⟨rfl, hb2⟩
        have hX2 := blk_below hb2 hX1; have hY2 := blk_below hb2 hY1; have hB2 := below_step hB1 hb2
        clear hb2 hX1 hY1 hB1
        have cX : W2.cell? ⟨gh, 5, none⟩ = some (.int .u64 p) := blk_cell hX2 g1
        go_wp2_with fail
        refine (arith_Do.calls 5 false a b v 0 _ D3.out).mono ?_
        rintro r3 W3 ⟨rfl, hb3⟩
        have hX3 := blk_below hb3 hX2; have hY3 := blk_below hb3 hY2; have hB3 := below_step hB2 hb3
        clear hb3 hX2 hY2 hB2 cX
        have cY : W3.cell? ⟨gw, 5, none⟩ = some (.int .u64 v) := blk_cell hY3 g2
        go_wp2
        go_roundw
        case rel => exact ⟨6, by omega, by go_num, hX3, hY3, hB3⟩
        case measure => first | (simp [intOf]; done) | (simp [intOf]; omega)
      · obtain rfl : z = 6 := hz
        rw [show mezzaninelaw02_ArithLow.E 6 = 0 from rfl] at d1 d2
        have D1 := Lib.hid d1; have D2 := Lib.hid d2; have D3 := Lib.hid d3
        clear d1 d2 d3
        go_wp2_with fail
        refine (arith_Do.calls 6 true a b p 0 _ D1.out).mono ?_
        rintro r1 W1 ⟨rfl, hb1⟩
        have hX1 := blk_below hb1 hX; have hY1 := blk_below hb1 hY; have hB1 := below_step hB hb1
        clear hb1 hX hY hB
        go_wp2_with fail
        refine (arith_Do.calls 6 true (mezzaninelaw02_ArithLow.X a c) (mezzaninelaw02_ArithLow.X b d) p 0 _ D2.out).mono ?_
        rintro r2 W2 ⟨rfl, hb2⟩
        have hX2 := blk_below hb2 hX1; have hY2 := blk_below hb2 hY1; have hB2 := below_step hB1 hb2
        clear hb2 hX1 hY1 hB1
        have cX : W2.cell? ⟨gh, 6, none⟩ = some (.int .u64 p) := blk_cell hX2 g1
        go_wp2_with fail
        refine (arith_Do.calls 6 false a b v 0 _ D3.out).mono ?_
        rintro r3 W3 ⟨rfl, hb3⟩
        have hX3 := blk_below hb3 hX2; have hY3 := blk_below hb3 hY2; have hB3 := below_step hB2 hb3
        clear hb3 hX2 hY2 hB2 cX
        have cY : W3.cell? ⟨gw, 6, none⟩ = some (.int .u64 v) := blk_cell hY3 g2
        go_wp2
        go_roundw
        case rel => exact ⟨7, by omega, by go_num, hX3, hY3, hB3⟩
        case measure => first | (simp [intOf]; done) | (simp [intOf]; omega)
      · obtain rfl : z = 7 := hz
        rw [show mezzaninelaw02_ArithLow.E 7 = 0 from rfl] at d1 d2
        have D1 := Lib.hid d1; have D2 := Lib.hid d2; have D3 := Lib.hid d3
        clear d1 d2 d3
        go_wp2_with fail
        refine (arith_Do.calls 7 true a b p 0 _ D1.out).mono ?_
        rintro r1 W1 ⟨rfl, hb1⟩
        have hX1 := blk_below hb1 hX; have hY1 := blk_below hb1 hY; have hB1 := below_step hB hb1
        clear hb1 hX hY hB
        go_wp2_with fail
        refine (arith_Do.calls 7 true (mezzaninelaw02_ArithLow.X a c) (mezzaninelaw02_ArithLow.X b d) p 0 _ D2.out).mono ?_
        rintro r2 W2 ⟨rfl, hb2⟩
        have hX2 := blk_below hb2 hX1; have hY2 := blk_below hb2 hY1; have hB2 := below_step hB1 hb2
        clear hb2 hX1 hY1 hB1
        have cX : W2.cell? ⟨gh, 7, none⟩ = some (.int .u64 p) := blk_cell hX2 g1
        go_wp2_with fail
        refine (arith_Do.calls 7 false a b v 0 _ D3.out).mono ?_
        rintro r3 W3 ⟨rfl, hb3⟩
        have hX3 := blk_below hb3 hX2; have hY3 := blk_below hb3 hY2; have hB3 := below_step hB2 hb3
        clear hb3 hX2 hY2 hB2 cX
        have cY : W3.cell? ⟨gw, 7, none⟩ = some (.int .u64 v) := blk_cell hY3 g2
        go_wp2
        go_roundw
        case rel => exact ⟨8, by omega, by go_num, hX3, hY3, hB3⟩
        case measure => first | (simp [intOf]; done) | (simp [intOf]; omega)
    · obtain rfl : k = 8 := by omega
      go_wp2
      go_ret
      exact ⟨rfl, hB⟩
def mezzaninelaw02_ArithLow.Pure : Prop := ∀ (a b c d : Int), (Lit.int .u64 a).wf = true → (Lit.int .u64 b).wf = true → (Lit.int .u64 c).wf = true → (Lit.int .u64 d).wf = true →
  mezzaninelaw02_awake.f = some true ∧ ∃ h0 h4 h5 h6 h7 w1 w2 w3 w4 w5 w6 w7 : Int,
    arith_Mulw.f a b = some h0 ∧ arith_Divw.f a b = some h4 ∧ arith_Divuw.f a b = some h5 ∧ arith_Remw.f a b = some h6 ∧ arith_Remuw.f a b = some h7 ∧
    arith_Mulh.f a b = some w1 ∧ arith_Mulhsu.f a b = some w2 ∧ arith_Mulhu.f a b = some w3 ∧ arith_Div.f a b = some w4 ∧ arith_Divu.f a b = some w5 ∧ arith_Rem.f a b = some w6 ∧ arith_Remu.f a b = some w7 ∧
    ∀ i, i < 8 → mezzaninelaw02_ArithLow.Row a b (mezzaninelaw02_ArithLow.X a c) (mezzaninelaw02_ArithLow.X b d) #[.int .u64 h0, .int .u64 0, .int .u64 0, .int .u64 0, .int .u64 h4, .int .u64 h5, .int .u64 h6, .int .u64 h7] #[.int .u64 (IntKind.u64.wrap (a * b)), .int .u64 w1, .int .u64 w2, .int .u64 w3, .int .u64 w4, .int .u64 w5, .int .u64 w6, .int .u64 w7] i (mezzaninelaw02_ArithLow.E i)
theorem mezzaninelaw02_ArithLow.walk (P : mezzaninelaw02_ArithLow.Pure) (a0 a1 a2 a3 : Int) (w : World) (w0 : (Lit.int .u64 a0).wf = true) (w1 : (Lit.int .u64 a1).wf = true) (w2 : (Lit.int .u64 a2).wf = true) (w3 : (Lit.int .u64 a3).wf = true) :
    Calls Try.prog 10 #[.int .u64 a0, .int .u64 a1, .int .u64 a2, .int .u64 a3] w fun e w' => e = .returned (.bool true) ∧ Below w.heap.size w w' := by
  obtain ⟨haw, h0, h4, h5, h6, h7, v1, v2, v3, v4, v5, v6, v7, e0, e4, e5, e6, e7, f1, f2, f3, f4, f5, f6, f7, hr⟩ := P a0 a1 a2 a3 w0 w1 w2 w3
  exact mezzaninelaw02_ArithLow.callsB a0 a1 a2 a3 h0 h4 h5 h6 h7 v1 v2 v3 v4 v5 v6 v7 w haw e0 e4 e5 e6 e7 f1 f2 f3 f4 f5 f6 f7 hr
end

end Go.Proofs.Ytdfldddcaeokpaa.Q
