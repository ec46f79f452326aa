/- Where the Lean function of a Go function gives a value, the Go call returns that value and changes nothing that was there: for every input. (By a program of this session, and by hand.) -/
import Derived.Test.YtbmmafebekehdaaDoorRows
import Derived.Test.YtbmmafebekehdaaDoorQx8
import Derived.Test.YtbmmafebekehdaaDoorPqCsrnoGuest
import Derived.WalkKit
import Derived.Test.YtbmmafebekehdaaDoorTab11
import Derived.ProofKit
import Derived.OpenShut
import Derived.ShutString
import Derived.ChangeOld
import Derived.Below
import Derived.SizedLaws
import Derived.Test.YtbmmafebekehdaaDoorCards
import Derived.Test.YtbmmafebekehdaaDoorTie
import Derived.Deep.DeepHandedRow
import Derived.Lib.LaidTab
import Derived.Test.YtbmmafebekehdaaDoorVal
namespace Go.Proofs.YtbmmafebekehdaaDoor.csrnoGuest
open Go.ChangeShapes Go.WideShapes Go.ChangeAt Go.RowKit
open Go.ChangeMaps (open_string shut_string)
set_option linter.unusedVariables false
theorem own : ownKnob Tryd.prog.godebug = none := by kernel_rfl
theorem tab {W : World} (h : laidMetH Tryd.prog Rows.csrnoGuestRow.laid W) : Q.Tab W := TabIn.tab h
/-- The witness: its arguments. -/
abbrev wit : Array Value := #[.agg #[.int .u64 0, .int .u64 0, .int .u64 0, .int .u64 0, .int .u64 0, .int .u64 0, .int .u64 0, .int .u64 0, .int .u64 0, .int .u64 0, .int .u64 0, .int .u64 0, .int .u64 0, .int .u64 0, .int .u64 0, .int .u64 0, .int .u64 0, .int .u64 0, .int .u64 0, .int .u64 0, .int .u64 0, .int .u64 0, .int .u64 0, .int .u64 0, .int .u64 0, .int .u64 0, .int .u64 0, .int .u64 0, .int .u64 0, .int .u64 0, .int .u64 0, .int .u64 0, .int .u64 0, .int .u8 0, .bool false, .bool false, .bool false, .int .u64 0, .int .u64 0, .int .u64 0, .int .u64 0, .int .u64 0, .int .u64 0, .int .u64 0, .int .u64 0, .int .u64 0, .int .u64 0, .int .u64 0, .int .u64 0, .int .u64 0, .int .u64 0, .int .u64 0, .int .u64 0, .int .u64 0, .int .u64 0, .int .u64 0, .int .u64 0, .int .u64 0, .int .u64 0, .int .u64 0, .int .u64 0, .int .u64 0, .int .u64 0, .int .u64 0, .int .u64 0, .int .u64 0, .int .u64 0, .int .u64 0, .int .u64 0, .int .u64 0, .int .u64 0, .int .u64 0, .int .u64 0, .int .u64 0, .int .u64 0, .int .u64 0, .int .u64 0], .int .i64 0, .bool false]
/-- A world for the witness: the settled one, the table holding what its initialiser lays. -/
noncomputable def laidWorld (os : Os) : World :=
  { World.holding Tryd.prog os ⟨#[], #[], []⟩ with heap := (World.holding Tryd.prog os ⟨#[], #[], []⟩).heap.modify 0 fun
      | .cells _ t frozen => .cells Q.tabCells t frozen
      | o => o }
theorem laid_met (os : Os) : laidMet Tryd.prog Rows.csrnoGuestRow.laid ((laidWorld os).forCall (fun _ _ => 0) ⟨#[], wit, []⟩).memory :=
  laidMet_of_run' 8 (by kernel_rfl) (by kernel_rfl)
theorem reads (os : Os) {H : Type} (enc : TypeId × Value → H) : ∃ places, DataW.whole enc Tryd.prog ((laidWorld os).forCall (fun _ _ => 0) ⟨#[], wit, []⟩).memory Tryd.f6.params.toList Rows.csrnoGuestSpec.vars false (wit).toList 8 = some ([.agg [.lit (.int .u64 0), .agg [.lit (.int .u64 0), .lit (.int .u64 0), .lit (.int .u64 0), .lit (.int .u64 0), .lit (.int .u64 0), .lit (.int .u64 0), .lit (.int .u64 0), .lit (.int .u64 0), .lit (.int .u64 0), .lit (.int .u64 0), .lit (.int .u64 0), .lit (.int .u64 0), .lit (.int .u64 0), .lit (.int .u64 0), .lit (.int .u64 0), .lit (.int .u64 0), .lit (.int .u64 0), .lit (.int .u64 0), .lit (.int .u64 0), .lit (.int .u64 0), .lit (.int .u64 0), .lit (.int .u64 0), .lit (.int .u64 0), .lit (.int .u64 0), .lit (.int .u64 0), .lit (.int .u64 0), .lit (.int .u64 0), .lit (.int .u64 0), .lit (.int .u64 0), .lit (.int .u64 0), .lit (.int .u64 0), .lit (.int .u64 0)], .lit (.int .u8 0), .lit (.bool false), .lit (.bool false), .lit (.bool false), .lit (.int .u64 0), .lit (.int .u64 0), .lit (.int .u64 0), .lit (.int .u64 0), .lit (.int .u64 0), .lit (.int .u64 0), .lit (.int .u64 0), .lit (.int .u64 0), .lit (.int .u64 0), .lit (.int .u64 0), .lit (.int .u64 0), .lit (.int .u64 0), .lit (.int .u64 0), .lit (.int .u64 0), .lit (.int .u64 0), .lit (.int .u64 0), .lit (.int .u64 0), .lit (.int .u64 0), .lit (.int .u64 0), .lit (.int .u64 0), .lit (.int .u64 0), .lit (.int .u64 0), .lit (.int .u64 0), .lit (.int .u64 0), .lit (.int .u64 0), .lit (.int .u64 0), .lit (.int .u64 0), .lit (.int .u64 0), .lit (.int .u64 0), .lit (.int .u64 0), .lit (.int .u64 0), .lit (.int .u64 0), .lit (.int .u64 0), .lit (.int .u64 0), .lit (.int .u64 0), .lit (.int .u64 0), .lit (.int .u64 0), .lit (.int .u64 0), .lit (.int .u64 0), .lit (.int .u64 0)], .lit (.int .i64 0), .lit (.bool false)], [], places) :=
  ⟨[], by kernel_rfl⟩
set_option maxRecDepth 100000 in
theorem lifted (os : Os) (started : os.Started) (H : Type) (enc : TypeId × Value → H) (F : Stop.Interp) :
    ReturnsInHanded {} Tryd.checked os 6 .any ((OpenSpec.ofChange Rows.csrnoGuestSpec).preRow enc Tryd.prog Tryd.f6 Rows.csrnoGuestRow.domain false Rows.csrnoGuestRow.laid) (((OpenSpec.ofChange Rows.csrnoGuestSpec).at F).post enc Tryd.prog Tryd.f6 false true false false) := by
  obtain ⟨places, hx⟩ := reads os enc
  refine returnsInHanded_of_row (C := Tryd.checked) (s := OpenSpec.ofChange Rows.csrnoGuestSpec) own started (by kernel_rfl) Tryd.func6
    (witness_row_at (enc := enc) (C := Tryd.checked) false (laidWorld os) wit rfl (by kernel_rfl) (by kernel_rfl) (by kernel_rfl)
      (OpenSpec.preRow_of_cond 8 hx (by kernel_rfl) (fun k hk => by cases hk) (by kernel_rfl) (laid_met os))) ?_
  intro W base args ds gs before hval0 hW _ _ hsz0 hL _ _
  have hsz : (DataW.weightsEach Tryd.prog (Tryd.f6.params.toList ++ Rows.csrnoGuestSpec.plain.varTypes Tryd.prog) (ds ++ gs)).all (· ≤ reachBytes) = true := hsz0
  have hval : ∀ (j : Nat) t v, Tryd.f6.params[j]? = some t → args[j]? = some v → Value.okWide Tryd.prog W .any base t v := hval0
  have hW' := hW
  obtain ⟨p, q, hA0, hV, rfl, hfz, hnd⟩ := hW
  have hA : DataW.TrodAll enc Tryd.prog W 0 (fun _ => true) true Tryd.f6.params.toList args.toList ds p := hA0
  rw [Tryd.params6] at hA hval hsz
  obtain ⟨v0, vs0, d0, ds0, p0, q0, hargs, rfl, rfl, h0, r0⟩ := trodAll_cons hA
  obtain ⟨v1, vs1, d1, ds1, p1, q1, rfl, rfl, rfl, h1, r1⟩ := trodAll_cons r0
  obtain ⟨v2, vs2, d2, ds2, p2, q2, rfl, rfl, rfl, h2, r2⟩ := trodAll_cons r1
  obtain ⟨rfl, rfl, rfl⟩ := trodAll_nil r2
  obtain rfl : args = #[v0, v1, v2] := by cases args; simp_all
  obtain ⟨rfl, rfl⟩ := trodVars_none hV
  obtain ⟨cs0, rfl, hf0, rfl, sh0⟩ := Val.open_val (n := 9) (L := [.i .u64, .i .u64, .i .u64, .i .u64, .i .u64, .i .u64, .i .u64, .i .u64, .i .u64, .i .u64, .i .u64, .i .u64, .i .u64, .i .u64, .i .u64, .i .u64, .i .u64, .i .u64, .i .u64, .i .u64, .i .u64, .i .u64, .i .u64, .i .u64, .i .u64, .i .u64, .i .u64, .i .u64, .i .u64, .i .u64, .i .u64, .i .u64, .i .u64, .i .u8, .b, .b, .b, .i .u64, .i .u64, .i .u64, .i .u64, .i .u64, .i .u64, .i .u64, .i .u64, .i .u64, .i .u64, .i .u64, .i .u64, .i .u64, .i .u64, .i .u64, .i .u64, .i .u64, .i .u64, .i .u64, .i .u64, .i .u64, .i .u64, .i .u64, .i .u64, .i .u64, .i .u64, .i .u64, .i .u64, .i .u64, .i .u64, .i .u64, .i .u64, .i .u64, .i .u64, .i .u64, .i .u64, .i .u64, .i .u64, .i .u64, .i .u64]) (by kernel_rfl) (by rw [Tryd.underlying30]; trivial) (hval 0 30 v0 rfl rfl) h0
  obtain ⟨a0_0, ct0_0, ce0_0, w0_0, hf0⟩ := hf0.int
  obtain ⟨a0_1, ct0_1, ce0_1, w0_1, hf0⟩ := hf0.int
  obtain ⟨a0_2, ct0_2, ce0_2, w0_2, hf0⟩ := hf0.int
  obtain ⟨a0_3, ct0_3, ce0_3, w0_3, hf0⟩ := hf0.int
  obtain ⟨a0_4, ct0_4, ce0_4, w0_4, hf0⟩ := hf0.int
  obtain ⟨a0_5, ct0_5, ce0_5, w0_5, hf0⟩ := hf0.int
  obtain ⟨a0_6, ct0_6, ce0_6, w0_6, hf0⟩ := hf0.int
  obtain ⟨a0_7, ct0_7, ce0_7, w0_7, hf0⟩ := hf0.int
  obtain ⟨a0_8, ct0_8, ce0_8, w0_8, hf0⟩ := hf0.int
  obtain ⟨a0_9, ct0_9, ce0_9, w0_9, hf0⟩ := hf0.int
  obtain ⟨a0_10, ct0_10, ce0_10, w0_10, hf0⟩ := hf0.int
  obtain ⟨a0_11, ct0_11, ce0_11, w0_11, hf0⟩ := hf0.int
  obtain ⟨a0_12, ct0_12, ce0_12, w0_12, hf0⟩ := hf0.int
  obtain ⟨a0_13, ct0_13, ce0_13, w0_13, hf0⟩ := hf0.int
  obtain ⟨a0_14, ct0_14, ce0_14, w0_14, hf0⟩ := hf0.int
  obtain ⟨a0_15, ct0_15, ce0_15, w0_15, hf0⟩ := hf0.int
  obtain ⟨a0_16, ct0_16, ce0_16, w0_16, hf0⟩ := hf0.int
  obtain ⟨a0_17, ct0_17, ce0_17, w0_17, hf0⟩ := hf0.int
  obtain ⟨a0_18, ct0_18, ce0_18, w0_18, hf0⟩ := hf0.int
  obtain ⟨a0_19, ct0_19, ce0_19, w0_19, hf0⟩ := hf0.int
  obtain ⟨a0_20, ct0_20, ce0_20, w0_20, hf0⟩ := hf0.int
  obtain ⟨a0_21, ct0_21, ce0_21, w0_21, hf0⟩ := hf0.int
  obtain ⟨a0_22, ct0_22, ce0_22, w0_22, hf0⟩ := hf0.int
  obtain ⟨a0_23, ct0_23, ce0_23, w0_23, hf0⟩ := hf0.int
  obtain ⟨a0_24, ct0_24, ce0_24, w0_24, hf0⟩ := hf0.int
  obtain ⟨a0_25, ct0_25, ce0_25, w0_25, hf0⟩ := hf0.int
  obtain ⟨a0_26, ct0_26, ce0_26, w0_26, hf0⟩ := hf0.int
  obtain ⟨a0_27, ct0_27, ce0_27, w0_27, hf0⟩ := hf0.int
  obtain ⟨a0_28, ct0_28, ce0_28, w0_28, hf0⟩ := hf0.int
  obtain ⟨a0_29, ct0_29, ce0_29, w0_29, hf0⟩ := hf0.int
  obtain ⟨a0_30, ct0_30, ce0_30, w0_30, hf0⟩ := hf0.int
  obtain ⟨a0_31, ct0_31, ce0_31, w0_31, hf0⟩ := hf0.int
  obtain ⟨a0_32, ct0_32, ce0_32, w0_32, hf0⟩ := hf0.int
  obtain ⟨a0_33, ct0_33, ce0_33, w0_33, hf0⟩ := hf0.int
  obtain ⟨a0_34, ct0_34, ce0_34, hf0⟩ := hf0.bool
  obtain ⟨a0_35, ct0_35, ce0_35, hf0⟩ := hf0.bool
  obtain ⟨a0_36, ct0_36, ce0_36, hf0⟩ := hf0.bool
  obtain ⟨a0_37, ct0_37, ce0_37, w0_37, hf0⟩ := hf0.int
  obtain ⟨a0_38, ct0_38, ce0_38, w0_38, hf0⟩ := hf0.int
  obtain ⟨a0_39, ct0_39, ce0_39, w0_39, hf0⟩ := hf0.int
  obtain ⟨a0_40, ct0_40, ce0_40, w0_40, hf0⟩ := hf0.int
  obtain ⟨a0_41, ct0_41, ce0_41, w0_41, hf0⟩ := hf0.int
  obtain ⟨a0_42, ct0_42, ce0_42, w0_42, hf0⟩ := hf0.int
  obtain ⟨a0_43, ct0_43, ce0_43, w0_43, hf0⟩ := hf0.int
  obtain ⟨a0_44, ct0_44, ce0_44, w0_44, hf0⟩ := hf0.int
  obtain ⟨a0_45, ct0_45, ce0_45, w0_45, hf0⟩ := hf0.int
  obtain ⟨a0_46, ct0_46, ce0_46, w0_46, hf0⟩ := hf0.int
  obtain ⟨a0_47, ct0_47, ce0_47, w0_47, hf0⟩ := hf0.int
  obtain ⟨a0_48, ct0_48, ce0_48, w0_48, hf0⟩ := hf0.int
  obtain ⟨a0_49, ct0_49, ce0_49, w0_49, hf0⟩ := hf0.int
  obtain ⟨a0_50, ct0_50, ce0_50, w0_50, hf0⟩ := hf0.int
  obtain ⟨a0_51, ct0_51, ce0_51, w0_51, hf0⟩ := hf0.int
  obtain ⟨a0_52, ct0_52, ce0_52, w0_52, hf0⟩ := hf0.int
  obtain ⟨a0_53, ct0_53, ce0_53, w0_53, hf0⟩ := hf0.int
  obtain ⟨a0_54, ct0_54, ce0_54, w0_54, hf0⟩ := hf0.int
  obtain ⟨a0_55, ct0_55, ce0_55, w0_55, hf0⟩ := hf0.int
  obtain ⟨a0_56, ct0_56, ce0_56, w0_56, hf0⟩ := hf0.int
  obtain ⟨a0_57, ct0_57, ce0_57, w0_57, hf0⟩ := hf0.int
  obtain ⟨a0_58, ct0_58, ce0_58, w0_58, hf0⟩ := hf0.int
  obtain ⟨a0_59, ct0_59, ce0_59, w0_59, hf0⟩ := hf0.int
  obtain ⟨a0_60, ct0_60, ce0_60, w0_60, hf0⟩ := hf0.int
  obtain ⟨a0_61, ct0_61, ce0_61, w0_61, hf0⟩ := hf0.int
  obtain ⟨a0_62, ct0_62, ce0_62, w0_62, hf0⟩ := hf0.int
  obtain ⟨a0_63, ct0_63, ce0_63, w0_63, hf0⟩ := hf0.int
  obtain ⟨a0_64, ct0_64, ce0_64, w0_64, hf0⟩ := hf0.int
  obtain ⟨a0_65, ct0_65, ce0_65, w0_65, hf0⟩ := hf0.int
  obtain ⟨a0_66, ct0_66, ce0_66, w0_66, hf0⟩ := hf0.int
  obtain ⟨a0_67, ct0_67, ce0_67, w0_67, hf0⟩ := hf0.int
  obtain ⟨a0_68, ct0_68, ce0_68, w0_68, hf0⟩ := hf0.int
  obtain ⟨a0_69, ct0_69, ce0_69, w0_69, hf0⟩ := hf0.int
  obtain ⟨a0_70, ct0_70, ce0_70, w0_70, hf0⟩ := hf0.int
  obtain ⟨a0_71, ct0_71, ce0_71, w0_71, hf0⟩ := hf0.int
  obtain ⟨a0_72, ct0_72, ce0_72, w0_72, hf0⟩ := hf0.int
  obtain ⟨a0_73, ct0_73, ce0_73, w0_73, hf0⟩ := hf0.int
  obtain ⟨a0_74, ct0_74, ce0_74, w0_74, hf0⟩ := hf0.int
  obtain ⟨a0_75, ct0_75, ce0_75, w0_75, hf0⟩ := hf0.int
  obtain ⟨a0_76, ct0_76, ce0_76, w0_76, hf0⟩ := hf0.int
  have cn0 := hf0.nil
  obtain rfl : cs0 = #[.int .u64 a0_0, .int .u64 a0_1, .int .u64 a0_2, .int .u64 a0_3, .int .u64 a0_4, .int .u64 a0_5, .int .u64 a0_6, .int .u64 a0_7, .int .u64 a0_8, .int .u64 a0_9, .int .u64 a0_10, .int .u64 a0_11, .int .u64 a0_12, .int .u64 a0_13, .int .u64 a0_14, .int .u64 a0_15, .int .u64 a0_16, .int .u64 a0_17, .int .u64 a0_18, .int .u64 a0_19, .int .u64 a0_20, .int .u64 a0_21, .int .u64 a0_22, .int .u64 a0_23, .int .u64 a0_24, .int .u64 a0_25, .int .u64 a0_26, .int .u64 a0_27, .int .u64 a0_28, .int .u64 a0_29, .int .u64 a0_30, .int .u64 a0_31, .int .u64 a0_32, .int .u8 a0_33, .bool a0_34, .bool a0_35, .bool a0_36, .int .u64 a0_37, .int .u64 a0_38, .int .u64 a0_39, .int .u64 a0_40, .int .u64 a0_41, .int .u64 a0_42, .int .u64 a0_43, .int .u64 a0_44, .int .u64 a0_45, .int .u64 a0_46, .int .u64 a0_47, .int .u64 a0_48, .int .u64 a0_49, .int .u64 a0_50, .int .u64 a0_51, .int .u64 a0_52, .int .u64 a0_53, .int .u64 a0_54, .int .u64 a0_55, .int .u64 a0_56, .int .u64 a0_57, .int .u64 a0_58, .int .u64 a0_59, .int .u64 a0_60, .int .u64 a0_61, .int .u64 a0_62, .int .u64 a0_63, .int .u64 a0_64, .int .u64 a0_65, .int .u64 a0_66, .int .u64 a0_67, .int .u64 a0_68, .int .u64 a0_69, .int .u64 a0_70, .int .u64 a0_71, .int .u64 a0_72, .int .u64 a0_73, .int .u64 a0_74, .int .u64 a0_75, .int .u64 a0_76] := by cases cs0; simp_all
  obtain ⟨a1, rfl, rfl, rfl, w1⟩ := open_int Tryd.underlying3 (hval 1 3 v1 rfl rfl) h1
  obtain ⟨a2, rfl, rfl, rfl⟩ := open_bool Tryd.underlying4 (hval 2 4 v2 rfl rfl) h2
  clear hA0 hval0 hsz0 hsz
  refine (Q.mezzaninelaw11_CsrnoGuest.walk Pure.CsrnoGuest a0_0 a0_1 a0_2 a0_3 a0_4 a0_5 a0_6 a0_7 a0_8 a0_9 a0_10 a0_11 a0_12 a0_13 a0_14 a0_15 a0_16 a0_17 a0_18 a0_19 a0_20 a0_21 a0_22 a0_23 a0_24 a0_25 a0_26 a0_27 a0_28 a0_29 a0_30 a0_31 a0_32 a0_33 a0_34 a0_35 a0_36 a0_37 a0_38 a0_39 a0_40 a0_41 a0_42 a0_43 a0_44 a0_45 a0_46 a0_47 a0_48 a0_49 a0_50 a0_51 a0_52 a0_53 a0_54 a0_55 a0_56 a0_57 a0_58 a0_59 a0_60 a0_61 a0_62 a0_63 a0_64 a0_65 a0_66 a0_67 a0_68 a0_69 a0_70 a0_71 a0_72 a0_73 a0_74 a0_75 a0_76 a1 a2 W w0_0 w0_1 w0_2 w0_3 w0_4 w0_5 w0_6 w0_7 w0_8 w0_9 w0_10 w0_11 w0_12 w0_13 w0_14 w0_15 w0_16 w0_17 w0_18 w0_19 w0_20 w0_21 w0_22 w0_23 w0_24 w0_25 w0_26 w0_27 w0_28 w0_29 w0_30 w0_31 w0_32 w0_33 w0_37 w0_38 w0_39 w0_40 w0_41 w0_42 w0_43 w0_44 w0_45 w0_46 w0_47 w0_48 w0_49 w0_50 w0_51 w0_52 w0_53 w0_54 w0_55 w0_56 w0_57 w0_58 w0_59 w0_60 w0_61 w0_62 w0_63 w0_64 w0_65 w0_66 w0_67 w0_68 w0_69 w0_70 w0_71 w0_72 w0_73 w0_74 w0_75 w0_76 w1 (tab hL)).mono fun e W' ⟨he, bel⟩ => ?_
  subst he
  exact ⟨_, rfl, _, _, _, [], _, [], hW', trodAll_mk1 (shut_bool Tryd.underlying4 _), (trodAll_cons_mk (sh0 _ _ _ _) (trodAll_cons_mk (shut_int Tryd.underlying3 w1) (trodAll_cons_mk (shut_bool Tryd.underlying4 _) trodAll_mk0))), rfl, bel.frame _, fun h => by cases h⟩
theorem over : Rows.CsrnoGuestSaid :=
  OpenClaim.holds_of_cond 6 Tryd.f6 rfl rfl rfl rfl rfl rfl rfl ⟨rfl, rfl, rfl, rfl, rfl⟩ rfl rfl rfl rfl rfl (by kernel_rfl) Tryd.func6 (by kernel_rfl)
    (of_decide_eq_true (by kernel_rfl)) (by unfold Func.isWrapper; first | (rw [if_pos (by decide +kernel)]; kernel_rfl) | (rw [if_neg (by decide +kernel)]; exact ⟨rfl, rfl⟩))
    (fun os started H enc _ F => by rw [OpenClaim.pre_eq_preRow]; exact lifted os started H enc F)
/-- No parameter wants a stand-in; the program's own looks are off. -/
theorem plain (f : FuncId) (fn : Func) (hf : Tryd.pinned.checked.prog.funcNamed "mezzanine/mezzaninelaw11.CsrnoGuest" = some f) (hfn : Tryd.pinned.checked.prog.funcs[f]? = some fn) :
    false = Tryd.pinned.checked.prog.looks [] ∧ ∀ (j : Nat) t, fn.params[j]? = some t → Tryd.pinned.checked.prog.wantsStandIn t = false := by
  obtain rfl : f = 6 := Option.some.inj ((show Tryd.prog.funcNamed "mezzanine/mezzaninelaw11.CsrnoGuest" = some 6 by kernel_rfl).symm.trans hf) |>.symm
  obtain rfl : fn = Tryd.f6 := (Option.some.inj (Tryd.func6.symm.trans hfn)).symm
  refine ⟨by kernel_rfl, fun j t ht => ?_⟩
  rw [Tryd.params6] at ht
  have h_ : t = 30 ∨ t = 3 ∨ t = 4 := by simpa using Array.mem_of_getElem? ht
  rcases h_ with rfl | rfl | rfl
  · exact (show Tryd.prog.wantsStandIn 30 = false by kernel_rfl)
  · exact (show Tryd.prog.wantsStandIn 3 = false by kernel_rfl)
  · exact (show Tryd.prog.wantsStandIn 4 = false by kernel_rfl)
theorem card : Rows.CsrnoGuestCardSaid :=
  Claim7.holds_tied_plain_at .later [] _ _ _ _ over (fun _ h => by cases h) (by kernel_rfl) (fun _ h => by cases h) csrnoGuest_row_tie rfl ⟨rfl, rfl⟩ (by kernel_rfl) rfl plain (by kernel_rfl)
#print axioms card
end Go.Proofs.YtbmmafebekehdaaDoor.csrnoGuest
namespace Go.Proofs.YtbmmafebekehdaaDoor
/-- The tied card, under a short name, for the claim. -/
theorem csrnoGuest_holds : Rows.CsrnoGuestCardSaid := csrnoGuest.card
end Go.Proofs.YtbmmafebekehdaaDoor
