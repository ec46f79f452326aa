/- Where the Lean function of a Go function gives a value, the Go call returns that value and changes nothing that was there: for every input. (By a program of this session, and by hand.) -/
import Derived.Test.YteebgfcihoidmaaRRows
import Derived.Test.YteebgfcihoidmaaRPqPteMarks
import Derived.WalkKit
import Derived.ProofKit
import Derived.OpenShut
import Derived.ShutString
import Derived.ChangeOld
import Derived.Below
import Derived.SizedLaws
import Derived.Test.YteebgfcihoidmaaRVal
namespace Go.Proofs.YteebgfcihoidmaaR.pteMarks
open Go.ChangeShapes Go.WideShapes Go.ChangeAt Go.RowKit
open Go.ChangeMaps (open_string shut_string)
set_option linter.unusedVariables false
theorem own : ownKnob Try.prog.godebug = none := by kernel_rfl
set_option maxRecDepth 100000 in
theorem lifted (os : Os) (started : os.Started) (H : Type) (enc : TypeId × Value → H) :
    ReturnsInHanded {} Try.checked os 6 .any (Rows.pteMarksSpec.pre6 enc Try.prog Try.f6 Rows.pteMarksRow.domain false) (Rows.pteMarksSpec.post enc Try.prog Try.f6 false true false false) := by
  refine returnsInHanded_of_change_sized (C := Try.checked) own started (by kernel_rfl) Try.func6
    (ChangeSpec.witness6 (enc := enc) (C := Try.checked) false ⟨#[], #[.int .u64 0, .agg #[.int .u8 0, .bool false, .int .u8 0, .bool false, .bool false, .bool false, .bool false]], []⟩ 8 (by kernel_rfl) (by kernel_rfl) (by kernel_rfl) (by kernel_rfl)) ?_
  intro W base args ds gs before hval0 hW hcnd hsz0 _
  have hsz : (DataW.weightsEach Try.prog (Try.f6.params.toList ++ Rows.pteMarksSpec.plain.varTypes Try.prog) (ds ++ gs)).all (· ≤ reachBytes) = true := hsz0
  have hval : ∀ (j : Nat) t v, Try.f6.params[j]? = some t → args[j]? = some v → Value.okWide Try.prog W .any base t v := hval0
  have hW' := hW
  obtain ⟨p, q, hA0, hV, rfl, hfz, hnd⟩ := hW
  have hA : DataW.TrodAll enc Try.prog W 0 (fun _ => true) true Try.f6.params.toList args.toList ds p := hA0
  rw [Try.params6] at hA hval hsz
  obtain ⟨v0, vs0, d0, ds0, p0, q0, hargs, rfl, rfl, h0, r0⟩ := trodAll_cons hA
  obtain ⟨v1, vs1, d1, ds1, p1, q1, rfl, rfl, rfl, h1, r1⟩ := trodAll_cons r0
  obtain ⟨rfl, rfl, rfl⟩ := trodAll_nil r1
  obtain rfl : args = #[v0, v1] := by cases args; simp_all
  obtain ⟨rfl, rfl⟩ := trodVars_none hV
  obtain ⟨a0, rfl, rfl, rfl, w0⟩ := open_int Try.underlying22 (hval 0 22 v0 rfl rfl) h0
  obtain ⟨cs1, rfl, hf1, rfl, sh1⟩ := Val.open_val (n := 9) (L := [.i .u8, .b, .i .u8, .b, .b, .b, .b]) (by kernel_rfl) (by rw [Try.underlying32]; trivial) (hval 1 32 v1 rfl rfl) h1
  obtain ⟨a1_0, ct1_0, ce1_0, w1_0, hf1⟩ := hf1.int
  obtain ⟨a1_1, ct1_1, ce1_1, hf1⟩ := hf1.bool
  obtain ⟨a1_2, ct1_2, ce1_2, w1_2, hf1⟩ := hf1.int
  obtain ⟨a1_3, ct1_3, ce1_3, hf1⟩ := hf1.bool
  obtain ⟨a1_4, ct1_4, ce1_4, hf1⟩ := hf1.bool
  obtain ⟨a1_5, ct1_5, ce1_5, hf1⟩ := hf1.bool
  obtain ⟨a1_6, ct1_6, ce1_6, hf1⟩ := hf1.bool
  have cn1 := hf1.nil
  obtain rfl : cs1 = #[.int .u8 a1_0, .bool a1_1, .int .u8 a1_2, .bool a1_3, .bool a1_4, .bool a1_5, .bool a1_6] := by cases cs1; simp_all
  clear hA0 hval0 hsz0 hsz
  refine (Pure.PteMarks a0 a1_0 a1_1 a1_2 a1_3 a1_4 a1_5 a1_6 W w0 w1_0 w1_2).mono fun e W' ⟨he, bel⟩ => ?_
  subst he
  exact ⟨_, rfl, _, _, _, [], _, [], hW', trodAll_mk1 (shut_bool Try.underlying4 _), (trodAll_cons_mk (shut_int Try.underlying22 w0) (trodAll_cons_mk (sh1 _ _ _ _) trodAll_mk0)), rfl, bel.frame _, fun h => by cases h⟩
theorem over : Rows.pteMarksRow.holds Try.pinned (OpenSpec.ofChange Rows.pteMarksSpec) :=
  OpenClaim.holds_of_wide 6 Try.f6 rfl rfl rfl rfl rfl rfl rfl ⟨rfl, rfl, rfl, rfl, rfl⟩ rfl rfl rfl rfl rfl (by kernel_rfl) Try.func6 (by kernel_rfl)
    (of_decide_eq_true (by kernel_rfl)) (by unfold Func.isWrapper; first | (rw [if_pos (by decide +kernel)]; kernel_rfl) | (rw [if_neg (by decide +kernel)]; exact ⟨rfl, rfl⟩))
    (fun os started H enc _ => lifted os started H enc)
theorem proved : Rows.PteMarksSaid := over
#print axioms proved
end Go.Proofs.YteebgfcihoidmaaR.pteMarks
namespace Go.Proofs.YteebgfcihoidmaaR
/-- The row, under a short name, for the claim. -/
theorem pteMarks_holds : Rows.PteMarksSaid := pteMarks.proved
end Go.Proofs.YteebgfcihoidmaaR
