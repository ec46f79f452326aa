/- Where the Lean function of a Go function gives a value, the Go call returns that value and changes nothing that was there: for every input. (By a program of this session, and by hand.) -/
import Derived.Test.YteebgfcihoidmaaRRows
import Derived.Test.YteebgfcihoidmaaRQx8
import Derived.Test.YteebgfcihoidmaaRPqPteJudges
import Derived.WalkKit
import Derived.ProofKit
import Derived.OpenShut
import Derived.ShutString
import Derived.ChangeOld
import Derived.Below
import Derived.SizedLaws
import Derived.Test.YteebgfcihoidmaaRVal
namespace Go.Proofs.YteebgfcihoidmaaR.pteJudges
open Go.ChangeShapes Go.WideShapes Go.ChangeAt Go.RowKit
open Go.ChangeMaps (open_string shut_string)
set_option linter.unusedVariables false
theorem own : ownKnob Try.prog.godebug = none := by kernel_rfl
set_option maxRecDepth 100000 in
theorem lifted (os : Os) (started : os.Started) (H : Type) (enc : TypeId × Value → H) :
    ReturnsInHanded {} Try.checked os 4 .any (Rows.pteJudgesSpec.pre6 enc Try.prog Try.f4 Rows.pteJudgesRow.domain false) (Rows.pteJudgesSpec.post enc Try.prog Try.f4 false true false false) := by
  refine returnsInHanded_of_change_sized (C := Try.checked) own started (by kernel_rfl) Try.func4
    (ChangeSpec.witness6 (enc := enc) (C := Try.checked) false ⟨#[], #[.int .u64 0, .int .i64 0, .agg #[.int .u8 0, .bool false, .int .u8 0, .bool false, .bool false, .bool false, .bool false]], []⟩ 8 (by kernel_rfl) (by kernel_rfl) (by kernel_rfl) (by kernel_rfl)) ?_
  intro W base args ds gs before hval0 hW hcnd hsz0 _
  have hsz : (DataW.weightsEach Try.prog (Try.f4.params.toList ++ Rows.pteJudgesSpec.plain.varTypes Try.prog) (ds ++ gs)).all (· ≤ reachBytes) = true := hsz0
  have hval : ∀ (j : Nat) t v, Try.f4.params[j]? = some t → args[j]? = some v → Value.okWide Try.prog W .any base t v := hval0
  have hW' := hW
  obtain ⟨p, q, hA0, hV, rfl, hfz, hnd⟩ := hW
  have hA : DataW.TrodAll enc Try.prog W 0 (fun _ => true) true Try.f4.params.toList args.toList ds p := hA0
  rw [Try.params4] at hA hval hsz
  obtain ⟨v0, vs0, d0, ds0, p0, q0, hargs, rfl, rfl, h0, r0⟩ := trodAll_cons hA
  obtain ⟨v1, vs1, d1, ds1, p1, q1, rfl, rfl, rfl, h1, r1⟩ := trodAll_cons r0
  obtain ⟨v2, vs2, d2, ds2, p2, q2, rfl, rfl, rfl, h2, r2⟩ := trodAll_cons r1
  obtain ⟨rfl, rfl, rfl⟩ := trodAll_nil r2
  obtain rfl : args = #[v0, v1, v2] := by cases args; simp_all
  obtain ⟨rfl, rfl⟩ := trodVars_none hV
  obtain ⟨a0, rfl, rfl, rfl, w0⟩ := open_int Try.underlying22 (hval 0 22 v0 rfl rfl) h0
  obtain ⟨a1, rfl, rfl, rfl, w1⟩ := open_int Try.underlying3 (hval 1 3 v1 rfl rfl) h1
  obtain ⟨cs2, rfl, hf2, rfl, sh2⟩ := Val.open_val (n := 9) (L := [.i .u8, .b, .i .u8, .b, .b, .b, .b]) (by kernel_rfl) (by rw [Try.underlying32]; trivial) (hval 2 32 v2 rfl rfl) h2
  obtain ⟨a2_0, ct2_0, ce2_0, w2_0, hf2⟩ := hf2.int
  obtain ⟨a2_1, ct2_1, ce2_1, hf2⟩ := hf2.bool
  obtain ⟨a2_2, ct2_2, ce2_2, w2_2, hf2⟩ := hf2.int
  obtain ⟨a2_3, ct2_3, ce2_3, hf2⟩ := hf2.bool
  obtain ⟨a2_4, ct2_4, ce2_4, hf2⟩ := hf2.bool
  obtain ⟨a2_5, ct2_5, ce2_5, hf2⟩ := hf2.bool
  obtain ⟨a2_6, ct2_6, ce2_6, hf2⟩ := hf2.bool
  have cn2 := hf2.nil
  obtain rfl : cs2 = #[.int .u8 a2_0, .bool a2_1, .int .u8 a2_2, .bool a2_3, .bool a2_4, .bool a2_5, .bool a2_6] := by cases cs2; simp_all
  clear hA0 hval0 hsz0 hsz
  refine (Q.mezzaninelaw15_PteJudges.walk Pure.PteJudges a0 a1 a2_0 a2_1 a2_2 a2_3 a2_4 a2_5 a2_6 W w0 w1 w2_0 w2_2).mono fun e W' ⟨he, bel⟩ => ?_
  subst he
  exact ⟨_, rfl, _, _, _, [], _, [], hW', trodAll_mk1 (shut_bool Try.underlying4 _), (trodAll_cons_mk (shut_int Try.underlying22 w0) (trodAll_cons_mk (shut_int Try.underlying3 w1) (trodAll_cons_mk (sh2 _ _ _ _) trodAll_mk0))), rfl, bel.frame _, fun h => by cases h⟩
theorem over : Rows.pteJudgesRow.holds Try.pinned (OpenSpec.ofChange Rows.pteJudgesSpec) :=
  OpenClaim.holds_of_wide 4 Try.f4 rfl rfl rfl rfl rfl rfl rfl ⟨rfl, rfl, rfl, rfl, rfl⟩ rfl rfl rfl rfl rfl (by kernel_rfl) Try.func4 (by kernel_rfl)
    (of_decide_eq_true (by kernel_rfl)) (by unfold Func.isWrapper; first | (rw [if_pos (by decide +kernel)]; kernel_rfl) | (rw [if_neg (by decide +kernel)]; exact ⟨rfl, rfl⟩))
    (fun os started H enc _ => lifted os started H enc)
theorem proved : Rows.PteJudgesSaid := over
#print axioms proved
end Go.Proofs.YteebgfcihoidmaaR.pteJudges
namespace Go.Proofs.YteebgfcihoidmaaR
/-- The row, under a short name, for the claim. -/
theorem pteJudges_holds : Rows.PteJudgesSaid := pteJudges.proved
end Go.Proofs.YteebgfcihoidmaaR
