/- Where the Lean function of a Go function gives a value, the Go call returns that value and changes nothing that was there: for every input. (By a program of this session, and by hand.) -/
import Derived.Test.YteebgfcihoidmaaRRows
import Derived.Test.YteebgfcihoidmaaRQx12
import Derived.Test.YteebgfcihoidmaaRPqPteFinds
import Derived.WalkKit
import Derived.ProofKit
import Derived.OpenShut
import Derived.ShutString
import Derived.ChangeOld
import Derived.Below
import Derived.SizedLaws
import Derived.Test.YteebgfcihoidmaaRVal
namespace Go.Proofs.YteebgfcihoidmaaR.pteFinds
open Go.ChangeShapes Go.WideShapes Go.ChangeAt Go.RowKit
open Go.ChangeMaps (open_string shut_string)
set_option linter.unusedVariables false
theorem own : ownKnob Try.prog.godebug = none := by kernel_rfl
set_option maxRecDepth 100000 in
theorem lifted (os : Os) (started : os.Started) (H : Type) (enc : TypeId × Value → H) :
    ReturnsInHanded {} Try.checked os 8 .any (Rows.pteFindsSpec.pre6 enc Try.prog Try.f8 Rows.pteFindsRow.domain false) (Rows.pteFindsSpec.post enc Try.prog Try.f8 false true false false) := by
  refine returnsInHanded_of_change_sized (C := Try.checked) own started (by kernel_rfl) Try.func8
    (ChangeSpec.witness6 (enc := enc) (C := Try.checked) false ⟨#[], #[.int .u64 0, .int .i64 0, .int .u64 0, .agg #[.int .u8 0, .bool false, .int .u8 0, .bool false, .bool false, .bool false, .bool false]], []⟩ 8 (by kernel_rfl) (by kernel_rfl) (by kernel_rfl) (by kernel_rfl)) ?_
  intro W base args ds gs before hval0 hW hcnd hsz0 _
  have hsz : (DataW.weightsEach Try.prog (Try.f8.params.toList ++ Rows.pteFindsSpec.plain.varTypes Try.prog) (ds ++ gs)).all (· ≤ reachBytes) = true := hsz0
  have hval : ∀ (j : Nat) t v, Try.f8.params[j]? = some t → args[j]? = some v → Value.okWide Try.prog W .any base t v := hval0
  have hW' := hW
  obtain ⟨p, q, hA0, hV, rfl, hfz, hnd⟩ := hW
  have hA : DataW.TrodAll enc Try.prog W 0 (fun _ => true) true Try.f8.params.toList args.toList ds p := hA0
  rw [Try.params8] at hA hval hsz
  obtain ⟨v0, vs0, d0, ds0, p0, q0, hargs, rfl, rfl, h0, r0⟩ := trodAll_cons hA
  obtain ⟨v1, vs1, d1, ds1, p1, q1, rfl, rfl, rfl, h1, r1⟩ := trodAll_cons r0
  obtain ⟨v2, vs2, d2, ds2, p2, q2, rfl, rfl, rfl, h2, r2⟩ := trodAll_cons r1
  obtain ⟨v3, vs3, d3, ds3, p3, q3, rfl, rfl, rfl, h3, r3⟩ := trodAll_cons r2
  obtain ⟨rfl, rfl, rfl⟩ := trodAll_nil r3
  obtain rfl : args = #[v0, v1, v2, v3] := by cases args; simp_all
  obtain ⟨rfl, rfl⟩ := trodVars_none hV
  obtain ⟨a0, rfl, rfl, rfl, w0⟩ := open_int Try.underlying22 (hval 0 22 v0 rfl rfl) h0
  obtain ⟨a1, rfl, rfl, rfl, w1⟩ := open_int Try.underlying3 (hval 1 3 v1 rfl rfl) h1
  obtain ⟨a2, rfl, rfl, rfl, w2⟩ := open_int Try.underlying22 (hval 2 22 v2 rfl rfl) h2
  obtain ⟨cs3, rfl, hf3, rfl, sh3⟩ := Val.open_val (n := 9) (L := [.i .u8, .b, .i .u8, .b, .b, .b, .b]) (by kernel_rfl) (by rw [Try.underlying32]; trivial) (hval 3 32 v3 rfl rfl) h3
  obtain ⟨a3_0, ct3_0, ce3_0, w3_0, hf3⟩ := hf3.int
  obtain ⟨a3_1, ct3_1, ce3_1, hf3⟩ := hf3.bool
  obtain ⟨a3_2, ct3_2, ce3_2, w3_2, hf3⟩ := hf3.int
  obtain ⟨a3_3, ct3_3, ce3_3, hf3⟩ := hf3.bool
  obtain ⟨a3_4, ct3_4, ce3_4, hf3⟩ := hf3.bool
  obtain ⟨a3_5, ct3_5, ce3_5, hf3⟩ := hf3.bool
  obtain ⟨a3_6, ct3_6, ce3_6, hf3⟩ := hf3.bool
  have cn3 := hf3.nil
  obtain rfl : cs3 = #[.int .u8 a3_0, .bool a3_1, .int .u8 a3_2, .bool a3_3, .bool a3_4, .bool a3_5, .bool a3_6] := by cases cs3; simp_all
  clear hA0 hval0 hsz0 hsz
  refine (Q.mezzaninelaw15_PteFinds.walk Pure.PteFinds a0 a1 a2 a3_0 a3_1 a3_2 a3_3 a3_4 a3_5 a3_6 W w0 w1 w2 w3_0 w3_2).mono fun e W' ⟨he, bel⟩ => ?_
  subst he
  exact ⟨_, rfl, _, _, _, [], _, [], hW', trodAll_mk1 (shut_bool Try.underlying4 _), (trodAll_cons_mk (shut_int Try.underlying22 w0) (trodAll_cons_mk (shut_int Try.underlying3 w1) (trodAll_cons_mk (shut_int Try.underlying22 w2) (trodAll_cons_mk (sh3 _ _ _ _) trodAll_mk0)))), rfl, bel.frame _, fun h => by cases h⟩
theorem over : Rows.pteFindsRow.holds Try.pinned (OpenSpec.ofChange Rows.pteFindsSpec) :=
  OpenClaim.holds_of_wide 8 Try.f8 rfl rfl rfl rfl rfl rfl rfl ⟨rfl, rfl, rfl, rfl, rfl⟩ rfl rfl rfl rfl rfl (by kernel_rfl) Try.func8 (by kernel_rfl)
    (of_decide_eq_true (by kernel_rfl)) (by unfold Func.isWrapper; first | (rw [if_pos (by decide +kernel)]; kernel_rfl) | (rw [if_neg (by decide +kernel)]; exact ⟨rfl, rfl⟩))
    (fun os started H enc _ => lifted os started H enc)
theorem proved : Rows.PteFindsSaid := over
#print axioms proved
end Go.Proofs.YteebgfcihoidmaaR.pteFinds
namespace Go.Proofs.YteebgfcihoidmaaR
/-- The row, under a short name, for the claim. -/
theorem pteFinds_holds : Rows.PteFindsSaid := pteFinds.proved
end Go.Proofs.YteebgfcihoidmaaR
