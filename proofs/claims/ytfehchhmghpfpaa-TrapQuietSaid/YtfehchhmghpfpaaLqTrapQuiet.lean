/- The row of the law TrapQuiet: out of its walk. (By a program of this session.) -/
import Derived.Test.YtfehchhmghpfpaaRows
import Derived.Test.YtfehchhmghpfpaaPqTrapQuiet
import Derived.Test.YtfehchhmghpfpaaHrow
import Derived.WalkKit
import Derived.ProofKit
import Derived.OpenShut
import Derived.ShutString
import Derived.ChangeOld
import Derived.Below
import Derived.SizedLaws
namespace Go.Proofs.Ytfehchhmghpfpaa.trapQuiet
open Go.ChangeShapes Go.WideShapes Go.ChangeAt Go.RowKit
open Go.ChangeMaps (open_string shut_string)
set_option linter.unusedVariables false
theorem own : ownKnob Try.prog.godebug = none := by kernel_rfl
theorem laidOut : laidOutB Try.prog = true := by kernel_rfl
set_option maxRecDepth 100000 in
theorem lifted (os : Os) (started : os.Started) (H : Type) (enc : TypeId × Value → H) :
    ReturnsInHanded {} Try.checked os 4 .any (Rows.trapQuietSpec.pre6 enc Try.prog Try.f4 Rows.trapQuietRow.domain false) (Rows.trapQuietSpec.post enc Try.prog Try.f4 false true false false) := by
  refine returnsInHanded_of_change_sized (C := Try.checked) own started (by kernel_rfl) Try.func4
    (ChangeSpec.witness6 (enc := enc) (C := Try.checked) false ⟨#[], #[.agg #[.int .u64 0, .int .u64 0, .int .u64 0, .int .u64 0, .int .u64 0, .int .u64 0, .int .u64 0, .int .u64 0, .int .u64 0, .int .u64 0, .int .u64 0, .int .u64 0, .int .u64 0, .int .u64 0, .int .u64 0, .int .u64 0, .int .u64 0, .int .u64 0, .int .u64 0, .int .u64 0, .int .u64 0, .int .u64 0, .int .u64 0, .int .u64 0, .int .u64 0, .int .u64 0, .int .u64 0, .int .u64 0, .int .u64 0, .int .u64 0, .int .u64 0, .int .u64 0, .int .u64 0, .int .u8 0, .bool false, .bool false, .bool false, .int .u64 0, .int .u64 0, .int .u64 0, .int .u64 0, .int .u64 0, .int .u64 0, .int .u64 0, .int .u64 0, .int .u64 0, .int .u64 0, .int .u64 0, .int .u64 0, .int .u64 0, .int .u64 0, .int .u64 0, .int .u64 0, .int .u64 0, .int .u64 0, .int .u64 0, .int .u64 0, .int .u64 0, .int .u64 0, .int .u64 0, .int .u64 0, .int .u64 0, .int .u64 0, .int .u64 0, .int .u64 0, .int .u64 0, .int .u64 0, .int .u64 0, .int .u64 0, .int .u64 0, .int .u64 0, .int .u64 0, .int .u64 0, .int .u64 0, .int .u64 0, .int .u64 0, .int .u64 0], .agg #[.bool false, .int .u64 0, .int .u64 0, .int .u64 0, .int .u64 0, .bool false]], []⟩ 8 (by kernel_rfl) (by kernel_rfl) (by kernel_rfl) (by kernel_rfl)) ?_
  intro W base args ds gs before hval0 hW hcnd hsz0 _
  have hsz : (DataW.weightsEach Try.prog (Try.f4.params.toList ++ Rows.trapQuietSpec.plain.varTypes Try.prog) (ds ++ gs)).all (· ≤ reachBytes) = true := hsz0
  have hval : ∀ (j : Nat) t v, Try.f4.params[j]? = some t → args[j]? = some v → Value.okWide Try.prog W .any base t v := hval0
  have hW' := hW
  obtain ⟨p, q, hA0, hV, rfl, hfz, hnd⟩ := hW
  have hA : DataW.TrodAll enc Try.prog W 0 (fun _ => true) true Try.f4.params.toList args.toList ds p := hA0
  rw [Try.params4] at hA hval
  obtain ⟨v0, vs0, d0, ds0, p0, q0, hargs, rfl, rfl, h0, r0⟩ := trodAll_cons hA
  obtain ⟨v1, vs1, d1, ds1, p1, q1, rfl, rfl, rfl, h1, r1⟩ := trodAll_cons r0
  obtain ⟨rfl, rfl, rfl⟩ := trodAll_nil r1
  obtain rfl : args = #[v0, v1] := by cases args; simp_all
  obtain ⟨rfl, rfl⟩ := trodVars_none hV
  obtain ⟨cs0, rfl, hf0, rfl, sh0⟩ := Val.open_val (n := 9) (L := Hx.hartL) Hx.hartLfs (by rw [Try.underlying25]; trivial) (hval 0 25 v0 rfl rfl) h0
  obtain ⟨H0, rfl, w0⟩ := Hx.hart_of_fits hf0
  obtain ⟨cs1, rfl, hf1, rfl, sh1⟩ := Val.open_val (n := 9) (L := [.b, .i .u64, .i .u64, .i .u64, .i .u64, .b]) (by kernel_rfl) (by rw [Try.underlying27]; trivial) (hval 1 27 v1 rfl rfl) h1
  obtain ⟨a1ti, ct1_0, ce1_0, hf1⟩ := hf1.bool
  obtain ⟨a1tc, ct1_1, ce1_1, w1tc, hf1⟩ := hf1.int
  obtain ⟨a1tv, ct1_2, ce1_2, w1tv, hf1⟩ := hf1.int
  obtain ⟨a1tv2, ct1_3, ce1_3, w1tv2, hf1⟩ := hf1.int
  obtain ⟨a1tn, ct1_4, ce1_4, w1tn, hf1⟩ := hf1.int
  obtain ⟨a1tg, ct1_5, ce1_5, hf1⟩ := hf1.bool
  have cn1 := hf1.nil
  obtain rfl : cs1 = #[.bool a1ti, .int .u64 a1tc, .int .u64 a1tv, .int .u64 a1tv2, .int .u64 a1tn, .bool a1tg] := by cases cs1; simp_all
  clear hA0 hval0
  refine (Pure.TrapQuiet H0 a1ti a1tc a1tv a1tv2 a1tn a1tg W w0 w1tc w1tv w1tv2 w1tn).mono fun e W' ⟨he, bel⟩ => ?_
  subst he
  exact ⟨_, rfl, _, _, _, [], _, [], hW', trodAll_mk1 (shut_bool Try.underlying4 _), (trodAll_cons_mk (sh0 _ _ _ _) (trodAll_cons_mk (sh1 _ _ _ _) trodAll_mk0)), rfl, bel.frame _, fun h => by cases h⟩
theorem over : Rows.trapQuietRow.holds Try.pinned (OpenSpec.ofChange Rows.trapQuietSpec) :=
  OpenClaim.holds_of_wide 4 Try.f4 rfl rfl rfl rfl rfl rfl rfl ⟨rfl, rfl, rfl, rfl, rfl⟩ rfl rfl rfl rfl rfl (by kernel_rfl) Try.func4 (by kernel_rfl)
    (of_decide_eq_true (by kernel_rfl)) (by unfold Func.isWrapper; first | (rw [if_pos (by decide +kernel)]; kernel_rfl) | (rw [if_neg (by decide +kernel)]; exact ⟨rfl, rfl⟩))
    (fun os started H enc _ => lifted os started H enc)
theorem proved : Rows.TrapQuietSaid := over
#print axioms proved
end Go.Proofs.Ytfehchhmghpfpaa.trapQuiet
namespace Go.Proofs.Ytfehchhmghpfpaa
/-- The row, under a short name, for the claim. -/
theorem trapQuiet_holds : Rows.TrapQuietSaid := trapQuiet.proved
end Go.Proofs.Ytfehchhmghpfpaa
