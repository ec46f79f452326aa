/- What was written at a place is read there, whole or in halves, and all else stays: of any clint made by at most 60 acts, any place, any value. -/
import Derived.Test.YthdgkafcgaohiaaQActs
set_option linter.unusedSimpArgs false
set_option linter.unusedVariables false
namespace Go.Proofs.Ythdgkafcgaohiaa.Pure
open Go.RowKit Go.Proofs.Ythdgkafcgaohiaa.Q Go.Proofs.YthdgkafcgaohiaaW.PrintWords Go.Proofs.YthdgkafcgaohiaaW.PrintLast Go.Proofs.YthdgkafcgaohiaaW.PrintMore Go.Proofs.Ythdgkafcgaohiaa.Bv Go.Proofs.Ythdgkafcgaohiaa.QC
set_option maxHeartbeats 4000000 in
set_option maxRecDepth 100000 in
theorem ClintBack (a : Option Addr) (cap : Nat) (l : List (Int × Int × Int × Int)) (at_ v : Int) (w : World) (hrow : ActsAt w a l) (wat : (Lit.int .u8 at_).wf = true) (wv : (Lit.int .u64 v).wf = true) :
    Calls Try.prog 7 #[.slice a l.length cap, .int .u8 at_, .int .u64 v] w fun e w' => e = .returned (.bool true) ∧ Below w.heap.size w w' := by
  obtain ⟨v0, v1⟩ := u64_in wv
  have hat : 0 ≤ at_ ∧ at_ < 256 := by simp only [Lit.wf, Bool.and_eq_true, decide_eq_true_eq] at wat; have h1 := wat.1; have h2 := wat.2; simp only [show IntKind.u8.min = 0 from rfl, show IntKind.u8.max = 255 from rfl] at h1 h2; omega
  by_cases h : l.length ≤ 60
  · exact mezzaninelaw04_ClintBack.callsB a cap l at_ v h hat v0 v1 w hrow forms
  · have d60 : decide ((l.length : Int) > 60) = true := decide_eq_true (by omega)
    clear hrow wat wv v0 v1 hat h
    go_enter Try.func7, Try.ntmps7
    go_wp2_with fail
    refine (mezzaninelaw04_awake.calls true _ rfl).mono ?_
    rintro e1 w2 ⟨rfl, hb3⟩
    have hB4 := Lib.hid hb3
    clear hb3
    go_wp2
    go_ret
    exact ⟨rfl, hB4.out⟩
end Go.Proofs.Ythdgkafcgaohiaa.Pure
