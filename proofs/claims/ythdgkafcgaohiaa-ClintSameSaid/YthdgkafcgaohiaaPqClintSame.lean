/- Two clints are equal just where the document's are: after at most 60 acts each. -/
import Derived.Test.YthdgkafcgaohiaaQx5
import Derived.Test.YthdgkafcgaohiaaQActs
set_option linter.unusedSimpArgs false
set_option linter.unusedVariables false
namespace Go.Proofs.Ythdgkafcgaohiaa.Pure
open Go.RowKit Go.Proofs.Ythdgkafcgaohiaa.Q Go.Proofs.YthdgkafcgaohiaaW.PrintWords Go.Proofs.YthdgkafcgaohiaaW.PrintLast Go.Proofs.YthdgkafcgaohiaaW.PrintMore Go.Proofs.Ythdgkafcgaohiaa.Bv Go.Proofs.Ythdgkafcgaohiaa.QC
set_option maxHeartbeats 4000000 in
set_option maxRecDepth 100000 in
theorem ClintSame (a : Option Addr) (cap : Nat) (l : List (Int × Int × Int × Int)) (am : Option Addr) (capm : Nat) (m : List (Int × Int × Int × Int)) (w : World) (hrow : ActsAt w a l) (hrow2 : ActsAt w am m) :
    Calls Try.prog 3 #[.slice a l.length cap, .slice am m.length capm] w fun e w' => e = .returned (.bool true) ∧ Below w.heap.size w w' := by
  by_cases h : l.length ≤ 60
  · by_cases h2 : m.length ≤ 60
    · exact mezzaninelaw04_ClintSame.callsB a am cap capm l m h h2 w hrow hrow2 forms
    · have d60 : decide ((l.length : Int) > 60) = false := decide_eq_false (by omega)
      have m60 : decide ((m.length : Int) > 60) = true := decide_eq_true (by omega)
      clear hrow hrow2 h h2
      go_enter Try.func3, Try.ntmps3
      go_wp2_with fail
      refine (mezzaninelaw04_awake.calls true _ rfl).mono ?_
      rintro e1 w2 ⟨rfl, hb3⟩
      have hB4 := Lib.hid hb3
      clear hb3
      go_wp2
      go_ret
      exact ⟨rfl, hB4.out⟩
  · have d60 : decide ((l.length : Int) > 60) = true := decide_eq_true (by omega)
    clear hrow hrow2 h
    go_enter Try.func3, Try.ntmps3
    go_wp2_with fail
    refine (mezzaninelaw04_awake.calls true _ rfl).mono ?_
    rintro e1 w2 ⟨rfl, hb3⟩
    have hB4 := Lib.hid hb3
    clear hb3
    go_wp2
    go_ret
    exact ⟨rfl, hB4.out⟩
end Go.Proofs.Ythdgkafcgaohiaa.Pure
