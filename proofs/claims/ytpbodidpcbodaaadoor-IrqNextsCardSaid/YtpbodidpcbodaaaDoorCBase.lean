/- Small lemmas. (By a program of this session.) -/
import Derived.Test.YtpbodidpcbodaaaDoorCRead
set_option linter.unusedSimpArgs false
set_option linter.unusedVariables false
namespace Go.Proofs.YtpbodidpcbodaaaDoor.Hx
open Go.RowKit Go.Proofs.YtpbodidpcbodaaaDoor.Q Go.Proofs.YtpbodidpcbodaaaDoorW.PrintWords Go.Proofs.YtpbodidpcbodaaaDoorW.PrintLast Go.Proofs.YtpbodidpcbodaaaDoorW.PrintMore Go.Proofs.YtpbodidpcbodaaaDoor.Rg

theorem set_set (h : Ht) (o : Nat) (a b : Int) : (h.set o a).set o b = h.set o b := by
  unfold Ht.set
  congr 1
  funext i
  show (bif Nat.beq i o then b else (bif Nat.beq i o then a else h.x i)) = (bif Nat.beq i o then b else h.x i)
  cases Nat.beq i o <;> rfl
theorem Hb.of2 {w : World} {g : Nat} {h h2 : Ht} (e : h = h2) (H : Hb w g h) : Hb w g h2 := e ▸ H
theorem Below_of {n : Nat} {w w1 w2 : World} (e : w1 = w2) (H : Below n w w1) : Below n w w2 := e ▸ H
end Go.Proofs.YtpbodidpcbodaaaDoor.Hx
