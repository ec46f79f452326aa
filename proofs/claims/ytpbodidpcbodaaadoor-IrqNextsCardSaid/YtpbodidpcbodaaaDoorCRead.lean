/- What a register says. (By a program of this session.) -/
import Derived.Test.YtpbodidpcbodaaaDoorCSmall
set_option linter.unusedSimpArgs false
set_option linter.unusedVariables false
namespace Go.Proofs.YtpbodidpcbodaaaDoor.Hx
open Go.RowKit Go.Proofs.YtpbodidpcbodaaaDoor.Q Go.Proofs.YtpbodidpcbodaaaDoorW.PrintWords Go.Proofs.YtpbodidpcbodaaaDoorW.PrintLast Go.Proofs.YtpbodidpcbodaaaDoorW.PrintMore Go.Proofs.YtpbodidpcbodaaaDoor.Rg

theorem fieldOff_isU {no : Int} {o : Nat} (h : fieldOff no = some o) : isU o = true := by
  have h_mOff : ∀ o, mOff no = some o → isU o = true := by
    intro o h; unfold mOff at h
    by_cases g : no = 768
    · rw [if_pos g] at h; cases h; rfl
    rw [if_neg g] at h; clear g
    by_cases g : no = 770
    · rw [if_pos g] at h; cases h; rfl
    rw [if_neg g] at h; clear g
    by_cases g : no = 771
    · rw [if_pos g] at h; cases h; rfl
    rw [if_neg g] at h; clear g
    by_cases g : no = 772
    · rw [if_pos g] at h; cases h; rfl
    rw [if_neg g] at h; clear g
    by_cases g : no = 773
    · rw [if_pos g] at h; cases h; rfl
    rw [if_neg g] at h; clear g
    by_cases g : no = 774
    · rw [if_pos g] at h; cases h; rfl
    rw [if_neg g] at h; clear g
    by_cases g : no = 832
    · rw [if_pos g] at h; cases h; rfl
    rw [if_neg g] at h; clear g
    by_cases g : no = 833
    · rw [if_pos g] at h; cases h; rfl
    rw [if_neg g] at h; clear g
    by_cases g : no = 834
    · rw [if_pos g] at h; cases h; rfl
    rw [if_neg g] at h; clear g
    by_cases g : no = 835
    · rw [if_pos g] at h; cases h; rfl
    rw [if_neg g] at h; clear g
    by_cases g : no = 843
    · rw [if_pos g] at h; cases h; rfl
    rw [if_neg g] at h; clear g
    by_cases g : no = 842
    · rw [if_pos g] at h; cases h; rfl
    rw [if_neg g] at h; clear g
    by_cases g : no = 2816
    · rw [if_pos g] at h; cases h; rfl
    rw [if_neg g] at h; clear g
    by_cases g : no = 2818
    · rw [if_pos g] at h; cases h; rfl
    rw [if_neg g] at h; clear g
    cases h
  have h_superOff : ∀ o, superOff no = some o → isU o = true := by
    intro o h; unfold superOff at h
    by_cases g : no = 261
    · rw [if_pos g] at h; cases h; rfl
    rw [if_neg g] at h; clear g
    by_cases g : no = 262
    · rw [if_pos g] at h; cases h; rfl
    rw [if_neg g] at h; clear g
    by_cases g : no = 320
    · rw [if_pos g] at h; cases h; rfl
    rw [if_neg g] at h; clear g
    by_cases g : no = 321
    · rw [if_pos g] at h; cases h; rfl
    rw [if_neg g] at h; clear g
    by_cases g : no = 322
    · rw [if_pos g] at h; cases h; rfl
    rw [if_neg g] at h; clear g
    by_cases g : no = 323
    · rw [if_pos g] at h; cases h; rfl
    rw [if_neg g] at h; clear g
    by_cases g : no = 384
    · rw [if_pos g] at h; cases h; rfl
    rw [if_neg g] at h; clear g
    by_cases g : no = 512
    · rw [if_pos g] at h; cases h; rfl
    rw [if_neg g] at h; clear g
    by_cases g : no = 517
    · rw [if_pos g] at h; cases h; rfl
    rw [if_neg g] at h; clear g
    by_cases g : no = 576
    · rw [if_pos g] at h; cases h; rfl
    rw [if_neg g] at h; clear g
    by_cases g : no = 577
    · rw [if_pos g] at h; cases h; rfl
    rw [if_neg g] at h; clear g
    by_cases g : no = 578
    · rw [if_pos g] at h; cases h; rfl
    rw [if_neg g] at h; clear g
    by_cases g : no = 579
    · rw [if_pos g] at h; cases h; rfl
    rw [if_neg g] at h; clear g
    by_cases g : no = 640
    · rw [if_pos g] at h; cases h; rfl
    rw [if_neg g] at h; clear g
    cases h
  have h_hypOff : ∀ o, hypOff no = some o → isU o = true := by
    intro o h; unfold hypOff at h
    by_cases g : no = 1536
    · rw [if_pos g] at h; cases h; rfl
    rw [if_neg g] at h; clear g
    by_cases g : no = 1538
    · rw [if_pos g] at h; cases h; rfl
    rw [if_neg g] at h; clear g
    by_cases g : no = 1539
    · rw [if_pos g] at h; cases h; rfl
    rw [if_neg g] at h; clear g
    by_cases g : no = 1605
    · rw [if_pos g] at h; cases h; rfl
    rw [if_neg g] at h; clear g
    by_cases g : no = 1543
    · rw [if_pos g] at h; cases h; rfl
    rw [if_neg g] at h; clear g
    by_cases g : no = 1542
    · rw [if_pos g] at h; cases h; rfl
    rw [if_neg g] at h; clear g
    by_cases g : no = 1603
    · rw [if_pos g] at h; cases h; rfl
    rw [if_neg g] at h; clear g
    by_cases g : no = 1610
    · rw [if_pos g] at h; cases h; rfl
    rw [if_neg g] at h; clear g
    by_cases g : no = 1664
    · rw [if_pos g] at h; cases h; rfl
    rw [if_neg g] at h; clear g
    by_cases g : no = 1541
    · rw [if_pos g] at h; cases h; rfl
    rw [if_neg g] at h; clear g
    cases h
  unfold fieldOff at h
  cases hm : mOff no with
  | some j => rw [hm] at h; cases h; exact h_mOff _ hm
  | none =>
    rw [hm] at h
    cases hs : superOff no with
    | some j => rw [hs] at h; cases h; exact h_superOff _ hs
    | none => rw [hs] at h; exact h_hypOff _ h
end Go.Proofs.YtpbodidpcbodaaaDoor.Hx
