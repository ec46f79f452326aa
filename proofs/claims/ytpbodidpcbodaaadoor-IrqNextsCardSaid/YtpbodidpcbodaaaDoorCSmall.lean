/- Which register is meant; how a field's bits are put; masks. (By a program of this session.) -/
import Derived.Test.YtpbodidpcbodaaaDoorCField
set_option linter.unusedSimpArgs false
set_option linter.unusedVariables false
namespace Go.Proofs.YtpbodidpcbodaaaDoor.Hx
open Go.RowKit Go.Proofs.YtpbodidpcbodaaaDoor.Q Go.Proofs.YtpbodidpcbodaaaDoorW.PrintWords Go.Proofs.YtpbodidpcbodaaaDoorW.PrintLast Go.Proofs.YtpbodidpcbodaaaDoorW.PrintMore Go.Proofs.YtpbodidpcbodaaaDoor.Rg

/-- A field's bits of a mask made those of v. -/
def putV (a may v : Int) : Int := Go.bits .or .u64 (Go.bits .andNot .u64 a may) (Go.bits .and .u64 v may)
def tablesV (no : Int) : Bool := (csr_tables.f no).getD false
def modeV (v : Int) : Bool := (csr_mode.f v).getD false
theorem tables_f (no : Int) : csr_tables.f no = some (tablesV no) := by
  have h : ∃ r, csr_tables.f no = some r := by unfold csr_tables.f; repeat' (first | exact ⟨_, rfl⟩ | split)
  obtain ⟨r, hr⟩ := h
  unfold tablesV; rw [hr]; rfl
theorem mode_f (v : Int) : csr_mode.f v = some (modeV v) := by
  have h : ∃ r, csr_mode.f v = some r := by unfold csr_mode.f; repeat' (first | exact ⟨_, rfl⟩ | split)
  obtain ⟨r, hr⟩ := h
  unfold modeV; rw [hr]; rfl
theorem tables_c (no : Int) (w : World) : Calls Tryd.prog 29 #[.int .i64 no] w fun e w' => e = .returned (.bool (tablesV no)) ∧ Drawn0 w w' := csr_tables.calls no _ w (tables_f no)
theorem mode_c (v : Int) (w : World) : Calls Tryd.prog 30 #[.int .u64 v] w fun e w' => e = .returned (.bool (modeV v)) ∧ Drawn0 w w' := csr_mode.calls v _ w (mode_f v)
end Go.Proofs.YtpbodidpcbodaaaDoor.Hx
