/- All registers' numbers, where their list lies. -/
import Derived.Test.YtpbodidpcbodaaaDoorCSmall
import Derived.Lib.SmallJoins
import Derived.Test.YtpbodidpcbodaaaDoorQx3
set_option linter.unusedSimpArgs false
set_option linter.unusedVariables false
namespace Go.Proofs.YtpbodidpcbodaaaDoor.Hx
open Go.RowKit Go.Proofs.YtpbodidpcbodaaaDoor.Q Go.Proofs.YtpbodidpcbodaaaDoorW.PrintWords Go.Proofs.YtpbodidpcbodaaaDoorW.PrintLast Go.Proofs.YtpbodidpcbodaaaDoorW.PrintMore Go.Proofs.YtpbodidpcbodaaaDoor.Rg
/-- The numbers' list lies in block g. -/
def Nos (w : World) (g : Nat) : Prop := ∀ i, i < 56 → w.cell? ⟨g, i, none⟩ = some (.int .i64 (rowNo i))
theorem nosLen : rowNos.length = 56 := by decide
theorem all_c (w : World) (hT : Tab w) : Calls Tryd.prog 26 #[] w fun e w' => ∃ g c, (e = .returned (.slice (some ⟨g, 0, none⟩) 56 c) ∧ w.heap.size ≤ g ∧ Nos w' g) ∧ Below w.heap.size w w' := by
  refine (csrno_All.calls rowNos w rfl hT).mono ?_
  rintro e w' ⟨v, rfl, hR, hb⟩
  have ho := Kd.own_of_R hR
  rw [nosLen] at ho
  obtain ⟨g, c, rfl⟩ := Go.Joins.ownsRow_form ho (by decide)
  have hR2 : Kd.R (Kd.int .i64) 3 w' w.heap.size (fun _ => True) (.slice (some ⟨g, 0, none⟩) rowNos.length c) rowNos := by rw [nosLen]; exact hR
  refine ⟨g, c, ⟨rfl, Kd.R_base hR2 g rfl, fun i hi => ?_⟩, hb⟩
  have h := (Kd.R_cell (0 : Int) hR2 (i : Int) (by omega) (by rw [nosLen]; omega)).1
  rw [show ((i : Int)).toNat = i by simp] at h
  rw [h]
  rfl
end Go.Proofs.YtpbodidpcbodaaaDoor.Hx
