/- A great record, loaded whole where only its cells are known. Plain lemmas, no program. -/
import Derived.Test.YtpbodidpcbodaaaDoorBv
import Derived.WalkKit
import Derived.Laws.Rows
set_option linter.unusedSimpArgs false
set_option linter.unusedVariables false
namespace Go.Proofs.YtpbodidpcbodaaaDoor.Bv
open Go.RowKit
/-- The cells of a block from one on hold these values. -/
def CellsAnd (w : World) (g : Nat) : Nat → List Value → Prop
  | _, [] => True
  | i, [v] => w.cell? ⟨g, i, none⟩ = some v
  | i, v :: u :: r => w.cell? ⟨g, i, none⟩ = some v ∧ CellsAnd w g (i + 1) (u :: r)
theorem CellsAnd.at {w : World} {g : Nat} : ∀ {cs : List Value} {i : Nat}, CellsAnd w g i cs → ∀ j v, cs[j]? = some v → w.cell? ⟨g, i + j, none⟩ = some v
  | [], _, _, j, v, e => by simp at e
  | [a], i, h, j, v, e => by
    cases j with
    | zero => simp at e; subst e; exact h
    | succ j => simp at e
  | a :: b :: r, i, h, j, v, e => by
    cases j with
    | zero => simp at e; subst e; exact h.1
    | succ j =>
      have := CellsAnd.at h.2 j v (by simpa using e)
      rw [show i + (j + 1) = i + 1 + j by omega]; exact this
theorem run_loadVar_cells {P : Program} (w : World) (g : Nat) (ty : TypeId) (cs : List Value) (d : TypeDesc) (h : CellsAnd w g 0 cs)
    (hu : P.underlying ty = some d) (hd : (match d with | .struct _ | .array _ _ => true | _ => false) = true) (hi : (P.info? ty).map (·.size) = some cs.length) :
    (loadVar ty ⟨g, 0, none⟩).run P w = .ok (.agg cs.toArray) w := by
  have hl : (loadCells ⟨g, 0, none⟩ cs.length).run P w = .ok cs.toArray w :=
    run_loadCells_list (P := P) w ⟨g, 0, none⟩ cs (fun j v hv => by
      have hadd : (⟨g, 0, none⟩ : Addr).add j = ⟨g, j, none⟩ := by unfold Addr.add; split <;> simp_all
      rw [hadd]
      have := CellsAnd.at h j v hv
      rwa [Nat.zero_add] at this)
  cases hq : P.info? ty with
  | none => simp [hq] at hi
  | some i =>
    have hs : i.size = cs.length := by simpa [hq] using hi
    have hagg : (isAgg ty).run P w = .ok true w := by
      unfold isAgg
      rw [Sem.run_bind, run_underlying hu w]
      cases d <;> simp_all
    simp [loadVar, Sem.run_bind, hagg, sizeOf, typeInfo, hq, hs, hl]
theorem exec_load_cells {P : Program} {ρ : Operand → Value} {o : Oper} {w : World} {ty : TypeId} {x : Operand} (ho : o.op = .load ty x) {g : Nat} (hx : ρ x = .pointer (some ⟨g, 0, none⟩)) (cs : List Value) {d : TypeDesc}
    (hu : P.underlying ty = some d) (hd : (match d with | .struct _ | .array _ _ => true | _ => false) = true) (hi : (P.info? ty).map (·.size) = some cs.length) (h : CellsAnd w g 0 cs) :
    (execOp ρ o).run P w = .ok (.value (.agg cs.toArray)) w := by
  unfold execOp
  simp only [ho, hx, Instr.loadAt, Instr.sureAddr, Sem.run_bind, Sem.run_pure, Result.andThen_ok, run_loadVar_cells w g ty cs d h hu hd hi]
end Go.Proofs.YtpbodidpcbodaaaDoor.Bv
