/- Arguments that hold no pointer (whole numbers, bools, structs and arrays of these), given by value: opened to their cells, and read again in whatever world. Plain lemmas, no program. -/
import Derived.OpenShut
set_option linter.unusedSimpArgs false
set_option linter.unusedVariables false
namespace Go.Proofs.YtpbodidpcbodaaaDoor.Val
open Go Go.ChangeShapes Go.WideShapes Go.RowKit

/-- A cell: a bool, or a whole number of a kind. -/
inductive Lf | b | i (k : IntKind)
deriving DecidableEq
def lfOk : Lf → Value → Prop
  | .b, v => ∃ x, v = .bool x
  | .i k, v => ∃ n, v = .int k n ∧ (Lit.int k n).wf = true
/-- A row of cells. -/
def Fits : List Lf → List Value → Prop
  | [], [] => True
  | l :: L, v :: cs => lfOk l v ∧ Fits L cs
  | _, _ => False
def goFs (P : Program) (g : TypeId → Option (List Lf)) : Nat → List Field → Option (List Lf)
  | _, [] => some []
  | off, f :: fs => match g f.type with
    | some l => if f.offset = off ∧ P.cellsOf f.type = l.length then (goFs P g (off + l.length) fs).map (l ++ ·) else none
    | none => none
def goAr (l : List Lf) : Nat → List Lf
  | 0 => []
  | n + 1 => l ++ goAr l n
/-- The cells of a type that holds no pointer. -/
def lfs (P : Program) : Nat → TypeId → Option (List Lf)
  | 0, _ => none
  | n + 1, t => match P.underlying t with
    | some .bool => some [.b]
    | some (.int k) => some [.i k]
    | some (.struct fs) => match goFs P (lfs P n) 0 fs.toList with
      | some L => if P.cellsOf t = L.length then some L else none
      | none => none
    | some (.array m e) => match lfs P n e with
      | some l => if P.cellsOf e = l.length ∧ P.cellsOf t = (goAr l m).length then some (goAr l m) else none
      | none => none
    | _ => none
theorem Fits.len : ∀ {L : List Lf} {cs : List Value}, Fits L cs → cs.length = L.length
  | [], [], _ => rfl
  | [], _ :: _, h => h.elim
  | _ :: _, [], h => h.elim
  | l :: L, v :: cs, h => by rw [List.length_cons, List.length_cons, Fits.len h.2]
theorem Fits.app : ∀ {L : List Lf} {cs : List Value} {M : List Lf} {ds : List Value}, Fits L cs → Fits M ds → Fits (L ++ M) (cs ++ ds)
  | [], [], _, _, _, h => h
  | [], _ :: _, _, _, h, _ => h.elim
  | _ :: _, [], _, _, h, _ => h.elim
  | l :: L, v :: cs, _, _, h, h2 => ⟨h.1, Fits.app h.2 h2⟩
section
variable {H : Type} {enc : TypeId × Value → H} {P : Program} {w w' : World} {base base' : Nat} {spare spare' : Nat → Bool} {held held' : Bool}
theorem goAr_len (l : List Lf) (n : Nat) : (goAr l n).length = n * l.length := by
  induction n with
  | zero => simp [goAr]
  | succ n ih => rw [goAr, List.length_append, ih, Nat.succ_mul, Nat.add_comm]
/-- What is asked of a type's reading. -/
def Told (enc : TypeId × Value → H) (P : Program) (w w' : World) (base base' : Nat) (spare spare' : Nat → Bool) (held held' : Bool) (fuel : Nat) (t : TypeId) (L : List Lf) : Prop :=
  ∀ cs x, DataW.trod enc P w base spare held fuel t cs = some x → Fits L cs ∧ x.2 = [] ∧ DataW.trod enc P w' base' spare' held' fuel t cs = some x
theorem mapM_fields {fuel : Nat} {g : TypeId → Option (List Lf)} (ih : ∀ t L, g t = some L → Told enc P w w' base base' spare spare' held held' fuel t L) (cs : List Value) :
    ∀ (fs : List Field) (off : Nat) (L : List Lf) (xs : List (DataW H × List MemPlace)), goFs P g off fs = some L →
      (fs.mapM fun f => DataW.trod enc P w base spare held fuel f.type ((cs.drop f.offset).take (P.cellsOf f.type))) = some xs →
      Fits L ((cs.drop off).take L.length) ∧ xs.flatMap (·.2) = [] ∧ (fs.mapM fun f => DataW.trod enc P w' base' spare' held' fuel f.type ((cs.drop f.offset).take (P.cellsOf f.type))) = some xs := by
  intro fs
  induction fs with
  | nil =>
    intro off L xs hL hx
    rw [goFs] at hL; cases hL
    simp at hx; subst hx
    exact ⟨by simp [Fits], rfl, rfl⟩
  | cons f fs ihf =>
    intro off L xs hL hx
    rw [goFs] at hL
    cases hg : g f.type with
    | none => rw [hg] at hL; cases hL
    | some l =>
      rw [hg] at hL
      simp only at hL
      by_cases hc : f.offset = off ∧ P.cellsOf f.type = l.length
      · rw [if_pos hc] at hL
        obtain ⟨M, hM, rfl⟩ := Option.map_eq_some_iff.1 hL
        rw [List.mapM_cons] at hx
        obtain ⟨y, hy, hx⟩ := Option.bind_eq_some_iff.1 hx
        obtain ⟨ys, hys, hx⟩ := Option.bind_eq_some_iff.1 hx
        obtain rfl := Option.some.inj hx
        obtain ⟨h1, h2, h3⟩ := ih _ _ hg _ _ hy
        obtain ⟨g1, g2, g3⟩ := ihf _ _ _ hM hys
        rw [hc.1, hc.2] at h1
        refine ⟨?_, ?_, ?_⟩
        · have := Fits.app h1 g1
          rw [List.length_append, List.take_add, List.drop_drop]; exact this
        · rw [List.flatMap_cons, h2, g2]; rfl
        · rw [List.mapM_cons, h3, g3]; rfl
      · rw [if_neg hc] at hL; cases hL
theorem mapM_elems {fuel : Nat} {e : TypeId} {l : List Lf} (ih : Told enc P w w' base base' spare spare' held held' fuel e l) (hc : P.cellsOf e = l.length) (cs : List Value) :
    ∀ (n s : Nat) (xs : List (DataW H × List MemPlace)),
      ((List.range' s n).mapM fun i => DataW.trod enc P w base spare held fuel e ((cs.drop (i * P.cellsOf e)).take (P.cellsOf e))) = some xs →
      Fits (goAr l n) ((cs.drop (s * l.length)).take (n * l.length)) ∧ xs.flatMap (·.2) = [] ∧ ((List.range' s n).mapM fun i => DataW.trod enc P w' base' spare' held' fuel e ((cs.drop (i * P.cellsOf e)).take (P.cellsOf e))) = some xs := by
  intro n
  induction n with
  | zero =>
    intro s xs hx
    simp at hx; subst hx
    exact ⟨by simp [Fits, goAr], rfl, rfl⟩
  | succ n ihn =>
    intro s xs hx
    rw [List.range'_succ, List.mapM_cons] at hx
    obtain ⟨y, hy, hx⟩ := Option.bind_eq_some_iff.1 hx
    obtain ⟨ys, hys, hx⟩ := Option.bind_eq_some_iff.1 hx
    obtain rfl := Option.some.inj hx
    obtain ⟨h1, h2, h3⟩ := ih _ _ hy
    obtain ⟨g1, g2, g3⟩ := ihn _ _ hys
    rw [hc] at h1
    refine ⟨?_, ?_, ?_⟩
    · have := Fits.app h1 g1
      rw [goAr, show (n + 1) * l.length = l.length + n * l.length by rw [Nat.succ_mul, Nat.add_comm], List.take_add, List.drop_drop]
      rw [show s * l.length + l.length = (s + 1) * l.length by rw [Nat.succ_mul]]; exact this
    · rw [List.flatMap_cons, h2, g2]; rfl
    · rw [List.range'_succ, List.mapM_cons, h3, g3]; rfl
theorem told : ∀ (n : Nat) (t : TypeId) (L : List Lf), lfs P n t = some L → ∀ fuel, Told enc P w w' base base' spare spare' held held' fuel t L := by
  intro n
  induction n with
  | zero => intro t L h; rw [lfs] at h; cases h
  | succ n ih =>
    intro t L h fuel cs x hx
    cases fuel with
    | zero => rw [DataW.trod] at hx; cases hx
    | succ fuel =>
      rw [lfs] at h
      cases hu : P.underlying t with
      | none => rw [hu] at h; cases h
      | some d =>
        rw [hu] at h
        cases d <;> try (cases h; done)
        case bool =>
          cases h
          rcases cs with _ | ⟨v, _ | ⟨v2, cs⟩⟩
          · simp [DataW.trod, hu] at hx
          · cases v <;> simp [DataW.trod, hu] at hx ⊢
            case bool y => subst hx; exact ⟨⟨⟨y, rfl⟩, trivial⟩, rfl, rfl⟩
          · simp [DataW.trod, hu] at hx
        case int k =>
          cases h
          rcases cs with _ | ⟨v, _ | ⟨v2, cs⟩⟩
          · simp [DataW.trod, hu] at hx
          · cases v <;> simp [DataW.trod, hu] at hx ⊢
            case int k' y =>
              obtain ⟨⟨rfl, hw⟩, rfl⟩ := hx
              exact ⟨⟨⟨y, rfl, hw⟩, trivial⟩, rfl, ⟨⟨rfl, hw⟩, rfl⟩⟩
          · simp [DataW.trod, hu] at hx
        case struct fs =>
          simp only at h
          cases hg : goFs P (lfs P n) 0 fs.toList with
          | none => rw [hg] at h; cases h
          | some M =>
            rw [hg] at h
            simp only at h
            by_cases hc : P.cellsOf t = M.length
            · rw [if_pos hc] at h; cases h
              simp only [DataW.trod, hu] at hx ⊢
              by_cases hl : cs.length = P.cellsOf t
              · rw [if_pos hl] at hx ⊢
                obtain ⟨xs, hxs, rfl⟩ := Option.map_eq_some_iff.1 hx
                obtain ⟨g1, g2, g3⟩ := mapM_fields (w' := w') (base' := base') (spare' := spare') (held' := held') (fun t L hL => ih t L hL fuel) cs _ _ _ _ hg hxs
                rw [List.drop_zero, List.take_of_length_le (by omega)] at g1
                exact ⟨g1, g2, by rw [g3]; rfl⟩
              · rw [if_neg hl] at hx; cases hx
            · rw [if_neg hc] at h; cases h
        case array m e =>
          simp only at h
          cases hg : lfs P n e with
          | none => rw [hg] at h; cases h
          | some l =>
            rw [hg] at h
            simp only at h
            by_cases hc : P.cellsOf e = l.length ∧ P.cellsOf t = (goAr l m).length
            · rw [if_pos hc] at h; cases h
              simp only [DataW.trod, hu] at hx ⊢
              by_cases hl : cs.length = P.cellsOf t
              · rw [if_pos hl] at hx ⊢
                obtain ⟨xs, hxs, rfl⟩ := Option.map_eq_some_iff.1 hx
                rw [List.range_eq_range'] at hxs ⊢
                obtain ⟨g1, g2, g3⟩ := mapM_elems (ih e l hg fuel) hc.1 cs m 0 xs hxs
                rw [Nat.zero_mul, List.drop_zero, List.take_of_length_le (by rw [hl, hc.2, goAr_len]; exact Nat.le_refl _)] at g1
                exact ⟨g1, g2, by rw [g3]; rfl⟩
              · rw [if_neg hl] at hx; cases hx
            · rw [if_neg hc] at h; cases h
/-- OPENED: a struct or an array that is given by value. -/
theorem open_val {n : Nat} {t : TypeId} {L : List Lf} {r : Reach} {b0 : Nat} {v : Value} {d : DataW H} {ps : List MemPlace} (hL : lfs P n t = some L)
    (ht : match P.underlying t with | some (.struct _) | some (.array _ _) => True | _ => False)
    (hval : Value.okWide P w r b0 t v) (hd : DataW.Trod enc P w base spare held t v d ps) :
    ∃ cs : Array Value, v = .agg cs ∧ Fits L cs.toList ∧ ps = [] ∧ ∀ (w' : World) (base' : Nat) (spare' : Nat → Bool) (held' : Bool), DataW.Trod enc P w' base' spare' held' t v d [] := by
  have hv : ∃ cs, v = .agg cs := by
    unfold Value.okWide at hval
    cases hu : P.underlying t with
    | none => rw [hu] at ht; exact ht.elim
    | some k =>
      rw [hu] at ht hval
      cases k <;> first | exact ht.elim | (obtain ⟨cs, h, _⟩ := hval; exact ⟨cs, h⟩)
  obtain ⟨cs, rfl⟩ := hv
  obtain ⟨fuel, hf⟩ := hd
  have h0 := told (enc := enc) (w := w) (w' := w) (base := base) (base' := base) (spare := spare) (spare' := spare) (held := held) (held' := held) n t L hL fuel _ _ hf
  obtain ⟨h1, h2, _⟩ := h0
  simp only at h2
  subst h2
  refine ⟨cs, rfl, h1, rfl, fun w' base' spare' held' => ⟨fuel, ?_⟩⟩
  exact (told (enc := enc) (w := w) (w' := w') (base := base) (base' := base') (spare := spare) (spare' := spare') (held := held) (held' := held') n t L hL fuel _ _ hf).2.2
end
theorem Fits.bool {L : List Lf} {cs : List Value} (h : Fits (.b :: L) cs) : ∃ x cs', cs = .bool x :: cs' ∧ Fits L cs' := by
  cases cs with
  | nil => exact h.elim
  | cons v cs => obtain ⟨⟨x, rfl⟩, h2⟩ := h; exact ⟨x, cs, rfl, h2⟩
theorem Fits.int {k : IntKind} {L : List Lf} {cs : List Value} (h : Fits (.i k :: L) cs) : ∃ n cs', cs = .int k n :: cs' ∧ (Lit.int k n).wf = true ∧ Fits L cs' := by
  cases cs with
  | nil => exact h.elim
  | cons v cs => obtain ⟨⟨x, rfl, hw⟩, h2⟩ := h; exact ⟨x, cs, rfl, hw, h2⟩
theorem Fits.nil {cs : List Value} (h : Fits [] cs) : cs = [] := by
  cases cs with
  | nil => rfl
  | cons v cs => exact h.elim
end Go.Proofs.YtpbodidpcbodaaaDoor.Val
