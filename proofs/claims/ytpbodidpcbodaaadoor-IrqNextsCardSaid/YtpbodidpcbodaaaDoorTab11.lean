/- The package's table, as a row lists it, lies in its variable as the walks ask. -/
import Derived.Test.YtpbodidpcbodaaaDoorRows
import Derived.Test.YtpbodidpcbodaaaDoorQx3
import Derived.OpenShut
import Derived.Lib.LaidTab
namespace Go.Proofs.YtpbodidpcbodaaaDoor.TabIn
open Go.RowKit Go.Proofs.YtpbodidpcbodaaaDoor.Q
noncomputable abbrev P := Tryd.prog
theorem gTab : P.globalNamed "mezzanine/csrno.rows" = some 1 := by kernel_rfl
theorem gTabType : (P.globals[1]?).map (·.type) = some 63 := by kernel_rfl
theorem cellsT : P.cellsOf 63 = 112 := by kernel_rfl
theorem cellsR : P.cellsOf 62 = 2 := by kernel_rfl
theorem cellsI : P.cellsOf 3 = 1 := by kernel_rfl
theorem cellsS : P.cellsOf 9 = 1 := by kernel_rfl
def parts : List (DataW Unit) := match (Rows.laid_mezzanine_csrno_rows : DataW Unit) with | .agg l => l | _ => []
theorem laid_parts : (Rows.laid_mezzanine_csrno_rows : DataW Unit) = .agg parts := rfl
theorem parts_at : ∀ i, i < 56 → parts[i]? = some (.agg [.lit (.int .i64 (rowNo i)), .lit (.string (rowName i).data.toList)])
  | 0, _ => rfl
  | 1, _ => rfl
  | 2, _ => rfl
  | 3, _ => rfl
  | 4, _ => rfl
  | 5, _ => rfl
  | 6, _ => rfl
  | 7, _ => rfl
  | 8, _ => rfl
  | 9, _ => rfl
  | 10, _ => rfl
  | 11, _ => rfl
  | 12, _ => rfl
  | 13, _ => rfl
  | 14, _ => rfl
  | 15, _ => rfl
  | 16, _ => rfl
  | 17, _ => rfl
  | 18, _ => rfl
  | 19, _ => rfl
  | 20, _ => rfl
  | 21, _ => rfl
  | 22, _ => rfl
  | 23, _ => rfl
  | 24, _ => rfl
  | 25, _ => rfl
  | 26, _ => rfl
  | 27, _ => rfl
  | 28, _ => rfl
  | 29, _ => rfl
  | 30, _ => rfl
  | 31, _ => rfl
  | 32, _ => rfl
  | 33, _ => rfl
  | 34, _ => rfl
  | 35, _ => rfl
  | 36, _ => rfl
  | 37, _ => rfl
  | 38, _ => rfl
  | 39, _ => rfl
  | 40, _ => rfl
  | 41, _ => rfl
  | 42, _ => rfl
  | 43, _ => rfl
  | 44, _ => rfl
  | 45, _ => rfl
  | 46, _ => rfl
  | 47, _ => rfl
  | 48, _ => rfl
  | 49, _ => rfl
  | 50, _ => rfl
  | 51, _ => rfl
  | 52, _ => rfl
  | 53, _ => rfl
  | 54, _ => rfl
  | 55, _ => rfl
  | n + 56, h => absurd h (by omega)
theorem two {cs : List Value} {i : Nat} {a b : Value} (ha : (((cs.drop (i * 2)).take 2).drop 0).take 1 = [a]) (hb : (((cs.drop (i * 2)).take 2).drop 1).take 1 = [b]) : cs[i * 2]? = some a ∧ cs[i * 2 + 1]? = some b := by
  have h1 := congrArg (·[0]?) ha
  have h2 := congrArg (·[0]?) hb
  simp [List.getElem?_drop] at h1 h2
  exact ⟨h1, h2⟩
theorem cells_of_rows {enc : TypeId × Value → Unit} {w : World} {base : Nat} {sp : Nat → Bool} {held : Bool} {fuel : Nat} {cs : List Value} {p : List MemPlace}
    (h : DataW.trod enc P w base sp held fuel 63 cs = some (Rows.laid_mezzanine_csrno_rows, p)) : cs.toArray = tabCells := by
  obtain ⟨xs, m, rfl, hx, hl, hxl, hel⟩ := DataW.trod_array Tryd.underlying63 h
  have hx1 : parts = xs.map (·.1) := by
    have := congrArg Prod.fst hx
    rw [laid_parts] at this
    exact DataW.agg.inj this
  rw [cellsT] at hl
  have key : ∀ i, i < 56 → cs[i * 2]? = some (.int .i64 (rowNo i)) ∧ cs[i * 2 + 1]? = some (.string (rowName i)) := by
    intro i hi
    have h1 := hel i hi
    rw [cellsR] at h1
    obtain ⟨y, hy⟩ : ∃ y, xs[i]? = some y := ⟨xs[i], List.getElem?_eq_getElem (by omega)⟩
    have hy1 : y.1 = .agg [.lit (.int .i64 (rowNo i)), .lit (.string (rowName i).data.toList)] := by
      have := parts_at i hi
      rw [hx1, List.getElem?_map, hy] at this
      exact Option.some.inj this
    rw [hy] at h1
    obtain ⟨ys, n, rfl, hyx, _, hyl, hf⟩ := DataW.trod_struct Tryd.underlying62 h1
    have e1 : [DataW.lit (.int .i64 (rowNo i)), DataW.lit (.string (rowName i).data.toList)] = ys.map (·.1) := by
      have := congrArg Prod.fst hyx
      rw [hy1] at this
      exact DataW.agg.inj this
    have f0 := hf 0 _ rfl
    have f1 := hf 1 _ rfl
    have y0 : ∃ z, ys[0]? = some z ∧ z.1 = DataW.lit (.int .i64 (rowNo i)) := by
      have := congrArg (·[0]?) e1
      simp only [List.getElem?_cons_zero, List.getElem?_map] at this
      obtain ⟨z, hz, hz2⟩ := Option.map_eq_some_iff.1 this.symm
      exact ⟨z, hz, hz2⟩
    have y1 : ∃ z, ys[1]? = some z ∧ z.1 = DataW.lit (.string (rowName i).data.toList) := by
      have := congrArg (·[1]?) e1
      simp only [List.getElem?_cons_succ, List.getElem?_cons_zero, List.getElem?_map] at this
      obtain ⟨z, hz, hz2⟩ := Option.map_eq_some_iff.1 this.symm
      exact ⟨z, hz, hz2⟩
    obtain ⟨z0, hz0, ez0⟩ := y0
    obtain ⟨z1, hz1, ez1⟩ := y1
    rw [hz0] at f0
    rw [hz1] at f1
    obtain ⟨n0, hc0, hd0, _⟩ := DataW.trod_int Tryd.underlying3 f0
    obtain ⟨s1, hc1, hd1, _⟩ := DataW.trod_string Tryd.underlying9 f1
    have g0 : n0 = rowNo i := by
      rw [hd0] at ez0
      have := DataW.lit.inj ez0
      exact (Lit.int.inj this).2
    have g1 : s1 = rowName i := by
      rw [hd1] at ez1
      have := Lit.string.inj (DataW.lit.inj ez1)
      cases s1; cases hr : rowName i
      rw [hr] at this
      simpa using this
    subst g0 g1
    exact two hc0 hc1
  apply Array.ext_getElem?
  intro j
  have hs : tabCells.size = 112 := rfl
  by_cases hj : j < 112
  · have hh := key (j / 2) (by omega)
    by_cases ho : j % 2 = 0
    · have := tab_no (j / 2) (by omega)
      rw [show j / 2 * 2 = j by omega] at this hh
      rw [this]; simpa using hh.1
    · have := tab_name (j / 2) (by omega)
      rw [show j / 2 * 2 + 1 = j by omega] at this hh
      rw [this]; simpa using hh.2
  · rw [Array.getElem?_eq_none (by simp; omega), Array.getElem?_eq_none (by rw [hs]; omega)]
theorem tabV {rest : List (String × DataW Unit)} {W : World} {ps : List MemPlace} (h : DataW.LaidVars P W (("mezzanine/csrno.rows", Rows.laid_mezzanine_csrno_rows) :: rest) ps) : Tab W := by
  obtain ⟨g', t', cs, fuel, p, q, hg', ht', hvar, hd, _, _⟩ := h
  obtain rfl := Option.some.inj (gTab.symm.trans hg')
  obtain rfl := Option.some.inj (gTabType.symm.trans ht')
  have hc := cells_of_rows hd
  unfold World.var? at hvar
  rw [gTab] at hvar
  simp only [Option.bind_some] at hvar
  split at hvar
  · rename_i cs' t fr hh
    have e := Option.some.inj hvar
    exact ⟨t, fr, by rw [hh]; congr 2; rw [e, ← hc]⟩
  · cases hvar
theorem tab {rest : List (String × DataW Unit)} {W : World} (h : laidMet P (("mezzanine/csrno.rows", Rows.laid_mezzanine_csrno_rows) :: rest) W) : Tab W := by
  obtain ⟨ps, h, _⟩ := h
  exact tabV h
theorem tab2 {n : String} {d : DataW Unit} {rest : List (String × DataW Unit)} {W : World} (h : laidMet P ((n, d) :: ("mezzanine/csrno.rows", Rows.laid_mezzanine_csrno_rows) :: rest) W) : Tab W := by
  obtain ⟨ps, h, _⟩ := h
  obtain ⟨_, _, _, _, _, q, _, _, _, _, h2, _⟩ := h
  exact tabV h2
end Go.Proofs.YtpbodidpcbodaaaDoor.TabIn
