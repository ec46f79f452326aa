/- A region that draws its order and has but stores left, into places of one block that differ: whatever the order, one world is made. Plain lemmas over the kit's. -/
import Derived.Test.YtpbodidpcbodaaaDoorArr
import Derived.Deep.MidRow
set_option linter.unusedSimpArgs false
set_option linter.unusedVariables false
namespace Go.Proofs.YtpbodidpcbodaaaDoor.Rg
open Go.RowKit Go.Proofs.YtpbodidpcbodaaaDoorW.PrintWords Go.Proofs.YtpbodidpcbodaaaDoorW.PrintLast Go.Proofs.YtpbodidpcbodaaaDoorW.PrintMore
/-- A store: the operation's number, the cell, the value. -/
structure St where
  i : Nat
  j : Nat
  v : Value
def runSt (g : Nat) : World → List St → World
  | w, [] => w
  | w, s :: r => runSt g (w.setCell ⟨g, s.j, none⟩ s.v) r
theorem setCell_comm (w : World) (g : Nat) {i j : Nat} (hne : i ≠ j) (u v : Value) :
    (w.setCell ⟨g, i, none⟩ u).setCell ⟨g, j, none⟩ v = (w.setCell ⟨g, j, none⟩ v).setCell ⟨g, i, none⟩ u := by
  unfold World.setCell
  simp only [World.mk.injEq, and_true, true_and]
  apply Array.ext_getElem?
  intro k
  simp only [Array.getElem?_modify]
  by_cases h : g = k
  · subst h
    simp only [if_true]
    cases w.heap[g]? with
    | none => rfl
    | some o =>
      cases o <;> simp only [Option.map_some, Option.isSome_none, Bool.false_eq_true, if_false]
      rw [Array.setIfInBounds_comm _ _ hne]
  · simp only [h, if_false]
theorem runSt_pick (g : Nat) (s : St) : ∀ (l : List St) (w : World), l.Pairwise (fun a b => a.i ≠ b.i ∧ a.j ≠ b.j) → s ∈ l → runSt g (w.setCell ⟨g, s.j, none⟩ s.v) (l.filter fun t => t.i != s.i) = runSt g w l
  | [], _, _, h => by cases h
  | t :: r, w, hp, h => by
    obtain ⟨h1, h2⟩ := List.pairwise_cons.1 hp
    rcases List.mem_cons.1 h with rfl | h
    · have e : r.filter (fun t => t.i != s.i) = r := List.filter_eq_self.2 (fun b hb => by have := (h1 b hb).1; simpa using fun e => this e.symm)
      rw [List.filter_cons, if_neg (by simp), e]; rfl
    · have hts := h1 s h
      rw [List.filter_cons, if_pos (by simpa using hts.1)]
      show runSt g ((w.setCell ⟨g, s.j, none⟩ s.v).setCell ⟨g, t.j, none⟩ t.v) _ = runSt g (w.setCell ⟨g, t.j, none⟩ t.v) r
      rw [setCell_comm w g (Ne.symm hts.2)]
      exact runSt_pick g s r _ h2 h
section
variable {P : Program} {ops : Array Oper} {Q : Exit → Act → World → Prop} {md : Region.Mode} {S : World → Prop} {ds : List Nat}
theorem stores_ind (g n : Nat) (t : TypeId) (a : Act) : ∀ (m : Nat) (l : List St) (fuel : Nat) (listed : Array Bool) (w : World), l.length = m → m ≤ fuel →
    l.Pairwise (fun a b => a.i ≠ b.i ∧ a.j ≠ b.j) → (∀ s ∈ l, s.i ∈ Region.ready md ops listed) → (∀ k, listed.getD k true = false → ∃ s ∈ l, s.i = k) →
    (∀ s ∈ l, ∀ w, S w → S (w.setCell ⟨g, s.j, none⟩ s.v)) →
    (∀ s ∈ l, s.j < n ∧ ∃ o, ops[s.i]? = some o ∧ o.dst = none ∧ Region.wanted o (yielded ops a.tmps) = true ∧ ∀ (w : World) (cs : Array Value), w.heap[g]? = some (.cells cs t (0, 0)) → cs.size = n → (execOp a.eval o).run P w = .ok .skip (w.setCell ⟨g, s.j, none⟩ s.v)) →
    (∃ cs, w.heap[g]? = some (.cells cs t (0, 0)) ∧ cs.size = n) → Q .normal a (runSt g w l) → wpAnyLast P md ops Q S ds fuel listed a w := by
  intro m
  induction m with
  | zero =>
    intro l fuel listed w hl hf hp hr hu hS ho hb hq
    obtain rfl : l = [] := List.length_eq_zero_iff.1 hl
    refine wpAnyLast_done ?_ hq fuel
    refine List.eq_nil_iff_forall_not_mem.2 (fun k hk => ?_)
    obtain ⟨s, hs, _⟩ := hu k (mem_ready.1 hk).1
    cases hs
  | succ m ih =>
    intro l fuel listed w hl hf hp hr hu hS ho hb hq
    cases fuel with
    | zero => omega
    | succ fuel =>
      refine ⟨fun h0 => ?_, fun k hk => ?_⟩
      · cases l with
        | nil => simp at hl
        | cons s r => have := hr s (List.mem_cons_self ..); rw [h0] at this; cases this
      · obtain ⟨s, hs, rfl⟩ := hu k (mem_ready.1 hk).1
        obtain ⟨hj, o, hoi, hd, hw, hrun⟩ := ho s hs
        obtain ⟨cs, hcs, hsz⟩ := hb
        refine wpOp_step hoi (fun K' hK => ?_)
        have e : a.put o.dst undef = a.put none undef := by rw [hd]
        rw [e]
        refine skip_ hw hd (hrun w cs hcs hsz) (hK _ _ ⟨fun _ h => hS s hs w h, ?_⟩)
        refine ih (l.filter fun t => t.i != s.i) fuel _ _ ?_ (by omega) (hp.filter _) ?_ ?_ ?_ ?_ ?_ ?_
        · have h1 : ∀ (l : List St), l.Pairwise (fun a b => a.i ≠ b.i ∧ a.j ≠ b.j) → s ∈ l → (l.filter fun t => t.i != s.i).length + 1 = l.length := by
            intro l hp hs
            induction l with
            | nil => cases hs
            | cons b r ihr =>
              obtain ⟨g1, g2⟩ := List.pairwise_cons.1 hp
              rcases List.mem_cons.1 hs with rfl | hs
              · have e : r.filter (fun t => t.i != s.i) = r := List.filter_eq_self.2 (fun b hb => by have := (g1 b hb).1; simpa using fun e => this e.symm)
                rw [List.filter_cons, if_neg (by simp), e]; rfl
              · rw [List.filter_cons, if_pos (by simpa using (g1 s hs).1), List.length_cons, List.length_cons, ihr g2 hs]
          have := h1 l hp hs; omega
        · intro b hb
          obtain ⟨hb1, hb2⟩ := List.mem_filter.1 hb
          exact ready_mono (hr b hb1) (by simpa using hb2)
        · intro k hk
          by_cases e : s.i = k
          · subst e
            rcases Nat.lt_or_ge s.i listed.size with h' | h' <;> simp [h'] at hk
          · rw [getD_set_ne true e] at hk
            obtain ⟨b, hb, rfl⟩ := hu k hk
            exact ⟨b, List.mem_filter.2 ⟨hb, by simpa using fun h => e h.symm⟩, rfl⟩
        · intro b hb; exact hS b (List.mem_filter.1 hb).1
        · intro b hb; exact ho b (List.mem_filter.1 hb).1
        · exact ⟨_, blk_set hcs s.j s.v, by rw [Array.size_setIfInBounds]; exact hsz⟩
        · rw [runSt_pick g s l w hp hs]; exact hq
/-- The check of what is left: just these, all ready, places that differ. -/
def leftB (md : Region.Mode) (ops : Array Oper) (n : Nat) (l : Array Bool) (js : List (Nat × Nat)) : Bool :=
  js.all (fun p => (Region.ready md ops l).contains p.1 && Nat.blt p.2 n) && (List.range l.size).all (fun k => l.getD k true || js.any (fun p => p.1 == k)) &&
  decide (js.Pairwise (fun p q => p.1 ≠ q.1 ∧ p.2 ≠ q.2))
theorem stores_ (g n : Nat) (t : TypeId) (l : List St) {a : Act} {fuel : Nat} {listed : Array Bool} {w : World} (hc : leftB md ops n listed (l.map fun s => (s.i, s.j)) = true) (hf : l.length ≤ fuel)
    (hS : ∀ s ∈ l, ∀ w, S w → S (w.setCell ⟨g, s.j, none⟩ s.v))
    (ho : ∀ s ∈ l, ∃ o, ops[s.i]? = some o ∧ o.dst = none ∧ Region.wanted o (yielded ops a.tmps) = true ∧ ∀ (w : World) (cs : Array Value), w.heap[g]? = some (.cells cs t (0, 0)) → cs.size = n → (execOp a.eval o).run P w = .ok .skip (w.setCell ⟨g, s.j, none⟩ s.v))
    {cs : Array Value} (hb : w.heap[g]? = some (.cells cs t (0, 0))) (hn : cs.size = n) (hq : Q .normal a (runSt g w l)) : wpAnyLast P md ops Q S ds fuel listed a w := by
  unfold leftB at hc
  simp only [Bool.and_eq_true, List.all_eq_true, decide_eq_true_eq, Bool.or_eq_true, List.any_eq_true, beq_iff_eq] at hc
  obtain ⟨⟨h1, h2⟩, h3⟩ := hc
  refine stores_ind g n t a l.length l fuel listed w rfl hf ?_ ?_ ?_ hS ?_ ⟨cs, hb, hn⟩ hq
  · rw [List.pairwise_map] at h3; exact h3
  · intro s hs
    have := (h1 (s.i, s.j) (List.mem_map.2 ⟨s, hs, rfl⟩)).1
    simpa using this
  · intro k hk
    have hlt : k < listed.size := by
      rcases Nat.lt_or_ge k listed.size with h' | h'
      · exact h'
      · simp [h'] at hk
    rcases h2 k (List.mem_range.2 hlt) with h | ⟨p, hp, e⟩
    · rw [hk] at h; cases h
    · obtain ⟨s, hs, rfl⟩ := List.mem_map.1 hp
      exact ⟨s, hs, e⟩
  · intro s hs
    refine ⟨?_, ho s hs⟩
    have := (h1 (s.i, s.j) (List.mem_map.2 ⟨s, hs, rfl⟩)).2
    exact Nat.le_of_ble_eq_true this
/-- A store of one cell into a block that is known. -/
theorem run_store1 {o : Oper} {ρ : Operand → Value} {w : World} {ty : TypeId} {x y : Operand} {g j : Nat} {v : Value} {cs : Array Value} {t : TypeId} (ho : o.op = .store ty x y) (hx : ρ x = .pointer (some ⟨g, j, none⟩)) (hy : ρ y = v)
    (hi : (P.info? ty).map (·.size) = some 1) (h1 : v.oneCell' = true) (hc1 : v.cells = #[v]) (hb : w.heap[g]? = some (.cells cs t (0, 0))) (hj : j < cs.size) : (execOp ρ o).run P w = .ok .skip (w.setCell ⟨g, j, none⟩ v) := by
  have hs : (w.cell? ⟨g, j, none⟩).isSome = true := by rw [blk_cell hb j, Array.getElem?_eq_getElem hj]; rfl
  have hfr := blk_frozen hb j
  have h := run_storeCells_cells (P := P) g j [v] 0 w (fun i hi => by
    have : i = 0 := by simp at hi; omega
    subst this; exact hs) (fun i hi => by
    have : i = 0 := by simp at hi; omega
    subst this; exact hfr) (fun u hu => by simp at hu; subst hu; exact h1)
  cases hq : P.info? ty with
  | none => simp [hq] at hi
  | some info =>
    have hz : info.size = 1 := by simpa [hq] using hi
    have hv : (storeVar ty ⟨g, j, none⟩ v).run P w = .ok () (w.setCell ⟨g, j, none⟩ v) := by
      simp [storeVar, Sem.run_bind, sizeOf, typeInfo, hq, hz, hc1]
      exact h
    unfold execOp
    simp only [ho, hx, hy, Instr.storeAt, Instr.sureAddr, Sem.run_bind, Sem.run_pure, Result.andThen_ok, hv]
end
end Go.Proofs.YtpbodidpcbodaaaDoor.Rg
