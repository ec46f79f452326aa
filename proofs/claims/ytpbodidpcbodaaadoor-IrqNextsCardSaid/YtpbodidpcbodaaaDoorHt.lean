/- A hart (77 cells), told by a function of its whole numbers and three bools; where it lies, read and written. Plain lemmas over the kit's. -/
import Derived.Test.YtpbodidpcbodaaaDoorProg
import Derived.Test.YtpbodidpcbodaaaDoorArr
import Derived.Test.YtpbodidpcbodaaaDoorLoad
import Derived.Test.YtpbodidpcbodaaaDoorReg
import Derived.Deep.MidRow
import Derived.Laws.Rows
set_option linter.unusedSimpArgs false
set_option linter.unusedVariables false
namespace Go.Proofs.YtpbodidpcbodaaaDoor.Hx
open Go.RowKit Go.Proofs.YtpbodidpcbodaaaDoorW.PrintWords Go.Proofs.YtpbodidpcbodaaaDoorW.PrintLast Go.Proofs.YtpbodidpcbodaaaDoorW.PrintMore
/-- A hart: its whole numbers by their cells' places, three bools. -/
structure Ht where
  x : Nat → Int
  v : Bool
  wt : Bool
  hl : Bool
/-- A cell's value. -/
def Ht.at (h : Ht) (i : Nat) : Value :=
  bif Nat.beq i 33 then .int .u8 (h.x 33) else bif Nat.beq i 34 then .bool h.v else bif Nat.beq i 35 then .bool h.wt else bif Nat.beq i 36 then .bool h.hl else .int .u64 (h.x i)
/-- Its cells. -/
def Ht.cs (h : Ht) : Array Value := ⟨(List.range 77).map h.at⟩
/-- A whole number made another one. -/
def Ht.set (h : Ht) (j : Nat) (y : Int) : Ht := { h with x := fun i => bif Nat.beq i j then y else h.x i }
def isU (i : Nat) : Bool := Nat.blt i 77 && !Nat.beq i 33 && !Nat.beq i 34 && !Nat.beq i 35 && !Nat.beq i 36
theorem Ht.size (h : Ht) : h.cs.size = 77 := by simp [Ht.cs]
theorem Ht.get (h : Ht) {i : Nat} (hi : i < 77) : h.cs[i]? = some (h.at i) := by
  simp [Ht.cs, List.getElem?_range, hi]
theorem beqF {i j : Nat} (h : i ≠ j) : Nat.beq i j = false := by
  cases e : Nat.beq i j
  · rfl
  · exact absurd (Nat.eq_of_beq_eq_true e) h
theorem beqT (i : Nat) : Nat.beq i i = true := Nat.beq_refl i
theorem isU_spec {i : Nat} (h : isU i = true) : i < 77 ∧ Nat.beq i 33 = false ∧ Nat.beq i 34 = false ∧ Nat.beq i 35 = false ∧ Nat.beq i 36 = false := by
  unfold isU at h
  simp only [Bool.and_eq_true, Bool.not_eq_true', Nat.blt_eq] at h
  exact ⟨h.1.1.1.1, h.1.1.1.2, h.1.1.2, h.1.2, h.2⟩
theorem Ht.at_u (h : Ht) {i : Nat} (hi : isU i = true) : h.at i = .int .u64 (h.x i) := by
  obtain ⟨_, a, b, c, d⟩ := isU_spec hi
  unfold Ht.at; rw [a, b, c, d]; rfl
theorem Ht.ext_cs {h : Ht} {cs : Array Value} (hs : cs.size = 77) (he : ∀ i, i < 77 → cs[i]? = some (h.at i)) : cs = h.cs := by
  apply Array.ext_getElem?
  intro i
  by_cases hi : i < 77
  · rw [he i hi, h.get hi]
  · rw [Array.getElem?_eq_none (by omega), Array.getElem?_eq_none (by rw [h.size]; omega)]
theorem Ht.put_cs (h k : Ht) (j : Nat) (hj : j < 77) (u : Value) (hu : k.at j = u) (ho : ∀ i, i < 77 → i ≠ j → k.at i = h.at i) : h.cs.setIfInBounds j u = k.cs := by
  apply Ht.ext_cs
  · rw [Array.size_setIfInBounds, h.size]
  · intro i hi
    rw [Array.getElem?_setIfInBounds]
    by_cases e : j = i
    · subst e; rw [if_pos rfl, if_pos (by rw [h.size]; exact hj), hu]
    · rw [if_neg e, h.get hi, ho i hi (fun e2 => e e2.symm)]
theorem Ht.set_cs (h : Ht) (j : Nat) (y : Int) (hj : isU j = true) : h.cs.setIfInBounds j (.int .u64 y) = (h.set j y).cs := by
  obtain ⟨hlt, a, b, c, d⟩ := isU_spec hj
  refine h.put_cs _ j hlt _ ?_ ?_
  · rw [Ht.at_u _ hj]; show Value.int .u64 (bif Nat.beq j j then y else h.x j) = _; rw [beqT]; rfl
  · intro i _ hne
    unfold Ht.at Ht.set
    simp only [beqF hne]
    rw [show Nat.beq 33 j = false from beqF (fun e => by rw [← e] at a; exact absurd a (by decide))]
    rfl
theorem Ht.setPriv_cs (h : Ht) (y : Int) : h.cs.setIfInBounds 33 (.int .u8 y) = (h.set 33 y).cs := by
  refine h.put_cs _ 33 (by decide) _ rfl ?_
  intro i _ hne
  unfold Ht.at Ht.set
  simp only [beqF hne]; rfl
theorem Ht.setV_cs (h : Ht) (b : Bool) : h.cs.setIfInBounds 34 (.bool b) = ({ h with v := b } : Ht).cs := by
  refine h.put_cs _ 34 (by decide) _ rfl ?_
  intro i _ hne
  unfold Ht.at
  simp only [beqF hne]; rfl
theorem Ht.setW_cs (h : Ht) (b : Bool) : h.cs.setIfInBounds 35 (.bool b) = ({ h with wt := b } : Ht).cs := by
  refine h.put_cs _ 35 (by decide) _ rfl ?_
  intro i _ hne
  unfold Ht.at
  simp only [beqF hne]; rfl
theorem Ht.setH_cs (h : Ht) (b : Bool) : h.cs.setIfInBounds 36 (.bool b) = ({ h with hl := b } : Ht).cs := by
  refine h.put_cs _ 36 (by decide) _ rfl ?_
  intro i _ hne
  unfold Ht.at
  simp only [beqF hne]; rfl
theorem Ht.cs_lit (h : Ht) : h.cs = #[.int .u64 (h.x 0), .int .u64 (h.x 1), .int .u64 (h.x 2), .int .u64 (h.x 3), .int .u64 (h.x 4), .int .u64 (h.x 5), .int .u64 (h.x 6), .int .u64 (h.x 7), .int .u64 (h.x 8), .int .u64 (h.x 9), .int .u64 (h.x 10), .int .u64 (h.x 11), .int .u64 (h.x 12), .int .u64 (h.x 13), .int .u64 (h.x 14), .int .u64 (h.x 15), .int .u64 (h.x 16), .int .u64 (h.x 17), .int .u64 (h.x 18), .int .u64 (h.x 19), .int .u64 (h.x 20), .int .u64 (h.x 21), .int .u64 (h.x 22), .int .u64 (h.x 23), .int .u64 (h.x 24), .int .u64 (h.x 25), .int .u64 (h.x 26), .int .u64 (h.x 27), .int .u64 (h.x 28), .int .u64 (h.x 29), .int .u64 (h.x 30), .int .u64 (h.x 31), .int .u64 (h.x 32), .int .u8 (h.x 33), .bool h.v, .bool h.wt, .bool h.hl, .int .u64 (h.x 37), .int .u64 (h.x 38), .int .u64 (h.x 39), .int .u64 (h.x 40), .int .u64 (h.x 41), .int .u64 (h.x 42), .int .u64 (h.x 43), .int .u64 (h.x 44), .int .u64 (h.x 45), .int .u64 (h.x 46), .int .u64 (h.x 47), .int .u64 (h.x 48), .int .u64 (h.x 49), .int .u64 (h.x 50), .int .u64 (h.x 51), .int .u64 (h.x 52), .int .u64 (h.x 53), .int .u64 (h.x 54), .int .u64 (h.x 55), .int .u64 (h.x 56), .int .u64 (h.x 57), .int .u64 (h.x 58), .int .u64 (h.x 59), .int .u64 (h.x 60), .int .u64 (h.x 61), .int .u64 (h.x 62), .int .u64 (h.x 63), .int .u64 (h.x 64), .int .u64 (h.x 65), .int .u64 (h.x 66), .int .u64 (h.x 67), .int .u64 (h.x 68), .int .u64 (h.x 69), .int .u64 (h.x 70), .int .u64 (h.x 71), .int .u64 (h.x 72), .int .u64 (h.x 73), .int .u64 (h.x 74), .int .u64 (h.x 75), .int .u64 (h.x 76)] := rfl
/-- A hart whose numbers are of their kinds. -/
def Ht.wf (h : Ht) : Prop := (∀ i, 0 ≤ h.x i ∧ h.x i < 18446744073709551616) ∧ h.x 33 < 256
/-- The hart lies in block g. -/
def Hb (w : World) (g : Nat) (h : Ht) : Prop := w.heap[g]? = some (.cells h.cs 25 (0, 0))
theorem Hb.u {w : World} {g : Nat} {h : Ht} (H : Hb w g h) (i : Nat) (hi : isU i = true) : w.cell? ⟨g, i, none⟩ = some (.int .u64 (h.x i)) := by
  rw [blk_cell H i, h.get (isU_spec hi).1, h.at_u hi]
theorem Hb.p {w : World} {g : Nat} {h : Ht} (H : Hb w g h) : w.cell? ⟨g, 33, none⟩ = some (.int .u8 (h.x 33)) := by rw [blk_cell H 33, h.get (by decide)]; rfl
theorem Hb.cv {w : World} {g : Nat} {h : Ht} (H : Hb w g h) : w.cell? ⟨g, 34, none⟩ = some (.bool h.v) := by rw [blk_cell H 34, h.get (by decide)]; rfl
theorem Hb.cw {w : World} {g : Nat} {h : Ht} (H : Hb w g h) : w.cell? ⟨g, 35, none⟩ = some (.bool h.wt) := by rw [blk_cell H 35, h.get (by decide)]; rfl
theorem Hb.ch {w : World} {g : Nat} {h : Ht} (H : Hb w g h) : w.cell? ⟨g, 36, none⟩ = some (.bool h.hl) := by rw [blk_cell H 36, h.get (by decide)]; rfl
theorem Hb.fr {w : World} {g : Nat} {h : Ht} (H : Hb w g h) (i : Nat) : w.frozen? ⟨g, i, none⟩ = false := blk_frozen H i
class IsU (j : Nat) : Prop where
  out : isU j = true
instance : IsU 0 := ⟨rfl⟩
instance : IsU 1 := ⟨rfl⟩
instance : IsU 2 := ⟨rfl⟩
instance : IsU 3 := ⟨rfl⟩
instance : IsU 4 := ⟨rfl⟩
instance : IsU 5 := ⟨rfl⟩
instance : IsU 6 := ⟨rfl⟩
instance : IsU 7 := ⟨rfl⟩
instance : IsU 8 := ⟨rfl⟩
instance : IsU 9 := ⟨rfl⟩
instance : IsU 10 := ⟨rfl⟩
instance : IsU 11 := ⟨rfl⟩
instance : IsU 12 := ⟨rfl⟩
instance : IsU 13 := ⟨rfl⟩
instance : IsU 14 := ⟨rfl⟩
instance : IsU 15 := ⟨rfl⟩
instance : IsU 16 := ⟨rfl⟩
instance : IsU 17 := ⟨rfl⟩
instance : IsU 18 := ⟨rfl⟩
instance : IsU 19 := ⟨rfl⟩
instance : IsU 20 := ⟨rfl⟩
instance : IsU 21 := ⟨rfl⟩
instance : IsU 22 := ⟨rfl⟩
instance : IsU 23 := ⟨rfl⟩
instance : IsU 24 := ⟨rfl⟩
instance : IsU 25 := ⟨rfl⟩
instance : IsU 26 := ⟨rfl⟩
instance : IsU 27 := ⟨rfl⟩
instance : IsU 28 := ⟨rfl⟩
instance : IsU 29 := ⟨rfl⟩
instance : IsU 30 := ⟨rfl⟩
instance : IsU 31 := ⟨rfl⟩
instance : IsU 32 := ⟨rfl⟩
instance : IsU 37 := ⟨rfl⟩
instance : IsU 38 := ⟨rfl⟩
instance : IsU 39 := ⟨rfl⟩
instance : IsU 40 := ⟨rfl⟩
instance : IsU 41 := ⟨rfl⟩
instance : IsU 42 := ⟨rfl⟩
instance : IsU 43 := ⟨rfl⟩
instance : IsU 44 := ⟨rfl⟩
instance : IsU 45 := ⟨rfl⟩
instance : IsU 46 := ⟨rfl⟩
instance : IsU 47 := ⟨rfl⟩
instance : IsU 48 := ⟨rfl⟩
instance : IsU 49 := ⟨rfl⟩
instance : IsU 50 := ⟨rfl⟩
instance : IsU 51 := ⟨rfl⟩
instance : IsU 52 := ⟨rfl⟩
instance : IsU 53 := ⟨rfl⟩
instance : IsU 54 := ⟨rfl⟩
instance : IsU 55 := ⟨rfl⟩
instance : IsU 56 := ⟨rfl⟩
instance : IsU 57 := ⟨rfl⟩
instance : IsU 58 := ⟨rfl⟩
instance : IsU 59 := ⟨rfl⟩
instance : IsU 60 := ⟨rfl⟩
instance : IsU 61 := ⟨rfl⟩
instance : IsU 62 := ⟨rfl⟩
instance : IsU 63 := ⟨rfl⟩
instance : IsU 64 := ⟨rfl⟩
instance : IsU 65 := ⟨rfl⟩
instance : IsU 66 := ⟨rfl⟩
instance : IsU 67 := ⟨rfl⟩
instance : IsU 68 := ⟨rfl⟩
instance : IsU 69 := ⟨rfl⟩
instance : IsU 70 := ⟨rfl⟩
instance : IsU 71 := ⟨rfl⟩
instance : IsU 72 := ⟨rfl⟩
instance : IsU 73 := ⟨rfl⟩
instance : IsU 74 := ⟨rfl⟩
instance : IsU 75 := ⟨rfl⟩
instance : IsU 76 := ⟨rfl⟩
theorem Hb.put {w : World} {g : Nat} {h : Ht} (j : Nat) (y : Int) [hj : IsU j] (H : Hb w g h) : Hb (w.setCell ⟨g, j, none⟩ (.int .u64 y)) g (h.set j y) := blk_put H j _ (h.set_cs j y hj.out)
theorem Hb.putP {w : World} {g : Nat} {h : Ht} (y : Int) (H : Hb w g h) : Hb (w.setCell ⟨g, 33, none⟩ (.int .u8 y)) g (h.set 33 y) := blk_put H 33 _ (h.setPriv_cs y)
theorem Hb.putV {w : World} {g : Nat} {h : Ht} (b : Bool) (H : Hb w g h) : Hb (w.setCell ⟨g, 34, none⟩ (.bool b)) g { h with v := b } := blk_put H 34 _ (h.setV_cs b)
theorem Hb.putW {w : World} {g : Nat} {h : Ht} (b : Bool) (H : Hb w g h) : Hb (w.setCell ⟨g, 35, none⟩ (.bool b)) g { h with wt := b } := blk_put H 35 _ (h.setW_cs b)
theorem Hb.putH {w : World} {g : Nat} {h : Ht} (b : Bool) (H : Hb w g h) : Hb (w.setCell ⟨g, 36, none⟩ (.bool b)) g { h with hl := b } := blk_put H 36 _ (h.setH_cs b)
theorem Hb.far {w : World} {g g2 j : Nat} {h : Ht} {u : Value} (hp : g ≠ g2) (H : Hb w g h) : Hb (w.setCell ⟨g2, j, none⟩ u) g h := blk_far H hp u
theorem Hb.drewN {w : World} {g : Nat} {h : Ht} (n : Nat) (H : Hb w g h) : Hb (w.drewN n) g h := blk_drewN H n
theorem Hb.drew {w : World} {g : Nat} {h : Ht} (H : Hb w g h) : Hb w.drew g h := blk_drew H
theorem Hb.alloc {w : World} {g : Nat} {h : Ht} (o : Obj) (H : Hb w g h) : Hb (w.alloc o) g h := blk_alloc H o
theorem Hb.below {w w1 : World} {g : Nat} {h : Ht} (H : Hb w g h) (hb : Below w.heap.size w w1) : Hb w1 g h := blk_below H hb
theorem Hb.lt {w : World} {g : Nat} {h : Ht} (H : Hb w g h) : g < w.heap.size := blk_lt H
theorem Hb.of {w w' : World} {g : Nat} {h : Ht} (e : w = w') (H : Hb w g h) : Hb w' g h := e ▸ H
/-- The hart of zeros. -/
def Ht.zero : Ht := ⟨fun _ => 0, false, false, false⟩
theorem Hb.there {w : World} {g : Nat} {h : Ht} (H : Hb w g h) : w.there g 0 77 := fun j hj => by
  rw [Nat.zero_add]
  refine ⟨?_, H.fr j⟩
  rw [blk_cell H j, h.get hj]; rfl
theorem setCells_block (g : Nat) (t : TypeId) : ∀ (vs : List Value) (o : Nat) (w : World) (cs : Array Value), w.heap[g]? = some (.cells cs t (0, 0)) → ∃ cs', (w.setCells g o vs).heap[g]? = some (.cells cs' t (0, 0)) ∧ cs'.size = cs.size
  | [], _, w, cs, h => ⟨cs, h, rfl⟩
  | v :: vs, o, w, cs, h => by
    obtain ⟨cs', h1, h2⟩ := setCells_block g t vs (o + 1) (w.setCell ⟨g, o, none⟩ v) _ (blk_set h o v)
    exact ⟨cs', h1, by rw [h2, Array.size_setIfInBounds]⟩
theorem setCells_far {g g2 : Nat} {ob : Obj} (hne : g2 ≠ g) : ∀ (vs : List Value) (o : Nat) (w : World), w.heap[g2]? = some ob → (w.setCells g o vs).heap[g2]? = some ob
  | [], _, w, h => h
  | v :: vs, o, w, h => setCells_far hne vs (o + 1) (w.setCell ⟨g, o, none⟩ v) ((Below.heap_setCell w ⟨g, o, none⟩ v g2 hne).trans h)
theorem setCells_far' {w : World} {g g2 : Nat} {ob : Obj} {vs : List Value} {o : Nat} (hne : g2 ≠ g) (h : w.heap[g2]? = some ob) : (w.setCells g o vs).heap[g2]? = some ob := setCells_far hne vs o w h
theorem setCells_below {w0 : World} {g : Nat} (hg : w0.heap.size ≤ g) : ∀ (vs : List Value) (o : Nat) (w : World), Below w0.heap.size w0 w → Below w0.heap.size w0 (w.setCells g o vs)
  | [], _, w, h => h
  | v :: vs, o, w, h => setCells_below hg vs (o + 1) (w.setCell ⟨g, o, none⟩ v) (below_set h hg)
theorem setCells_size (g : Nat) : ∀ (vs : List Value) (o : Nat) (w : World), (w.setCells g o vs).heap.size = w.heap.size
  | [], _, w => rfl
  | v :: vs, o, w => by rw [World.setCells, setCells_size g vs (o + 1)]; simp
theorem Hb.putAll {w : World} {g : Nat} {k : Ht} (h : Ht) (K : Hb w g k) : Hb (w.setCells g 0 h.cs.toList) g h := by
  have hl : h.cs.toList.length = 77 := by rw [Array.length_toList, h.size]
  obtain ⟨cs', h1, h2⟩ := setCells_block g 25 h.cs.toList 0 w _ K
  have hr := World.rangeAt_setCells_same w g 0 h.cs.toList (by rw [hl]; exact K.there)
  have e : cs' = h.cs := by
    refine Ht.ext_cs (by rw [h2, k.size]) (fun i hi => ?_)
    have := hr i (h.at i) (by rw [Array.getElem?_toList]; exact h.get hi)
    rw [Nat.zero_add, blk_cell h1 i] at this
    exact this
  rw [e] at h1
  exact h1
theorem Hb.farAll {w : World} {g g2 : Nat} {h : Ht} {vs : List Value} {o : Nat} (hne : g2 ≠ g) (H : Hb w g2 h) : Hb (w.setCells g o vs) g2 h := setCells_far hne vs o w H
theorem ht_one (h : Ht) : h.cs.all (·.oneCell') = true := by
  rw [Array.all_eq_true]
  intro i hi
  have h77 : i < 77 := by rw [h.size] at hi; exact hi
  have := h.get h77
  rw [Array.getElem?_eq_getElem hi] at this
  rw [Option.some.inj this]
  unfold Ht.at
  cases Nat.beq i 33 <;> cases Nat.beq i 34 <;> cases Nat.beq i 35 <;> cases Nat.beq i 36 <;> rfl
theorem cell_ne {w : World} {g i j : Nat} {u v : Value} (h : w.cell? ⟨g, i, none⟩ = some v) (hne : i ≠ j) : (w.setCell ⟨g, j, none⟩ u).cell? ⟨g, i, none⟩ = some v := by
  rw [← h]; simp [World.setCell, World.cell?, Array.getElem?_modify]
  cases w.heap[g]? with
  | none => rfl
  | some o => cases o <;> simp [Array.getElem?_setIfInBounds, Ne.symm hne]
theorem cell_far' {w : World} {g g2 i j : Nat} {u v : Value} (h : w.cell? ⟨g, i, none⟩ = some v) (hne : g ≠ g2) : (w.setCell ⟨g2, j, none⟩ u).cell? ⟨g, i, none⟩ = some v := by
  rw [← h]; simp [World.setCell, World.cell?, Array.getElem?_modify, Ne.symm hne]
theorem cell_drewN {w : World} {p : Addr} {v : Value} (n : Nat) (h : w.cell? p = some v) : (w.drewN n).cell? p = some v := h
section
variable {P : Program} {ops : Array Oper} {Q : Exit → Act → World → Prop} {md : Region.Mode} {S : World → Prop} {ds : List Nat}
/-- The world becomes a letter. -/
theorem world_any {fuel : Nat} {l : Array Bool} {a : Act} {W : World} (g : Nat) {k : Ht} (H : Hb W g k) (F : World → Prop) (hF : F W) (h : ∀ w1, Hb w1 g k → F w1 → wpAnyLast P md ops Q S ds fuel l a w1) : wpAnyLast P md ops Q S ds fuel l a W := h W H hF
theorem world_any0 {fuel : Nat} {l : Array Bool} {a : Act} {W : World} (F : World → Prop) (hF : F W) (h : ∀ w1, F w1 → wpAnyLast P md ops Q S ds fuel l a w1) : wpAnyLast P md ops Q S ds fuel l a W := h W hF
theorem world_code {c : Code} {a : Act} {W : World} (g : Nat) {k : Ht} (H : Hb W g k) (F : World → Prop) (hF : F W) (h : ∀ w1, Hb w1 g k → F w1 → c.wp P Q a w1) : c.wp P Q a W := h W H hF
theorem world_call {f : FuncId} {args : Array Value} {W : World} {R : Ending → World → Prop} (g : Nat) {k : Ht} (H : Hb W g k) (F : World → Prop) (hF : F W) (h : ∀ w1, Hb w1 g k → F w1 → Calls P f args w1 R) : Calls P f args W R := h W H hF
end
/-! ### In the walk -/
theorem hartSize : (Tryd.prog.info? 25).map (·.size) = some 77 := by kernel_rfl
/-- A cell of a hart is stored, in a region that draws. -/
theorem run_storeH {o : Oper} {ρ : Operand → Value} {w : World} {ty : TypeId} {x y : Operand} {g j : Nat} {v : Value} {h : Ht} (ho : o.op = .store ty x y) (hx : ρ x = .pointer (some ⟨g, j, none⟩)) (hy : ρ y = v)
    (hi : (Tryd.prog.info? ty).map (·.size) = some 1) (h1 : v.oneCell' = true) (hc1 : v.cells = #[v]) (H : Hb w g h) (hj : j < 77) : (execOp ρ o).run Tryd.prog w = .ok .skip (w.setCell ⟨g, j, none⟩ v) :=
  Rg.run_store1 ho hx hy hi h1 hc1 H (by rw [h.size]; exact hj)
theorem skipH {ops : Array Oper} {Q : Exit → Act → World → Prop} {oi : Oper} {a : Act} {w : World} {K : Act → World → Prop} {ty : TypeId} {x y : Operand} {g j : Nat} {v : Value} {h : Ht} (hw : Region.wanted oi (yielded ops a.tmps) = true) (hN : oi.dst = none)
    (ho : oi.op = .store ty x y) (hx : a.eval x = .pointer (some ⟨g, j, none⟩)) (hy : a.eval y = v) (hi : (Tryd.prog.info? ty).map (·.size) = some 1) (h1 : v.oneCell' = true) (hc1 : v.cells = #[v]) (H : Hb w g h) (hj : j < 77)
    (k : K a (w.setCell ⟨g, j, none⟩ v)) : if Region.wanted oi (yielded ops a.tmps) = true then Oper.wp Tryd.prog oi a w K Q else K (a.put none undef) w :=
  skip_ hw hN (run_storeH ho hx hy hi h1 hc1 H hj) k
theorem exec_load_blk {P : Program} {o : Oper} {ρ : Operand → Value} {w : World} {ty t : TypeId} {x : Operand} {g : Nat} {cs : Array Value} {fr : Nat × Nat} {d : TypeDesc} (ho : o.op = .load ty x) (hx : ρ x = .pointer (some ⟨g, 0, none⟩)) (hg : w.heap[g]? = some (.cells cs t fr))
    (hu : P.underlying ty = some d) (hd : (match d with | .struct _ | .array _ _ => true | _ => false) = true) (hi : (P.info? ty).map (·.size) = some cs.size) : (execOp ρ o).run P w = .ok (.value (.agg cs)) w := by
  unfold execOp
  simp only [ho, hx, Instr.loadAt, Instr.sureAddr, Sem.run_bind, Sem.run_pure, Result.andThen_ok, run_loadVar_row w g t ty cs fr d hg hu hd hi]
theorem exec_load_hart {o : Oper} {ρ : Operand → Value} {w : World} {x : Operand} {g : Nat} {h : Ht} (ho : o.op = .load 25 x) (hx : ρ x = .pointer (some ⟨g, 0, none⟩)) (H : Hb w g h) : (execOp ρ o).run Tryd.prog w = .ok (.value (.agg h.cs)) w :=
  exec_load_blk ho hx H Tryd.underlying25 rfl (by rw [h.size]; exact hartSize)
/-- A hart is loaded whole. -/
theorem load_hart {ops : Array Oper} {rest : List Oper} {o : Oper} {a : Act} {w : World} {Q : Exit → Act → World → Prop} (hgd : o.guard = none) (x : Operand) (ho : o.op = .load 25 x) (g : Nat) (h : Ht)
    (hx : a.eval x = .pointer (some ⟨g, 0, none⟩)) (H : Hb w g h) (k : wpList Tryd.prog ops Q rest (a.put o.dst (.agg h.cs)) w) : wpList Tryd.prog ops Q (o :: rest) a w :=
  wpList_load_row hgd 25 x ho g hx 25 h.cs (0, 0) _ H Tryd.underlying25 rfl (by rw [h.size]; exact hartSize) k
/-- A hart is stored whole. -/
theorem store_hart {ops : Array Oper} {rest : List Oper} {o : Oper} {a : Act} {w : World} {Q : Exit → Act → World → Prop} (hgd : o.guard = none) (x y : Operand) (ho : o.op = .store 25 x y) (g : Nat) (h : Ht)
    (hx : a.eval x = .pointer (some ⟨g, 0, none⟩)) (hy : a.eval y = .agg h.cs) (k0 : Ht) (K : Hb w g k0)
    (k : wpList Tryd.prog ops Q rest (a.put o.dst undef) (w.setCells g 0 h.cs.toList)) : wpList Tryd.prog ops Q (o :: rest) a w :=
  wpList_store_mid hgd 25 x y ho g 0 h.cs hx hy (by rw [h.size]; exact K.there) (by rw [h.size]; exact hartSize) (ht_one h) k
end Go.Proofs.YtpbodidpcbodaaaDoor.Hx
