/- Where the Lean function of a Go function gives a value, the Go call returns that value and changes nothing that was there: for every input. (By a program of this session, and by hand.) -/
import Derived.Test.YtlopmcakfalkpaaDoorQx0
namespace Go.Proofs.YtlopmcakfalkpaaDoor.Q
open Go.RowKit Go.Proofs.YtlopmcakfalkpaaDoorW.PrintWords Go.Proofs.YtlopmcakfalkpaaDoorW.PrintLast Go.Proofs.YtlopmcakfalkpaaDoorW.PrintMore
attribute [local go_sem] max2_int min2_int max_two min_two max_three min_three max_four min_four   -- for this text's walks alone
set_option linter.unusedVariables false
set_option linter.unusedSimpArgs false

/-! ### csr_tables: function 32 -/
def csr_tables.f (a0 : Int) : Option (Bool) := if a0 = 384 then (some true) else (if a0 = 640 then (some true) else (some (a0 == 1664)))
set_option maxHeartbeats 8000000 in
set_option maxRecDepth 100000 in
theorem csr_tables.calls (a0 : Int) (r : Bool) (w : World) (h : csr_tables.f a0 = some r) :
    Calls Tryd.prog 32 #[.int .i64 a0] w fun e w' => e = .returned (.bool r) ∧ Drawn0 w w' := by
  have H : (if a0 = 384 then (some true) else (if a0 = 640 then (some true) else (some (a0 == 1664)))) = some r := h
  clear h
  by_cases c2 : a0 = 384
  · rw [if_pos c2] at H
    have c2b0 : (a0 == 384) = true := beq_iff_eq.mpr c2
    have c2b1 : (a0 != 384) = false := bne_eq_false_iff_eq.mpr c2
    clear c2
    obtain rfl := Option.some.inj H
    go_enter Tryd.func32, Tryd.ntmps32
    go_wp2
    go_ret
    exact ⟨by first | rfl | (simp; done) | (simp [*]; done), by repeat (first | exact Drawn0.refl _ | apply Drawn0.step)⟩
  · rw [if_neg c2] at H
    have c2b0 : (a0 == 384) = false := beq_eq_false_iff_ne.mpr c2
    have c2b1 : (a0 != 384) = true := bne_iff_ne.mpr c2
    by_cases c3 : a0 = 640
    · rw [if_pos c3] at H
      have c3b0 : (a0 == 640) = true := beq_iff_eq.mpr c3
      have c3b1 : (a0 != 640) = false := bne_eq_false_iff_eq.mpr c3
      clear c3
      obtain rfl := Option.some.inj H
      go_enter Tryd.func32, Tryd.ntmps32
      go_wp2
      go_ret
      exact ⟨by first | rfl | (simp; done) | (simp [*]; done), by repeat (first | exact Drawn0.refl _ | apply Drawn0.step)⟩
    · rw [if_neg c3] at H
      have c3b0 : (a0 == 640) = false := beq_eq_false_iff_ne.mpr c3
      have c3b1 : (a0 != 640) = true := bne_iff_ne.mpr c3
      obtain rfl := Option.some.inj H
      go_enter Tryd.func32, Tryd.ntmps32
      go_wp2
      go_ret
      exact ⟨by first | rfl | (simp; done) | (simp [*]; done), by repeat (first | exact Drawn0.refl _ | apply Drawn0.step)⟩

/-! ### csr_mode: function 33 -/
def csr_mode.f (a0 : Int) : Option (Bool) := if (a0 / 1152921504606846976) = 0 then (some true) else (some ((a0 / 1152921504606846976) == 8))
set_option maxHeartbeats 8000000 in
set_option maxRecDepth 100000 in
theorem csr_mode.calls (a0 : Int) (r : Bool) (w : World) (h : csr_mode.f a0 = some r) :
    Calls Tryd.prog 33 #[.int .u64 a0] w fun e w' => e = .returned (.bool r) ∧ Drawn0 w w' := by
  have H : (if (a0 / 1152921504606846976) = 0 then (some true) else (some ((a0 / 1152921504606846976) == 8))) = some r := h
  clear h
  by_cases c2 : (a0 / 1152921504606846976) = 0
  · rw [if_pos c2] at H
    have c2b0 : ((a0 / 1152921504606846976) == 0) = true := beq_iff_eq.mpr c2
    have c2b1 : ((a0 / 1152921504606846976) != 0) = false := bne_eq_false_iff_eq.mpr c2
    clear c2
    obtain rfl := Option.some.inj H
    go_enter Tryd.func33, Tryd.ntmps33
    go_wp2
    go_ret
    exact ⟨by first | rfl | (simp; done) | (simp [*]; done), by repeat (first | exact Drawn0.refl _ | apply Drawn0.step)⟩
  · rw [if_neg c2] at H
    have c2b0 : ((a0 / 1152921504606846976) == 0) = false := beq_eq_false_iff_ne.mpr c2
    have c2b1 : ((a0 / 1152921504606846976) != 0) = true := bne_iff_ne.mpr c2
    obtain rfl := Option.some.inj H
    go_enter Tryd.func33, Tryd.ntmps33
    go_wp2
    go_ret
    exact ⟨by first | rfl | (simp; done) | (simp [*]; done), by repeat (first | exact Drawn0.refl _ | apply Drawn0.step)⟩

-- NOT PRINTED: function 18 (csr_Fix)

/-! ### csrno_find: by hand; it reads the package's table -/
section
/-- The numbers of the table's rows. -/
def rowNos : List Int := [256, 260, 261, 262, 320, 321, 322, 323, 324, 384, 512, 516, 517, 576, 577, 578, 579, 580, 640, 768, 769, 770, 771, 772, 773, 774, 832, 833, 834, 835, 836, 842, 843, 1536, 1538, 1539, 1540, 1541, 1542, 1543, 1603, 1604, 1605, 1610, 1664, 2816, 2818, 3072, 3073, 3074, 3602, 3857, 3858, 3859, 3860, 3861]
/-- Their names. -/
def rowNames : List ByteArray := [⟨#[115, 115, 116, 97, 116, 117, 115]⟩, ⟨#[115, 105, 101]⟩, ⟨#[115, 116, 118, 101, 99]⟩, ⟨#[115, 99, 111, 117, 110, 116, 101, 114, 101, 110]⟩, ⟨#[115, 115, 99, 114, 97, 116, 99, 104]⟩, ⟨#[115, 101, 112, 99]⟩, ⟨#[115, 99, 97, 117, 115, 101]⟩, ⟨#[115, 116, 118, 97, 108]⟩, ⟨#[115, 105, 112]⟩, ⟨#[115, 97, 116, 112]⟩, ⟨#[118, 115, 115, 116, 97, 116, 117, 115]⟩, ⟨#[118, 115, 105, 101]⟩, ⟨#[118, 115, 116, 118, 101, 99]⟩, ⟨#[118, 115, 115, 99, 114, 97, 116, 99, 104]⟩, ⟨#[118, 115, 101, 112, 99]⟩, ⟨#[118, 115, 99, 97, 117, 115, 101]⟩, ⟨#[118, 115, 116, 118, 97, 108]⟩, ⟨#[118, 115, 105, 112]⟩, ⟨#[118, 115, 97, 116, 112]⟩, ⟨#[109, 115, 116, 97, 116, 117, 115]⟩, ⟨#[109, 105, 115, 97]⟩, ⟨#[109, 101, 100, 101, 108, 101, 103]⟩, ⟨#[109, 105, 100, 101, 108, 101, 103]⟩, ⟨#[109, 105, 101]⟩, ⟨#[109, 116, 118, 101, 99]⟩, ⟨#[109, 99, 111, 117, 110, 116, 101, 114, 101, 110]⟩, ⟨#[109, 115, 99, 114, 97, 116, 99, 104]⟩, ⟨#[109, 101, 112, 99]⟩, ⟨#[109, 99, 97, 117, 115, 101]⟩, ⟨#[109, 116, 118, 97, 108]⟩, ⟨#[109, 105, 112]⟩, ⟨#[109, 116, 105, 110, 115, 116]⟩, ⟨#[109, 116, 118, 97, 108, 50]⟩, ⟨#[104, 115, 116, 97, 116, 117, 115]⟩, ⟨#[104, 101, 100, 101, 108, 101, 103]⟩, ⟨#[104, 105, 100, 101, 108, 101, 103]⟩, ⟨#[104, 105, 101]⟩, ⟨#[104, 116, 105, 109, 101, 100, 101, 108, 116, 97]⟩, ⟨#[104, 99, 111, 117, 110, 116, 101, 114, 101, 110]⟩, ⟨#[104, 103, 101, 105, 101]⟩, ⟨#[104, 116, 118, 97, 108]⟩, ⟨#[104, 105, 112]⟩, ⟨#[104, 118, 105, 112]⟩, ⟨#[104, 116, 105, 110, 115, 116]⟩, ⟨#[104, 103, 97, 116, 112]⟩, ⟨#[109, 99, 121, 99, 108, 101]⟩, ⟨#[109, 105, 110, 115, 116, 114, 101, 116]⟩, ⟨#[99, 121, 99, 108, 101]⟩, ⟨#[116, 105, 109, 101]⟩, ⟨#[105, 110, 115, 116, 114, 101, 116]⟩, ⟨#[104, 103, 101, 105, 112]⟩, ⟨#[109, 118, 101, 110, 100, 111, 114, 105, 100]⟩, ⟨#[109, 97, 114, 99, 104, 105, 100]⟩, ⟨#[109, 105, 109, 112, 105, 100]⟩, ⟨#[109, 104, 97, 114, 116, 105, 100]⟩, ⟨#[109, 99, 111, 110, 102, 105, 103, 112, 116, 114]⟩]
def rowNo (j : Nat) : Int := rowNos.getD j 0
def rowName (j : Nat) : ByteArray := rowNames.getD j ⟨#[]⟩
/-- The table's cells. -/
def tabCells : Array Value := #[.int .i64 256, .string ⟨#[115, 115, 116, 97, 116, 117, 115]⟩, .int .i64 260, .string ⟨#[115, 105, 101]⟩, .int .i64 261, .string ⟨#[115, 116, 118, 101, 99]⟩, .int .i64 262, .string ⟨#[115, 99, 111, 117, 110, 116, 101, 114, 101, 110]⟩, .int .i64 320, .string ⟨#[115, 115, 99, 114, 97, 116, 99, 104]⟩, .int .i64 321, .string ⟨#[115, 101, 112, 99]⟩, .int .i64 322, .string ⟨#[115, 99, 97, 117, 115, 101]⟩, .int .i64 323, .string ⟨#[115, 116, 118, 97, 108]⟩, .int .i64 324, .string ⟨#[115, 105, 112]⟩, .int .i64 384, .string ⟨#[115, 97, 116, 112]⟩, .int .i64 512, .string ⟨#[118, 115, 115, 116, 97, 116, 117, 115]⟩, .int .i64 516, .string ⟨#[118, 115, 105, 101]⟩, .int .i64 517, .string ⟨#[118, 115, 116, 118, 101, 99]⟩, .int .i64 576, .string ⟨#[118, 115, 115, 99, 114, 97, 116, 99, 104]⟩, .int .i64 577, .string ⟨#[118, 115, 101, 112, 99]⟩, .int .i64 578, .string ⟨#[118, 115, 99, 97, 117, 115, 101]⟩, .int .i64 579, .string ⟨#[118, 115, 116, 118, 97, 108]⟩, .int .i64 580, .string ⟨#[118, 115, 105, 112]⟩, .int .i64 640, .string ⟨#[118, 115, 97, 116, 112]⟩, .int .i64 768, .string ⟨#[109, 115, 116, 97, 116, 117, 115]⟩, .int .i64 769, .string ⟨#[109, 105, 115, 97]⟩, .int .i64 770, .string ⟨#[109, 101, 100, 101, 108, 101, 103]⟩, .int .i64 771, .string ⟨#[109, 105, 100, 101, 108, 101, 103]⟩, .int .i64 772, .string ⟨#[109, 105, 101]⟩, .int .i64 773, .string ⟨#[109, 116, 118, 101, 99]⟩, .int .i64 774, .string ⟨#[109, 99, 111, 117, 110, 116, 101, 114, 101, 110]⟩, .int .i64 832, .string ⟨#[109, 115, 99, 114, 97, 116, 99, 104]⟩, .int .i64 833, .string ⟨#[109, 101, 112, 99]⟩, .int .i64 834, .string ⟨#[109, 99, 97, 117, 115, 101]⟩, .int .i64 835, .string ⟨#[109, 116, 118, 97, 108]⟩, .int .i64 836, .string ⟨#[109, 105, 112]⟩, .int .i64 842, .string ⟨#[109, 116, 105, 110, 115, 116]⟩, .int .i64 843, .string ⟨#[109, 116, 118, 97, 108, 50]⟩, .int .i64 1536, .string ⟨#[104, 115, 116, 97, 116, 117, 115]⟩, .int .i64 1538, .string ⟨#[104, 101, 100, 101, 108, 101, 103]⟩, .int .i64 1539, .string ⟨#[104, 105, 100, 101, 108, 101, 103]⟩, .int .i64 1540, .string ⟨#[104, 105, 101]⟩, .int .i64 1541, .string ⟨#[104, 116, 105, 109, 101, 100, 101, 108, 116, 97]⟩, .int .i64 1542, .string ⟨#[104, 99, 111, 117, 110, 116, 101, 114, 101, 110]⟩, .int .i64 1543, .string ⟨#[104, 103, 101, 105, 101]⟩, .int .i64 1603, .string ⟨#[104, 116, 118, 97, 108]⟩, .int .i64 1604, .string ⟨#[104, 105, 112]⟩, .int .i64 1605, .string ⟨#[104, 118, 105, 112]⟩, .int .i64 1610, .string ⟨#[104, 116, 105, 110, 115, 116]⟩, .int .i64 1664, .string ⟨#[104, 103, 97, 116, 112]⟩, .int .i64 2816, .string ⟨#[109, 99, 121, 99, 108, 101]⟩, .int .i64 2818, .string ⟨#[109, 105, 110, 115, 116, 114, 101, 116]⟩, .int .i64 3072, .string ⟨#[99, 121, 99, 108, 101]⟩, .int .i64 3073, .string ⟨#[116, 105, 109, 101]⟩, .int .i64 3074, .string ⟨#[105, 110, 115, 116, 114, 101, 116]⟩, .int .i64 3602, .string ⟨#[104, 103, 101, 105, 112]⟩, .int .i64 3857, .string ⟨#[109, 118, 101, 110, 100, 111, 114, 105, 100]⟩, .int .i64 3858, .string ⟨#[109, 97, 114, 99, 104, 105, 100]⟩, .int .i64 3859, .string ⟨#[109, 105, 109, 112, 105, 100]⟩, .int .i64 3860, .string ⟨#[109, 104, 97, 114, 116, 105, 100]⟩, .int .i64 3861, .string ⟨#[109, 99, 111, 110, 102, 105, 103, 112, 116, 114]⟩]
/-- The package's table, in its variable. -/
def Tab (w : World) : Prop := ∃ t fr, w.heap[0]? = some (.cells tabCells t fr)
theorem Tab.from {w w1 : World} (h : Tab w) (hb : Below w.heap.size w w1) : Tab w1 := by
  obtain ⟨t, fr, h⟩ := h
  exact ⟨t, fr, (hb.block _ (Array.getElem?_eq_some_iff.1 h).1).trans h⟩
theorem tab_no : ∀ j, j < 56 → tabCells[j * 2]? = some (.int .i64 (rowNo j))
  | 0, _ => rfl
  | 1, _ => rfl
  | 2, _ => rfl
  | 3, _ => rfl
  | 4, _ => rfl
  | 5, _ => rfl
  | 6, _ => rfl
  | 7, _ => rfl
  | 8, _ => rfl
  | 9, _ => rfl
  | 10, _ => rfl
  | 11, _ => rfl
  | 12, _ => rfl
  | 13, _ => rfl
  | 14, _ => rfl
  | 15, _ => rfl
  | 16, _ => rfl
  | 17, _ => rfl
  | 18, _ => rfl
  | 19, _ => rfl
  | 20, _ => rfl
  | 21, _ => rfl
  | 22, _ => rfl
  | 23, _ => rfl
  | 24, _ => rfl
  | 25, _ => rfl
  | 26, _ => rfl
  | 27, _ => rfl
  | 28, _ => rfl
  | 29, _ => rfl
  | 30, _ => rfl
  | 31, _ => rfl
  | 32, _ => rfl
  | 33, _ => rfl
  | 34, _ => rfl
  | 35, _ => rfl
  | 36, _ => rfl
  | 37, _ => rfl
  | 38, _ => rfl
  | 39, _ => rfl
  | 40, _ => rfl
  | 41, _ => rfl
  | 42, _ => rfl
  | 43, _ => rfl
  | 44, _ => rfl
  | 45, _ => rfl
  | 46, _ => rfl
  | 47, _ => rfl
  | 48, _ => rfl
  | 49, _ => rfl
  | 50, _ => rfl
  | 51, _ => rfl
  | 52, _ => rfl
  | 53, _ => rfl
  | 54, _ => rfl
  | 55, _ => rfl
  | n + 56, h => absurd h (by omega)
theorem tab_name : ∀ j, j < 56 → tabCells[j * 2 + 1]? = some (.string (rowName j))
  | 0, _ => rfl
  | 1, _ => rfl
  | 2, _ => rfl
  | 3, _ => rfl
  | 4, _ => rfl
  | 5, _ => rfl
  | 6, _ => rfl
  | 7, _ => rfl
  | 8, _ => rfl
  | 9, _ => rfl
  | 10, _ => rfl
  | 11, _ => rfl
  | 12, _ => rfl
  | 13, _ => rfl
  | 14, _ => rfl
  | 15, _ => rfl
  | 16, _ => rfl
  | 17, _ => rfl
  | 18, _ => rfl
  | 19, _ => rfl
  | 20, _ => rfl
  | 21, _ => rfl
  | 22, _ => rfl
  | 23, _ => rfl
  | 24, _ => rfl
  | 25, _ => rfl
  | 26, _ => rfl
  | 27, _ => rfl
  | 28, _ => rfl
  | 29, _ => rfl
  | 30, _ => rfl
  | 31, _ => rfl
  | 32, _ => rfl
  | 33, _ => rfl
  | 34, _ => rfl
  | 35, _ => rfl
  | 36, _ => rfl
  | 37, _ => rfl
  | 38, _ => rfl
  | 39, _ => rfl
  | 40, _ => rfl
  | 41, _ => rfl
  | 42, _ => rfl
  | 43, _ => rfl
  | 44, _ => rfl
  | 45, _ => rfl
  | 46, _ => rfl
  | 47, _ => rfl
  | 48, _ => rfl
  | 49, _ => rfl
  | 50, _ => rfl
  | 51, _ => rfl
  | 52, _ => rfl
  | 53, _ => rfl
  | 54, _ => rfl
  | 55, _ => rfl
  | n + 56, h => absurd h (by omega)
theorem Tab.no {w : World} (h : Tab w) (j : Nat) (hj : j < 56) : w.cell? ⟨0, j * 2, none⟩ = some (.int .i64 (rowNo j)) := by
  obtain ⟨t, fr, h⟩ := h
  exact (cell_of_row w _ _ _ t fr h).trans (tab_no j hj)
theorem Tab.name {w : World} (h : Tab w) (j : Nat) (hj : j < 56) : w.cell? ⟨0, j * 2 + 1, none⟩ = some (.string (rowName j)) := by
  obtain ⟨t, fr, h⟩ := h
  exact (cell_of_row w _ _ _ t fr h).trans (tab_name j hj)
theorem rowNo_rise : ∀ j, j < 55 → rowNo j < rowNo (j + 1) := by
  have h : ∀ j : Fin 55, rowNo j.val < rowNo (j.val + 1) := by decide
  exact fun j hj => h ⟨j, hj⟩
theorem rowNo_mono (j d : Nat) (h : j + d < 56) : rowNo j ≤ rowNo (j + d) := by
  induction d with
  | zero => exact Int.le_refl _
  | succ d ih => have := rowNo_rise (j + d) (by omega); have := ih (by omega); rw [← Nat.add_assoc]; omega
theorem rowNo_le {i j : Nat} (h : i ≤ j) (hj : j < 56) : rowNo i ≤ rowNo j := by
  have := rowNo_mono i (j - i) (by omega); rw [show i + (j - i) = j by omega] at this; exact this
/-- Where a number's row stands; -1: there is none. -/
def findFrom (n : Int) : Nat → Int
  | 0 => -1
  | j + 1 => if rowNo j = n then (j : Int) else findFrom n j
def csrno_find.f (a0 : Int) : Option Int := some (findFrom a0 56)
theorem findFrom_none (n : Int) : ∀ m, (∀ j, j < m → rowNo j ≠ n) → findFrom n m = -1
  | 0, _ => rfl
  | m + 1, h => by rw [findFrom, if_neg (h m (by omega))]; exact findFrom_none n m fun j hj => h j (by omega)
theorem findFrom_at (n : Int) : ∀ m i, i < m → rowNo i = n → (∀ j, i < j → j < m → rowNo j ≠ n) → findFrom n m = (i : Int)
  | 0, i, h, _, _ => by omega
  | m + 1, i, h, e, hne => by
    rw [findFrom]
    by_cases hm : i = m
    · subst hm; rw [if_pos e]
    · rw [if_neg (hne m (by omega) (by omega))]; exact findFrom_at n m i (by omega) e fun j h1 h2 => hne j h1 (by omega)
theorem find_end {n : Int} {lo : Nat} (h1 : ∀ j, j < lo → rowNo j < n) (h2 : ∀ j, lo ≤ j → j < 56 → n ≤ rowNo j) :
    findFrom n 56 = if lo < 56 ∧ rowNo lo = n then (lo : Int) else -1 := by
  by_cases h : lo < 56 ∧ rowNo lo = n
  · rw [if_pos h]
    refine findFrom_at n 56 lo h.1 h.2 fun j hj1 hj2 => ?_
    have a := rowNo_rise lo (by omega)
    have b := rowNo_le (i := lo + 1) (j := j) (by omega) hj2
    omega
  · rw [if_neg h]
    refine findFrom_none n 56 fun j hj => ?_
    by_cases hl : j < lo
    · have := h1 j hl; omega
    · intro e
      by_cases he : j = lo
      · subst he; exact h ⟨hj, e⟩
      · have a := h2 lo (by omega) (by omega)
        have b := rowNo_rise lo (by omega)
        have c := rowNo_le (i := lo + 1) (j := j) (by omega) hj
        omega
set_option maxHeartbeats 4000000 in
set_option maxRecDepth 100000 in
theorem csrno_find.calls (a0 : Int) (r : Int) (w : World) (h : csrno_find.f a0 = some r) (hT : Tab w) :
    Calls Tryd.prog 39 #[.int .i64 a0] w fun e w' => e = .returned (.int .i64 r) ∧ Drawn0 w w' := by
  obtain rfl := Option.some.inj h
  clear h
  have HT := Lib.hid hT
  clear hT
  go_enter Tryd.func39, Tryd.ntmps39
  go_wp2
  go_loop [3, 4] (fun v3 v4 => ∃ lo hi : Nat, lo ≤ hi ∧ hi ≤ 56 ∧ v3 = .int .i64 lo ∧ v4 = .int .i64 hi ∧ (∀ j, j < lo → rowNo j < a0) ∧ (∀ j, hi ≤ j → j < 56 → a0 ≤ rowNo j)) (fun v3 v4 => (intOf v4 - intOf v3).toNat)
  case atStart => exact ⟨0, 56, by omega, by omega, rfl, rfl, fun j hj => by omega, fun j h1 h2 => by omega⟩
  case round =>
    obtain ⟨lo, hi, hle, hhi, rfl, rfl, h1, h2⟩ := hrel
    by_cases hlt : lo < hi
    · have hk56 : (lo + hi) / 2 < 56 := by omega
      have c := HT.out.no _ hk56
      have d0 : decide ((lo : Int) < (hi : Int)) = true := decide_eq_true (by omega)
      by_cases hc : rowNo ((lo + hi) / 2) < a0
      · have d1 := decide_eq_true hc
        have g1 : ∀ j, j < (lo + hi) / 2 + 1 → rowNo j < a0 := fun j hj => by have := rowNo_le (i := j) (j := (lo + hi) / 2) (by omega) hk56; omega
        clear hc h1
        go_wp2
        go_round
        case rel => exact ⟨(lo + hi) / 2 + 1, hi, by omega, hhi, by first | rfl | go_num | (simp; done), rfl, g1, h2⟩
        case measure => first | (simp [intOf]; done) | (simp [intOf]; omega)
      · have d1 := decide_eq_false hc
        have g2 : ∀ j, (lo + hi) / 2 ≤ j → j < 56 → a0 ≤ rowNo j := fun j h1 h2 => by have := rowNo_le (i := (lo + hi) / 2) (j := j) h1 h2; omega
        clear hc h2
        go_wp2
        go_round
        case rel => exact ⟨lo, (lo + hi) / 2, by omega, by omega, rfl, by first | rfl | go_num | (simp; done), h1, g2⟩
        case measure => first | (simp [intOf]; done) | (simp [intOf]; omega)
    · obtain rfl : lo = hi := by omega
      have hf := find_end h1 h2
      have d0 : decide ((lo : Int) < (lo : Int)) = false := decide_eq_false (by omega)
      clear h1 h2
      by_cases hl : lo < 56
      · have c := HT.out.no lo hl
        have d1 : decide ((lo : Int) < 56) = true := decide_eq_true (by omega)
        by_cases he : rowNo lo = a0
        · have d2 : (rowNo lo == a0) = true := beq_iff_eq.mpr he
          rw [if_pos ⟨hl, he⟩] at hf
          have HF := Lib.hid hf
          clear he hf
          go_wp2
          go_ret
          exact ⟨by rw [HF.out]; rfl, Drawn0.refl _⟩
        · have d2 : (rowNo lo == a0) = false := beq_eq_false_iff_ne.mpr he
          rw [if_neg (fun h => he h.2)] at hf
          have HF := Lib.hid hf
          clear he hf
          go_wp2
          go_ret
          exact ⟨by rw [HF.out]; rfl, Drawn0.refl _⟩
      · have d1 : decide ((lo : Int) < 56) = false := decide_eq_false (by omega)
        rw [if_neg (fun h => hl h.1)] at hf
        have HF := Lib.hid hf
        clear hf
        go_wp2
        go_ret
        exact ⟨by rw [HF.out]; rfl, Drawn0.refl _⟩
theorem csrno_row.zero : (Tryd.prog.info? 61).map (fun i => (i.zero, i.size)) = some (some (.agg #[.int .i64 0, .string ⟨#[]⟩]), 2) := by kernel_rfl
theorem csrno_rows.size : (Tryd.prog.info? 62).map (·.size) = some tabCells.size := by kernel_rfl
theorem csrno_rows.at : ∀ (k : Nat), k < 56 → ∀ W : World, (Instr.index 62 (.agg tabCells) (.int .i64 (k : Int))).run Tryd.prog W = .ok (.agg #[.int .i64 (rowNo k), .string (rowName k)]) W
  | 0, _, _ => by kernel_rfl
  | 1, _, _ => by kernel_rfl
  | 2, _, _ => by kernel_rfl
  | 3, _, _ => by kernel_rfl
  | 4, _, _ => by kernel_rfl
  | 5, _, _ => by kernel_rfl
  | 6, _, _ => by kernel_rfl
  | 7, _, _ => by kernel_rfl
  | 8, _, _ => by kernel_rfl
  | 9, _, _ => by kernel_rfl
  | 10, _, _ => by kernel_rfl
  | 11, _, _ => by kernel_rfl
  | 12, _, _ => by kernel_rfl
  | 13, _, _ => by kernel_rfl
  | 14, _, _ => by kernel_rfl
  | 15, _, _ => by kernel_rfl
  | 16, _, _ => by kernel_rfl
  | 17, _, _ => by kernel_rfl
  | 18, _, _ => by kernel_rfl
  | 19, _, _ => by kernel_rfl
  | 20, _, _ => by kernel_rfl
  | 21, _, _ => by kernel_rfl
  | 22, _, _ => by kernel_rfl
  | 23, _, _ => by kernel_rfl
  | 24, _, _ => by kernel_rfl
  | 25, _, _ => by kernel_rfl
  | 26, _, _ => by kernel_rfl
  | 27, _, _ => by kernel_rfl
  | 28, _, _ => by kernel_rfl
  | 29, _, _ => by kernel_rfl
  | 30, _, _ => by kernel_rfl
  | 31, _, _ => by kernel_rfl
  | 32, _, _ => by kernel_rfl
  | 33, _, _ => by kernel_rfl
  | 34, _, _ => by kernel_rfl
  | 35, _, _ => by kernel_rfl
  | 36, _, _ => by kernel_rfl
  | 37, _, _ => by kernel_rfl
  | 38, _, _ => by kernel_rfl
  | 39, _, _ => by kernel_rfl
  | 40, _, _ => by kernel_rfl
  | 41, _, _ => by kernel_rfl
  | 42, _, _ => by kernel_rfl
  | 43, _, _ => by kernel_rfl
  | 44, _, _ => by kernel_rfl
  | 45, _, _ => by kernel_rfl
  | 46, _, _ => by kernel_rfl
  | 47, _, _ => by kernel_rfl
  | 48, _, _ => by kernel_rfl
  | 49, _, _ => by kernel_rfl
  | 50, _, _ => by kernel_rfl
  | 51, _, _ => by kernel_rfl
  | 52, _, _ => by kernel_rfl
  | 53, _, _ => by kernel_rfl
  | 54, _, _ => by kernel_rfl
  | 55, _, _ => by kernel_rfl
  | n + 56, h, _ => absurd h (by omega)
theorem csrno_row.one {a : Int} {b : ByteArray} : (#[.int .i64 a, .string b] : Array Value).all (·.oneCell') = true := by simp [Value.oneCell']
end

/-! ### csrno_Known: function 24 -/
def csrno_Known.f (a0 : Int) : Option (Bool) := (csrno_find.f a0).bind fun t127 => (some (decide (t127 ≥ 0)))
set_option maxHeartbeats 8000000 in
set_option maxRecDepth 100000 in
theorem csrno_Known.calls (a0 : Int) (r : Bool) (w : World) (h : csrno_Known.f a0 = some r) (hT : Tab w) :
    Calls Tryd.prog 24 #[.int .i64 a0] w fun e w' => e = .returned (.bool r) ∧ Drawn0 w w' := by
  have H : ((csrno_find.f a0).bind fun t127 => (some (decide (t127 ≥ 0)))) = some r := h
  clear h
  replace H := Option.bind_eq_some_iff.mp H
  obtain ⟨t127, A20, H⟩ := H
  replace H : (some (decide (t127 ≥ 0))) = some r := H
  have A2 := Aside0.mk A20
  clear A20
  obtain rfl := Option.some.inj H
  go_enter Tryd.func24, Tryd.ntmps24
  go_wp2_with (first | ((with_reducible refine gate_callee (f := 39) rfl ?_); refine goesL_ (some 4) rfl rfl Tryd.func39 (by kernel_rfl) rfl #[.int .i64 a0] rfl (by (try simp only [List.map_toArray, List.map_cons, List.map_nil]); first | done | rfl | (simp only [List.length_drop, List.length_take]; rfl)) ?_; (with_reducible refine (csrno_find.calls a0 t127 _ A2.out (Tab.from hT (by repeat (first | (with_reducible first | exact HB.out | exact Below.refl _ _ | apply below_alloc | apply pw_below_drewN | apply below_drew1) | exact HB.out)))).mono ?_); rintro e w' ⟨rfl, ⟨nd, rfl⟩⟩; refine ⟨_, rfl, ?_⟩))
  go_ret
  exact ⟨by first | rfl | (simp; done) | (simp [*]; done), by repeat (first | exact Drawn0.refl _ | apply Drawn0.step)⟩

-- NOT PRINTED: function 34 (csr_put)

-- NOT PRINTED: function 19 (csr_Write)

-- NOT PRINTED: function 22 (csr_Legal)

-- NOT PRINTED: function 17 (mezzaninelaw12_wakes)

-- NOT PRINTED: function 3 (mezzaninelaw12_CsrReads)

-- NOT PRINTED: function 4 (mezzaninelaw12_CsrSame)

end Go.Proofs.YtlopmcakfalkpaaDoor.Q
