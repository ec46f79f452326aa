/- Where the Lean function of a Go function gives a value, the Go call returns that value and changes nothing that was there: for every input. (By a program of this session, and by hand.) -/
import Derived.Test.YtpbodidpcbodaaaDoorQx0
namespace Go.Proofs.YtpbodidpcbodaaaDoor.Q
open Go.RowKit Go.Proofs.YtpbodidpcbodaaaDoorW.PrintWords Go.Proofs.YtpbodidpcbodaaaDoorW.PrintLast Go.Proofs.YtpbodidpcbodaaaDoorW.PrintMore
attribute [local go_sem] max2_int min2_int max_two min_two max_three min_three max_four min_four   -- for this text's walks alone
set_option linter.unusedVariables false
set_option linter.unusedSimpArgs false

-- NOT PRINTED: function 16 (irq_inOrder)

-- NOT PRINTED: function 7 (irq_Next)

/-! ### csrno_All: by hand -/
section
/-- The numbers of the table's rows. -/
def rowNos : List Int := [256, 260, 261, 262, 320, 321, 322, 323, 324, 384, 512, 516, 517, 576, 577, 578, 579, 580, 640, 768, 769, 770, 771, 772, 773, 774, 832, 833, 834, 835, 836, 842, 843, 1536, 1538, 1539, 1540, 1541, 1542, 1543, 1603, 1604, 1605, 1610, 1664, 2816, 2818, 3072, 3073, 3074, 3602, 3857, 3858, 3859, 3860, 3861]
/-- Their names. -/
def rowNames : List ByteArray := [⟨#[115, 115, 116, 97, 116, 117, 115]⟩, ⟨#[115, 105, 101]⟩, ⟨#[115, 116, 118, 101, 99]⟩, ⟨#[115, 99, 111, 117, 110, 116, 101, 114, 101, 110]⟩, ⟨#[115, 115, 99, 114, 97, 116, 99, 104]⟩, ⟨#[115, 101, 112, 99]⟩, ⟨#[115, 99, 97, 117, 115, 101]⟩, ⟨#[115, 116, 118, 97, 108]⟩, ⟨#[115, 105, 112]⟩, ⟨#[115, 97, 116, 112]⟩, ⟨#[118, 115, 115, 116, 97, 116, 117, 115]⟩, ⟨#[118, 115, 105, 101]⟩, ⟨#[118, 115, 116, 118, 101, 99]⟩, ⟨#[118, 115, 115, 99, 114, 97, 116, 99, 104]⟩, ⟨#[118, 115, 101, 112, 99]⟩, ⟨#[118, 115, 99, 97, 117, 115, 101]⟩, ⟨#[118, 115, 116, 118, 97, 108]⟩, ⟨#[118, 115, 105, 112]⟩, ⟨#[118, 115, 97, 116, 112]⟩, ⟨#[109, 115, 116, 97, 116, 117, 115]⟩, ⟨#[109, 105, 115, 97]⟩, ⟨#[109, 101, 100, 101, 108, 101, 103]⟩, ⟨#[109, 105, 100, 101, 108, 101, 103]⟩, ⟨#[109, 105, 101]⟩, ⟨#[109, 116, 118, 101, 99]⟩, ⟨#[109, 99, 111, 117, 110, 116, 101, 114, 101, 110]⟩, ⟨#[109, 115, 99, 114, 97, 116, 99, 104]⟩, ⟨#[109, 101, 112, 99]⟩, ⟨#[109, 99, 97, 117, 115, 101]⟩, ⟨#[109, 116, 118, 97, 108]⟩, ⟨#[109, 105, 112]⟩, ⟨#[109, 116, 105, 110, 115, 116]⟩, ⟨#[109, 116, 118, 97, 108, 50]⟩, ⟨#[104, 115, 116, 97, 116, 117, 115]⟩, ⟨#[104, 101, 100, 101, 108, 101, 103]⟩, ⟨#[104, 105, 100, 101, 108, 101, 103]⟩, ⟨#[104, 105, 101]⟩, ⟨#[104, 116, 105, 109, 101, 100, 101, 108, 116, 97]⟩, ⟨#[104, 99, 111, 117, 110, 116, 101, 114, 101, 110]⟩, ⟨#[104, 103, 101, 105, 101]⟩, ⟨#[104, 116, 118, 97, 108]⟩, ⟨#[104, 105, 112]⟩, ⟨#[104, 118, 105, 112]⟩, ⟨#[104, 116, 105, 110, 115, 116]⟩, ⟨#[104, 103, 97, 116, 112]⟩, ⟨#[109, 99, 121, 99, 108, 101]⟩, ⟨#[109, 105, 110, 115, 116, 114, 101, 116]⟩, ⟨#[99, 121, 99, 108, 101]⟩, ⟨#[116, 105, 109, 101]⟩, ⟨#[105, 110, 115, 116, 114, 101, 116]⟩, ⟨#[104, 103, 101, 105, 112]⟩, ⟨#[109, 118, 101, 110, 100, 111, 114, 105, 100]⟩, ⟨#[109, 97, 114, 99, 104, 105, 100]⟩, ⟨#[109, 105, 109, 112, 105, 100]⟩, ⟨#[109, 104, 97, 114, 116, 105, 100]⟩, ⟨#[109, 99, 111, 110, 102, 105, 103, 112, 116, 114]⟩]
def rowNo (j : Nat) : Int := rowNos.getD j 0
def rowName (j : Nat) : ByteArray := rowNames.getD j ⟨#[]⟩
/-- The table's cells. -/
def tabCells : Array Value := #[.int .i64 256, .string ⟨#[115, 115, 116, 97, 116, 117, 115]⟩, .int .i64 260, .string ⟨#[115, 105, 101]⟩, .int .i64 261, .string ⟨#[115, 116, 118, 101, 99]⟩, .int .i64 262, .string ⟨#[115, 99, 111, 117, 110, 116, 101, 114, 101, 110]⟩, .int .i64 320, .string ⟨#[115, 115, 99, 114, 97, 116, 99, 104]⟩, .int .i64 321, .string ⟨#[115, 101, 112, 99]⟩, .int .i64 322, .string ⟨#[115, 99, 97, 117, 115, 101]⟩, .int .i64 323, .string ⟨#[115, 116, 118, 97, 108]⟩, .int .i64 324, .string ⟨#[115, 105, 112]⟩, .int .i64 384, .string ⟨#[115, 97, 116, 112]⟩, .int .i64 512, .string ⟨#[118, 115, 115, 116, 97, 116, 117, 115]⟩, .int .i64 516, .string ⟨#[118, 115, 105, 101]⟩, .int .i64 517, .string ⟨#[118, 115, 116, 118, 101, 99]⟩, .int .i64 576, .string ⟨#[118, 115, 115, 99, 114, 97, 116, 99, 104]⟩, .int .i64 577, .string ⟨#[118, 115, 101, 112, 99]⟩, .int .i64 578, .string ⟨#[118, 115, 99, 97, 117, 115, 101]⟩, .int .i64 579, .string ⟨#[118, 115, 116, 118, 97, 108]⟩, .int .i64 580, .string ⟨#[118, 115, 105, 112]⟩, .int .i64 640, .string ⟨#[118, 115, 97, 116, 112]⟩, .int .i64 768, .string ⟨#[109, 115, 116, 97, 116, 117, 115]⟩, .int .i64 769, .string ⟨#[109, 105, 115, 97]⟩, .int .i64 770, .string ⟨#[109, 101, 100, 101, 108, 101, 103]⟩, .int .i64 771, .string ⟨#[109, 105, 100, 101, 108, 101, 103]⟩, .int .i64 772, .string ⟨#[109, 105, 101]⟩, .int .i64 773, .string ⟨#[109, 116, 118, 101, 99]⟩, .int .i64 774, .string ⟨#[109, 99, 111, 117, 110, 116, 101, 114, 101, 110]⟩, .int .i64 832, .string ⟨#[109, 115, 99, 114, 97, 116, 99, 104]⟩, .int .i64 833, .string ⟨#[109, 101, 112, 99]⟩, .int .i64 834, .string ⟨#[109, 99, 97, 117, 115, 101]⟩, .int .i64 835, .string ⟨#[109, 116, 118, 97, 108]⟩, .int .i64 836, .string ⟨#[109, 105, 112]⟩, .int .i64 842, .string ⟨#[109, 116, 105, 110, 115, 116]⟩, .int .i64 843, .string ⟨#[109, 116, 118, 97, 108, 50]⟩, .int .i64 1536, .string ⟨#[104, 115, 116, 97, 116, 117, 115]⟩, .int .i64 1538, .string ⟨#[104, 101, 100, 101, 108, 101, 103]⟩, .int .i64 1539, .string ⟨#[104, 105, 100, 101, 108, 101, 103]⟩, .int .i64 1540, .string ⟨#[104, 105, 101]⟩, .int .i64 1541, .string ⟨#[104, 116, 105, 109, 101, 100, 101, 108, 116, 97]⟩, .int .i64 1542, .string ⟨#[104, 99, 111, 117, 110, 116, 101, 114, 101, 110]⟩, .int .i64 1543, .string ⟨#[104, 103, 101, 105, 101]⟩, .int .i64 1603, .string ⟨#[104, 116, 118, 97, 108]⟩, .int .i64 1604, .string ⟨#[104, 105, 112]⟩, .int .i64 1605, .string ⟨#[104, 118, 105, 112]⟩, .int .i64 1610, .string ⟨#[104, 116, 105, 110, 115, 116]⟩, .int .i64 1664, .string ⟨#[104, 103, 97, 116, 112]⟩, .int .i64 2816, .string ⟨#[109, 99, 121, 99, 108, 101]⟩, .int .i64 2818, .string ⟨#[109, 105, 110, 115, 116, 114, 101, 116]⟩, .int .i64 3072, .string ⟨#[99, 121, 99, 108, 101]⟩, .int .i64 3073, .string ⟨#[116, 105, 109, 101]⟩, .int .i64 3074, .string ⟨#[105, 110, 115, 116, 114, 101, 116]⟩, .int .i64 3602, .string ⟨#[104, 103, 101, 105, 112]⟩, .int .i64 3857, .string ⟨#[109, 118, 101, 110, 100, 111, 114, 105, 100]⟩, .int .i64 3858, .string ⟨#[109, 97, 114, 99, 104, 105, 100]⟩, .int .i64 3859, .string ⟨#[109, 105, 109, 112, 105, 100]⟩, .int .i64 3860, .string ⟨#[109, 104, 97, 114, 116, 105, 100]⟩, .int .i64 3861, .string ⟨#[109, 99, 111, 110, 102, 105, 103, 112, 116, 114]⟩]
/-- The package's table, in its variable. -/
def Tab (w : World) : Prop := ∃ t fr, w.heap[1]? = some (.cells tabCells t fr)
theorem Tab.from {w w1 : World} (h : Tab w) (hb : Below w.heap.size w w1) : Tab w1 := by
  obtain ⟨t, fr, h⟩ := h
  exact ⟨t, fr, (hb.block _ (Array.getElem?_eq_some_iff.1 h).1).trans h⟩
theorem tab_no : ∀ j, j < 56 → tabCells[j * 2]? = some (.int .i64 (rowNo j))
  | 0, _ => rfl
  | 1, _ => rfl
  | 2, _ => rfl
  | 3, _ => rfl
  | 4, _ => rfl
  | 5, _ => rfl
  | 6, _ => rfl
  | 7, _ => rfl
  | 8, _ => rfl
  | 9, _ => rfl
  | 10, _ => rfl
  | 11, _ => rfl
  | 12, _ => rfl
  | 13, _ => rfl
  | 14, _ => rfl
  | 15, _ => rfl
  | 16, _ => rfl
  | 17, _ => rfl
  | 18, _ => rfl
  | 19, _ => rfl
  | 20, _ => rfl
  | 21, _ => rfl
  | 22, _ => rfl
  | 23, _ => rfl
  | 24, _ => rfl
  | 25, _ => rfl
  | 26, _ => rfl
  | 27, _ => rfl
  | 28, _ => rfl
  | 29, _ => rfl
  | 30, _ => rfl
  | 31, _ => rfl
  | 32, _ => rfl
  | 33, _ => rfl
  | 34, _ => rfl
  | 35, _ => rfl
  | 36, _ => rfl
  | 37, _ => rfl
  | 38, _ => rfl
  | 39, _ => rfl
  | 40, _ => rfl
  | 41, _ => rfl
  | 42, _ => rfl
  | 43, _ => rfl
  | 44, _ => rfl
  | 45, _ => rfl
  | 46, _ => rfl
  | 47, _ => rfl
  | 48, _ => rfl
  | 49, _ => rfl
  | 50, _ => rfl
  | 51, _ => rfl
  | 52, _ => rfl
  | 53, _ => rfl
  | 54, _ => rfl
  | 55, _ => rfl
  | n + 56, h => absurd h (by omega)
theorem tab_name : ∀ j, j < 56 → tabCells[j * 2 + 1]? = some (.string (rowName j))
  | 0, _ => rfl
  | 1, _ => rfl
  | 2, _ => rfl
  | 3, _ => rfl
  | 4, _ => rfl
  | 5, _ => rfl
  | 6, _ => rfl
  | 7, _ => rfl
  | 8, _ => rfl
  | 9, _ => rfl
  | 10, _ => rfl
  | 11, _ => rfl
  | 12, _ => rfl
  | 13, _ => rfl
  | 14, _ => rfl
  | 15, _ => rfl
  | 16, _ => rfl
  | 17, _ => rfl
  | 18, _ => rfl
  | 19, _ => rfl
  | 20, _ => rfl
  | 21, _ => rfl
  | 22, _ => rfl
  | 23, _ => rfl
  | 24, _ => rfl
  | 25, _ => rfl
  | 26, _ => rfl
  | 27, _ => rfl
  | 28, _ => rfl
  | 29, _ => rfl
  | 30, _ => rfl
  | 31, _ => rfl
  | 32, _ => rfl
  | 33, _ => rfl
  | 34, _ => rfl
  | 35, _ => rfl
  | 36, _ => rfl
  | 37, _ => rfl
  | 38, _ => rfl
  | 39, _ => rfl
  | 40, _ => rfl
  | 41, _ => rfl
  | 42, _ => rfl
  | 43, _ => rfl
  | 44, _ => rfl
  | 45, _ => rfl
  | 46, _ => rfl
  | 47, _ => rfl
  | 48, _ => rfl
  | 49, _ => rfl
  | 50, _ => rfl
  | 51, _ => rfl
  | 52, _ => rfl
  | 53, _ => rfl
  | 54, _ => rfl
  | 55, _ => rfl
  | n + 56, h => absurd h (by omega)
theorem Tab.no {w : World} (h : Tab w) (j : Nat) (hj : j < 56) : w.cell? ⟨1, j * 2, none⟩ = some (.int .i64 (rowNo j)) := by
  obtain ⟨t, fr, h⟩ := h
  exact (cell_of_row w _ _ _ t fr h).trans (tab_no j hj)
theorem Tab.name {w : World} (h : Tab w) (j : Nat) (hj : j < 56) : w.cell? ⟨1, j * 2 + 1, none⟩ = some (.string (rowName j)) := by
  obtain ⟨t, fr, h⟩ := h
  exact (cell_of_row w _ _ _ t fr h).trans (tab_name j hj)
theorem rowNo_rise : ∀ j, j < 55 → rowNo j < rowNo (j + 1) := by
  have h : ∀ j : Fin 55, rowNo j.val < rowNo (j.val + 1) := by decide
  exact fun j hj => h ⟨j, hj⟩
theorem rowNo_mono (j d : Nat) (h : j + d < 56) : rowNo j ≤ rowNo (j + d) := by
  induction d with
  | zero => exact Int.le_refl _
  | succ d ih => have := rowNo_rise (j + d) (by omega); have := ih (by omega); rw [← Nat.add_assoc]; omega
theorem rowNo_le {i j : Nat} (h : i ≤ j) (hj : j < 56) : rowNo i ≤ rowNo j := by
  have := rowNo_mono i (j - i) (by omega); rw [show i + (j - i) = j by omega] at this; exact this
theorem csrno_row.zero : (Tryd.prog.info? 62).map (fun i => (i.zero, i.size)) = some (some (.agg #[.int .i64 0, .string ⟨#[]⟩]), 2) := by kernel_rfl
theorem csrno_rows.size : (Tryd.prog.info? 63).map (·.size) = some tabCells.size := by kernel_rfl
theorem csrno_rows.at : ∀ (k : Nat), k < 56 → ∀ W : World, (Instr.index 63 (.agg tabCells) (.int .i64 (k : Int))).run Tryd.prog W = .ok (.agg #[.int .i64 (rowNo k), .string (rowName k)]) W
  | 0, _, _ => by kernel_rfl
  | 1, _, _ => by kernel_rfl
  | 2, _, _ => by kernel_rfl
  | 3, _, _ => by kernel_rfl
  | 4, _, _ => by kernel_rfl
  | 5, _, _ => by kernel_rfl
  | 6, _, _ => by kernel_rfl
  | 7, _, _ => by kernel_rfl
  | 8, _, _ => by kernel_rfl
  | 9, _, _ => by kernel_rfl
  | 10, _, _ => by kernel_rfl
  | 11, _, _ => by kernel_rfl
  | 12, _, _ => by kernel_rfl
  | 13, _, _ => by kernel_rfl
  | 14, _, _ => by kernel_rfl
  | 15, _, _ => by kernel_rfl
  | 16, _, _ => by kernel_rfl
  | 17, _, _ => by kernel_rfl
  | 18, _, _ => by kernel_rfl
  | 19, _, _ => by kernel_rfl
  | 20, _, _ => by kernel_rfl
  | 21, _, _ => by kernel_rfl
  | 22, _, _ => by kernel_rfl
  | 23, _, _ => by kernel_rfl
  | 24, _, _ => by kernel_rfl
  | 25, _, _ => by kernel_rfl
  | 26, _, _ => by kernel_rfl
  | 27, _, _ => by kernel_rfl
  | 28, _, _ => by kernel_rfl
  | 29, _, _ => by kernel_rfl
  | 30, _, _ => by kernel_rfl
  | 31, _, _ => by kernel_rfl
  | 32, _, _ => by kernel_rfl
  | 33, _, _ => by kernel_rfl
  | 34, _, _ => by kernel_rfl
  | 35, _, _ => by kernel_rfl
  | 36, _, _ => by kernel_rfl
  | 37, _, _ => by kernel_rfl
  | 38, _, _ => by kernel_rfl
  | 39, _, _ => by kernel_rfl
  | 40, _, _ => by kernel_rfl
  | 41, _, _ => by kernel_rfl
  | 42, _, _ => by kernel_rfl
  | 43, _, _ => by kernel_rfl
  | 44, _, _ => by kernel_rfl
  | 45, _, _ => by kernel_rfl
  | 46, _, _ => by kernel_rfl
  | 47, _, _ => by kernel_rfl
  | 48, _, _ => by kernel_rfl
  | 49, _, _ => by kernel_rfl
  | 50, _, _ => by kernel_rfl
  | 51, _, _ => by kernel_rfl
  | 52, _, _ => by kernel_rfl
  | 53, _, _ => by kernel_rfl
  | 54, _, _ => by kernel_rfl
  | 55, _, _ => by kernel_rfl
  | n + 56, h, _ => absurd h (by omega)
theorem csrno_row.one {a : Int} {b : ByteArray} : (#[.int .i64 a, .string b] : Array Value).all (·.oneCell') = true := by simp [Value.oneCell']
end

section
def csrno_All.f : Option (List Int) := some rowNos
theorem csrno_All.step (k : Nat) (hk : k < 56) : rowNos.take k ++ [rowNo k] = rowNos.take (k + 1) := by
  have h : ∀ k : Fin 56, rowNos.take k.val ++ [rowNo k.val] = rowNos.take (k.val + 1) := by decide
  exact h ⟨k, hk⟩
theorem csrno_All.info : (Tryd.prog.info? 3).map (fun i => (i.zero, i.size, i.bytes)) = some (some (.int .i64 0), 1, 8) := by kernel_rfl
set_option maxHeartbeats 4000000 in
set_option maxRecDepth 100000 in
theorem csrno_All.calls (r : List Int) (w : World) (h : csrno_All.f = some r) (hT : Tab w) :
    Calls Tryd.prog 26 #[] w fun e w' => ∃ v0_ : Value, e = .returned (v0_) ∧ Kd.R (Kd.int .i64) 3 w' w.heap.size (fun _ => True) v0_ r ∧ Below w.heap.size w w' := by
  obtain rfl := Option.some.inj h
  clear h
  obtain ⟨hz, hi⟩ := zero_of_info csrno_row.zero
  have HI := Lib.hid hi
  clear hi
  obtain ⟨t0, fr0, hrow⟩ := hT
  have HS := Lib.hid csrno_rows.size
  go_enter Tryd.func26, Tryd.ntmps26
  go_wp2_with (refine wpList_load_row rfl 63 _ rfl 1 rfl t0 tabCells fr0 _ hrow Tryd.underlying63 rfl HS.out ?_)
  go_loopw [1, 5] (fun v1 v5 wr => ∃ k : Nat, k ≤ 56 ∧ v5 = .int .i64 k ∧ Kd.R (Kd.int .i64) 3 wr w.heap.size (fun _ => True) v1 (rowNos.take k) ∧ Below w.heap.size w wr) (fun _ v5 _ => 56 - (intOf v5).toNat)
  case atStart => exact ⟨0, by omega, rfl, Kd.R_nil _ _ _ _ _, Below.refl _ _⟩
  case round =>
    obtain ⟨k, hk, rfl, hR, hB⟩ := hrel
    by_cases hlt : k < 56
    · have d0 : decide ((k : Int) < 56) = true := decide_eq_true (by omega)
      have ix := csrno_rows.at k hlt
      have HE := Lib.hid (csrno_All.step k hlt)
      have hlen : (rowNos.take k).length ≤ 56 := by rw [List.length_take]; omega
      have hB2 := hB.alloc hB.size (.cells #[.int .i64 (rowNo k), .string (rowName k)] 62)
      have hR2 := Kd.R_alloc hR (.cells #[.int .i64 (rowNo k), .string (rowName k)] 62)
      go_wp2_with (first | (refine wpList_store_row rfl 62 _ _ rfl wr.heap.size #[.int .i64 (rowNo k), .string (rowName k)] rfl rfl 62 #[.int .i64 0, .string ⟨#[]⟩] (heap_alloc_last _ _) HI.out rfl csrno_row.one ?_; rw [blk_stored]) | ((with_reducible refine gate_builtin (b := .append) (xs := #[.tmp 8, .tmp 11]) rfl ?_); at_builtin; refine Kd.R_append (Kd.int .i64) (w0 := w) w.heap.size rfl (.tmp 8) (.tmp 11) 51 3 (.int .i64 0) 8 rfl Tryd.underlying51 csrno_All.info rfl (by decide) (by omega) u1 (rowNos.take k) (rowNo k) [.int .i64 (rowNo k)] (fun _ => True) (fun _ => False) rfl ?a1 ?aP (fun _ hk => hk.elim) ?aF ?aO ?aB ?aS ?aL ?_; (case a1 => first | rfl | (go_simp; done) | (simp [World.alloc, Act.eval, Act.get]; done)); (case aP => exact rfl); (case aB => exact hB2); (case aF => exact (fun _ _ => trivial)); (case aO => exact hR2); (case aS => exact below_size hB2); (case aL => omega); intro v113 w5 ho hbb hg hat; rw [HE.out] at ho; clear hB2 hR2 hR hB hg hat))
      go_roundw
      case rel => exact ⟨k + 1, by omega, by go_num, ho, hbb⟩
      case measure => first | (simp [intOf]; done) | (simp [intOf]; omega)
    · obtain rfl : k = 56 := by omega
      go_wp2
      go_ret
      exact ⟨_, rfl, hR, hB⟩
end

-- NOT PRINTED: function 32 (csr_super)

-- NOT PRINTED: function 33 (csr_hypervisor)

-- NOT PRINTED: function 27 (csr_field)

end Go.Proofs.YtpbodidpcbodaaaDoor.Q
