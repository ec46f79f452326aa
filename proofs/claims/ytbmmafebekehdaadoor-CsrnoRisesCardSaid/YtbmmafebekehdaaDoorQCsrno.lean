/- What the printed functions of package csrno, and of its reference, tell of names and numbers. -/
import Derived.Test.YtbmmafebekehdaaDoorQx1
import Derived.Test.YtbmmafebekehdaaDoorQx5
import Derived.Test.YtbmmafebekehdaaDoorQx6
import Derived.Test.YtbmmafebekehdaaDoorBv
import Derived.Laws.Strings
set_option linter.unusedSimpArgs false
set_option linter.unusedVariables false
namespace Go.Proofs.YtbmmafebekehdaaDoor.QN
open Go.RowKit Go.Proofs.YtbmmafebekehdaaDoor.Q Go.Proofs.YtbmmafebekehdaaDoorW.PrintWords Go.Proofs.YtbmmafebekehdaaDoorW.PrintLast Go.Proofs.YtbmmafebekehdaaDoorW.PrintMore Go.Proofs.YtbmmafebekehdaaDoor.Bv
theorem bsm {α β : Type} (a : α) (f : α → Option β) : (some a).bind f = f a := by cases h : (some a).bind f <;> simp_all
theorem tl (s : ByteArray) : s.toList = s.data.toList := ByteArray.toList_eq s
/-- The name of a number; none: nothing. -/
def nameOf (n : Int) : ByteArray := if findFrom n 56 < 0 then ⟨#[]⟩ else rowName (findFrom n 56).toNat
theorem name_eq (n : Int) : csrno_Name.f n = some (nameOf n) := rfl
theorem findFrom_neg (n : Int) : ∀ m, findFrom n m = -1 → ∀ j, j < m → rowNo j ≠ n
  | 0, _, j, hj => by omega
  | m + 1, h, j, hj => by
    rw [findFrom] at h
    by_cases he : rowNo m = n
    · rw [if_pos he] at h; omega
    · rw [if_neg he] at h
      by_cases hm : j = m
      · subst hm; exact he
      · exact findFrom_neg n m h j (by omega)
theorem nameOf_none {n : Int} (h : findFrom n 56 = -1) : nameOf n = ⟨#[]⟩ := by unfold nameOf; rw [h]; rfl
theorem nameOf_at {n : Int} {j : Nat} (h : findFrom n 56 = (j : Int)) : nameOf n = rowName j := by unfold nameOf; rw [h, if_neg (by omega), Int.toNat_natCast]
theorem known_eq (n : Int) : csrno_Known.f n = some (decide (findFrom n 56 ≥ 0)) := rfl
theorem rname_at : ∀ j, j < 56 → mezzanineref11_Name.f (rowNo j) = some (rowName j)
  | 0, _ => by kernel_rfl
  | 1, _ => by kernel_rfl
  | 2, _ => by kernel_rfl
  | 3, _ => by kernel_rfl
  | 4, _ => by kernel_rfl
  | 5, _ => by kernel_rfl
  | 6, _ => by kernel_rfl
  | 7, _ => by kernel_rfl
  | 8, _ => by kernel_rfl
  | 9, _ => by kernel_rfl
  | 10, _ => by kernel_rfl
  | 11, _ => by kernel_rfl
  | 12, _ => by kernel_rfl
  | 13, _ => by kernel_rfl
  | 14, _ => by kernel_rfl
  | 15, _ => by kernel_rfl
  | 16, _ => by kernel_rfl
  | 17, _ => by kernel_rfl
  | 18, _ => by kernel_rfl
  | 19, _ => by kernel_rfl
  | 20, _ => by kernel_rfl
  | 21, _ => by kernel_rfl
  | 22, _ => by kernel_rfl
  | 23, _ => by kernel_rfl
  | 24, _ => by kernel_rfl
  | 25, _ => by kernel_rfl
  | 26, _ => by kernel_rfl
  | 27, _ => by kernel_rfl
  | 28, _ => by kernel_rfl
  | 29, _ => by kernel_rfl
  | 30, _ => by kernel_rfl
  | 31, _ => by kernel_rfl
  | 32, _ => by kernel_rfl
  | 33, _ => by kernel_rfl
  | 34, _ => by kernel_rfl
  | 35, _ => by kernel_rfl
  | 36, _ => by kernel_rfl
  | 37, _ => by kernel_rfl
  | 38, _ => by kernel_rfl
  | 39, _ => by kernel_rfl
  | 40, _ => by kernel_rfl
  | 41, _ => by kernel_rfl
  | 42, _ => by kernel_rfl
  | 43, _ => by kernel_rfl
  | 44, _ => by kernel_rfl
  | 45, _ => by kernel_rfl
  | 46, _ => by kernel_rfl
  | 47, _ => by kernel_rfl
  | 48, _ => by kernel_rfl
  | 49, _ => by kernel_rfl
  | 50, _ => by kernel_rfl
  | 51, _ => by kernel_rfl
  | 52, _ => by kernel_rfl
  | 53, _ => by kernel_rfl
  | 54, _ => by kernel_rfl
  | 55, _ => by kernel_rfl
  | n + 56, h => absurd h (by omega)
theorem rname_eq (n : Int) : mezzanineref11_Name.f n = some (nameOf n) := by
  rcases findFrom_range n 56 with e | ⟨j, hj, e, he⟩
  · have hne := findFrom_neg n 56 e
    rw [nameOf_none e]
    unfold mezzanineref11_Name.f
    rw [if_neg (fun h => hne 0 (by decide) h.symm), if_neg (fun h => hne 1 (by decide) h.symm), if_neg (fun h => hne 2 (by decide) h.symm), if_neg (fun h => hne 3 (by decide) h.symm), if_neg (fun h => hne 4 (by decide) h.symm), if_neg (fun h => hne 5 (by decide) h.symm), if_neg (fun h => hne 6 (by decide) h.symm), if_neg (fun h => hne 7 (by decide) h.symm), if_neg (fun h => hne 8 (by decide) h.symm), if_neg (fun h => hne 9 (by decide) h.symm), if_neg (fun h => hne 10 (by decide) h.symm), if_neg (fun h => hne 11 (by decide) h.symm), if_neg (fun h => hne 12 (by decide) h.symm), if_neg (fun h => hne 13 (by decide) h.symm), if_neg (fun h => hne 14 (by decide) h.symm), if_neg (fun h => hne 15 (by decide) h.symm), if_neg (fun h => hne 16 (by decide) h.symm), if_neg (fun h => hne 17 (by decide) h.symm), if_neg (fun h => hne 18 (by decide) h.symm), if_neg (fun h => hne 19 (by decide) h.symm), if_neg (fun h => hne 20 (by decide) h.symm), if_neg (fun h => hne 21 (by decide) h.symm), if_neg (fun h => hne 22 (by decide) h.symm), if_neg (fun h => hne 23 (by decide) h.symm), if_neg (fun h => hne 24 (by decide) h.symm), if_neg (fun h => hne 25 (by decide) h.symm), if_neg (fun h => hne 26 (by decide) h.symm), if_neg (fun h => hne 27 (by decide) h.symm), if_neg (fun h => hne 28 (by decide) h.symm), if_neg (fun h => hne 29 (by decide) h.symm), if_neg (fun h => hne 30 (by decide) h.symm), if_neg (fun h => hne 31 (by decide) h.symm), if_neg (fun h => hne 32 (by decide) h.symm), if_neg (fun h => hne 33 (by decide) h.symm), if_neg (fun h => hne 34 (by decide) h.symm), if_neg (fun h => hne 35 (by decide) h.symm), if_neg (fun h => hne 36 (by decide) h.symm), if_neg (fun h => hne 37 (by decide) h.symm), if_neg (fun h => hne 38 (by decide) h.symm), if_neg (fun h => hne 39 (by decide) h.symm), if_neg (fun h => hne 40 (by decide) h.symm), if_neg (fun h => hne 41 (by decide) h.symm), if_neg (fun h => hne 42 (by decide) h.symm), if_neg (fun h => hne 43 (by decide) h.symm), if_neg (fun h => hne 44 (by decide) h.symm), if_neg (fun h => hne 45 (by decide) h.symm), if_neg (fun h => hne 46 (by decide) h.symm), if_neg (fun h => hne 47 (by decide) h.symm), if_neg (fun h => hne 48 (by decide) h.symm), if_neg (fun h => hne 49 (by decide) h.symm), if_neg (fun h => hne 50 (by decide) h.symm), if_neg (fun h => hne 51 (by decide) h.symm), if_neg (fun h => hne 52 (by decide) h.symm), if_neg (fun h => hne 53 (by decide) h.symm), if_neg (fun h => hne 54 (by decide) h.symm), if_neg (fun h => hne 55 (by decide) h.symm)]
  · rw [nameOf_at e, ← he]; exact rname_at j hj
theorem full : ∀ j, j < 56 → (rowName j).data.toList ≠ [] := by
  have h : ∀ j : Fin 56, (rowName j.val).data.toList ≠ [] := by decide
  exact fun j hj => h ⟨j, hj⟩
theorem apart : ∀ i j, i < 56 → j < 56 → (rowName i).data.toList = (rowName j).data.toList → i = j := by
  have h : ∀ i j : Fin 56, (rowName i.val).data.toList = (rowName j.val).data.toList → i = j := by decide +kernel
  exact fun i j hi hj e => congrArg Fin.val (h ⟨i, hi⟩ ⟨j, hj⟩ e)
theorem known_name (n : Int) : decide (findFrom n 56 ≥ 0) = ((nameOf n).toList != ([] : List UInt8)) := by
  rcases findFrom_range n 56 with e | ⟨j, hj, e, he⟩
  · rw [nameOf_none e, e, tl]; rfl
  · rw [nameOf_at e, e, tl, decide_eq_true (by omega)]; exact (bne_iff_ne.mpr (full j hj)).symm
theorem numFrom_cases (s : ByteArray) : ∀ m k, k + m = 56 → (numFrom s m k = -1 ∧ ∀ j, k ≤ j → j < 56 → (rowName j).toList ≠ s.toList) ∨
    ∃ j, k ≤ j ∧ j < 56 ∧ numFrom s m k = rowNo j ∧ (rowName j).toList = s.toList ∧ ∀ i, k ≤ i → i < j → (rowName i).toList ≠ s.toList
  | 0, k, h => .inl ⟨rfl, fun j h1 h2 => by omega⟩
  | m + 1, k, h => by
    rw [numFrom]
    by_cases he : (rowName k).toList = s.toList
    · rw [if_pos he]; exact .inr ⟨k, by omega, by omega, rfl, he, fun i h1 h2 => by omega⟩
    · rw [if_neg he]
      rcases numFrom_cases s m (k + 1) (by omega) with ⟨e, hn⟩ | ⟨j, h1, h2, h3, h4, h5⟩
      · refine .inl ⟨e, fun j h1 h2 => ?_⟩
        by_cases hj : j = k
        · subst hj; exact he
        · exact hn j (by omega) h2
      · refine .inr ⟨j, by omega, h2, h3, h4, fun i h6 h7 => ?_⟩
        by_cases hi : i = k
        · subst hi; exact he
        · exact h5 i (by omega) h7
theorem rowNo_range : ∀ j, j < 56 → 0 ≤ rowNo j ∧ rowNo j < 4096 := by
  have h : ∀ j : Fin 56, 0 ≤ rowNo j.val ∧ rowNo j.val < 4096 := by decide
  exact fun j hj => h ⟨j, hj⟩
theorem rowNo_inj {i j : Nat} (hi : i < 56) (hj : j < 56) (e : rowNo i = rowNo j) : i = j := by
  rcases Nat.lt_trichotomy i j with h | h | h
  · have a := rowNo_rise i (by omega); have b := rowNo_le (i := i + 1) (j := j) (by omega) hj; omega
  · exact h
  · have a := rowNo_rise j (by omega); have b := rowNo_le (i := j + 1) (j := i) (by omega) hi; omega
theorem findFrom_no {j : Nat} (hj : j < 56) : findFrom (rowNo j) 56 = (j : Int) :=
  findFrom_at _ 56 j hj rfl fun i h1 h2 e => by have := rowNo_inj h2 hj e; omega
theorem nameOf_no {j : Nat} (hj : j < 56) : nameOf (rowNo j) = rowName j := nameOf_at (findFrom_no hj)
/-- Who has a name stands in the table. -/
theorem nameOf_row {n : Int} {s : List UInt8} (hs : s ≠ []) (h : (nameOf n).toList = s) : ∃ j, j < 56 ∧ rowNo j = n ∧ (rowName j).toList = s := by
  rcases findFrom_range n 56 with e | ⟨j, hj, e, he⟩
  · rw [nameOf_none e, tl] at h; exact absurd h.symm hs
  · rw [nameOf_at e] at h; exact ⟨j, hj, he, h⟩
theorem number_empty {s : ByteArray} (hs : s.toList = []) : ∀ m (i : Int), 0 ≤ i → (4096 - i).toNat ≤ m → mezzanineref11_Number.l0 (m + 1) s i = some (-1) := by
  intro m
  induction m with
  | zero => intro i h0 h1; rw [mezzanineref11_Number.l0, if_neg (by omega)]
  | succ m ih =>
    intro i h0 h1
    rw [mezzanineref11_Number.l0]
    by_cases h : i < 4096
    · rw [if_pos h, if_pos hs, show wrap64 (i + 1) = i + 1 by unfold wrap64; omega]; exact ih (i + 1) (by omega) (by omega)
    · rw [if_neg h]
theorem number_none {s : ByteArray} (hs : s.toList ≠ []) (hn : ∀ n, (nameOf n).toList ≠ s.toList) : ∀ m (i : Int), 0 ≤ i → (4096 - i).toNat ≤ m → mezzanineref11_Number.l0 (m + 1) s i = some (-1) := by
  intro m
  induction m with
  | zero => intro i h0 h1; rw [mezzanineref11_Number.l0, if_neg (by omega)]
  | succ m ih =>
    intro i h0 h1
    rw [mezzanineref11_Number.l0]
    by_cases h : i < 4096
    · rw [if_pos h, if_neg hs, rname_eq, bsm, if_neg (hn i), show wrap64 (i + 1) = i + 1 by unfold wrap64; omega]; exact ih (i + 1) (by omega) (by omega)
    · rw [if_neg h]
theorem number_hit {s : ByteArray} (hs : s.toList ≠ []) (N : Int) (hN : N < 4096) (he : (nameOf N).toList = s.toList) (hn : ∀ n, n < N → (nameOf n).toList ≠ s.toList) :
    ∀ m (i : Int), 0 ≤ i → i ≤ N → (N - i).toNat ≤ m → mezzanineref11_Number.l0 (m + 1) s i = some N := by
  intro m
  induction m with
  | zero =>
    intro i h0 h1 h2
    obtain rfl : i = N := by omega
    rw [mezzanineref11_Number.l0, if_pos hN, if_neg hs, rname_eq, bsm, if_pos he]
  | succ m ih =>
    intro i h0 h1 h2
    rw [mezzanineref11_Number.l0, if_pos (by omega), if_neg hs, rname_eq, bsm]
    by_cases h : i = N
    · subst h; rw [if_pos he]
    · rw [if_neg (hn i (by omega)), show wrap64 (i + 1) = i + 1 by unfold wrap64; omega]; exact ih (i + 1) (by omega) (by omega) (by omega)
theorem rnumber_eq (k : Nat) (s : ByteArray) : mezzanineref11_Number.f (k + 4097) s = some (numFrom s 56 0) := by
  unfold mezzanineref11_Number.f
  by_cases hs : s.toList = []
  · rcases numFrom_cases s 56 0 rfl with ⟨e, hn⟩ | ⟨j, h1, h2, h3, h4, h5⟩
    · rw [e]; exact number_empty hs (k + 4096) 0 (by omega) (by omega)
    · rw [hs, tl] at h4; exact absurd h4 (full j h2)
  · rcases numFrom_cases s 56 0 rfl with ⟨e, hn⟩ | ⟨j, h1, h2, h3, h4, h5⟩
    · rw [e]
      refine number_none hs (fun n h => ?_) (k + 4096) 0 (by omega) (by omega)
      obtain ⟨j, hj, _, h6⟩ := nameOf_row hs h
      exact hn j (by omega) hj h6
    · rw [h3]
      have hr := rowNo_range j h2
      refine number_hit hs (rowNo j) hr.2 (by rw [nameOf_no h2]; exact h4) (fun n hlt h => ?_) (k + 4096) 0 (by omega) hr.1 (by omega)
      obtain ⟨i, hi, e, h6⟩ := nameOf_row hs h
      by_cases hij : i < j
      · exact h5 i (by omega) hij h6
      · have := rowNo_le (i := j) (j := i) (by omega) hi; omega
/-- A name's number. -/
theorem number_name {j : Nat} (hj : j < 56) : numFrom (rowName j) 56 0 = rowNo j := by
  rcases numFrom_cases (rowName j) 56 0 rfl with ⟨e, hn⟩ | ⟨i, h1, h2, h3, h4, h5⟩
  · exact absurd rfl (hn j (by omega) hj)
  · rw [h3]; rw [tl, tl] at h4; rw [apart i j h2 hj h4]
end Go.Proofs.YtbmmafebekehdaaDoor.QN
