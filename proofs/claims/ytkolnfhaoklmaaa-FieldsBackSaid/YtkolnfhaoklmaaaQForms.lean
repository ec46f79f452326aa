/- The nine forms, and a number that is none. -/
import Derived.Test.YtkolnfhaoklmaaaQPlaces
set_option linter.unusedSimpArgs false
set_option linter.unusedVariables false
namespace Go.Proofs.Ytkolnfhaoklmaaa.QF
open Go.RowKit Go.Proofs.Ytkolnfhaoklmaaa.Q Go.Proofs.YtkolnfhaoklmaaaW.PrintWords Go.Proofs.YtkolnfhaoklmaaaW.PrintLast Go.Proofs.YtkolnfhaoklmaaaW.PrintMore Go.Proofs.Ytkolnfhaoklmaaa.Bv

theorem allp {ps : List S44} (h : ps.all (fun p => decide (gp p)) = true) : ∀ p ∈ ps, gp p := fun p hp => of_decide_eq_true (List.all_eq_true.1 h p hp)
theorem allq {L : List Int} (h : L.all (fun q => decide (-1 ≤ q ∧ q < 32)) = true) : ∀ q ∈ L, -1 ≤ q ∧ q < 32 := fun p hp => of_decide_eq_true (List.all_eq_true.1 h p hp)
theorem form1 : Good 1 [⟨31, 20⟩] 0 true 12 where
  shape := rfl
  ne := by decide
  few := by decide
  pcs := allp (by decide)
  len := rfl
  W0 := by decide
  W1 := by decide
  Ws := by decide
  s1 := by decide
  size := fun k => by kernel_rfl
  plc := fun k => by kernel_rfl
  sgn := rfl
  dis := by kernel_rfl
  rge := allq (by kernel_rfl)
  bsv := by decide +kernel
  top := fun _ => ⟨rng 20 11, by kernel_rfl⟩
  bts := fun k => by kernel_rfl
  rbt := fun k => by kernel_rfl
theorem form2 : Good 2 [⟨31, 25⟩, ⟨11, 7⟩] 0 true 12 where
  shape := rfl
  ne := by decide
  few := by decide
  pcs := allp (by decide)
  len := rfl
  W0 := by decide
  W1 := by decide
  Ws := by decide
  s1 := by decide
  size := fun k => by kernel_rfl
  plc := fun k => by kernel_rfl
  sgn := rfl
  dis := by kernel_rfl
  rge := allq (by kernel_rfl)
  bsv := by decide +kernel
  top := fun _ => ⟨rng 7 5 ++ rng 25 6, by kernel_rfl⟩
  bts := fun k => by kernel_rfl
  rbt := fun k => by kernel_rfl
theorem form3 : Good 3 [⟨31, 31⟩, ⟨7, 7⟩, ⟨30, 25⟩, ⟨11, 8⟩] 1 true 13 where
  shape := rfl
  ne := by decide
  few := by decide
  pcs := allp (by decide)
  len := rfl
  W0 := by decide
  W1 := by decide
  Ws := by decide
  s1 := by decide
  size := fun k => by kernel_rfl
  plc := fun k => by kernel_rfl
  sgn := rfl
  dis := by kernel_rfl
  rge := allq (by kernel_rfl)
  bsv := by decide +kernel
  top := fun _ => ⟨[-1] ++ rng 8 4 ++ rng 25 6 ++ [7], by kernel_rfl⟩
  bts := fun k => by kernel_rfl
  rbt := fun k => by kernel_rfl
theorem form4 : Good 4 [⟨31, 12⟩] 12 true 32 where
  shape := rfl
  ne := by decide
  few := by decide
  pcs := allp (by decide)
  len := rfl
  W0 := by decide
  W1 := by decide
  Ws := by decide
  s1 := by decide
  size := fun k => by kernel_rfl
  plc := fun k => by kernel_rfl
  sgn := rfl
  dis := by kernel_rfl
  rge := allq (by kernel_rfl)
  bsv := by decide +kernel
  top := fun _ => ⟨List.replicate 12 (-1) ++ rng 12 19, by kernel_rfl⟩
  bts := fun k => by kernel_rfl
  rbt := fun k => by kernel_rfl
theorem form5 : Good 5 [⟨31, 31⟩, ⟨19, 12⟩, ⟨20, 20⟩, ⟨30, 21⟩] 1 true 21 where
  shape := rfl
  ne := by decide
  few := by decide
  pcs := allp (by decide)
  len := rfl
  W0 := by decide
  W1 := by decide
  Ws := by decide
  s1 := by decide
  size := fun k => by kernel_rfl
  plc := fun k => by kernel_rfl
  sgn := rfl
  dis := by kernel_rfl
  rge := allq (by kernel_rfl)
  bsv := by decide +kernel
  top := fun _ => ⟨[-1] ++ rng 21 10 ++ [20] ++ rng 12 8, by kernel_rfl⟩
  bts := fun k => by kernel_rfl
  rbt := fun k => by kernel_rfl
theorem plain (f : Int) (p : S44) (W : Nat) (h : Good f [p] 0 false W) : Good f [p] 0 false W := h
theorem form6 : Good 6 [⟨25, 20⟩] 0 false 6 where
  shape := rfl
  ne := by decide
  few := by decide
  pcs := allp (by decide)
  len := rfl
  W0 := by decide
  W1 := by decide
  Ws := fun h => by cases h
  s1 := by decide
  size := fun k => by kernel_rfl
  plc := fun k => by kernel_rfl
  sgn := rfl
  dis := by kernel_rfl
  rge := allq (by kernel_rfl)
  bsv := by decide +kernel
  top := fun h => by cases h
  bts := fun k => by kernel_rfl
  rbt := fun k => by kernel_rfl
theorem form7 : Good 7 [⟨24, 20⟩] 0 false 5 where
  shape := rfl
  ne := by decide
  few := by decide
  pcs := allp (by decide)
  len := rfl
  W0 := by decide
  W1 := by decide
  Ws := fun h => by cases h
  s1 := by decide
  size := fun k => by kernel_rfl
  plc := fun k => by kernel_rfl
  sgn := rfl
  dis := by kernel_rfl
  rge := allq (by kernel_rfl)
  bsv := by decide +kernel
  top := fun h => by cases h
  bts := fun k => by kernel_rfl
  rbt := fun k => by kernel_rfl
theorem form8 : Good 8 [⟨31, 20⟩] 0 false 12 where
  shape := rfl
  ne := by decide
  few := by decide
  pcs := allp (by decide)
  len := rfl
  W0 := by decide
  W1 := by decide
  Ws := fun h => by cases h
  s1 := by decide
  size := fun k => by kernel_rfl
  plc := fun k => by kernel_rfl
  sgn := rfl
  dis := by kernel_rfl
  rge := allq (by kernel_rfl)
  bsv := by decide +kernel
  top := fun h => by cases h
  bts := fun k => by kernel_rfl
  rbt := fun k => by kernel_rfl
theorem form9 : Good 9 [⟨19, 15⟩] 0 false 5 where
  shape := rfl
  ne := by decide
  few := by decide
  pcs := allp (by decide)
  len := rfl
  W0 := by decide
  W1 := by decide
  Ws := fun h => by cases h
  s1 := by decide
  size := fun k => by kernel_rfl
  plc := fun k => by kernel_rfl
  sgn := rfl
  dis := by kernel_rfl
  rge := allq (by kernel_rfl)
  bsv := by decide +kernel
  top := fun h => by cases h
  bts := fun k => by kernel_rfl
  rbt := fun k => by kernel_rfl
/-- No form. -/
structure NoForm (f : Int) : Prop where
  shape : fields_shapeOf.f f = some ([], 0, false)
  plc : ∀ k, mezzanineref08_Places.f (k + 40) f = some []
theorem forms (f : Int) : (∃ ps s b W, Good f ps s b W) ∨ NoForm f := by
  by_cases h1 : f = 1
  · subst h1; exact Or.inl ⟨_, _, _, _, form1⟩
  by_cases h2 : f = 2
  · subst h2; exact Or.inl ⟨_, _, _, _, form2⟩
  by_cases h3 : f = 3
  · subst h3; exact Or.inl ⟨_, _, _, _, form3⟩
  by_cases h4 : f = 4
  · subst h4; exact Or.inl ⟨_, _, _, _, form4⟩
  by_cases h5 : f = 5
  · subst h5; exact Or.inl ⟨_, _, _, _, form5⟩
  by_cases h6 : f = 6
  · subst h6; exact Or.inl ⟨_, _, _, _, form6⟩
  by_cases h7 : f = 7
  · subst h7; exact Or.inl ⟨_, _, _, _, form7⟩
  by_cases h8 : f = 8
  · subst h8; exact Or.inl ⟨_, _, _, _, form8⟩
  by_cases h9 : f = 9
  · subst h9; exact Or.inl ⟨_, _, _, _, form9⟩
  refine Or.inr ⟨?_, fun k => ?_⟩
  · unfold fields_shapeOf.f
    rw [if_neg h1, if_neg h2, if_neg h3, if_neg h4, if_neg h5, if_neg h6, if_neg h7, if_neg h8, if_neg h9]
  · unfold mezzanineref08_Places.f
    rw [if_neg h1, show (f == 8) = false by simpa using h8, mezzanineref08_Places.j0, if_neg (by decide), if_neg h2, if_neg h3, if_neg h4, if_neg h5, if_neg h6, if_neg h7, if_neg h9]
theorem NoForm.number {f : Int} (g : NoForm f) (k : Nat) (w : Int) : fields_Number.f k f w = some (0, false) := by
  unfold fields_Number.f; rw [g.shape]; rfl
theorem NoForm.rnumber {f : Int} (g : NoForm f) (k : Nat) (w : Int) : mezzanineref08_Number.f (k + 40) f w = some (0, false) := by
  unfold mezzanineref08_Number.f; rw [g.plc]; rfl
theorem NoForm.fits {f : Int} (g : NoForm f) (k : Nat) (n : Int) : fields_Fits.f (k + 1) f n = some false := by
  unfold fields_Fits.f; rw [g.shape]; simp only [Option.bind_some]
  rw [if_pos (by rfl), fields_Fits.j0, if_pos (by rfl)]
theorem NoForm.rfits {f : Int} (g : NoForm f) (k : Nat) (n : Int) : mezzanineref08_Fits.f (k + 40) f n = some false := by
  unfold mezzanineref08_Fits.f; rw [g.plc]; simp only [Option.bind_some]
  rw [if_pos (by rfl)]
theorem NoForm.put {f : Int} (g : NoForm f) (k : Nat) (n : Int) : fields_Put.f (k + 1) f n = some (0, false) := by
  unfold fields_Put.f; rw [g.fits]; simp only [Option.bind_some]; rw [if_neg (by decide)]
theorem NoForm.rput {f : Int} (g : NoForm f) (k : Nat) (n : Int) : mezzanineref08_Put.f (k + 40) f n = some (0, false) := by
  unfold mezzanineref08_Put.f; rw [g.rfits]; simp only [Option.bind_some]; rw [if_neg (by decide)]
theorem NoForm.bts {f : Int} (g : NoForm f) (k : Nat) : fields_Bits.f (k + 1) f = some 0 := by
  unfold fields_Bits.f; rw [g.shape]; simp only [Option.bind_some]; rw [fields_Bits.l0, if_neg (by decide)]
theorem NoForm.rbt {f : Int} (g : NoForm f) (k : Nat) : mezzanineref08_Bits.f (k + 40) f = some 0 := by
  unfold mezzanineref08_Bits.f; rw [g.plc]; simp only [Option.bind_some]; rw [show k + 40 = (k + 39) + 1 from rfl, mezzanineref08_Bits.l0, if_neg (by decide)]
theorem wakes_eq (k : Nat) : mezzaninelaw08_wakes.f (k + 20) = some true := by kernel_rfl
end Go.Proofs.Ytkolnfhaoklmaaa.QF
