/- Masks (bits.Mask), pieces told (bits.Field) and put (bits.Put) are the document's: of any words, any numbers. -/
import Derived.Test.YtkcgihpnlekfnaaQx4
import Derived.Test.YtkcgihpnlekfnaaQBits
set_option linter.unusedSimpArgs false
set_option linter.unusedVariables false
namespace Go.Proofs.Ytkcgihpnlekfnaa.Pure
open Go.RowKit Go.Proofs.Ytkcgihpnlekfnaa.Q Go.Proofs.YtkcgihpnlekfnaaW.PrintWords Go.Proofs.YtkcgihpnlekfnaaW.PrintLast Go.Proofs.Ytkcgihpnlekfnaa.Bv Go.Proofs.Ytkcgihpnlekfnaa.QF

theorem ref_field (x : BitVec 64) (lo n : Int) : mezzanineref01_Field.f (U x) lo n = some (U (fieldB x lo n)) := by
  unfold mezzanineref01_Field.f
  have hx := U_range x
  rw [if_pos (And.intro hx.1 hx.2), ofInt_U]
  congr 2
  refine ofB_eq fun i hi => ?_
  rw [field_bit]
  unfold mezzanineref01_Field.St bitOf
  by_cases h0 : 0 ≤ lo
  · by_cases h1 : lo.toNat + i < 64
    · rw [Bool.eq_iff_iff]; simp [hi, h0, h1]
      intro h h2; omega
    · rw [BitVec.getLsbD_of_ge _ _ (by omega)]; simp
  · simp [h0]
theorem ref_put (x v : BitVec 64) (lo n : Int) : mezzanineref01_Put.f (U x) lo n (U v) = some (U (putB x lo n v)) := by
  unfold mezzanineref01_Put.f
  have hx := U_range x
  have hv := U_range v
  rw [if_pos (And.intro hx.1 (And.intro hx.2 (And.intro hv.1 hv.2))), ofInt_U, ofInt_U]
  congr 2
  refine ofB_eq fun i hi => ?_
  rw [put_bit]
  unfold mezzanineref01_Put.St bitOf
  by_cases h : i < 64 ∧ 0 ≤ lo ∧ lo < 64 ∧ lo ≤ i ∧ (i : Int) - lo < n
  · rw [if_pos h, if_pos (by omega)]
  · rw [if_neg h, if_neg (by omega)]

theorem BitsPieces : mezzaninelaw01_BitsPieces.Pure := by
  intro a b lo n ha hb hlo hn
  obtain ⟨x, rfl⟩ := U_wf ha
  obtain ⟨v, rfl⟩ := U_wf hb
  refine ⟨9, ?_⟩
  unfold mezzaninelaw01_BitsPieces.f mezzanineref01_Mask.f
  rw [bits_awake, mask_eq, field_eq, ref_field, put_eq, ref_put]
  simp only [Option.bind_some, if_true, beq_self_eq_true]
end Go.Proofs.Ytkcgihpnlekfnaa.Pure
