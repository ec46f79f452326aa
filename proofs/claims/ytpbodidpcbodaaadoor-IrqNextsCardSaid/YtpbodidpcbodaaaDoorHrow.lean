/- A hart that is given: told compactly. -/
import Derived.Test.YtpbodidpcbodaaaDoorHt
import Derived.Test.YtpbodidpcbodaaaDoorVal
set_option linter.unusedSimpArgs false
set_option linter.unusedVariables false
namespace Go.Proofs.YtpbodidpcbodaaaDoor.Hx
open Go.RowKit Go.Proofs.YtpbodidpcbodaaaDoor.Val Go.Proofs.YtpbodidpcbodaaaDoor.Bv
def hk (i : Nat) : Lf := bif Nat.beq i 33 then .i .u8 else bif Nat.beq i 34 then .b else bif Nat.beq i 35 then .b else bif Nat.beq i 36 then .b else .i .u64
def hartL : List Lf := (List.range 77).map hk
theorem fits_at : ∀ {L : List Lf} {cs : List Value}, Fits L cs → ∀ (i : Nat) (l : Lf), L[i]? = some l → ∃ v, cs[i]? = some v ∧ lfOk l v
  | [], [], _, i, l, e => by simp at e
  | [], _ :: _, h, _, _, _ => h.elim
  | _ :: _, [], h, _, _, _ => h.elim
  | l0 :: L, v :: cs, h, 0, l, e => by simp at e; subst e; exact ⟨v, rfl, h.1⟩
  | l0 :: L, v :: cs, h, i + 1, l, e => by
    have := fits_at h.2 i l (by simpa using e)
    simpa using this
def numOf : Option Value → Int
  | some (.int _ n) => n
  | _ => 0
def boolOf : Option Value → Bool
  | some (.bool b) => b
  | _ => false
theorem hart_of_fits {cs : Array Value} (hf : Fits hartL cs.toList) : ∃ H : Ht, cs = H.cs ∧ H.wf := by
  have hlen : cs.size = 77 := by have := hf.len; simpa [hartL] using this
  have hat : ∀ i, i < 77 → ∃ v, cs[i]? = some v ∧ lfOk (hk i) v := fun i hi => by
    obtain ⟨v, h1, h2⟩ := fits_at hf i (hk i) (by simp [hartL, List.getElem?_range, hi])
    exact ⟨v, by simpa using h1, h2⟩
  refine ⟨⟨fun i => numOf cs[i]?, boolOf cs[34]?, boolOf cs[35]?, boolOf cs[36]?⟩, Ht.ext_cs hlen (fun i hi => ?_), ?_⟩
  · obtain ⟨v, h1, h2⟩ := hat i hi
    rw [h1]
    unfold hk at h2
    unfold Ht.at
    by_cases h33 : i = 33
    · subst h33; obtain ⟨n, rfl, _⟩ := h2; simp only [h1]; rfl
    by_cases h34 : i = 34
    · subst h34; obtain ⟨b, rfl⟩ := h2; simp only [h1]; rfl
    by_cases h35 : i = 35
    · subst h35; obtain ⟨b, rfl⟩ := h2; simp only [h1]; rfl
    by_cases h36 : i = 36
    · subst h36; obtain ⟨b, rfl⟩ := h2; simp only [h1]; rfl
    rw [beqF h33, beqF h34, beqF h35, beqF h36] at h2 ⊢
    obtain ⟨n, rfl, _⟩ := h2
    simp only [h1]; rfl
  · constructor
    · intro i
      show 0 ≤ numOf cs[i]? ∧ numOf cs[i]? < 18446744073709551616
      by_cases hi : i < 77
      · obtain ⟨v, h1, h2⟩ := hat i hi
        rw [h1]
        unfold hk at h2
        by_cases h33 : i = 33
        · subst h33; obtain ⟨n, rfl, hw⟩ := h2; have := u8_in hw; show 0 ≤ n ∧ n < _; omega
        by_cases h34 : i = 34
        · subst h34; obtain ⟨b, rfl⟩ := h2; show (0 : Int) ≤ 0 ∧ (0 : Int) < _; omega
        by_cases h35 : i = 35
        · subst h35; obtain ⟨b, rfl⟩ := h2; show (0 : Int) ≤ 0 ∧ (0 : Int) < _; omega
        by_cases h36 : i = 36
        · subst h36; obtain ⟨b, rfl⟩ := h2; show (0 : Int) ≤ 0 ∧ (0 : Int) < _; omega
        rw [beqF h33, beqF h34, beqF h35, beqF h36] at h2
        obtain ⟨n, rfl, hw⟩ := h2
        exact u64_in hw
      · rw [Array.getElem?_eq_none (by omega)]; show (0 : Int) ≤ 0 ∧ (0 : Int) < _; omega
    · obtain ⟨v, h1, h2⟩ := hat 33 (by decide)
      show numOf cs[33]? < 256
      rw [h1]
      obtain ⟨n, rfl, hw⟩ := h2
      exact (u8_in hw).2
theorem hartLfs : lfs Tryd.prog 9 25 = some hartL := by kernel_rfl
end Go.Proofs.YtpbodidpcbodaaaDoor.Hx
