/- A list of acts that is given: opened where it lies; and what the clint's closed forms say. -/
import Derived.Test.YthdgkafcgaohiaaQx8
import Derived.Test.YthdgkafcgaohiaaVal
import Derived.Deep.Slices
import Derived.Test.YthdgkafcgaohiaaQClint
set_option linter.unusedSimpArgs false
set_option linter.unusedVariables false
namespace Go.Proofs.Ythdgkafcgaohiaa.QC
open Go.ChangeShapes Go.WideShapes Go.Deep
open Go.RowKit Go.Proofs.Ythdgkafcgaohiaa.Q Go.Proofs.YthdgkafcgaohiaaW.PrintWords Go.Proofs.YthdgkafcgaohiaaW.PrintLast Go.Proofs.YthdgkafcgaohiaaW.PrintMore Go.Proofs.Ythdgkafcgaohiaa.Bv Go.Proofs.Ythdgkafcgaohiaa.QF
theorem lfsAct : Val.lfs Try.prog 4 36 = some [.i .i64, .i .u64, .i .i64, .i .u64] := by kernel_rfl
theorem cellsAct : Try.prog.cellsOf 36 = 4 := by kernel_rfl
theorem acts_open {H : Type} {enc : TypeId × Value → H} {w : World} {base : Nat} {spare : Nat → Bool} {held : Bool} {fuel : Nat} {a : Option Addr} {len cap : Nat} {x : DataW H × List MemPlace}
    (h : DataW.trod enc Try.prog w base spare held fuel 22 (Value.slice a len cap).cells.toList = some x) :
    ∃ l : List (Int × Int × Int × Int), l.length = len ∧ ActsAt w a l := by
  rcases open_slice Try.underlying22 h with ⟨hcs, _⟩ | ⟨a', len', cap', m, n, D, Pl, hcs, hb, hl, hm, hmm, hx, hi⟩
  · simp [Value.cells] at hcs
    obtain ⟨rfl, rfl, rfl⟩ := hcs
    exact ⟨[], rfl, fun i hi => absurd hi (by simp)⟩
  · simp [Value.cells] at hcs
    obtain ⟨rfl, rfl, rfl⟩ := hcs
    have hlm : len ≤ m := by rw [hmm]; split <;> omega
    have hq : ∀ i, i < len → ∃ q : Int × Int × Int × Int, w.cell? (a'.add (i * 4)) = some (.int .i64 q.1) ∧ w.cell? ⟨(a'.add (i * 4)).block, (a'.add (i * 4)).off + 1, none⟩ = some (.int .u64 q.2.1) ∧ w.cell? ⟨(a'.add (i * 4)).block, (a'.add (i * 4)).off + 2, none⟩ = some (.int .i64 q.2.2.1) ∧ w.cell? ⟨(a'.add (i * 4)).block, (a'.add (i * 4)).off + 3, none⟩ = some (.int .u64 q.2.2.2) ∧ 0 ≤ q.2.2.2 ∧ q.2.2.2 < 18446744073709551616 := by
      intro i hlt
      obtain ⟨cs', hc, ht'⟩ := hi i (by omega)
      rw [cellsAct] at hc
      obtain ⟨_, hcl, hat⟩ := World.cells?_some hc
      obtain ⟨f0, _, _⟩ := Val.told (enc := enc) (w := w) (w' := w) (base := base) (base' := base) (spare := spare) (spare' := spare) (held := held) (held' := held) 4 _ _ lfsAct n cs' _ ht'
      obtain ⟨n0, c1, rfl, w0, f1⟩ := f0.int
      obtain ⟨n1, c2, rfl, w1, f2⟩ := f1.int
      obtain ⟨n2, c3, rfl, w2, f3⟩ := f2.int
      obtain ⟨n3, c4, rfl, w3, f4⟩ := f3.int
      obtain rfl := f4.nil
      obtain ⟨g0, g1⟩ := u64_in w3
      refine ⟨(n0, n1, n2, n3), ?_, ?_, ?_, ?_, g0, g1⟩
      · have := hat 0 (by decide); simpa [Addr.add] using this
      · have := hat 1 (by decide); simpa [Addr.add] using this
      · have := hat 2 (by decide); simpa [Addr.add] using this
      · have := hat 3 (by decide); simpa [Addr.add] using this
    have hch : ∃ f : Nat → Int × Int × Int × Int, ∀ i, i < len → w.cell? (a'.add (i * 4)) = some (.int .i64 (f i).1) ∧ w.cell? ⟨(a'.add (i * 4)).block, (a'.add (i * 4)).off + 1, none⟩ = some (.int .u64 (f i).2.1) ∧ w.cell? ⟨(a'.add (i * 4)).block, (a'.add (i * 4)).off + 2, none⟩ = some (.int .i64 (f i).2.2.1) ∧ w.cell? ⟨(a'.add (i * 4)).block, (a'.add (i * 4)).off + 3, none⟩ = some (.int .u64 (f i).2.2.2) ∧ 0 ≤ (f i).2.2.2 ∧ (f i).2.2.2 < 18446744073709551616 :=
      ⟨fun i => if h : i < len then Classical.choose (hq i h) else (0, 0, 0, 0), fun i h => by have h2 := Classical.choose_spec (hq i h); simp only [dif_pos h]; exact h2⟩
    obtain ⟨f, hf⟩ := hch
    refine ⟨(List.range len).map f, by simp, fun i hi => ?_⟩
    have hi2 : i < len := by simpa using hi
    have e : ((List.range len).map f)[i] = f i := by simp
    rw [e]
    exact ⟨a', rfl, hf i hi2⟩
theorem or_halves (c v : Int) (c0 : 0 ≤ c) (c1 : c < 18446744073709551616) (v0 : 0 ≤ v) (v1 : v < 18446744073709551616) :
    Go.bits .or .u64 (IntKind.u64.wrap (c * 4294967296) / 4294967296) (IntKind.u64.wrap (v * 4294967296)) = v % 4294967296 * 4294967296 + c % 4294967296 := by
  obtain ⟨n, rfl⟩ := Int.eq_ofNat_of_zero_le c0
  obtain ⟨m, rfl⟩ := Int.eq_ofNat_of_zero_le v0
  have e1 : IntKind.u64.wrap ((n : Int) * 4294967296) / 4294967296 = ((n % 4294967296 : Nat) : Int) := by rw [IntKind.wrap_u64]; omega
  have e2 : IntKind.u64.wrap ((m : Int) * 4294967296) = ((2 ^ 32 * (m % 4294967296) : Nat) : Int) := by rw [IntKind.wrap_u64]; omega
  rw [e1, e2, u64_or_nat _ _ (by omega) (by omega), Nat.or_comm, ← Nat.two_pow_add_eq_or_of_lt (by omega)]
  omega
theorem rread_eq (s c n off nn : Int) (r : Rng s c n) : mezzanineref04_Clint_Read.f s c n off nn = some (cr s c n off nn) := by
  obtain ⟨⟨s0, s1⟩, ⟨c0, c1⟩, n0, n1⟩ := r
  have elo : ∀ x : Int, 0 ≤ x → x < 18446744073709551616 → mezzanineref04_low.f x = some (x % 4294967296) := by
    intro x h0 h1
    unfold mezzanineref04_low.f
    congr 1
    first | rfl | (rw [Int.tmod_eq_emod_of_nonneg h0]) | (simp only [IntKind.wrap_u64]; rw [Int.tmod_eq_emod_of_nonneg h0]; omega)
  have ehi : ∀ x : Int, 0 ≤ x → x < 18446744073709551616 → mezzanineref04_high.f x = some (x / 4294967296) := by
    intro x h0 h1
    unfold mezzanineref04_high.f
    congr 1
    first | rfl | (rw [IntKind.wrap_u64, Int.tdiv_eq_ediv_of_nonneg h0]; omega) | (rw [IntKind.wrap_u64]; omega) | (rw [Int.tdiv_eq_ediv_of_nonneg h0])
  unfold mezzanineref04_Clint_Read.f cr
  rw [elo c c0 c1, elo n n0 n1, ehi c c0 c1, ehi n n0 n1]
  simp only [bsm, apply_ite some]
theorem forms : Forms := ⟨write_eq, rwrite_eq, read_eq, rread_eq, or_halves, cw_rng⟩
end Go.Proofs.Ythdgkafcgaohiaa.QC
