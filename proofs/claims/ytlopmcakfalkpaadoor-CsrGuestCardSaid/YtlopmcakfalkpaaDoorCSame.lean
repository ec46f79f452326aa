/- Writing what a register says changes nothing: of a legal hart. -/
import Derived.Test.YtlopmcakfalkpaaDoorCPlain
set_option linter.unusedSimpArgs false
set_option linter.unusedVariables false
namespace Go.Proofs.YtlopmcakfalkpaaDoor.Hx
open Go.Proofs.YtlopmcakfalkpaaDoor.Bv Go.RowKit Go.Proofs.YtlopmcakfalkpaaDoor.Q Go.Proofs.YtlopmcakfalkpaaDoorW.PrintWords Go.Proofs.YtlopmcakfalkpaaDoorW.PrintLast Go.Proofs.YtlopmcakfalkpaaDoorW.PrintMore Go.Proofs.YtlopmcakfalkpaaDoor.Rg
theorem rng (op : BinOp) (a b : Int) : 0 ≤ Go.bits op .u64 a b ∧ Go.bits op .u64 a b < 18446744073709551616 := by
  rw [bits_u64]; exact U_range _
theorem wf_set {h : Ht} (H : h.wf) (o : Nat) (y : Int) (hy : 0 ≤ y ∧ y < 18446744073709551616) (ho : o ≠ 33) : (h.set o y).wf := by
  refine ⟨fun i => ?_, ?_⟩
  · show 0 ≤ (bif Nat.beq i o then y else h.x i) ∧ (bif Nat.beq i o then y else h.x i) < _
    cases Nat.beq i o
    · exact H.1 i
    · exact hy
  · show (bif Nat.beq 33 o then y else h.x 33) < 256
    rw [beqF (Ne.symm ho)]; exact H.2
theorem wf_setP {h : Ht} (H : h.wf) : (h.set 33 0).wf := by
  refine ⟨fun i => ?_, show (0 : Int) < 256 by decide⟩
  show 0 ≤ (bif Nat.beq i 33 then 0 else h.x i) ∧ (bif Nat.beq i 33 then 0 else h.x i) < _
  cases Nat.beq i 33
  · exact H.1 i
  · exact ⟨show (0 : Int) ≤ 0 by decide, show (0 : Int) < 18446744073709551616 by decide⟩
theorem isU_33 {o : Nat} (h : isU o = true) : o ≠ 33 := fun e => by rw [e] at h; exact absurd h (by decide)
theorem wf_fixAt {h : Ht} (H : h.wf) (no : Int) : (fixAt h no).wf := by
  unfold fixAt
  cases ho : fieldOff no with
  | none => exact H
  | some o => exact wf_set H o _ (rng _ _ _) (isU_33 (fieldOff_isU ho))
theorem wf_fixTo {h : Ht} (H : h.wf) : ∀ k, (fixTo h k).wf
  | 0 => H
  | k + 1 => wf_fixAt (wf_fixTo H k) _
theorem wf_v {h : Ht} (H : h.wf) (b : Bool) : ({ h with v := b } : Ht).wf := H
theorem wf_fix {h : Ht} (H : h.wf) : (fix h).wf := by
  have K := wf_fixTo H 56
  unfold fix fixLast
  generalize fixTo h 56 = k at K
  have r0 : (0 : Int) ≤ 0 ∧ (0 : Int) < 18446744073709551616 := ⟨by decide, by decide⟩
  have k1 : (if (Go.bits .and .u64 (k.x 38) 6144 == 4096) = true then k.set 38 (Go.bits .andNot .u64 (k.x 38) 6144) else k).wf := by
    split
    · exact wf_set K 38 _ (rng _ _ _) (by decide)
    · exact K
  have k2 := wf_set (wf_set (wf_set k1 42 _ (rng .and (k.x 42) 546) (by decide)) 1 0 r0 (by decide)) 0 _ (rng .andNot (k.x 0) 3) (by decide)
  have k3 : ∀ q : Ht, q.wf → (if (k.x 33 != 1) = true ∧ (k.x 33 != 3) = true then q.set 33 0 else q).wf := by
    intro q hq
    split
    · exact wf_setP hq
    · exact hq
  have k5 := wf_set (wf_v (k3 _ k2) (if k.v = true then (if (k.x 33 != 1) = true ∧ (k.x 33 != 3) = true then true else (k.x 33 != 3)) else false)) 37 _ (rng .and (k.x 37) 72057594037927928) (by decide)
  have k6 : ∀ q : Ht, q.wf → (if k.hl = true then q else q.set 37 0).wf := by
    intro q hq
    split
    · exact hq
    · exact wf_set hq 37 0 r0 (by decide)
  exact k6 _ k5
theorem set_self (h : Ht) (o : Nat) (y : Int) (e : y = h.x o) : h.set o y = h := by
  unfold Ht.set
  have : (fun i => bif Nat.beq i o then y else h.x i) = h.x := by
    funext i
    cases hb : Nat.beq i o
    · rfl
    · rw [Nat.eq_of_beq_eq_true hb, e]; rfl
  rw [this]
theorem putV_U (a m v : BitVec 64) : putV (U a) (U m) (U v) = U ((a &&& ~~~ m) ||| (v &&& m)) := by
  unfold putV
  rw [andNot_u64, and_u64, or_u64, ofInt_U, ofInt_U, ofInt_U, ofInt_U, ofInt_U]
theorem putV_eq (a m v : BitVec 64) (h : v &&& m = a &&& m) : putV (U a) (U m) (U v) = U a := by
  rw [putV_U, h]
  congr 1
  apply BitVec.eq_of_getLsbD_eq; intro i hi
  simp only [BitVec.getLsbD_and, BitVec.getLsbD_or, BitVec.getLsbD_not, hi, decide_true, Bool.true_and]
  cases a.getLsbD i <;> cases m.getLsbD i <;> rfl
theorem putV_self {a : Int} (ha : 0 ≤ a ∧ a < 18446744073709551616) (m : Int) : putV a m a = a := by
  obtain ⟨x, rfl⟩ := U_of ha.1 ha.2
  have e : putV (U x) m (U x) = putV (U x) (U (BitVec.ofInt 64 m)) (U x) := by
    unfold putV; rw [andNot_u64, and_u64, andNot_u64, and_u64, ofInt_U (BitVec.ofInt 64 m)]
  rw [e]; exact putV_eq x _ x rfl
/-! ### Pending bits -/
def pl (b0 b1 b2 b3 b4 b5 : Bool) : BitVec 64 := (((((0#64 ||| (if b0 = true then 8#64 else 0#64)) ||| (if b1 = true then 128#64 else 0#64)) ||| (if b2 = true then 2048#64 else 0#64)) ||| (if b3 = true then 512#64 else 0#64)) ||| (if b4 = true then 1024#64 else 0#64)) ||| (if b5 = true then 4096#64 else 0#64)
theorem stp (x : BitVec 64) (b : Bool) (c : Int) (cb : BitVec 64) (hc : BitVec.ofInt 64 c = cb) : (if b = true then Go.bits .or .u64 (U x) c else U x) = U (x ||| (if b = true then cb else 0#64)) := by
  cases b
  · rw [if_neg (by decide), if_neg (by decide), BitVec.or_zero]
  · rw [if_pos rfl, if_pos rfl, or_u64, ofInt_U, hc]
theorem pend_U (h : Ht) (la lb lc ld : Bool) (lg lt : Int) (a b : BitVec 64) (e42 : h.x 42 = U a) (e61 : h.x 61 = U b) : ∃ b4 b5 : Bool, pendV h la lb lc ld lg lt = U ((a ||| b) ||| pl la lb lc ld b4 b5) := by
  refine ⟨pendB h la lb lc ld lg lt 4, pendB h la lb lc ld lg lt 5, ?_⟩
  unfold pendV
  rw [e42, e61, or_u64, ofInt_U, ofInt_U]
  generalize (a ||| b) = x
  generalize hB : pendB h la lb lc ld lg lt = B
  have z0 : B 0 = la := by rw [← hB]; rfl
  have z1 : B 1 = lb := by rw [← hB]; rfl
  have z2 : B 2 = lc := by rw [← hB]; rfl
  have z3 : B 3 = ld := by rw [← hB]; rfl
  have h0 : pendTo (U x) B 0 = U x := rfl
  have h1 : pendTo (U x) B 1 = U (x ||| (if B 0 = true then 8#64 else 0#64)) := by
    show (if B 0 = true then Go.bits .or .u64 (pendTo (U x) B 0) 8 else pendTo (U x) B 0) = _
    rw [h0]; exact stp _ _ 8 8#64 rfl
  have h2 : pendTo (U x) B 2 = U ((x ||| (if B 0 = true then 8#64 else 0#64)) ||| (if B 1 = true then 128#64 else 0#64)) := by
    show (if B 1 = true then Go.bits .or .u64 (pendTo (U x) B 1) 128 else pendTo (U x) B 1) = _
    rw [h1]; exact stp _ _ 128 128#64 rfl
  have h3 : pendTo (U x) B 3 = U (((x ||| (if B 0 = true then 8#64 else 0#64)) ||| (if B 1 = true then 128#64 else 0#64)) ||| (if B 2 = true then 2048#64 else 0#64)) := by
    show (if B 2 = true then Go.bits .or .u64 (pendTo (U x) B 2) 2048 else pendTo (U x) B 2) = _
    rw [h2]; exact stp _ _ 2048 2048#64 rfl
  have h4 : pendTo (U x) B 4 = U ((((x ||| (if B 0 = true then 8#64 else 0#64)) ||| (if B 1 = true then 128#64 else 0#64)) ||| (if B 2 = true then 2048#64 else 0#64)) ||| (if B 3 = true then 512#64 else 0#64)) := by
    show (if B 3 = true then Go.bits .or .u64 (pendTo (U x) B 3) 512 else pendTo (U x) B 3) = _
    rw [h3]; exact stp _ _ 512 512#64 rfl
  have h5 : pendTo (U x) B 5 = U (((((x ||| (if B 0 = true then 8#64 else 0#64)) ||| (if B 1 = true then 128#64 else 0#64)) ||| (if B 2 = true then 2048#64 else 0#64)) ||| (if B 3 = true then 512#64 else 0#64)) ||| (if B 4 = true then 1024#64 else 0#64)) := by
    show (if B 4 = true then Go.bits .or .u64 (pendTo (U x) B 4) 1024 else pendTo (U x) B 4) = _
    rw [h4]; exact stp _ _ 1024 1024#64 rfl
  have h6 : pendTo (U x) B 6 = U ((((((x ||| (if B 0 = true then 8#64 else 0#64)) ||| (if B 1 = true then 128#64 else 0#64)) ||| (if B 2 = true then 2048#64 else 0#64)) ||| (if B 3 = true then 512#64 else 0#64)) ||| (if B 4 = true then 1024#64 else 0#64)) ||| (if B 5 = true then 4096#64 else 0#64)) := by
    show (if B 5 = true then Go.bits .or .u64 (pendTo (U x) B 5) 4096 else pendTo (U x) B 5) = _
    rw [h5]; exact stp _ _ 4096 4096#64 rfl
  rw [h6, z0, z1, z2, z3]
  congr 1
  unfold pl
  simp only [BitVec.or_assoc, BitVec.zero_or]
theorem pl_out : ∀ b0 b1 b2 b3 b4 b5 : Bool, pl b0 b1 b2 b3 b4 b5 &&& 38#64 = 0#64 := by decide
theorem pl_se : ∀ b0 b1 b2 b4 b5 : Bool, pl b0 b1 b2 false b4 b5 &&& 546#64 = 0#64 := by decide
theorem meant_836 {b : Bool} {no : Int} (h : meantV b no = 836) : no = 836 := by
  unfold meantV at h
  repeat' (split at h)
  all_goals omega
theorem ofI (a : BitVec 64) : BitVec.ofInt 64 (U a) = a := ofInt_U a
theorem and_c (a : BitVec 64) (c : Int) : Go.bits .and .u64 (U a) c = U (a &&& BitVec.ofInt 64 c) := by rw [and_u64, ofInt_U]
theorem and_UU (a c : BitVec 64) : Go.bits .and .u64 (U a) (U c) = U (a &&& c) := by rw [and_u64, ofInt_U, ofInt_U]
theorem or_c (a : BitVec 64) (c : Int) : Go.bits .or .u64 (U a) c = U (a ||| BitVec.ofInt 64 c) := by rw [or_u64, ofInt_U]
theorem lit_U (c : Int) (h : 0 ≤ c ∧ c < 18446744073709551616) : c = U (BitVec.ofInt 64 c) := (U_ofInt h.1 h.2).symm
theorem shl1_U (p : BitVec 64) : shl1 (U p / 2) = U ((p >>> 1) <<< 1) := by
  have h := U_div_pow p 1
  rw [show (2 : Int) ^ 1 = 2 from rfl] at h
  unfold shl1
  rw [h, wrap_u64]
  have := ofInt_mul_pow (p >>> 1) 1
  rw [show (2 : Int) ^ 1 = 2 from rfl] at this
  rw [this]
theorem shr_shl (p q : BitVec 64) (hq : q.getLsbD 0 = false) : ((p >>> 1) <<< 1) &&& q = p &&& q := by
  apply BitVec.eq_of_getLsbD_eq; intro i hi
  rw [BitVec.getLsbD_and, BitVec.getLsbD_and, BitVec.getLsbD_shiftLeft, BitVec.getLsbD_ushiftRight]
  by_cases h : i = 0
  · subst h; rw [hq]; simp
  · rw [show 1 + (i - 1) = i by omega]; simp [hi, show ¬ i < 1 by omega]
theorem bit0 {a b : BitVec 64} (h : a &&& b = 0#64) (i : Nat) : (a.getLsbD i && b.getLsbD i) = false := by
  rw [← BitVec.getLsbD_and, h, BitVec.getLsbD_zero]
theorem f61 (h : Ht) : ∃ q : BitVec 64, (fix h).x 61 = U (q &&& 1092#64) := ⟨BitVec.ofInt 64 (h.x 61), by rw [fix_61, and_u64, or_u64, ofInt_U, show BitVec.ofInt 64 0 = 0#64 from rfl, BitVec.or_zero]; rfl⟩
theorem f42 (h : Ht) : ∃ q : BitVec 64, (fix h).x 42 = U (q &&& 546#64) := ⟨BitVec.ofInt 64 (h.x 42), by rw [fix_42, and_u64]; rfl⟩
/-- Writing what a register says changes nothing: where no register of its own answers. -/
theorem same_T (f : Ht) (hw : f.wf) (a b : BitVec 64) (e42 : f.x 42 = U (a &&& 546#64)) (e61 : f.x 61 = U (b &&& 1092#64)) (la lb lc ld : Bool) (lg lt : Int) (m : Int) (hm : m = 836 → ld = false) : writeT f m (readT f la lb lc ld lg lt m) = f := by
  obtain ⟨b4, b5, hp⟩ := pend_U f la lb lc ld lg lt _ _ e42 e61
  obtain ⟨c, e40⟩ := U_of (hw.1 40).1 (hw.1 40).2
  obtain ⟨d, e41⟩ := U_of (hw.1 41).1 (hw.1 41).2
  obtain ⟨e, e60⟩ := U_of (hw.1 60).1 (hw.1 60).2
  obtain ⟨g, e38⟩ := U_of (hw.1 38).1 (hw.1 38).2
  have hl := pl_out la lb lc ld b4 b5
  have hs : m = 836 → pl la lb lc ld b4 b5 &&& 546#64 = 0#64 := fun h => by rw [hm h]; exact pl_se _ _ _ _ _
  generalize pl la lb lc ld b4 b5 = l at hp hl hs
  have k1 : ∀ i, (l.getLsbD i && (38#64).getLsbD i) = false := bit0 hl
  have k2 : ∀ i, ((2#64).getLsbD i = true → (38#64).getLsbD i = true) := by
    intro i h; have := congrArg (BitVec.getLsbD · i) (show (2#64 &&& 38#64) = 2#64 by decide); simp only [BitVec.getLsbD_and] at this; rw [h] at this; simpa using this
  have k4 : ∀ i, ((4#64).getLsbD i = true → (38#64).getLsbD i = true) := by
    intro i h; have := congrArg (BitVec.getLsbD · i) (show (4#64 &&& 38#64) = 4#64 by decide); simp only [BitVec.getLsbD_and] at this; rw [h] at this; simpa using this
  have n2 : ∀ i, ((1092#64).getLsbD i && (2#64).getLsbD i) = false := bit0 (by decide)
  have n4 : ∀ i, ((546#64).getLsbD i && (4#64).getLsbD i) = false := bit0 (by decide)
  have n5 : ∀ i, ((1092#64).getLsbD i && (546#64).getLsbD i) = false := bit0 (by decide)
  have s2 : ∀ i, ((2#64).getLsbD i = true → (546#64).getLsbD i = true) := by
    intro i h; have := congrArg (BitVec.getLsbD · i) (show (2#64 &&& 546#64) = 2#64 by decide); simp only [BitVec.getLsbD_and] at this; rw [h] at this; simpa using this
  have s4 : ∀ i, ((4#64).getLsbD i = true → (1092#64).getLsbD i = true) := by
    intro i h; have := congrArg (BitVec.getLsbD · i) (show (4#64 &&& 1092#64) = 4#64 by decide); simp only [BitVec.getLsbD_and] at this; rw [h] at this; simpa using this
  have s5 : ∀ i, ((4#64).getLsbD i = true → (5188#64).getLsbD i = true) := by
    intro i h; have := congrArg (BitVec.getLsbD · i) (show (4#64 &&& 5188#64) = 4#64 by decide); simp only [BitVec.getLsbD_and] at this; rw [h] at this; simpa using this
  unfold writeT
  split
  · rename_i h; subst h
    refine set_self _ _ _ ?_
    show putV (f.x 38) 786722 (Go.bits .or .u64 (Go.bits .and .u64 (f.x 38) 786722) 8589934592) = f.x 38
    rw [e38, and_c, or_c, show (786722 : Int) = U (786722#64) from rfl]
    refine putV_eq _ _ _ ?_
    have n : ∀ i, ((8589934592#64).getLsbD i && (786722#64).getLsbD i) = false := bit0 (by decide)
    show ((g &&& 786722#64) ||| 8589934592#64) &&& 786722#64 = g &&& 786722#64
    apply BitVec.eq_of_getLsbD_eq; intro i hi; simp only [BitVec.getLsbD_and, BitVec.getLsbD_or, BitVec.getLsbD_not, BitVec.getLsbD_zero, hi, decide_true, Bool.true_and]
    have := n i
    revert this
    cases g.getLsbD i <;> cases (786722#64).getLsbD i <;> cases (8589934592#64).getLsbD i <;> decide
  · split
    · rename_i h; subst h
      have hs := hs rfl
      have k3 := bit0 hs
      show (f.set 42 (putV (f.x 42) 546 (pendV f la lb lc ld lg lt))).set 61 (putV (f.x 61) 4 (pendV f la lb lc ld lg lt)) = f
      rw [hp]
      rw [set_self f 42]
      · refine set_self _ _ _ ?_
        rw [e61, show (4 : Int) = U (4#64) from rfl]
        refine putV_eq _ _ _ ?_
        apply BitVec.eq_of_getLsbD_eq; intro i hi; simp only [BitVec.getLsbD_and, BitVec.getLsbD_or, BitVec.getLsbD_not, BitVec.getLsbD_zero, hi, decide_true, Bool.true_and]
        have h1 := k1 i; have h4 := k4 i; have h5 := n4 i
        revert h1 h4 h5
        cases a.getLsbD i <;> cases b.getLsbD i <;> cases (546#64).getLsbD i <;> cases (1092#64).getLsbD i <;> cases l.getLsbD i <;> cases (4#64).getLsbD i <;> cases (38#64).getLsbD i <;> decide
      · rw [e42, show (546 : Int) = U (546#64) from rfl]
        refine putV_eq _ _ _ ?_
        apply BitVec.eq_of_getLsbD_eq; intro i hi; simp only [BitVec.getLsbD_and, BitVec.getLsbD_or, BitVec.getLsbD_not, BitVec.getLsbD_zero, hi, decide_true, Bool.true_and]
        have h1 := k3 i; have h5 := n5 i
        revert h1 h5
        cases a.getLsbD i <;> cases b.getLsbD i <;> cases (546#64).getLsbD i <;> cases (1092#64).getLsbD i <;> cases l.getLsbD i <;> decide
    · split
      · rename_i h; subst h
        refine set_self _ _ _ ?_
        show putV (f.x 42) (Go.bits .and .u64 (f.x 40) 2) (Go.bits .and .u64 (Go.bits .and .u64 (pendV f la lb lc ld lg lt) 546) (f.x 40)) = f.x 42
        rw [hp, e40, e42, and_c, and_c, and_UU]
        refine putV_eq _ _ _ ?_
        show _ &&& (c &&& 2#64) = _ &&& (c &&& 2#64)
        show (((_ ||| _) ||| l) &&& 546#64 &&& c) &&& (c &&& 2#64) = _
        apply BitVec.eq_of_getLsbD_eq; intro i hi; simp only [BitVec.getLsbD_and, BitVec.getLsbD_or, BitVec.getLsbD_not, BitVec.getLsbD_zero, hi, decide_true, Bool.true_and]
        have h1 := k1 i; have h2 := k2 i; have h3 := n2 i; have h4 := s2 i
        revert h1 h2 h3 h4
        cases a.getLsbD i <;> cases b.getLsbD i <;> cases c.getLsbD i <;> cases (546#64).getLsbD i <;> cases (1092#64).getLsbD i <;> cases l.getLsbD i <;> cases (2#64).getLsbD i <;> cases (38#64).getLsbD i <;> decide
      · split
        · rename_i h; subst h
          refine set_self _ _ _ ?_
          show putV (f.x 41) (Go.bits .and .u64 (f.x 40) 546) (Go.bits .and .u64 (Go.bits .and .u64 (f.x 41) 546) (f.x 40)) = f.x 41
          rw [e40, e41, and_c, and_c, and_UU]
          refine putV_eq _ _ _ ?_
          apply BitVec.eq_of_getLsbD_eq; intro i hi; simp only [BitVec.getLsbD_and, BitVec.getLsbD_or, BitVec.getLsbD_not, BitVec.getLsbD_zero, hi, decide_true, Bool.true_and]
          generalize (BitVec.ofInt 64 546).getLsbD i = x
          cases d.getLsbD i <;> cases c.getLsbD i <;> cases x <;> rfl
        · split
          · rename_i h; subst h
            refine set_self _ _ _ ?_
            show putV (f.x 61) 4 (Go.bits .and .u64 (pendV f la lb lc ld lg lt) 5188) = f.x 61
            rw [hp, e61, and_c, show (4 : Int) = U (4#64) from rfl]
            refine putV_eq _ _ _ ?_
            show (((_ ||| _) ||| l) &&& 5188#64) &&& 4#64 = _
            apply BitVec.eq_of_getLsbD_eq; intro i hi; simp only [BitVec.getLsbD_and, BitVec.getLsbD_or, BitVec.getLsbD_not, BitVec.getLsbD_zero, hi, decide_true, Bool.true_and]
            have h1 := k1 i; have h4 := k4 i; have h5 := n4 i; have h6 := s5 i
            revert h1 h4 h5 h6
            cases a.getLsbD i <;> cases b.getLsbD i <;> cases (546#64).getLsbD i <;> cases (1092#64).getLsbD i <;> cases l.getLsbD i <;> cases (4#64).getLsbD i <;> cases (38#64).getLsbD i <;> cases (5188#64).getLsbD i <;> decide
          · split
            · rename_i h; subst h
              refine set_self _ _ _ ?_
              show putV (f.x 41) 5188 (Go.bits .and .u64 (f.x 41) 5188) = f.x 41
              rw [e41, and_c, show (5188 : Int) = U (5188#64) from rfl]
              refine putV_eq _ _ _ ?_
              show d &&& 5188#64 &&& 5188#64 = _
              apply BitVec.eq_of_getLsbD_eq; intro i hi; simp only [BitVec.getLsbD_and, BitVec.getLsbD_or, BitVec.getLsbD_not, BitVec.getLsbD_zero, hi, decide_true, Bool.true_and]
              cases d.getLsbD i <;> cases (5188#64).getLsbD i <;> rfl
            · split
              · rename_i h; subst h
                refine set_self _ _ _ ?_
                show putV (f.x 61) (Go.bits .and .u64 (f.x 60) 4) (shl1 (Go.bits .and .u64 (Go.bits .and .u64 (pendV f la lb lc ld lg lt) 1092) (f.x 60) / 2)) = f.x 61
                rw [hp, e60, e61, and_c, and_c, and_UU, shl1_U]
                refine putV_eq _ _ _ ?_
                rw [shr_shl _ _ (by rw [BitVec.getLsbD_and]; simp)]
                show (((_ ||| _) ||| l) &&& 1092#64 &&& e) &&& (e &&& 4#64) = _ &&& (e &&& 4#64)
                apply BitVec.eq_of_getLsbD_eq; intro i hi; simp only [BitVec.getLsbD_and, BitVec.getLsbD_or, BitVec.getLsbD_not, BitVec.getLsbD_zero, hi, decide_true, Bool.true_and]
                have h1 := k1 i; have h4 := k4 i; have h5 := n4 i; have h6 := s4 i
                revert h1 h4 h5 h6
                cases a.getLsbD i <;> cases b.getLsbD i <;> cases e.getLsbD i <;> cases (546#64).getLsbD i <;> cases (1092#64).getLsbD i <;> cases l.getLsbD i <;> cases (4#64).getLsbD i <;> cases (38#64).getLsbD i <;> decide
              · split
                · rename_i h; subst h
                  refine set_self _ _ _ ?_
                  show putV (f.x 41) (Go.bits .and .u64 (f.x 60) 1092) (shl1 (Go.bits .and .u64 (Go.bits .and .u64 (f.x 41) 1092) (f.x 60) / 2)) = f.x 41
                  rw [e41, e60, and_c, and_c, and_UU, shl1_U]
                  refine putV_eq _ _ _ ?_
                  rw [shr_shl _ _ (by rw [BitVec.getLsbD_and]; simp)]
                  apply BitVec.eq_of_getLsbD_eq; intro i hi; simp only [BitVec.getLsbD_and, BitVec.getLsbD_or, BitVec.getLsbD_not, BitVec.getLsbD_zero, hi, decide_true, Bool.true_and]
                  generalize (BitVec.ofInt 64 1092).getLsbD i = x
                  cases d.getLsbD i <;> cases e.getLsbD i <;> cases x <;> rfl
                · rfl
theorem fix_same (h0 : Ht) (hw : h0.wf) (la lb lc ld : Bool) (lg lt : Int) (no : Int) : writeV (fix h0) no (baseV (fix h0) la lb lc ld lg lt no) = fix h0 := by
  obtain ⟨a, e42⟩ := f42 h0
  obtain ⟨b, e61⟩ := f61 h0
  have hw := wf_fix hw
  generalize fix h0 = f at *
  unfold writeV writeM
  split
  · cases ho : fieldOff (meantV f.v no) with
    | some o =>
      have hb : baseV f la lb lc ld lg lt no = f.x o := by
        unfold baseV readV
        split
        · rename_i h; subst h; rw [ho]
        · rw [ho]
      have hs : f.set o (putV (f.x o) (mayV (meantV f.v no) (f.x o) (maskV (meantV f.v no)).1) (f.x o)) = f := set_self _ _ _ (putV_self (hw.1 o) _)
      simp only [hb, hs]
      repeat' split
      all_goals rfl
    | none =>
      simp only
      unfold baseV readV
      split
      · rename_i h
        rw [ho]
        exact same_T f hw a b e42 e61 la lb lc false lg lt _ (fun _ => rfl)
      · rename_i h
        rw [ho]
        exact same_T f hw a b e42 e61 la lb lc ld lg lt _ (fun e => absurd (meant_836 e) h)
  · rfl
end Go.Proofs.YtlopmcakfalkpaaDoor.Hx
