/- Who takes a trap and comes back by the return of the mode that took it is where it was. (By a program of this session.) -/
import Derived.Test.YtfehchhmghpfpaaDoorHUp
import Derived.Test.YtfehchhmghpfpaaDoorHeq
import Derived.Test.YtfehchhmghpfpaaDoorHWakes
import Derived.Test.YtfehchhmghpfpaaDoorCLegal
import Derived.Test.YtfehchhmghpfpaaDoorHrow
set_option linter.unusedSimpArgs false
set_option linter.unusedVariables false
namespace Go.Proofs.YtfehchhmghpfpaaDoor.Hx
open Go.Proofs.YtfehchhmghpfpaaDoor.Bv Go.RowKit Go.Proofs.YtfehchhmghpfpaaDoor.Q Go.Proofs.YtfehchhmghpfpaaDoorW.PrintWords Go.Proofs.YtfehchhmghpfpaaDoorW.PrintLast Go.Proofs.YtfehchhmghpfpaaDoorW.PrintMore Go.Proofs.YtfehchhmghpfpaaDoor.Rg

theorem mretTo_eq (x : BitVec 64) : mretTo (U x) = (if x.getLsbD 11 = true then 1 else 0) + (if x.getLsbD 12 = true then 2 else 0) := by
  unfold mretTo
  have h0 := U_div_pow x 11
  rw [show (2 : Int) ^ 11 = 2048 from rfl] at h0
  rw [h0, and_u64, ofInt_U, show BitVec.ofInt 64 3 = 3#64 from rfl]
  have e : (x >>> 11) &&& 3#64 = BitVec.ofNat 64 ((if x.getLsbD 11 = true then 1 else 0) + (if x.getLsbD 12 = true then 2 else 0)) := by
    apply BitVec.eq_of_getLsbD_eq; intro i hi
    rw [BitVec.getLsbD_and, BitVec.getLsbD_ushiftRight]
    have h : ∀ i : Fin 64, (3#64).getLsbD i.val = (decide (i.val = 0) || decide (i.val = 1)) ∧ (0#64).getLsbD i.val = false ∧ (1#64).getLsbD i.val = decide (i.val = 0) ∧ (2#64).getLsbD i.val = decide (i.val = 1) := by decide
    obtain ⟨h3, hz, h1, h2⟩ := h ⟨i, hi⟩
    simp only at h3 hz h1 h2
    have key : (x.getLsbD (11 + i) && (decide (i = 0) || decide (i = 1))) = (if i = 0 then x.getLsbD 11 else if i = 1 then x.getLsbD 12 else false) := by
      by_cases g0 : i = 0
      · subst g0; exact Bool.and_true _
      · by_cases g1 : i = 1
        · subst g1; exact Bool.and_true _
        · rw [decide_eq_false g0, decide_eq_false g1, if_neg g0, if_neg g1]; exact Bool.and_false _
    rw [h3, key]
    clear key h0
    generalize x.getLsbD 11 = a
    generalize x.getLsbD 12 = b
    cases a <;> cases b <;> simp only [Bool.false_eq_true, if_false, if_true, Nat.add_zero, Nat.zero_add]
    · rw [hz]; by_cases g0 : i = 0 <;> by_cases g1 : i = 1 <;> simp [g0, g1]
    · rw [h2]; by_cases g0 : i = 0 <;> by_cases g1 : i = 1 <;> simp [g0, g1] <;> omega
    · rw [h1]; by_cases g0 : i = 0 <;> by_cases g1 : i = 1 <;> simp [g0, g1]
    · rw [show (1 + 2) = 3 from rfl, h3]; by_cases g0 : i = 0 <;> by_cases g1 : i = 1 <;> simp [g0, g1]
  rw [e]
  cases x.getLsbD 11 <;> cases x.getLsbD 12 <;> decide
theorem bit_at (x : BitVec 64) (n : Nat) : Go.bits .and .u64 (U x / 2 ^ n) 1 = if x.getLsbD n = true then 1 else 0 := by
  rw [U_div_pow, and_u64, ofInt_U, show BitVec.ofInt 64 1 = 1#64 from rfl]
  have e : (x >>> n) &&& 1#64 = if x.getLsbD n = true then 1#64 else 0#64 := by
    apply BitVec.eq_of_getLsbD_eq; intro i hi
    rw [BitVec.getLsbD_and, BitVec.getLsbD_ushiftRight]
    by_cases h : i = 0
    · subst h; cases x.getLsbD n <;> simp_all
    · have h1 : (1#64).getLsbD i = false := by rw [show (1#64) = 1#64 <<< 0 from rfl, one_bit 0 i (by decide)]; simp [h]
      rw [h1]; cases x.getLsbD n <;> simp_all
  rw [e]
  cases x.getLsbD n <;> rfl
theorem bit1 (x : BitVec 64) : Go.bits .and .u64 (U x / 2) 1 = if x.getLsbD 1 = true then 1 else 0 := bit_at x 1
theorem bit3 (x : BitVec 64) : Go.bits .and .u64 (U x / 8) 1 = if x.getLsbD 3 = true then 1 else 0 := bit_at x 3

/-- What X holds. -/
def xcs (h : Ht) : List Value := (List.range 32).map fun j => .int .u64 (h.x (1 + j))
theorem isU_x : ∀ j, j < 32 → isU (1 + j) = true := by decide
theorem xcs_at {w : World} {g : Nat} {h : Ht} (H : Hb w g h) : w.rangeAt g 1 (xcs h) := by
  intro j v hv
  unfold xcs at hv
  rw [List.getElem?_map] at hv
  by_cases hj : j < 32
  · rw [List.getElem?_range hj] at hv
    have e : v = .int .u64 (h.x (1 + j)) := (Option.some.inj hv).symm
    rw [e]; exact H.u (1 + j) (isU_x j hj)
  · rw [List.getElem?_eq_none (by rw [List.length_range]; omega)] at hv; cases hv
abbrev xlit (h : Ht) : Array Value := #[.int .u64 (h.x 1), .int .u64 (h.x 2), .int .u64 (h.x 3), .int .u64 (h.x 4), .int .u64 (h.x 5), .int .u64 (h.x 6), .int .u64 (h.x 7), .int .u64 (h.x 8), .int .u64 (h.x 9), .int .u64 (h.x 10), .int .u64 (h.x 11), .int .u64 (h.x 12), .int .u64 (h.x 13), .int .u64 (h.x 14), .int .u64 (h.x 15), .int .u64 (h.x 16), .int .u64 (h.x 17), .int .u64 (h.x 18), .int .u64 (h.x 19), .int .u64 (h.x 20), .int .u64 (h.x 21), .int .u64 (h.x 22), .int .u64 (h.x 23), .int .u64 (h.x 24), .int .u64 (h.x 25), .int .u64 (h.x 26), .int .u64 (h.x 27), .int .u64 (h.x 28), .int .u64 (h.x 29), .int .u64 (h.x 30), .int .u64 (h.x 31), .int .u64 (h.x 32)]
theorem exec_loadX {o : Oper} {ρ : Operand → Value} {w : World} {x : Operand} {g : Nat} {h : Ht} (ho : o.op = .load 23 x) (hx : ρ x = .pointer (some ⟨g, 1, none⟩)) (H : Hb w g h) : (execOp ρ o).run Tryd.prog w = .ok (.value (.agg (xlit h))) w := by
  have e := run_loadVar_mid (P := Tryd.prog) w g 1 23 (xcs h) _ (xcs_at H) Tryd.underlying23 rfl (by kernel_rfl)
  have e2 : (xcs h).toArray = xlit h := rfl
  unfold execOp
  simp only [ho, hx, Instr.loadAt, Instr.sureAddr, Sem.run_bind, Sem.run_pure, Result.andThen_ok, e, e2]
theorem run_eqX (h k : Ht) (W : World) : (binOp .eql 23 (.agg (xlit h)) (.agg (xlit k))).run Tryd.prog W = .ok (.bool (xeq h k)) W := by
  simp only [binOp]
  simp [show (Op.equal 23 (.agg (xlit h)) (.agg (xlit k))).run Tryd.prog W = .ok (xeq h k) W from eqX 9998 W h k]
theorem guardX (op : BinOp) (x y : Operand) (h k : Ht) (W : World) : (eqGuard op 23 x y (.agg (xlit h)) (.agg (xlit k))).run Tryd.prog W = .ok () W :=
  run_eqGuard_agg W op _ x y _ _ (by kernel_rfl)
theorem exec_eqX {o : Oper} {ρ : Operand → Value} {w : World} {x y : Operand} {ty : TypeId} {h k : Ht} (ho : o.op = .binOp .eql 23 x y ty) (hx : ρ x = .agg (xlit h)) (hy : ρ y = .agg (xlit k)) (hb : xeq h k = true) : (execOp ρ o).run Tryd.prog w = .ok (.value (.bool true)) w := by
  rw [← hb]
  unfold execOp
  simp only [ho, hx, hy, Sem.run_bind, guardX, run_eqX, Sem.run_pure, Result.andThen_ok]
theorem xeq_of {a b : Ht} (H : ∀ i, 1 ≤ i → i ≤ 32 → a.x i = b.x i) : xeq a b = true := by
  unfold xeq
  simp only [H 1 (by decide) (by decide), H 2 (by decide) (by decide), H 3 (by decide) (by decide), H 4 (by decide) (by decide), H 5 (by decide) (by decide), H 6 (by decide) (by decide), H 7 (by decide) (by decide), H 8 (by decide) (by decide), H 9 (by decide) (by decide), H 10 (by decide) (by decide), H 11 (by decide) (by decide), H 12 (by decide) (by decide), H 13 (by decide) (by decide), H 14 (by decide) (by decide), H 15 (by decide) (by decide), H 16 (by decide) (by decide), H 17 (by decide) (by decide), H 18 (by decide) (by decide), H 19 (by decide) (by decide), H 20 (by decide) (by decide), H 21 (by decide) (by decide), H 22 (by decide) (by decide), H 23 (by decide) (by decide), H 24 (by decide) (by decide), H 25 (by decide) (by decide), H 26 (by decide) (by decide), H 27 (by decide) (by decide), H 28 (by decide) (by decide), H 29 (by decide) (by decide), H 30 (by decide) (by decide), H 31 (by decide) (by decide), H 32 (by decide) (by decide), beq_self_eq_true, Bool.and_self]
theorem bs_ne (z : BitVec 64) {b i : Nat} (is : Bool) (hb : b < 64) (hi : i < 64) (h : i ≠ b) : (bset z b is).getLsbD i = z.getLsbD i := by rw [bset_bit z b is hb i hi, if_neg h]
theorem bs_eq (z : BitVec 64) {b : Nat} (is : Bool) (hb : b < 64) : (bset z b is).getLsbD b = is := by rw [bset_bit z b is hb b hb, if_pos rfl]
theorem mp_bit (z p : BitVec 64) {i : Nat} (hi : i < 64) (h : (6144#64).getLsbD i = false) (hp : p.getLsbD i = false) : ((z &&& ~~~ 6144#64) ||| p).getLsbD i = z.getLsbD i := by
  rw [BitVec.getLsbD_or, BitVec.getLsbD_and, BitVec.getLsbD_not, h, hp]; simp [hi]
theorem mp_bit1 (z p : BitVec 64) {i : Nat} (hi : i < 64) (h : (6144#64).getLsbD i = true) : ((z &&& ~~~ 6144#64) ||| p).getLsbD i = p.getLsbD i := by
  rw [BitVec.getLsbD_or, BitVec.getLsbD_and, BitVec.getLsbD_not, h]; simp
structure Same (f b : Ht) : Prop where
  pc : (b.x 0 == f.x 0) = true
  priv : (b.x 33 == f.x 33) = true
  vv : (b.v == f.v) = true
  xx : xeq b f = true
theorem toV_0 {h : Ht} {tc : Int} (h0 : (toV h tc == 0) = false) : h.x 33 ≠ 3 := fun e => by
  unfold toV at h0; rw [if_pos (Or.inl e)] at h0; cases h0
theorem toV_2 {h : Ht} {tc : Int} (h0 : (toV h tc == 0) = false) (h1 : (toV h tc == 1) = false) : h.v = true ∧ (toV h tc == 2) = true := by
  have z : ∀ (A B : Prop) [Decidable A] [Decidable B], ((if A then (0 : Int) else if B then 2 else 1) == 0) = false → ((if A then (0 : Int) else if B then 2 else 1) == 1) = false → B ∧ ((if A then (0 : Int) else if B then 2 else 1) == 2) = true := by
    intro A B _ _ a b
    by_cases hA : A
    · rw [if_pos hA] at a; cases a
    · rw [if_neg hA] at a b ⊢
      by_cases hB : B
      · rw [if_pos hB]; exact ⟨hB, rfl⟩
      · rw [if_neg hB] at b; cases b
  have := z _ _ h0 h1
  exact ⟨this.1.1, this.2⟩
theorem backM {f : Ht} (hw : f.wf) (L : Leg f) (tc tv tv2 tn : Int) (tg : Bool) (h0 : (toV f tc == 0) = true) : (enter f true tc tv tv2 tn tg).x 33 = 3 ∧ (enter f true tc tv tv2 tn tg).v = false ∧ (enter f true tc tv tv2 tn tg).x 47 = tc ∧ (Go.bits .and .u64 ((mret (enter f true tc tv tv2 tn tg)).x 38 / 8) 1 != Go.bits .and .u64 (f.x 38 / 8) 1) = false ∧ Same f (mret (enter f true tc tv tv2 tn tg)) := by
  have e : enter f true tc tv tv2 tn tg = enterM f (({ ({ f with wt := false } : Ht) with hl := false } : Ht).set 37 0) tc tv tv2 tn tg := by
    unfold enter; rw [if_pos rfl]; exact if_pos h0
  rw [e]
  generalize hk : enterM f (({ ({ f with wt := false } : Ht) with hl := false } : Ht).set 37 0) tc tv tv2 tn tg = k
  obtain ⟨x, ex, l⟩ := m38 hw L
  have hp : ∃ p : BitVec 64, IntKind.u64.wrap (IntKind.u64.wrap (Go.bits .and .u8 (f.x 33) 3) * 2048) = U p ∧ ((f.x 33 = 0 ∧ p = 0#64) ∨ (f.x 33 = 1 ∧ p = 2048#64) ∨ (f.x 33 = 3 ∧ p = 6144#64)) := by
    rcases priv_leg L with e | e | e <;> rw [e]
    · exact ⟨0#64, by decide, Or.inl ⟨rfl, rfl⟩⟩
    · exact ⟨2048#64, by decide, Or.inr (Or.inl ⟨rfl, rfl⟩)⟩
    · exact ⟨6144#64, by decide, Or.inr (Or.inr ⟨rfl, rfl⟩)⟩
  obtain ⟨p, ep, hp⟩ := hp
  have e38 : k.x 38 = U (bset (bset (((bset (bset x 7 (x.getLsbD 3)) 3 false) &&& ~~~ 6144#64) ||| p) 39 f.v) 38 tg) := by
    rw [← hk]
    show setV (setV (Go.bits .or .u64 (Go.bits .andNot .u64 (setV (setV (f.x 38) 7 (onV (f.x 38) 3)) 3 false) 6144) (IntKind.u64.wrap (IntKind.u64.wrap (Go.bits .and .u8 (f.x 33) 3) * 2048))) 39 f.v) 38 tg = _
    rw [ep, ex, ov_3, sv_7, sv_3, andNot_u64, ofInt_U, or_u64 _ (U p), ofInt_U, ofInt_U, sv_39, sv_38]
    rfl
  have hto : mretTo (k.x 38) = f.x 33 := by
    rw [e38, mretTo_eq, bs_ne _ tg (by decide) (by decide) (by decide), bs_ne _ f.v (by decide) (by decide) (by decide), bs_ne _ tg (by decide) (by decide) (by decide), bs_ne _ f.v (by decide) (by decide) (by decide), mp_bit1 _ p (by decide) (by decide), mp_bit1 _ p (by decide) (by decide)]
    rcases hp with ⟨e, rfl⟩ | ⟨e, rfl⟩ | ⟨e, rfl⟩ <;> rw [e] <;> decide
  have p7 : p.getLsbD 7 = false := by rcases hp with ⟨_, rfl⟩ | ⟨_, rfl⟩ | ⟨_, rfl⟩ <;> decide
  have o39 : onV (k.x 38) 39 = f.v := by rw [e38, ov_39, bs_ne _ tg (by decide) (by decide) (by decide), bs_eq _ _ (by decide)]
  have o7 : onV (k.x 38) 7 = x.getLsbD 3 := by
    rw [e38, ov_7, bs_ne _ tg (by decide) (by decide) (by decide), bs_ne _ f.v (by decide) (by decide) (by decide), mp_bit _ p (by decide) (by decide) p7, bs_ne _ _ (by decide) (by decide) (by decide), bs_eq _ _ (by decide)]
  have kx : ∀ i, 1 ≤ i → i ≤ 32 → k.x i = f.x i := by
    intro i h1 h2
    rw [← hk]
    simp only [enterM, Ht.set, beqF (show i ≠ 0 by omega), beqF (show i ≠ 33 by omega), beqF (show i ≠ 37 by omega), beqF (show i ≠ 38 by omega), beqF (show i ≠ 46 by omega), beqF (show i ≠ 47 by omega), beqF (show i ≠ 48 by omega), beqF (show i ≠ 49 by omega), beqF (show i ≠ 50 by omega), cond_false]
  have k46 : k.x 46 = f.x 0 := by rw [← hk]; rfl
  refine ⟨by rw [← hk]; rfl, by rw [← hk]; rfl, by rw [← hk]; rfl, ?_, ⟨?_, ?_, ?_, ?_⟩⟩
  · show (Go.bits .and .u64 (mretS (k.x 38) / 8) 1 != Go.bits .and .u64 (f.x 38 / 8) 1) = false
    have e2 : ∃ y, mretS (k.x 38) = U y ∧ y.getLsbD 3 = x.getLsbD 3 := by
      unfold mretS
      simp only
      rw [o7]
      generalize hz : k.x 38 = z
      rw [e38] at hz
      rw [← hz]
      generalize bset (bset (((bset (bset x 7 (x.getLsbD 3)) 3 false) &&& ~~~ 6144#64) ||| p) 39 f.v) 38 tg = q
      have e3 : Go.bits .andNot .u64 (setV (setV (U q) 3 (x.getLsbD 3)) 7 true) 6144 = U (((bset (bset q 3 (x.getLsbD 3)) 7 true) &&& ~~~ 6144#64) ||| 0#64) := by
        rw [sv_3, sv_7, andNot_u64, ofInt_U, BitVec.or_zero]; rfl
      have b3 : (bset (((bset (bset q 3 (x.getLsbD 3)) 7 true) &&& ~~~ 6144#64) ||| 0#64) 39 false).getLsbD 3 = x.getLsbD 3 := by
        rw [bs_ne _ _ (by decide) (by decide) (by decide), mp_bit _ _ (by decide) (by decide) (by decide), bs_ne _ _ (by decide) (by decide) (by decide), bs_eq _ _ (by decide)]
      rw [e3, sv_39]
      split
      · rw [sv_17]; exact ⟨_, rfl, by rw [bs_ne _ _ (by decide) (by decide) (by decide)]; exact b3⟩
      · exact ⟨_, rfl, b3⟩
    obtain ⟨y, ey, hy⟩ := e2
    rw [ey, ex, bit3, bit3, hy, bne_self_eq_false]
  · show (k.x 46 == f.x 0) = true
    rw [k46, beq_self_eq_true]
  · show ((if (mretTo (k.x 38) == 2) = true then 0 else mretTo (k.x 38)) == f.x 33) = true
    rw [hto]
    rcases priv_leg L with e | e | e <;> rw [e] <;> rfl
  · show ((if onV (k.x 38) 39 = true then (mretTo (k.x 38) != 3) else false) == f.v) = true
    rw [o39, hto]
    cases hv : f.v
    · rfl
    · rw [if_pos rfl]
      have := v_leg L hv
      rw [bne_iff_ne.2 this]; rfl
  · exact xeq_of fun i h1 h2 => (show (mret k).x i = k.x i by simp only [mret, Ht.set, beqF (show i ≠ 0 by omega), beqF (show i ≠ 33 by omega), beqF (show i ≠ 37 by omega), beqF (show i ≠ 38 by omega), cond_false]).trans (kx i h1 h2)
theorem tk8 (x : BitVec 64) (b : Bool) : ∃ y, takenV (U x) b = U y ∧ y.getLsbD 8 = b ∧ y.getLsbD 5 = x.getLsbD 1 := by
  unfold takenV
  rw [ov_1, sv_5, sv_1, sv_8]
  exact ⟨_, rfl, bs_eq _ _ (by decide), by rw [bs_ne _ _ (by decide) (by decide) (by decide), bs_ne _ _ (by decide) (by decide) (by decide), bs_eq _ _ (by decide)]⟩
theorem gv1 (x : BitVec 64) : ∃ y, givenS (U x) = U y ∧ y.getLsbD 1 = x.getLsbD 5 := by
  unfold givenS
  rw [ov_5, sv_1, sv_5, sv_8]
  exact ⟨_, rfl, by rw [bs_ne _ _ (by decide) (by decide) (by decide), bs_ne _ _ (by decide) (by decide) (by decide), bs_eq _ _ (by decide)]⟩
theorem backH {f : Ht} (hw : f.wf) (L : Leg f) (tc tv tv2 tn : Int) (tg : Bool) (h0 : (toV f tc == 0) = false) (h1 : (toV f tc == 1) = true) : (enter f true tc tv tv2 tn tg).x 33 = 1 ∧ (enter f true tc tv tv2 tn tg).v = false ∧ (enter f true tc tv tv2 tn tg).x 55 = tc ∧ (Go.bits .and .u64 ((sret (enter f true tc tv tv2 tn tg)).x 38 / 2) 1 != Go.bits .and .u64 (f.x 38 / 2) 1) = false ∧ Same f (sret (enter f true tc tv tv2 tn tg)) := by
  have e : enter f true tc tv tv2 tn tg = enterH f (({ ({ f with wt := false } : Ht) with hl := false } : Ht).set 37 0) tc tv tv2 tn tg := by
    unfold enter; rw [if_pos rfl]; exact (if_neg (by rw [h0]; decide)).trans (if_pos h1)
  rw [e]
  generalize hk : enterH f (({ ({ f with wt := false } : Ht) with hl := false } : Ht).set 37 0) tc tv tv2 tn tg = k
  have hh : ∀ i : Nat, i ≠ 58 → ∀ q : Ht, ∀ y, (if f.v = true then q.set 58 y else q).x i = q.x i := by
    intro i hi q y
    cases f.v
    · rfl
    · rw [if_pos rfl]; exact set_ne q y hi
  obtain ⟨x, ex, l⟩ := m38 hw L
  obtain ⟨y, ey, y8, y5⟩ := tk8 x (f.x 33 == 1)
  have k33 : k.x 33 = 1 := by rw [← hk]; rfl
  have kv : k.v = false := by rw [← hk]; rfl
  have k55 : k.x 55 = tc := by rw [← hk]; exact (hh 55 (by decide) _ _).trans rfl
  have k54 : k.x 54 = f.x 0 := by rw [← hk]; exact (hh 54 (by decide) _ _).trans rfl
  have k38 : k.x 38 = U y := by rw [← hk]; exact ((hh 38 (by decide) _ _).trans (show _ = takenV (f.x 38) (f.x 33 == 1) from rfl)).trans (by rw [ex, ey])
  have k58 : onV (k.x 58) 7 = f.v := by
    have e58 : k.x 58 = setV (setV (if f.v = true then setV (f.x 58) 8 (f.x 33 == 1) else f.x 58) 7 f.v) 6 tg := by rw [← hk]; rfl
    rw [e58]
    obtain ⟨z, ez⟩ := U_of (hw.1 58).1 (hw.1 58).2
    rw [ez]
    cases f.v
    · rw [if_neg (by decide), sv_7, sv_6, ov_7, bs_ne _ _ (by decide) (by decide) (by decide), bs_eq _ _ (by decide)]
    · rw [if_pos rfl, sv_8, sv_7, sv_6, ov_7, bs_ne _ _ (by decide) (by decide) (by decide), bs_eq _ _ (by decide)]
  have kx : ∀ i, 1 ≤ i → i ≤ 32 → k.x i = f.x i := by
    intro i h1 h2
    rw [← hk]
    show (bif Nat.beq i 0 then _ else bif Nat.beq i 33 then _ else bif Nat.beq i 58 then _ else (if f.v = true then Ht.set _ 58 _ else _ : Ht).x i) = _
    rw [beqF (show i ≠ 0 by omega), beqF (show i ≠ 33 by omega), beqF (show i ≠ 58 by omega), hh i (by omega)]
    simp only [Ht.set, beqF (show i ≠ 0 by omega), beqF (show i ≠ 33 by omega), beqF (show i ≠ 37 by omega), beqF (show i ≠ 38 by omega), beqF (show i ≠ 54 by omega), beqF (show i ≠ 55 by omega), beqF (show i ≠ 56 by omega), beqF (show i ≠ 64 by omega), beqF (show i ≠ 65 by omega), cond_false]
  have gp : givenP (k.x 38) = f.x 33 := by
    unfold givenP
    rw [k38, ov_8, y8]
    have := toV_0 h0
    rcases priv_leg L with e | e | e
    · rw [e]; rfl
    · rw [e]; rfl
    · exact absurd e this
  have es : sret k = ((({ ((((({ k with hl := false } : Ht).set 37 0).set 38 (givenS (k.x 38))).set 33 (givenP (k.x 38))).set 0 (k.x 54)) with v := onV (k.x 58) 7 } : Ht).set 58 (setV (k.x 58) 7 false)).set 38 (setV (givenS (k.x 38)) 17 false)) := by
    unfold sret; simp only; rw [if_neg (by rw [kv]; decide)]
  refine ⟨k33, kv, k55, ?_, ?_⟩
  · rw [es]
    show (Go.bits .and .u64 (setV (givenS (k.x 38)) 17 false / 2) 1 != _) = false
    obtain ⟨u, eu, u1⟩ := gv1 y
    rw [k38, eu, sv_17, ex, bit1, bit1, bs_ne _ _ (by decide) (by decide) (by decide), u1, y5, bne_self_eq_false]
  · rw [es]
    refine ⟨?_, ?_, ?_, ?_⟩
    · show (k.x 54 == f.x 0) = true
      rw [k54, beq_self_eq_true]
    · show (givenP (k.x 38) == f.x 33) = true
      rw [gp, beq_self_eq_true]
    · show (onV (k.x 58) 7 == f.v) = true
      rw [k58, beq_self_eq_true]
    · exact xeq_of fun i h1 h2 => Eq.trans (by simp only [Ht.set, beqF (show i ≠ 0 by omega), beqF (show i ≠ 33 by omega), beqF (show i ≠ 37 by omega), beqF (show i ≠ 38 by omega), beqF (show i ≠ 58 by omega), cond_false]) (kx i h1 h2)
theorem backG {f : Ht} (hw : f.wf) (L : Leg f) (tc tv tv2 tn : Int) (tg : Bool) (h0 : (toV f tc == 0) = false) (h1 : (toV f tc == 1) = false) : (enter f true tc tv tv2 tn tg).x 33 = 1 ∧ (enter f true tc tv tv2 tn tg).v = true ∧ (Go.bits .and .u64 ((sret (enter f true tc tv tv2 tn tg)).x 68 / 2) 1 != Go.bits .and .u64 (f.x 68 / 2) 1) = false ∧ Same f (sret (enter f true tc tv tv2 tn tg)) := by
  obtain ⟨fv, h2⟩ := toV_2 h0 h1
  have e : enter f true tc tv tv2 tn tg = enterG f (({ ({ f with wt := false } : Ht) with hl := false } : Ht).set 37 0) tc tv := by
    unfold enter; rw [if_pos rfl]; exact ((if_neg (by rw [h0]; decide)).trans (if_neg (by rw [h1]; decide))).trans (if_pos h2)
  rw [e]
  generalize hk : enterG f (({ ({ f with wt := false } : Ht) with hl := false } : Ht).set 37 0) tc tv = k
  obtain ⟨x, ex⟩ := U_of (hw.1 68).1 (hw.1 68).2
  obtain ⟨y, ey, y8, y5⟩ := tk8 x (f.x 33 == 1)
  have k33 : k.x 33 = 1 := by rw [← hk]; rfl
  have kv : k.v = true := by rw [← hk]; exact fv
  have k71 : k.x 71 = f.x 0 := by rw [← hk]; rfl
  have k68 : k.x 68 = U y := by rw [← hk]; exact (show _ = takenV (f.x 68) (f.x 33 == 1) from rfl).trans (by rw [ex, ey])
  have kx : ∀ i, 1 ≤ i → i ≤ 32 → k.x i = f.x i := by
    intro i h1 h2
    rw [← hk]
    simp only [enterG, Ht.set, beqF (show i ≠ 0 by omega), beqF (show i ≠ 33 by omega), beqF (show i ≠ 37 by omega), beqF (show i ≠ 68 by omega), beqF (show i ≠ 71 by omega), beqF (show i ≠ 72 by omega), beqF (show i ≠ 73 by omega), cond_false]
  have gp : givenP (k.x 68) = f.x 33 := by
    unfold givenP
    rw [k68, ov_8, y8]
    have := toV_0 h0
    rcases priv_leg L with e | e | e
    · rw [e]; rfl
    · rw [e]; rfl
    · exact absurd e this
  have es : sret k = ((((({ k with hl := false } : Ht).set 37 0).set 68 (givenS (k.x 68))).set 33 (givenP (k.x 68))).set 0 (k.x 71)).set 38 (setV (k.x 38) 17 false) := by
    unfold sret; simp only; rw [if_pos kv]
  refine ⟨k33, kv, ?_, ?_⟩
  · rw [es]
    show (Go.bits .and .u64 (givenS (k.x 68) / 2) 1 != _) = false
    obtain ⟨u, eu, u1⟩ := gv1 y
    rw [k68, eu, ex, bit1, bit1, u1, y5, bne_self_eq_false]
  · rw [es]
    refine ⟨?_, ?_, ?_, ?_⟩
    · show (k.x 71 == f.x 0) = true
      rw [k71, beq_self_eq_true]
    · show (givenP (k.x 68) == f.x 33) = true
      rw [gp, beq_self_eq_true]
    · show (k.v == f.v) = true
      rw [kv, fv]; rfl
    · exact xeq_of fun i h1 h2 => Eq.trans (by simp only [Ht.set, beqF (show i ≠ 0 by omega), beqF (show i ≠ 33 by omega), beqF (show i ≠ 37 by omega), beqF (show i ≠ 38 by omega), beqF (show i ≠ 68 by omega), cond_false]) (kx i h1 h2)

set_option maxHeartbeats 16000000 in
set_option maxRecDepth 100000 in
theorem back_c (h : Ht) (hw : h.wf) (ti : Bool) (tc tv tv2 tn : Int) (tg : Bool) (c_tc : 0 ≤ tc ∧ tc < 18446744073709551616) (c_tv : 0 ≤ tv ∧ tv < 18446744073709551616) (c_tv2 : 0 ≤ tv2 ∧ tv2 < 18446744073709551616) (c_tn : 0 ≤ tn ∧ tn < 18446744073709551616) (w : World) (hT : Tab w) : Calls Tryd.prog 3 #[.agg h.cs, .agg #[.bool ti, .int .u64 tc, .int .u64 tv, .int .u64 tv2, .int .u64 tn, .bool tg]] w fun e w' => e = .returned (.bool true) ∧ Below w.heap.size w w' := by
  have hf := fix_c h
  have L := leg_fix h hw
  have hw2 := wf_fix hw
  generalize fix h = f at *
  have hto := fun w => to_c f tc w c_tc.1 c_tc.2
  have hen := fun w => enter_c f true tc tv tv2 tn tg c_tc.1 c_tc.2 w
  have bM := fun e => backM hw2 L tc tv tv2 tn tg e; have bH := fun e e2 => backH hw2 L tc tv tv2 tn tg e e2; have bG := fun e e2 => backG hw2 L tc tv tv2 tn tg e e2
  generalize toV f tc = t at *
  generalize enter f true tc tv tv2 tn tg = k at *
  have HF := Lib.hid hf; have HTO := Lib.hid hto; have HEN := Lib.hid hen; have HT := Lib.hid hT
  clear hf hto hen hT L hw2 hw c_tc c_tv c_tv2 c_tn
  cases t0 : (t == 0)
  · skip
    cases t1 : (t == 1)
    · skip
      obtain ⟨b1, b2, b4, b5⟩ := bG t0 t1
      clear bM bH bG
      have hb := sret_c k
      generalize sret k = b at *
      have HB := Lib.hid hb
      clear hb
      have q1 : (k.x 33 != 1) = false := by rw [b1]; rfl
      clear b1
      obtain ⟨s1, s2, s3, s4⟩ := b5
      have HX := Lib.hid s4
      clear s4
      have hu25 := Tryd.underlying25; have hu27 := Tryd.underlying27
      go_enter Tryd.func3, Tryd.ntmps3
      go_upto_region 1 with (first | ((with_reducible refine gate_dst (N := 2) rfl ?_); refine box_event ?hg (N := 2) ?hd (cs := h.cs) (t := 25) ?hr ?_; (case hd => rfl); (case hg => rfl); (case hr => first | (go_simp; done) | (go_simp; rfl)); intro ga hg w_1 H1 hb; have hB_2 := Lib.hid (below_step (Below.refl w.heap.size w) hb); have G_ga := Lib.hid (show w.heap.size ≤ ga by rw [hg]; exact ((Below.refl w.heap.size w)).size); have K_ga := Lib.hid (show Hb w_1 ga h from H1); clear hg hb H1) | ((with_reducible refine gate_dst (N := 3) rfl ?_); refine box_event ?hg (N := 3) ?hd (cs := #[.bool ti, .int .u64 tc, .int .u64 tv, .int .u64 tv2, .int .u64 tn, .bool tg]) (t := 27) ?hr ?_; (case hd => rfl); (case hg => rfl); (case hr => first | (go_simp; done) | (go_simp; rfl)); intro gt hg w_3 H1 hb; have hB_4 := Lib.hid (below_step hB_2.out hb); have G_gt := Lib.hid (show w.heap.size ≤ gt by rw [hg]; exact (hB_2.out).size); have N_ga_gt := Lib.hid (show ga ≠ gt by rw [hg]; exact Nat.ne_of_lt (K_ga.out.lt)); replace K_ga := Lib.hid (K_ga.out.below hb); have K_gt := Lib.hid (show w_3.heap[gt]? = some (.cells #[.bool ti, .int .u64 tc, .int .u64 tv, .int .u64 tv2, .int .u64 tn, .bool tg] 27 (0, 0)) from H1); clear hg hb H1 hB_2; clear hu27))
      go_wp2_with (first | ((with_reducible refine gate_dst (N := 7) rfl ?_); (first | (refine gate_guard (by kernel_rfl) ?_) | skip); refine Kd.event_run rfl (v := .agg (h).cs) (w1 := w_3) ?hb ?_; (case hb => exact exec_load_hart rfl rfl K_ga.out)))
      refine (HF.out _ (Tab.from HT.out hB_4.out)).mono ?_
      rintro e_5 w_6 ⟨rfl, hb⟩
      have hB_7 := Lib.hid (below_step hB_4.out hb)
      replace K_ga := Lib.hid (K_ga.out.below hb)
      replace K_gt := Lib.hid (blk_below K_gt.out hb)
      clear hb hB_4
      go_upto_region 3 with (first | (refine store_hart rfl (.tmp 2) (.tmp 8) rfl ga (f) rfl rfl (h) K_ga.out ?_; have hB_9 := Lib.hid (setCells_below G_ga.out (Ht.cs (f)).toList 0 _ hB_7.out); replace K_gt := Lib.hid (setCells_far' (vs := (Ht.cs (f)).toList) (o := 0) (Ne.symm N_ga_gt.out) K_gt.out); replace K_ga := Lib.hid (Hb.putAll (f) K_ga.out); clear hB_7; generalize World.setCells w_6 ga 0 (Ht.cs (f)).toList = w_8 at K_ga K_gt hB_9 ⊢; have c_gt_0 := (show World.cell? _ ⟨gt, 0, none⟩ = some (.bool ti) from (blk_cell K_gt.out 0).trans rfl); have f_gt_0 := blk_frozen K_gt.out 0))
      refine world_code ga (by repeat (with_reducible first | exact K_ga.out | apply Hb.put | apply Hb.putP | apply Hb.putV | apply Hb.putW | apply Hb.putH | apply Hb.far N_ga_gt.out | apply Hb.drewN | apply Hb.drew)) (fun w' => Below w.heap.size w w' ∧ w'.heap[gt]? = some (.cells #[.bool true, .int .u64 tc, .int .u64 tv, .int .u64 tv2, .int .u64 tn, .bool tg] 27 (0, 0))) ⟨(by repeat (first | (with_reducible first | exact hB_9.out | apply pw_below_drewN | apply below_drew1 | refine below_set ?_ G_ga.out | refine below_set ?_ G_gt.out) | exact hB_9.out)), (blk_put K_gt.out 0 _ rfl)⟩ ?_
      clear c_gt_0 f_gt_0
      clear K_ga K_gt hB_9
      rintro w_10 q_ ⟨b_, q_gt⟩
      have K_ga := Lib.hid q_; have hB_11 := Lib.hid b_; have K_gt := Lib.hid q_gt
      clear q_ b_ q_gt
      go_wp2_with (first | ((with_reducible refine gate_dst (N := 10) rfl ?_); (first | (refine gate_guard (by kernel_rfl) ?_) | skip); refine Kd.event_run rfl (v := .agg (f).cs) (w1 := w_10) ?hb ?_; (case hb => exact exec_load_hart rfl rfl K_ga.out)) | ((with_reducible refine gate_dst (N := 11) rfl ?_); (first | (refine gate_guard (by kernel_rfl) ?_) | skip); refine Kd.event_run rfl (v := .agg #[.bool true, .int .u64 tc, .int .u64 tv, .int .u64 tv2, .int .u64 tn, .bool tg]) (w1 := w_10) ?hb ?_; (case hb => exact exec_load_blk rfl rfl K_gt.out Tryd.underlying27 rfl (by kernel_rfl))))
      refine (HEN.out _).mono ?_
      rintro e_12 w_13 ⟨rfl, hb⟩
      have hB_14 := Lib.hid (below_step hB_11.out hb)
      replace K_ga := Lib.hid (K_ga.out.below hb)
      replace K_gt := Lib.hid (blk_below K_gt.out hb)
      clear hb hB_11
      go_upto_region 4 with (first | ((with_reducible refine gate_dst (N := 5) rfl ?_); refine box_event ?hg (N := 5) ?hd (cs := Ht.zero.cs) (t := 25) ?hr ?_; (case hd => rfl); (case hg => rfl); (case hr => first | (go_simp; done) | (go_simp; rfl)); intro gk hg w_15 H1 hb; have hB_17 := Lib.hid (below_step hB_14.out hb); have G_gk := Lib.hid (show w.heap.size ≤ gk by rw [hg]; exact (hB_14.out).size); have N_ga_gk := Lib.hid (show ga ≠ gk by rw [hg]; exact Nat.ne_of_lt (K_ga.out.lt)); have N_gt_gk := Lib.hid (show gt ≠ gk by rw [hg]; exact Nat.ne_of_lt (blk_lt K_gt.out)); replace K_ga := Lib.hid (K_ga.out.below hb); replace K_gt := Lib.hid (blk_below K_gt.out hb); have K_gk := Lib.hid (show Hb w_15 gk Ht.zero from H1); clear hg hb H1 hB_14) | (refine store_hart rfl (.tmp 5) (.tmp 12) rfl gk k rfl rfl Ht.zero K_gk.out ?_; have hB_18 := Lib.hid (setCells_below G_gk.out (Ht.cs k).toList 0 _ hB_17.out); replace K_ga := Lib.hid (Hb.farAll (vs := (Ht.cs k).toList) (o := 0) N_ga_gk.out K_ga.out); replace K_gt := Lib.hid (setCells_far' (vs := (Ht.cs k).toList) (o := 0) N_gt_gk.out K_gt.out); replace K_gk := Lib.hid (Hb.putAll k K_gk.out); clear hB_17; generalize World.setCells w_15 gk 0 (Ht.cs k).toList = w_16 at K_ga K_gt K_gk hB_18 ⊢))
      go_upto_region 5 with (first | ((with_reducible refine gate_dst (N := 6) rfl ?_); refine box_event ?hg (N := 6) ?hd (cs := Ht.zero.cs) (t := 25) ?hr ?_; (case hd => rfl); (case hg => rfl); (case hr => first | (go_simp; done) | (go_simp; rfl)); intro gb hg w_19 H1 hb; have hB_20 := Lib.hid (below_step hB_18.out hb); have G_gb := Lib.hid (show w.heap.size ≤ gb by rw [hg]; exact (hB_18.out).size); have N_ga_gb := Lib.hid (show ga ≠ gb by rw [hg]; exact Nat.ne_of_lt (K_ga.out.lt)); have N_gt_gb := Lib.hid (show gt ≠ gb by rw [hg]; exact Nat.ne_of_lt (blk_lt K_gt.out)); have N_gk_gb := Lib.hid (show gk ≠ gb by rw [hg]; exact Nat.ne_of_lt (K_gk.out.lt)); replace K_ga := Lib.hid (K_ga.out.below hb); replace K_gt := Lib.hid (blk_below K_gt.out hb); replace K_gk := Lib.hid (K_gk.out.below hb); have K_gb := Lib.hid (show Hb w_19 gb Ht.zero from H1); clear hg hb H1 hB_18))
      have c_gt_1 := (show World.cell? _ ⟨gt, 1, none⟩ = some (.int .u64 tc) from (blk_cell K_gt.out 1).trans rfl); have f_gt_1 := blk_frozen K_gt.out 1
      go_wp2_with (first | ((with_reducible refine gate_dst (N := 13) rfl ?_); (first | (refine gate_guard (by kernel_rfl) ?_) | skip); refine Kd.event_run rfl (v := .agg (f).cs) (w1 := w_19) ?hb ?_; (case hb => exact exec_load_hart rfl rfl K_ga.out)))
      refine (HTO.out _).mono ?_
      rintro e_21 w_22 ⟨rfl, hb⟩
      clear c_gt_1 f_gt_1
      have hB_23 := Lib.hid (below_step hB_20.out hb)
      replace K_ga := Lib.hid (K_ga.out.below hb)
      replace K_gt := Lib.hid (blk_below K_gt.out hb)
      replace K_gk := Lib.hid (K_gk.out.below hb)
      replace K_gb := Lib.hid (K_gb.out.below hb)
      clear hb hB_20
      have c_gt_1 := (show World.cell? _ ⟨gt, 1, none⟩ = some (.int .u64 tc) from (blk_cell K_gt.out 1).trans rfl); have f_gt_1 := blk_frozen K_gt.out 1
      have c_gk_33 := K_gk.out.p; have f_gk_33 := K_gk.out.fr 33
      have c_gk_34 := K_gk.out.cv; have f_gk_34 := K_gk.out.fr 34
      go_upto_region 8 with fail
      clear c_gt_1 f_gt_1 c_gk_33 f_gk_33 c_gk_34 f_gk_34
      go_wp2_with (first | ((with_reducible refine gate_dst (N := 25) rfl ?_); (first | (refine gate_guard (by kernel_rfl) ?_) | skip); refine Kd.event_run rfl (v := .agg (k).cs) (w1 := w_22) ?hb ?_; (case hb => exact exec_load_hart rfl rfl K_gk.out)))
      refine (HB.out _).mono ?_
      rintro e_24 w_25 ⟨rfl, hb⟩
      have hB_26 := Lib.hid (below_step hB_23.out hb)
      replace K_ga := Lib.hid (K_ga.out.below hb)
      replace K_gt := Lib.hid (blk_below K_gt.out hb)
      replace K_gk := Lib.hid (K_gk.out.below hb)
      replace K_gb := Lib.hid (K_gb.out.below hb)
      clear hb hB_23
      go_upto_region 23 with (first | (refine store_hart rfl (.tmp 6) (.tmp 26) rfl gb (b) rfl rfl (Ht.zero) K_gb.out ?_; have hB_28 := Lib.hid (setCells_below G_gb.out (Ht.cs (b)).toList 0 _ hB_26.out); replace K_ga := Lib.hid (Hb.farAll (vs := (Ht.cs (b)).toList) (o := 0) N_ga_gb.out K_ga.out); replace K_gt := Lib.hid (setCells_far' (vs := (Ht.cs (b)).toList) (o := 0) N_gt_gb.out K_gt.out); replace K_gk := Lib.hid (Hb.farAll (vs := (Ht.cs (b)).toList) (o := 0) N_gk_gb.out K_gk.out); replace K_gb := Lib.hid (Hb.putAll (b) K_gb.out); clear hB_26; generalize World.setCells w_25 gb 0 (Ht.cs (b)).toList = w_27 at K_ga K_gt K_gk K_gb hB_28 ⊢; have c_gb_68 := K_gb.out.u 68 rfl; have f_gb_68 := K_gb.out.fr 68; have c_ga_68 := K_ga.out.u 68 rfl; have f_ga_68 := K_ga.out.fr 68))
      clear c_gb_68 f_gb_68 c_ga_68 f_ga_68
      have c_ga_0 := K_ga.out.u 0 rfl; have f_ga_0 := K_ga.out.fr 0
      have c_ga_33 := K_ga.out.p; have f_ga_33 := K_ga.out.fr 33
      have c_ga_34 := K_ga.out.cv; have f_ga_34 := K_ga.out.fr 34
      have c_gb_0 := K_gb.out.u 0 rfl; have f_gb_0 := K_gb.out.fr 0
      have c_gb_33 := K_gb.out.p; have f_gb_33 := K_gb.out.fr 33
      have c_gb_34 := K_gb.out.cv; have f_gb_34 := K_gb.out.fr 34
      go_wp2_with (first | ((with_reducible refine gate_dst (N := 111) rfl ?_); (first | (refine gate_guard (by kernel_rfl) ?_) | skip); refine Kd.event_run rfl (v := .agg (xlit b)) (w1 := w_27) ?hb ?_; (case hb => exact exec_loadX rfl rfl K_gb.out)) | ((with_reducible refine gate_dst (N := 113) rfl ?_); (first | (refine gate_guard (by kernel_rfl) ?_) | skip); refine Kd.event_run rfl (v := .agg (xlit f)) (w1 := w_27) ?hb ?_; (case hb => exact exec_loadX rfl rfl K_ga.out)) | ((with_reducible refine gate_dst (N := 114) rfl ?_); (first | (refine gate_guard (by kernel_rfl) ?_) | skip); refine Kd.event_run rfl (v := .bool true) (w1 := w_27) ?hb ?_; (case hb => exact exec_eqX (h := b) (k := f) rfl rfl rfl HX.out)))
      refine (wakes_c _).mono ?_
      rintro e_29 w_30 ⟨rfl, hb⟩
      clear c_ga_0 f_ga_0 c_ga_33 f_ga_33 c_ga_34 f_ga_34 c_gb_0 f_gb_0 c_gb_33 f_gb_33 c_gb_34 f_gb_34
      have hB_31 := Lib.hid (below_step hB_28.out hb)
      replace K_ga := Lib.hid (K_ga.out.below hb)
      replace K_gt := Lib.hid (blk_below K_gt.out hb)
      replace K_gk := Lib.hid (K_gk.out.below hb)
      replace K_gb := Lib.hid (K_gb.out.below hb)
      clear hb hB_28
      go_wp2
      go_ret
      exact ⟨rfl, hB_31.out⟩
    · skip
      obtain ⟨b1, b2, b3, b4, b5⟩ := bH t0 t1
      clear bM bH bG
      have hb := sret_c k
      generalize sret k = b at *
      have HB := Lib.hid hb
      clear hb
      have q1 : (k.x 33 != 1) = false := by rw [b1]; rfl
      have q3 : (k.x 55 != tc) = false := by rw [b3, bne_self_eq_false]
      clear b1 b3
      obtain ⟨s1, s2, s3, s4⟩ := b5
      have HX := Lib.hid s4
      clear s4
      have hu25 := Tryd.underlying25; have hu27 := Tryd.underlying27
      go_enter Tryd.func3, Tryd.ntmps3
      go_upto_region 1 with (first | ((with_reducible refine gate_dst (N := 2) rfl ?_); refine box_event ?hg (N := 2) ?hd (cs := h.cs) (t := 25) ?hr ?_; (case hd => rfl); (case hg => rfl); (case hr => first | (go_simp; done) | (go_simp; rfl)); intro ga hg w_1 H1 hb; have hB_2 := Lib.hid (below_step (Below.refl w.heap.size w) hb); have G_ga := Lib.hid (show w.heap.size ≤ ga by rw [hg]; exact ((Below.refl w.heap.size w)).size); have K_ga := Lib.hid (show Hb w_1 ga h from H1); clear hg hb H1) | ((with_reducible refine gate_dst (N := 3) rfl ?_); refine box_event ?hg (N := 3) ?hd (cs := #[.bool ti, .int .u64 tc, .int .u64 tv, .int .u64 tv2, .int .u64 tn, .bool tg]) (t := 27) ?hr ?_; (case hd => rfl); (case hg => rfl); (case hr => first | (go_simp; done) | (go_simp; rfl)); intro gt hg w_3 H1 hb; have hB_4 := Lib.hid (below_step hB_2.out hb); have G_gt := Lib.hid (show w.heap.size ≤ gt by rw [hg]; exact (hB_2.out).size); have N_ga_gt := Lib.hid (show ga ≠ gt by rw [hg]; exact Nat.ne_of_lt (K_ga.out.lt)); replace K_ga := Lib.hid (K_ga.out.below hb); have K_gt := Lib.hid (show w_3.heap[gt]? = some (.cells #[.bool ti, .int .u64 tc, .int .u64 tv, .int .u64 tv2, .int .u64 tn, .bool tg] 27 (0, 0)) from H1); clear hg hb H1 hB_2; clear hu27))
      go_wp2_with (first | ((with_reducible refine gate_dst (N := 7) rfl ?_); (first | (refine gate_guard (by kernel_rfl) ?_) | skip); refine Kd.event_run rfl (v := .agg (h).cs) (w1 := w_3) ?hb ?_; (case hb => exact exec_load_hart rfl rfl K_ga.out)))
      refine (HF.out _ (Tab.from HT.out hB_4.out)).mono ?_
      rintro e_5 w_6 ⟨rfl, hb⟩
      have hB_7 := Lib.hid (below_step hB_4.out hb)
      replace K_ga := Lib.hid (K_ga.out.below hb)
      replace K_gt := Lib.hid (blk_below K_gt.out hb)
      clear hb hB_4
      go_upto_region 3 with (first | (refine store_hart rfl (.tmp 2) (.tmp 8) rfl ga (f) rfl rfl (h) K_ga.out ?_; have hB_9 := Lib.hid (setCells_below G_ga.out (Ht.cs (f)).toList 0 _ hB_7.out); replace K_gt := Lib.hid (setCells_far' (vs := (Ht.cs (f)).toList) (o := 0) (Ne.symm N_ga_gt.out) K_gt.out); replace K_ga := Lib.hid (Hb.putAll (f) K_ga.out); clear hB_7; generalize World.setCells w_6 ga 0 (Ht.cs (f)).toList = w_8 at K_ga K_gt hB_9 ⊢; have c_gt_0 := (show World.cell? _ ⟨gt, 0, none⟩ = some (.bool ti) from (blk_cell K_gt.out 0).trans rfl); have f_gt_0 := blk_frozen K_gt.out 0))
      refine world_code ga (by repeat (with_reducible first | exact K_ga.out | apply Hb.put | apply Hb.putP | apply Hb.putV | apply Hb.putW | apply Hb.putH | apply Hb.far N_ga_gt.out | apply Hb.drewN | apply Hb.drew)) (fun w' => Below w.heap.size w w' ∧ w'.heap[gt]? = some (.cells #[.bool true, .int .u64 tc, .int .u64 tv, .int .u64 tv2, .int .u64 tn, .bool tg] 27 (0, 0))) ⟨(by repeat (first | (with_reducible first | exact hB_9.out | apply pw_below_drewN | apply below_drew1 | refine below_set ?_ G_ga.out | refine below_set ?_ G_gt.out) | exact hB_9.out)), (blk_put K_gt.out 0 _ rfl)⟩ ?_
      clear c_gt_0 f_gt_0
      clear K_ga K_gt hB_9
      rintro w_10 q_ ⟨b_, q_gt⟩
      have K_ga := Lib.hid q_; have hB_11 := Lib.hid b_; have K_gt := Lib.hid q_gt
      clear q_ b_ q_gt
      go_wp2_with (first | ((with_reducible refine gate_dst (N := 10) rfl ?_); (first | (refine gate_guard (by kernel_rfl) ?_) | skip); refine Kd.event_run rfl (v := .agg (f).cs) (w1 := w_10) ?hb ?_; (case hb => exact exec_load_hart rfl rfl K_ga.out)) | ((with_reducible refine gate_dst (N := 11) rfl ?_); (first | (refine gate_guard (by kernel_rfl) ?_) | skip); refine Kd.event_run rfl (v := .agg #[.bool true, .int .u64 tc, .int .u64 tv, .int .u64 tv2, .int .u64 tn, .bool tg]) (w1 := w_10) ?hb ?_; (case hb => exact exec_load_blk rfl rfl K_gt.out Tryd.underlying27 rfl (by kernel_rfl))))
      refine (HEN.out _).mono ?_
      rintro e_12 w_13 ⟨rfl, hb⟩
      have hB_14 := Lib.hid (below_step hB_11.out hb)
      replace K_ga := Lib.hid (K_ga.out.below hb)
      replace K_gt := Lib.hid (blk_below K_gt.out hb)
      clear hb hB_11
      go_upto_region 4 with (first | ((with_reducible refine gate_dst (N := 5) rfl ?_); refine box_event ?hg (N := 5) ?hd (cs := Ht.zero.cs) (t := 25) ?hr ?_; (case hd => rfl); (case hg => rfl); (case hr => first | (go_simp; done) | (go_simp; rfl)); intro gk hg w_15 H1 hb; have hB_17 := Lib.hid (below_step hB_14.out hb); have G_gk := Lib.hid (show w.heap.size ≤ gk by rw [hg]; exact (hB_14.out).size); have N_ga_gk := Lib.hid (show ga ≠ gk by rw [hg]; exact Nat.ne_of_lt (K_ga.out.lt)); have N_gt_gk := Lib.hid (show gt ≠ gk by rw [hg]; exact Nat.ne_of_lt (blk_lt K_gt.out)); replace K_ga := Lib.hid (K_ga.out.below hb); replace K_gt := Lib.hid (blk_below K_gt.out hb); have K_gk := Lib.hid (show Hb w_15 gk Ht.zero from H1); clear hg hb H1 hB_14) | (refine store_hart rfl (.tmp 5) (.tmp 12) rfl gk k rfl rfl Ht.zero K_gk.out ?_; have hB_18 := Lib.hid (setCells_below G_gk.out (Ht.cs k).toList 0 _ hB_17.out); replace K_ga := Lib.hid (Hb.farAll (vs := (Ht.cs k).toList) (o := 0) N_ga_gk.out K_ga.out); replace K_gt := Lib.hid (setCells_far' (vs := (Ht.cs k).toList) (o := 0) N_gt_gk.out K_gt.out); replace K_gk := Lib.hid (Hb.putAll k K_gk.out); clear hB_17; generalize World.setCells w_15 gk 0 (Ht.cs k).toList = w_16 at K_ga K_gt K_gk hB_18 ⊢))
      go_upto_region 5 with (first | ((with_reducible refine gate_dst (N := 6) rfl ?_); refine box_event ?hg (N := 6) ?hd (cs := Ht.zero.cs) (t := 25) ?hr ?_; (case hd => rfl); (case hg => rfl); (case hr => first | (go_simp; done) | (go_simp; rfl)); intro gb hg w_19 H1 hb; have hB_20 := Lib.hid (below_step hB_18.out hb); have G_gb := Lib.hid (show w.heap.size ≤ gb by rw [hg]; exact (hB_18.out).size); have N_ga_gb := Lib.hid (show ga ≠ gb by rw [hg]; exact Nat.ne_of_lt (K_ga.out.lt)); have N_gt_gb := Lib.hid (show gt ≠ gb by rw [hg]; exact Nat.ne_of_lt (blk_lt K_gt.out)); have N_gk_gb := Lib.hid (show gk ≠ gb by rw [hg]; exact Nat.ne_of_lt (K_gk.out.lt)); replace K_ga := Lib.hid (K_ga.out.below hb); replace K_gt := Lib.hid (blk_below K_gt.out hb); replace K_gk := Lib.hid (K_gk.out.below hb); have K_gb := Lib.hid (show Hb w_19 gb Ht.zero from H1); clear hg hb H1 hB_18))
      have c_gt_1 := (show World.cell? _ ⟨gt, 1, none⟩ = some (.int .u64 tc) from (blk_cell K_gt.out 1).trans rfl); have f_gt_1 := blk_frozen K_gt.out 1
      go_wp2_with (first | ((with_reducible refine gate_dst (N := 13) rfl ?_); (first | (refine gate_guard (by kernel_rfl) ?_) | skip); refine Kd.event_run rfl (v := .agg (f).cs) (w1 := w_19) ?hb ?_; (case hb => exact exec_load_hart rfl rfl K_ga.out)))
      refine (HTO.out _).mono ?_
      rintro e_21 w_22 ⟨rfl, hb⟩
      clear c_gt_1 f_gt_1
      have hB_23 := Lib.hid (below_step hB_20.out hb)
      replace K_ga := Lib.hid (K_ga.out.below hb)
      replace K_gt := Lib.hid (blk_below K_gt.out hb)
      replace K_gk := Lib.hid (K_gk.out.below hb)
      replace K_gb := Lib.hid (K_gb.out.below hb)
      clear hb hB_20
      have c_gt_1 := (show World.cell? _ ⟨gt, 1, none⟩ = some (.int .u64 tc) from (blk_cell K_gt.out 1).trans rfl); have f_gt_1 := blk_frozen K_gt.out 1
      have c_gk_33 := K_gk.out.p; have f_gk_33 := K_gk.out.fr 33
      have c_gk_34 := K_gk.out.cv; have f_gk_34 := K_gk.out.fr 34
      have c_gk_55 := K_gk.out.u 55 rfl; have f_gk_55 := K_gk.out.fr 55
      go_upto_region 20 with fail
      clear c_gt_1 f_gt_1 c_gk_33 f_gk_33 c_gk_34 f_gk_34 c_gk_55 f_gk_55
      go_wp2_with (first | ((with_reducible refine gate_dst (N := 79) rfl ?_); (first | (refine gate_guard (by kernel_rfl) ?_) | skip); refine Kd.event_run rfl (v := .agg (k).cs) (w1 := w_22) ?hb ?_; (case hb => exact exec_load_hart rfl rfl K_gk.out)))
      refine (HB.out _).mono ?_
      rintro e_24 w_25 ⟨rfl, hb⟩
      have hB_26 := Lib.hid (below_step hB_23.out hb)
      replace K_ga := Lib.hid (K_ga.out.below hb)
      replace K_gt := Lib.hid (blk_below K_gt.out hb)
      replace K_gk := Lib.hid (K_gk.out.below hb)
      replace K_gb := Lib.hid (K_gb.out.below hb)
      clear hb hB_23
      go_upto_region 23 with (first | (refine store_hart rfl (.tmp 6) (.tmp 80) rfl gb (b) rfl rfl (Ht.zero) K_gb.out ?_; have hB_28 := Lib.hid (setCells_below G_gb.out (Ht.cs (b)).toList 0 _ hB_26.out); replace K_ga := Lib.hid (Hb.farAll (vs := (Ht.cs (b)).toList) (o := 0) N_ga_gb.out K_ga.out); replace K_gt := Lib.hid (setCells_far' (vs := (Ht.cs (b)).toList) (o := 0) N_gt_gb.out K_gt.out); replace K_gk := Lib.hid (Hb.farAll (vs := (Ht.cs (b)).toList) (o := 0) N_gk_gb.out K_gk.out); replace K_gb := Lib.hid (Hb.putAll (b) K_gb.out); clear hB_26; generalize World.setCells w_25 gb 0 (Ht.cs (b)).toList = w_27 at K_ga K_gt K_gk K_gb hB_28 ⊢; have c_gb_38 := K_gb.out.u 38 rfl; have f_gb_38 := K_gb.out.fr 38; have c_ga_38 := K_ga.out.u 38 rfl; have f_ga_38 := K_ga.out.fr 38))
      clear c_gb_38 f_gb_38 c_ga_38 f_ga_38
      have c_ga_0 := K_ga.out.u 0 rfl; have f_ga_0 := K_ga.out.fr 0
      have c_ga_33 := K_ga.out.p; have f_ga_33 := K_ga.out.fr 33
      have c_ga_34 := K_ga.out.cv; have f_ga_34 := K_ga.out.fr 34
      have c_gb_0 := K_gb.out.u 0 rfl; have f_gb_0 := K_gb.out.fr 0
      have c_gb_33 := K_gb.out.p; have f_gb_33 := K_gb.out.fr 33
      have c_gb_34 := K_gb.out.cv; have f_gb_34 := K_gb.out.fr 34
      go_wp2_with (first | ((with_reducible refine gate_dst (N := 111) rfl ?_); (first | (refine gate_guard (by kernel_rfl) ?_) | skip); refine Kd.event_run rfl (v := .agg (xlit b)) (w1 := w_27) ?hb ?_; (case hb => exact exec_loadX rfl rfl K_gb.out)) | ((with_reducible refine gate_dst (N := 113) rfl ?_); (first | (refine gate_guard (by kernel_rfl) ?_) | skip); refine Kd.event_run rfl (v := .agg (xlit f)) (w1 := w_27) ?hb ?_; (case hb => exact exec_loadX rfl rfl K_ga.out)) | ((with_reducible refine gate_dst (N := 114) rfl ?_); (first | (refine gate_guard (by kernel_rfl) ?_) | skip); refine Kd.event_run rfl (v := .bool true) (w1 := w_27) ?hb ?_; (case hb => exact exec_eqX (h := b) (k := f) rfl rfl rfl HX.out)))
      refine (wakes_c _).mono ?_
      rintro e_29 w_30 ⟨rfl, hb⟩
      clear c_ga_0 f_ga_0 c_ga_33 f_ga_33 c_ga_34 f_ga_34 c_gb_0 f_gb_0 c_gb_33 f_gb_33 c_gb_34 f_gb_34
      have hB_31 := Lib.hid (below_step hB_28.out hb)
      replace K_ga := Lib.hid (K_ga.out.below hb)
      replace K_gt := Lib.hid (blk_below K_gt.out hb)
      replace K_gk := Lib.hid (K_gk.out.below hb)
      replace K_gb := Lib.hid (K_gb.out.below hb)
      clear hb hB_28
      go_wp2
      go_ret
      exact ⟨rfl, hB_31.out⟩
  · skip
    obtain ⟨b1, b2, b3, b4, b5⟩ := bM t0
    clear bM bH bG
    have hb := mret_c k
    generalize mret k = b at *
    have HB := Lib.hid hb
    clear hb
    have q1 : (k.x 33 != 3) = false := by rw [b1]; rfl
    have q3 : (k.x 47 != tc) = false := by rw [b3, bne_self_eq_false]
    clear b1 b3
    obtain ⟨s1, s2, s3, s4⟩ := b5
    have HX := Lib.hid s4
    clear s4
    have hu25 := Tryd.underlying25; have hu27 := Tryd.underlying27
    go_enter Tryd.func3, Tryd.ntmps3
    go_upto_region 1 with (first | ((with_reducible refine gate_dst (N := 2) rfl ?_); refine box_event ?hg (N := 2) ?hd (cs := h.cs) (t := 25) ?hr ?_; (case hd => rfl); (case hg => rfl); (case hr => first | (go_simp; done) | (go_simp; rfl)); intro ga hg w_1 H1 hb; have hB_2 := Lib.hid (below_step (Below.refl w.heap.size w) hb); have G_ga := Lib.hid (show w.heap.size ≤ ga by rw [hg]; exact ((Below.refl w.heap.size w)).size); have K_ga := Lib.hid (show Hb w_1 ga h from H1); clear hg hb H1) | ((with_reducible refine gate_dst (N := 3) rfl ?_); refine box_event ?hg (N := 3) ?hd (cs := #[.bool ti, .int .u64 tc, .int .u64 tv, .int .u64 tv2, .int .u64 tn, .bool tg]) (t := 27) ?hr ?_; (case hd => rfl); (case hg => rfl); (case hr => first | (go_simp; done) | (go_simp; rfl)); intro gt hg w_3 H1 hb; have hB_4 := Lib.hid (below_step hB_2.out hb); have G_gt := Lib.hid (show w.heap.size ≤ gt by rw [hg]; exact (hB_2.out).size); have N_ga_gt := Lib.hid (show ga ≠ gt by rw [hg]; exact Nat.ne_of_lt (K_ga.out.lt)); replace K_ga := Lib.hid (K_ga.out.below hb); have K_gt := Lib.hid (show w_3.heap[gt]? = some (.cells #[.bool ti, .int .u64 tc, .int .u64 tv, .int .u64 tv2, .int .u64 tn, .bool tg] 27 (0, 0)) from H1); clear hg hb H1 hB_2; clear hu27))
    go_wp2_with (first | ((with_reducible refine gate_dst (N := 7) rfl ?_); (first | (refine gate_guard (by kernel_rfl) ?_) | skip); refine Kd.event_run rfl (v := .agg (h).cs) (w1 := w_3) ?hb ?_; (case hb => exact exec_load_hart rfl rfl K_ga.out)))
    refine (HF.out _ (Tab.from HT.out hB_4.out)).mono ?_
    rintro e_5 w_6 ⟨rfl, hb⟩
    have hB_7 := Lib.hid (below_step hB_4.out hb)
    replace K_ga := Lib.hid (K_ga.out.below hb)
    replace K_gt := Lib.hid (blk_below K_gt.out hb)
    clear hb hB_4
    go_upto_region 3 with (first | (refine store_hart rfl (.tmp 2) (.tmp 8) rfl ga (f) rfl rfl (h) K_ga.out ?_; have hB_9 := Lib.hid (setCells_below G_ga.out (Ht.cs (f)).toList 0 _ hB_7.out); replace K_gt := Lib.hid (setCells_far' (vs := (Ht.cs (f)).toList) (o := 0) (Ne.symm N_ga_gt.out) K_gt.out); replace K_ga := Lib.hid (Hb.putAll (f) K_ga.out); clear hB_7; generalize World.setCells w_6 ga 0 (Ht.cs (f)).toList = w_8 at K_ga K_gt hB_9 ⊢; have c_gt_0 := (show World.cell? _ ⟨gt, 0, none⟩ = some (.bool ti) from (blk_cell K_gt.out 0).trans rfl); have f_gt_0 := blk_frozen K_gt.out 0))
    refine world_code ga (by repeat (with_reducible first | exact K_ga.out | apply Hb.put | apply Hb.putP | apply Hb.putV | apply Hb.putW | apply Hb.putH | apply Hb.far N_ga_gt.out | apply Hb.drewN | apply Hb.drew)) (fun w' => Below w.heap.size w w' ∧ w'.heap[gt]? = some (.cells #[.bool true, .int .u64 tc, .int .u64 tv, .int .u64 tv2, .int .u64 tn, .bool tg] 27 (0, 0))) ⟨(by repeat (first | (with_reducible first | exact hB_9.out | apply pw_below_drewN | apply below_drew1 | refine below_set ?_ G_ga.out | refine below_set ?_ G_gt.out) | exact hB_9.out)), (blk_put K_gt.out 0 _ rfl)⟩ ?_
    clear c_gt_0 f_gt_0
    clear K_ga K_gt hB_9
    rintro w_10 q_ ⟨b_, q_gt⟩
    have K_ga := Lib.hid q_; have hB_11 := Lib.hid b_; have K_gt := Lib.hid q_gt
    clear q_ b_ q_gt
    go_wp2_with (first | ((with_reducible refine gate_dst (N := 10) rfl ?_); (first | (refine gate_guard (by kernel_rfl) ?_) | skip); refine Kd.event_run rfl (v := .agg (f).cs) (w1 := w_10) ?hb ?_; (case hb => exact exec_load_hart rfl rfl K_ga.out)) | ((with_reducible refine gate_dst (N := 11) rfl ?_); (first | (refine gate_guard (by kernel_rfl) ?_) | skip); refine Kd.event_run rfl (v := .agg #[.bool true, .int .u64 tc, .int .u64 tv, .int .u64 tv2, .int .u64 tn, .bool tg]) (w1 := w_10) ?hb ?_; (case hb => exact exec_load_blk rfl rfl K_gt.out Tryd.underlying27 rfl (by kernel_rfl))))
    refine (HEN.out _).mono ?_
    rintro e_12 w_13 ⟨rfl, hb⟩
    have hB_14 := Lib.hid (below_step hB_11.out hb)
    replace K_ga := Lib.hid (K_ga.out.below hb)
    replace K_gt := Lib.hid (blk_below K_gt.out hb)
    clear hb hB_11
    go_upto_region 4 with (first | ((with_reducible refine gate_dst (N := 5) rfl ?_); refine box_event ?hg (N := 5) ?hd (cs := Ht.zero.cs) (t := 25) ?hr ?_; (case hd => rfl); (case hg => rfl); (case hr => first | (go_simp; done) | (go_simp; rfl)); intro gk hg w_15 H1 hb; have hB_17 := Lib.hid (below_step hB_14.out hb); have G_gk := Lib.hid (show w.heap.size ≤ gk by rw [hg]; exact (hB_14.out).size); have N_ga_gk := Lib.hid (show ga ≠ gk by rw [hg]; exact Nat.ne_of_lt (K_ga.out.lt)); have N_gt_gk := Lib.hid (show gt ≠ gk by rw [hg]; exact Nat.ne_of_lt (blk_lt K_gt.out)); replace K_ga := Lib.hid (K_ga.out.below hb); replace K_gt := Lib.hid (blk_below K_gt.out hb); have K_gk := Lib.hid (show Hb w_15 gk Ht.zero from H1); clear hg hb H1 hB_14) | (refine store_hart rfl (.tmp 5) (.tmp 12) rfl gk k rfl rfl Ht.zero K_gk.out ?_; have hB_18 := Lib.hid (setCells_below G_gk.out (Ht.cs k).toList 0 _ hB_17.out); replace K_ga := Lib.hid (Hb.farAll (vs := (Ht.cs k).toList) (o := 0) N_ga_gk.out K_ga.out); replace K_gt := Lib.hid (setCells_far' (vs := (Ht.cs k).toList) (o := 0) N_gt_gk.out K_gt.out); replace K_gk := Lib.hid (Hb.putAll k K_gk.out); clear hB_17; generalize World.setCells w_15 gk 0 (Ht.cs k).toList = w_16 at K_ga K_gt K_gk hB_18 ⊢))
    go_upto_region 5 with (first | ((with_reducible refine gate_dst (N := 6) rfl ?_); refine box_event ?hg (N := 6) ?hd (cs := Ht.zero.cs) (t := 25) ?hr ?_; (case hd => rfl); (case hg => rfl); (case hr => first | (go_simp; done) | (go_simp; rfl)); intro gb hg w_19 H1 hb; have hB_20 := Lib.hid (below_step hB_18.out hb); have G_gb := Lib.hid (show w.heap.size ≤ gb by rw [hg]; exact (hB_18.out).size); have N_ga_gb := Lib.hid (show ga ≠ gb by rw [hg]; exact Nat.ne_of_lt (K_ga.out.lt)); have N_gt_gb := Lib.hid (show gt ≠ gb by rw [hg]; exact Nat.ne_of_lt (blk_lt K_gt.out)); have N_gk_gb := Lib.hid (show gk ≠ gb by rw [hg]; exact Nat.ne_of_lt (K_gk.out.lt)); replace K_ga := Lib.hid (K_ga.out.below hb); replace K_gt := Lib.hid (blk_below K_gt.out hb); replace K_gk := Lib.hid (K_gk.out.below hb); have K_gb := Lib.hid (show Hb w_19 gb Ht.zero from H1); clear hg hb H1 hB_18))
    have c_gt_1 := (show World.cell? _ ⟨gt, 1, none⟩ = some (.int .u64 tc) from (blk_cell K_gt.out 1).trans rfl); have f_gt_1 := blk_frozen K_gt.out 1
    go_wp2_with (first | ((with_reducible refine gate_dst (N := 13) rfl ?_); (first | (refine gate_guard (by kernel_rfl) ?_) | skip); refine Kd.event_run rfl (v := .agg (f).cs) (w1 := w_19) ?hb ?_; (case hb => exact exec_load_hart rfl rfl K_ga.out)))
    refine (HTO.out _).mono ?_
    rintro e_21 w_22 ⟨rfl, hb⟩
    clear c_gt_1 f_gt_1
    have hB_23 := Lib.hid (below_step hB_20.out hb)
    replace K_ga := Lib.hid (K_ga.out.below hb)
    replace K_gt := Lib.hid (blk_below K_gt.out hb)
    replace K_gk := Lib.hid (K_gk.out.below hb)
    replace K_gb := Lib.hid (K_gb.out.below hb)
    clear hb hB_20
    have c_gt_1 := (show World.cell? _ ⟨gt, 1, none⟩ = some (.int .u64 tc) from (blk_cell K_gt.out 1).trans rfl); have f_gt_1 := blk_frozen K_gt.out 1
    have c_gk_33 := K_gk.out.p; have f_gk_33 := K_gk.out.fr 33
    have c_gk_34 := K_gk.out.cv; have f_gk_34 := K_gk.out.fr 34
    have c_gk_47 := K_gk.out.u 47 rfl; have f_gk_47 := K_gk.out.fr 47
    go_upto_region 14 with fail
    clear c_gt_1 f_gt_1 c_gk_33 f_gk_33 c_gk_34 f_gk_34 c_gk_47 f_gk_47
    go_wp2_with (first | ((with_reducible refine gate_dst (N := 52) rfl ?_); (first | (refine gate_guard (by kernel_rfl) ?_) | skip); refine Kd.event_run rfl (v := .agg (k).cs) (w1 := w_22) ?hb ?_; (case hb => exact exec_load_hart rfl rfl K_gk.out)))
    refine (HB.out _).mono ?_
    rintro e_24 w_25 ⟨rfl, hb⟩
    have hB_26 := Lib.hid (below_step hB_23.out hb)
    replace K_ga := Lib.hid (K_ga.out.below hb)
    replace K_gt := Lib.hid (blk_below K_gt.out hb)
    replace K_gk := Lib.hid (K_gk.out.below hb)
    replace K_gb := Lib.hid (K_gb.out.below hb)
    clear hb hB_23
    go_upto_region 23 with (first | (refine store_hart rfl (.tmp 6) (.tmp 53) rfl gb (b) rfl rfl (Ht.zero) K_gb.out ?_; have hB_28 := Lib.hid (setCells_below G_gb.out (Ht.cs (b)).toList 0 _ hB_26.out); replace K_ga := Lib.hid (Hb.farAll (vs := (Ht.cs (b)).toList) (o := 0) N_ga_gb.out K_ga.out); replace K_gt := Lib.hid (setCells_far' (vs := (Ht.cs (b)).toList) (o := 0) N_gt_gb.out K_gt.out); replace K_gk := Lib.hid (Hb.farAll (vs := (Ht.cs (b)).toList) (o := 0) N_gk_gb.out K_gk.out); replace K_gb := Lib.hid (Hb.putAll (b) K_gb.out); clear hB_26; generalize World.setCells w_25 gb 0 (Ht.cs (b)).toList = w_27 at K_ga K_gt K_gk K_gb hB_28 ⊢; have c_gb_38 := K_gb.out.u 38 rfl; have f_gb_38 := K_gb.out.fr 38; have c_ga_38 := K_ga.out.u 38 rfl; have f_ga_38 := K_ga.out.fr 38))
    clear c_gb_38 f_gb_38 c_ga_38 f_ga_38
    have c_ga_0 := K_ga.out.u 0 rfl; have f_ga_0 := K_ga.out.fr 0
    have c_ga_33 := K_ga.out.p; have f_ga_33 := K_ga.out.fr 33
    have c_ga_34 := K_ga.out.cv; have f_ga_34 := K_ga.out.fr 34
    have c_gb_0 := K_gb.out.u 0 rfl; have f_gb_0 := K_gb.out.fr 0
    have c_gb_33 := K_gb.out.p; have f_gb_33 := K_gb.out.fr 33
    have c_gb_34 := K_gb.out.cv; have f_gb_34 := K_gb.out.fr 34
    go_wp2_with (first | ((with_reducible refine gate_dst (N := 111) rfl ?_); (first | (refine gate_guard (by kernel_rfl) ?_) | skip); refine Kd.event_run rfl (v := .agg (xlit b)) (w1 := w_27) ?hb ?_; (case hb => exact exec_loadX rfl rfl K_gb.out)) | ((with_reducible refine gate_dst (N := 113) rfl ?_); (first | (refine gate_guard (by kernel_rfl) ?_) | skip); refine Kd.event_run rfl (v := .agg (xlit f)) (w1 := w_27) ?hb ?_; (case hb => exact exec_loadX rfl rfl K_ga.out)) | ((with_reducible refine gate_dst (N := 114) rfl ?_); (first | (refine gate_guard (by kernel_rfl) ?_) | skip); refine Kd.event_run rfl (v := .bool true) (w1 := w_27) ?hb ?_; (case hb => exact exec_eqX (h := b) (k := f) rfl rfl rfl HX.out)))
    refine (wakes_c _).mono ?_
    rintro e_29 w_30 ⟨rfl, hb⟩
    clear c_ga_0 f_ga_0 c_ga_33 f_ga_33 c_ga_34 f_ga_34 c_gb_0 f_gb_0 c_gb_33 f_gb_33 c_gb_34 f_gb_34
    have hB_31 := Lib.hid (below_step hB_28.out hb)
    replace K_ga := Lib.hid (K_ga.out.below hb)
    replace K_gt := Lib.hid (blk_below K_gt.out hb)
    replace K_gk := Lib.hid (K_gk.out.below hb)
    replace K_gb := Lib.hid (K_gb.out.below hb)
    clear hb hB_28
    go_wp2
    go_ret
    exact ⟨rfl, hB_31.out⟩
end Go.Proofs.YtfehchhmghpfpaaDoor.Hx
namespace Go.Proofs.YtfehchhmghpfpaaDoor.Pure
open Go.RowKit Go.Proofs.YtfehchhmghpfpaaDoor.Hx Go.Proofs.YtfehchhmghpfpaaDoor.Bv Go.Proofs.YtfehchhmghpfpaaDoor.Q
theorem TrapBack (h : Ht) (ti : Bool) (tc tv tv2 tn : Int) (tg : Bool) (w : World) (hw : h.wf) (wc : (Lit.int .u64 tc).wf = true) (wv : (Lit.int .u64 tv).wf = true) (wv2 : (Lit.int .u64 tv2).wf = true) (wn : (Lit.int .u64 tn).wf = true) (hT : Tab w) :
    Calls Tryd.prog 3 #[.agg h.cs, .agg #[.bool ti, .int .u64 tc, .int .u64 tv, .int .u64 tv2, .int .u64 tn, .bool tg]] w fun e w' => e = .returned (.bool true) ∧ Below w.heap.size w w' :=
  back_c h hw ti tc tv tv2 tn tg (u64_in wc) (u64_in wv) (u64_in wv2) (u64_in wn) w hT
end Go.Proofs.YtfehchhmghpfpaaDoor.Pure
