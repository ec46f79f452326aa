/- Traps, and the ways back, keep a legal hart legal. -/
import Derived.Test.YtfehchhmghpfpaaDoorCLeg
import Derived.Test.YtfehchhmghpfpaaDoorHOne
import Derived.Test.YtfehchhmghpfpaaDoorHEnter
set_option linter.unusedSimpArgs false
set_option linter.unusedVariables false
namespace Go.Proofs.YtfehchhmghpfpaaDoor.Hx
open Go.Proofs.YtfehchhmghpfpaaDoor.Bv Go.RowKit Go.Proofs.YtfehchhmghpfpaaDoor.Q Go.Proofs.YtfehchhmghpfpaaDoorW.PrintWords Go.Proofs.YtfehchhmghpfpaaDoorW.PrintLast Go.Proofs.YtfehchhmghpfpaaDoorW.PrintMore Go.Proofs.YtfehchhmghpfpaaDoor.Rg
theorem fc_own' (k k2 : Ht) : ∀ i, i < 77 → i ≠ 37 → k2.x i = k.x i → (fix k2).x i = (fix k).x i
  | 0, _, _, hx => by rw [fix_0, fix_0, hx]
  | 1, _, _, hx => by rw [fix_1, fix_1]
  | 2, _, _, hx => by rw [fix_2, fix_2, hx]
  | 3, _, _, hx => by rw [fix_3, fix_3, hx]
  | 4, _, _, hx => by rw [fix_4, fix_4, hx]
  | 5, _, _, hx => by rw [fix_5, fix_5, hx]
  | 6, _, _, hx => by rw [fix_6, fix_6, hx]
  | 7, _, _, hx => by rw [fix_7, fix_7, hx]
  | 8, _, _, hx => by rw [fix_8, fix_8, hx]
  | 9, _, _, hx => by rw [fix_9, fix_9, hx]
  | 10, _, _, hx => by rw [fix_10, fix_10, hx]
  | 11, _, _, hx => by rw [fix_11, fix_11, hx]
  | 12, _, _, hx => by rw [fix_12, fix_12, hx]
  | 13, _, _, hx => by rw [fix_13, fix_13, hx]
  | 14, _, _, hx => by rw [fix_14, fix_14, hx]
  | 15, _, _, hx => by rw [fix_15, fix_15, hx]
  | 16, _, _, hx => by rw [fix_16, fix_16, hx]
  | 17, _, _, hx => by rw [fix_17, fix_17, hx]
  | 18, _, _, hx => by rw [fix_18, fix_18, hx]
  | 19, _, _, hx => by rw [fix_19, fix_19, hx]
  | 20, _, _, hx => by rw [fix_20, fix_20, hx]
  | 21, _, _, hx => by rw [fix_21, fix_21, hx]
  | 22, _, _, hx => by rw [fix_22, fix_22, hx]
  | 23, _, _, hx => by rw [fix_23, fix_23, hx]
  | 24, _, _, hx => by rw [fix_24, fix_24, hx]
  | 25, _, _, hx => by rw [fix_25, fix_25, hx]
  | 26, _, _, hx => by rw [fix_26, fix_26, hx]
  | 27, _, _, hx => by rw [fix_27, fix_27, hx]
  | 28, _, _, hx => by rw [fix_28, fix_28, hx]
  | 29, _, _, hx => by rw [fix_29, fix_29, hx]
  | 30, _, _, hx => by rw [fix_30, fix_30, hx]
  | 31, _, _, hx => by rw [fix_31, fix_31, hx]
  | 32, _, _, hx => by rw [fix_32, fix_32, hx]
  | 33, _, _, hx => by rw [fix_33, fix_33, hx]
  | 34, _, _, hx => by rw [fix_34, fix_34, hx]
  | 35, _, _, hx => by rw [fix_35, fix_35, hx]
  | 36, _, _, hx => by rw [fix_36, fix_36, hx]
  | 37, _, h37, hx => absurd rfl h37
  | 38, _, _, hx => by rw [fix_38, fix_38, hx]
  | 39, _, _, hx => by rw [fix_39, fix_39, hx]
  | 40, _, _, hx => by rw [fix_40, fix_40, hx]
  | 41, _, _, hx => by rw [fix_41, fix_41, hx]
  | 42, _, _, hx => by rw [fix_42, fix_42, hx]
  | 43, _, _, hx => by rw [fix_43, fix_43, hx]
  | 44, _, _, hx => by rw [fix_44, fix_44, hx]
  | 45, _, _, hx => by rw [fix_45, fix_45, hx]
  | 46, _, _, hx => by rw [fix_46, fix_46, hx]
  | 47, _, _, hx => by rw [fix_47, fix_47, hx]
  | 48, _, _, hx => by rw [fix_48, fix_48, hx]
  | 49, _, _, hx => by rw [fix_49, fix_49, hx]
  | 50, _, _, hx => by rw [fix_50, fix_50, hx]
  | 51, _, _, hx => by rw [fix_51, fix_51, hx]
  | 52, _, _, hx => by rw [fix_52, fix_52, hx]
  | 53, _, _, hx => by rw [fix_53, fix_53, hx]
  | 54, _, _, hx => by rw [fix_54, fix_54, hx]
  | 55, _, _, hx => by rw [fix_55, fix_55, hx]
  | 56, _, _, hx => by rw [fix_56, fix_56, hx]
  | 57, _, _, hx => by rw [fix_57, fix_57, hx]
  | 58, _, _, hx => by rw [fix_58, fix_58, hx]
  | 59, _, _, hx => by rw [fix_59, fix_59, hx]
  | 60, _, _, hx => by rw [fix_60, fix_60, hx]
  | 61, _, _, hx => by rw [fix_61, fix_61, hx]
  | 62, _, _, hx => by rw [fix_62, fix_62, hx]
  | 63, _, _, hx => by rw [fix_63, fix_63, hx]
  | 64, _, _, hx => by rw [fix_64, fix_64, hx]
  | 65, _, _, hx => by rw [fix_65, fix_65, hx]
  | 66, _, _, hx => by rw [fix_66, fix_66, hx]
  | 67, _, _, hx => by rw [fix_67, fix_67, hx]
  | 68, _, _, hx => by rw [fix_68, fix_68, hx]
  | 69, _, _, hx => by rw [fix_69, fix_69, hx]
  | 70, _, _, hx => by rw [fix_70, fix_70, hx]
  | 71, _, _, hx => by rw [fix_71, fix_71, hx]
  | 72, _, _, hx => by rw [fix_72, fix_72, hx]
  | 73, _, _, hx => by rw [fix_73, fix_73, hx]
  | 74, _, _, hx => by rw [fix_74, fix_74, hx]
  | 75, _, _, hx => by rw [fix_75, fix_75, hx]
  | 76, _, _, hx => by rw [fix_76, fix_76, hx]
  | i + 77, h, _, _ => by omega
theorem legK {h k : Ht} (L : Leg h) (C : List Nat) (h37 : 37 ∈ C) (same : ∀ i, i < 77 → i ∉ C → k.x i = h.x i) (each : ∀ i, i ∈ C → (fix k).x i = k.x i) (hv : (fix k).v = k.v) : Leg k := by
  refine ⟨fun i hi => ?_, hv⟩
  by_cases hC : i ∈ C
  · exact each i hC
  · rw [fc_own' h k i hi (fun e => hC (e ▸ h37)) (same i hi hC), L.1 i hi, same i hi hC]
theorem keepF {a : Int} (ha : 0 ≤ a ∧ a < 18446744073709551616) : Go.bits .or .u64 (Go.bits .and .u64 a 18446744073709551615) 0 = a := by
  obtain ⟨x, rfl⟩ := U_of ha.1 ha.2
  rw [or0, and_c]
  congr 1
  show x &&& BitVec.allOnes 64 = x
  exact BitVec.and_allOnes
theorem al3 (a : Int) : Go.bits .or .u64 (Go.bits .and .u64 a 18446744073709551612) 0 = Go.bits .andNot .u64 a 3 := by
  rw [or0, and_u64, andNot_u64]; congr 2
theorem al_U (x : BitVec 64) : Go.bits .andNot .u64 (U x) 3 = U x ↔ x &&& 3#64 = 0#64 := by
  rw [andNot_u64, ofInt_U, U_inj]
  show x &&& ~~~ 3#64 = x ↔ _
  constructor
  · intro h; rw [← h, BitVec.and_assoc, show (~~~ 3#64) &&& 3#64 = 0#64 by decide, BitVec.and_zero]
  · intro h
    have hb := bit0 h
    apply BitVec.eq_of_getLsbD_eq; intro i hi
    have := hb i
    simp only [BitVec.getLsbD_and, BitVec.getLsbD_not, hi, decide_true, Bool.true_and]
    revert this
    cases x.getLsbD i <;> cases (3#64).getLsbD i <;> decide
theorem low2 (x : BitVec 64) : x &&& 3#64 = 0#64 ↔ x.toNat % 4 = 0 := by
  have h := and_mk_toNat x 2 (by decide)
  rw [show mk 2 = 3#64 by decide] at h
  constructor
  · intro e; rw [e] at h; simpa using h.symm
  · intro e; apply BitVec.eq_of_toNat_eq; rw [h]; simpa using e
theorem al_iff {a : Int} (ha : 0 ≤ a ∧ a < 18446744073709551616) : Go.bits .andNot .u64 a 3 = a ↔ a % 4 = 0 := by
  obtain ⟨x, rfl⟩ := U_of ha.1 ha.2
  rw [al_U, low2]; unfold U; omega
theorem al_an (a : Int) : Go.bits .andNot .u64 a 3 % 4 = 0 := (al_iff (rng .andNot a 3)).1 (by rw [andNot_u64, andNot_u64, ofInt_U]; congr 1; apply BitVec.eq_of_getLsbD_eq; intro i hi; simp only [BitVec.getLsbD_and, BitVec.getLsbD_not, hi, decide_true, Bool.true_and]; cases (BitVec.ofInt 64 a).getLsbD i <;> cases (BitVec.ofInt 64 3).getLsbD i <;> rfl)
theorem wrap_mod4 {a : Int} (h : a % 4 = 0) : IntKind.u64.wrap a % 4 = 0 := by
  rw [wrap_u64]
  unfold U
  rw [BitVec.toNat_ofInt]
  omega
theorem wrap_rng (a : Int) : 0 ≤ IntKind.u64.wrap a ∧ IntKind.u64.wrap a < 18446744073709551616 := by rw [wrap_u64]; exact U_range _
theorem place_al (t c : Int) : Go.bits .andNot .u64 (placeV t c) 3 = placeV t c := by
  unfold placeV
  have h := al_an t
  split
  · split
    · refine (al_iff (wrap_rng _)).2 (wrap_mod4 ?_)
      have := wrap_mod4 (a := 4 * splitN c) (by omega)
      omega
    · exact (al_iff (rng _ _ _)).2 h
  · exact (al_iff (rng _ _ _)).2 h
theorem place_rng (t c : Int) : 0 ≤ placeV t c ∧ placeV t c < 18446744073709551616 := by
  unfold placeV
  split
  · split
    · exact wrap_rng _
    · exact rng _ _ _
  · exact rng _ _ _
theorem priv_leg {h : Ht} (L : Leg h) : h.x 33 = 0 ∨ h.x 33 = 1 ∨ h.x 33 = 3 := by
  have := L.1 33 (by decide)
  rw [fix_33] at this
  cases hp : privOut (h.x 33)
  · unfold privOut at hp
    rw [Bool.and_eq_false_iff, bne_eq_false_iff_eq, bne_eq_false_iff_eq] at hp
    rcases hp with e | e
    · exact Or.inr (Or.inl e)
    · exact Or.inr (Or.inr e)
  · rw [hp, if_pos rfl] at this; exact Or.inl this.symm
theorem v_leg {h : Ht} (L : Leg h) (hv : h.v = true) : h.x 33 ≠ 3 := by
  have := L.2
  rw [fix_v, hv, if_pos rfl] at this
  rcases priv_leg L with e | e | e
  · rw [e]; decide
  · rw [e]; decide
  · rw [e] at this; exact absurd this (by decide)
theorem pc_leg {h : Ht} (L : Leg h) : Go.bits .andNot .u64 (h.x 0) 3 = h.x 0 := by have := L.1 0 (by decide); rw [fix_0] at this; exact this
theorem epc_leg {h : Ht} (L : Leg h) : Go.bits .andNot .u64 (h.x 46) 3 = h.x 46 := by have := L.1 46 (by decide); rw [fix_46, al3] at this; exact this
theorem sepc_leg {h : Ht} (L : Leg h) : Go.bits .andNot .u64 (h.x 54) 3 = h.x 54 := by have := L.1 54 (by decide); rw [fix_54, al3] at this; exact this
theorem vsepc_leg {h : Ht} (L : Leg h) : Go.bits .andNot .u64 (h.x 71) 3 = h.x 71 := by have := L.1 71 (by decide); rw [fix_71, al3] at this; exact this
/-! ### bits made so -/
def Inv (M C x : BitVec 64) : Prop := (x &&& M) ||| C = x
theorem Inv.bset {M C x : BitVec 64} (hx : Inv M C x) (b : Nat) (is : Bool) (hb : b < 64) (hM : M.getLsbD b = true) (hC : C.getLsbD b = false) : Inv M C (bset x b is) := by
  unfold Inv
  apply BitVec.eq_of_getLsbD_eq; intro i hi
  have h1 := congrArg (BitVec.getLsbD · i) hx
  simp only [BitVec.getLsbD_and, BitVec.getLsbD_or] at h1 ⊢
  rw [bset_bit x b is hb i hi]
  by_cases e : i = b
  · subst e; rw [if_pos rfl, hM, hC]; simp
  · rw [if_neg e]; exact h1
theorem L38_inv {x : BitVec 64} (h : L38 x) : Inv 824641984938#64 42949672960#64 x := h.1
theorem L38.bset {x : BitVec 64} (h : L38 x) (b : Nat) (is : Bool) (hb : b < 64) (hM : (824641984938#64).getLsbD b = true) (hC : (42949672960#64).getLsbD b = false) (h6 : (6144#64).getLsbD b = false) : L38 (bset x b is) := by
  refine ⟨(L38_inv h).bset b is hb hM hC, ?_⟩
  have e : Go.Proofs.YtfehchhmghpfpaaDoor.Hx.bset x b is &&& 6144#64 = x &&& 6144#64 := by
    apply BitVec.eq_of_getLsbD_eq; intro i hi
    rw [BitVec.getLsbD_and, BitVec.getLsbD_and, bset_bit x b is hb i hi]
    by_cases e : i = b
    · subst e; rw [h6]; simp
    · rw [if_neg e]
  rw [e]; exact h.2
theorem L38.mpp {x : BitVec 64} (h : L38 x) (p : BitVec 64) (hp : p = 0#64 ∨ p = 2048#64 ∨ p = 6144#64) : L38 ((x &&& ~~~ 6144#64) ||| p) := by
  have hM := sub_i (a := 6144#64) (b := 824641984938#64) (by decide)
  have hC := bit0 (a := 42949672960#64) (b := 6144#64) (by decide)
  have hs : p &&& 6144#64 = p := by rcases hp with rfl | rfl | rfl <;> decide
  have hq := sub_i hs
  refine ⟨?_, ?_⟩
  · apply BitVec.eq_of_getLsbD_eq; intro i hi
    have h1 := congrArg (BitVec.getLsbD · i) h.1; have h2 := hM i; have h3 := hC i; have h4 := hq i
    simp only [BitVec.getLsbD_and, BitVec.getLsbD_or, BitVec.getLsbD_not, hi, decide_true, Bool.true_and] at h1 ⊢
    revert h1 h2 h3 h4
    cases x.getLsbD i <;> cases (824641984938#64).getLsbD i <;> cases (42949672960#64).getLsbD i <;> cases (6144#64).getLsbD i <;> cases p.getLsbD i <;> decide
  · have e : ((x &&& ~~~ 6144#64) ||| p) &&& 6144#64 = p := by
      apply BitVec.eq_of_getLsbD_eq; intro i hi
      have h4 := hq i
      simp only [BitVec.getLsbD_and, BitVec.getLsbD_or, BitVec.getLsbD_not, hi, decide_true, Bool.true_and]
      revert h4
      cases x.getLsbD i <;> cases (6144#64).getLsbD i <;> cases p.getLsbD i <;> decide
    rw [e]
    rcases hp with rfl | rfl | rfl <;> decide
theorem m38 {h : Ht} (hw : h.wf) (L : Leg h) : ∃ x, h.x 38 = U x ∧ L38 x := by
  obtain ⟨x, e, l⟩ := mk38 (h.x 38)
  have := L.1 38 (by decide)
  rw [fix_38, e] at this
  exact ⟨x, this.symm, l⟩
theorem mM {h : Ht} (hw : h.wf) (L : Leg h) {o : Nat} (ho : o < 77) (M C : Int) (hfix : ∀ k : Ht, (fix k).x o = Go.bits .or .u64 (Go.bits .and .u64 (k.x o) M) C) : ∃ x, h.x o = U x ∧ Inv (BitVec.ofInt 64 M) (BitVec.ofInt 64 C) x := by
  obtain ⟨x, e⟩ := U_of (hw.1 o).1 (hw.1 o).2
  have := L.1 o ho
  rw [hfix, e, and_c, or_c] at this
  exact ⟨x, e, U_inj.1 this⟩
theorem inv_fix {M C : Int} {x : BitVec 64} (h : Inv (BitVec.ofInt 64 M) (BitVec.ofInt 64 C) x) : Go.bits .or .u64 (Go.bits .and .u64 (U x) M) C = U x := by rw [and_c, or_c]; exact congrArg U h

theorem v_false {k : Ht} (h : k.v = false) : (fix k).v = k.v := by rw [fix_v, h]; rfl
theorem v_sup {k : Ht} (h : k.x 33 = 1) : (fix k).v = k.v := by rw [fix_v, h]; cases k.v <;> rfl
theorem taken38 {x : BitVec 64} (l : L38 x) (b : Bool) : ∃ y, takenV (U x) b = U y ∧ L38 y := by
  unfold takenV
  rw [ov_1, sv_5, sv_1, sv_8]
  exact ⟨_, rfl, ((l.bset 5 _ (by decide) (by decide) (by decide) (by decide)).bset 1 _ (by decide) (by decide) (by decide) (by decide)).bset 8 _ (by decide) (by decide) (by decide) (by decide)⟩
theorem given38 {x : BitVec 64} (l : L38 x) : ∃ y, givenS (U x) = U y ∧ L38 y := by
  unfold givenS
  rw [ov_5, sv_1, sv_5, sv_8]
  exact ⟨_, rfl, ((l.bset 1 _ (by decide) (by decide) (by decide) (by decide)).bset 5 _ (by decide) (by decide) (by decide) (by decide)).bset 8 _ (by decide) (by decide) (by decide) (by decide)⟩
theorem taken68 {x : BitVec 64} (l : Inv 786722#64 8589934592#64 x) (b : Bool) : ∃ y, takenV (U x) b = U y ∧ Inv 786722#64 8589934592#64 y := by
  unfold takenV
  rw [ov_1, sv_5, sv_1, sv_8]
  exact ⟨_, rfl, ((l.bset 5 _ (by decide) (by decide) (by decide)).bset 1 _ (by decide) (by decide) (by decide)).bset 8 _ (by decide) (by decide) (by decide)⟩
theorem given68 {x : BitVec 64} (l : Inv 786722#64 8589934592#64 x) : ∃ y, givenS (U x) = U y ∧ Inv 786722#64 8589934592#64 y := by
  unfold givenS
  rw [ov_5, sv_1, sv_5, sv_8]
  exact ⟨_, rfl, ((l.bset 1 _ (by decide) (by decide) (by decide)).bset 5 _ (by decide) (by decide) (by decide)).bset 8 _ (by decide) (by decide) (by decide)⟩
theorem givenP_01 (s : Int) : givenP s = 0 ∨ givenP s = 1 := by unfold givenP; split <;> simp
theorem priv_fix {k : Ht} (h : k.x 33 = 0 ∨ k.x 33 = 1 ∨ k.x 33 = 3) : (fix k).x 33 = k.x 33 := by rw [fix_33]; rcases h with e | e | e <;> rw [e] <;> rfl
theorem res_fix {k : Ht} (h : k.hl = false) (h2 : k.x 37 = 0) : (fix k).x 37 = k.x 37 := by rw [fix_37, h, h2]; rfl
theorem leg_enterM {h : Ht} (hw : h.wf) (L : Leg h) (tc tv tv2 tn : Int) (tg : Bool) (c : 0 ≤ tc ∧ tc < 18446744073709551616) (cv : 0 ≤ tv ∧ tv < 18446744073709551616) (cv2 : 0 ≤ tv2 ∧ tv2 < 18446744073709551616) (cn : 0 ≤ tn ∧ tn < 18446744073709551616) : Leg (enterM h (({ ({ h with wt := false } : Ht) with hl := false } : Ht).set 37 0) tc tv tv2 tn tg) := by
  refine legK L [0, 33, 37, 38, 46, 47, 48, 49, 50] (by decide) ?_ ?_ (v_false rfl)
  · intro i hi hC
    simp only [List.mem_cons, List.not_mem_nil, or_false, not_or] at hC
    obtain ⟨a0, a33, a37, a38, a46, a47, a48, a49, a50⟩ := hC
    simp only [enterM, Ht.set, beqF a0, beqF a33, beqF a37, beqF a38, beqF a46, beqF a47, beqF a48, beqF a49, beqF a50, cond_false]
  · intro i hC
    simp only [List.mem_cons, List.not_mem_nil, or_false] at hC
    rcases hC with rfl | rfl | rfl | rfl | rfl | rfl | rfl | rfl | rfl
    · rw [fix_0]; exact place_al _ _
    · exact priv_fix (Or.inr (Or.inr rfl))
    · exact res_fix rfl rfl
    · rw [fix_38]
      obtain ⟨x, e, l⟩ := m38 hw L
      show mppV (Go.bits .or .u64 (Go.bits .and .u64 (setV (setV (Go.bits .or .u64 (Go.bits .andNot .u64 (setV (setV (h.x 38) 7 (onV (h.x 38) 3)) 3 false) 6144) (IntKind.u64.wrap (IntKind.u64.wrap (Go.bits .and .u8 (h.x 33) 3) * 2048))) 39 h.v) 38 tg) 824641984938) 42949672960) = setV (setV (Go.bits .or .u64 (Go.bits .andNot .u64 (setV (setV (h.x 38) 7 (onV (h.x 38) 3)) 3 false) 6144) (IntKind.u64.wrap (IntKind.u64.wrap (Go.bits .and .u8 (h.x 33) 3) * 2048))) 39 h.v) 38 tg
      have hp : ∃ p : BitVec 64, IntKind.u64.wrap (IntKind.u64.wrap (Go.bits .and .u8 (h.x 33) 3) * 2048) = U p ∧ (p = 0#64 ∨ p = 2048#64 ∨ p = 6144#64) := by
        rcases priv_leg L with e | e | e <;> rw [e]
        · exact ⟨0#64, by decide, Or.inl rfl⟩
        · exact ⟨2048#64, by decide, Or.inr (Or.inl rfl)⟩
        · exact ⟨6144#64, by decide, Or.inr (Or.inr rfl)⟩
      obtain ⟨p, ep, hp⟩ := hp
      rw [ep, e, ov_3, sv_7, sv_3, andNot_u64, ofInt_U, or_u64 _ (U p), ofInt_U, ofInt_U, sv_39, sv_38]
      exact at38 (((((l.bset 7 _ (by decide) (by decide) (by decide) (by decide)).bset 3 _ (by decide) (by decide) (by decide) (by decide)).mpp p hp).bset 39 _ (by decide) (by decide) (by decide) (by decide)).bset 38 _ (by decide) (by decide) (by decide) (by decide))
    · rw [fix_46, al3]; exact pc_leg L
    · rw [fix_47]; exact keepF c
    · rw [fix_48]; exact keepF cv
    · rw [fix_49]; exact keepF cv2
    · rw [fix_50]; exact keepF cn
theorem set58 {h : Ht} (hw : h.wf) (L : Leg h) (b : Bool) (v tg : Bool) : ∃ y, setV (setV (if v = true then setV (h.x 58) 8 b else h.x 58) 7 v) 6 tg = U y ∧ Inv 7345088#64 8589934592#64 y := by
  obtain ⟨x, e, l⟩ := mM hw L (o := 58) (by decide) 7345088 8589934592 fix_58
  have l : Inv 7345088#64 8589934592#64 x := l
  rw [e]
  cases v
  · rw [if_neg (by decide), sv_7, sv_6]
    exact ⟨_, rfl, (l.bset 7 _ (by decide) (by decide) (by decide)).bset 6 _ (by decide) (by decide) (by decide)⟩
  · rw [if_pos rfl, sv_8, sv_7, sv_6]
    exact ⟨_, rfl, ((l.bset 8 _ (by decide) (by decide) (by decide)).bset 7 _ (by decide) (by decide) (by decide)).bset 6 _ (by decide) (by decide) (by decide)⟩
theorem leg_enterH {h : Ht} (hw : h.wf) (L : Leg h) (tc tv tv2 tn : Int) (tg : Bool) (c : 0 ≤ tc ∧ tc < 18446744073709551616) (cv : 0 ≤ tv ∧ tv < 18446744073709551616) (cv2 : 0 ≤ tv2 ∧ tv2 < 18446744073709551616) (cn : 0 ≤ tn ∧ tn < 18446744073709551616) : Leg (enterH h (({ ({ h with wt := false } : Ht) with hl := false } : Ht).set 37 0) tc tv tv2 tn tg) := by
  have hh : ∀ i : Nat, i ≠ 58 → ∀ k : Ht, ∀ y, (if h.v = true then k.set 58 y else k).x i = k.x i := by
    intro i hi k y
    cases h.v
    · rfl
    · rw [if_pos rfl]; exact set_ne k y hi
  have hb : ∀ k : Ht, ∀ y, (if h.v = true then k.set 58 y else k).hl = k.hl := by
    intro k y
    cases h.v <;> rfl
  refine legK L [0, 33, 37, 38, 54, 55, 56, 58, 64, 65] (by decide) ?_ ?_ (v_false rfl)
  · intro i hi hC
    simp only [List.mem_cons, List.not_mem_nil, or_false, not_or] at hC
    obtain ⟨a0, a33, a37, a38, a54, a55, a56, a58, a64, a65⟩ := hC
    show (bif Nat.beq i 0 then _ else bif Nat.beq i 33 then _ else bif Nat.beq i 58 then _ else (if h.v = true then Ht.set _ 58 _ else _ : Ht).x i) = _
    rw [beqF a0, beqF a33, beqF a58, hh i a58]
    simp only [Ht.set, beqF a0, beqF a33, beqF a37, beqF a38, beqF a54, beqF a55, beqF a56, beqF a58, beqF a64, beqF a65, cond_false]
  · intro i hC
    simp only [List.mem_cons, List.not_mem_nil, or_false] at hC
    rcases hC with rfl | rfl | rfl | rfl | rfl | rfl | rfl | rfl | rfl | rfl
    · rw [fix_0]; exact place_al _ _
    · exact priv_fix (Or.inr (Or.inl rfl))
    · refine res_fix ?_ ?_
      · exact (hb _ _).trans rfl
      · exact (hh 37 (by decide) _ _).trans rfl
    · rw [fix_38]
      obtain ⟨x, e, l⟩ := m38 hw L
      have e2 : (enterH h (({ ({ h with wt := false } : Ht) with hl := false } : Ht).set 37 0) tc tv tv2 tn tg).x 38 = takenV (h.x 38) (h.x 33 == 1) := (hh 38 (by decide) _ _).trans rfl
      obtain ⟨y, ey, ly⟩ := taken38 l (h.x 33 == 1)
      rw [e2, e, ey]; exact at38 ly
    · rw [fix_54, al3]
      have e2 : (enterH h (({ ({ h with wt := false } : Ht) with hl := false } : Ht).set 37 0) tc tv tv2 tn tg).x 54 = h.x 0 := (hh 54 (by decide) _ _).trans rfl
      rw [e2]; exact pc_leg L
    · rw [fix_55]
      have e2 : (enterH h (({ ({ h with wt := false } : Ht) with hl := false } : Ht).set 37 0) tc tv tv2 tn tg).x 55 = tc := (hh 55 (by decide) _ _).trans rfl
      rw [e2]; exact keepF c
    · rw [fix_56]
      have e2 : (enterH h (({ ({ h with wt := false } : Ht) with hl := false } : Ht).set 37 0) tc tv tv2 tn tg).x 56 = tv := (hh 56 (by decide) _ _).trans rfl
      rw [e2]; exact keepF cv
    · rw [fix_58]
      obtain ⟨y, ey, ly⟩ := set58 hw L (h.x 33 == 1) h.v tg
      have e2 : (enterH h (({ ({ h with wt := false } : Ht) with hl := false } : Ht).set 37 0) tc tv tv2 tn tg).x 58 = U y := Eq.trans rfl ey
      rw [e2]; exact inv_fix (M := 7345088) (C := 8589934592) ly
    · rw [fix_64]
      have e2 : (enterH h (({ ({ h with wt := false } : Ht) with hl := false } : Ht).set 37 0) tc tv tv2 tn tg).x 64 = tv2 := (hh 64 (by decide) _ _).trans rfl
      rw [e2]; exact keepF cv2
    · rw [fix_65]
      have e2 : (enterH h (({ ({ h with wt := false } : Ht) with hl := false } : Ht).set 37 0) tc tv tv2 tn tg).x 65 = tn := (hh 65 (by decide) _ _).trans rfl
      rw [e2]; exact keepF cn
theorem guest_rng {tc : Int} (c : 0 ≤ tc ∧ tc < 18446744073709551616) : 0 ≤ guestCause tc ∧ guestCause tc < 18446744073709551616 := by
  unfold guestCause
  repeat' split
  all_goals first | exact wrap_rng _ | exact c
theorem leg_enterG {h : Ht} (hw : h.wf) (L : Leg h) (tc tv : Int) (c : 0 ≤ tc ∧ tc < 18446744073709551616) (cv : 0 ≤ tv ∧ tv < 18446744073709551616) : Leg (enterG h (({ ({ h with wt := false } : Ht) with hl := false } : Ht).set 37 0) tc tv) := by
  refine legK L [0, 33, 37, 68, 71, 72, 73] (by decide) ?_ ?_ (v_sup rfl)
  · intro i hi hC
    simp only [List.mem_cons, List.not_mem_nil, or_false, not_or] at hC
    obtain ⟨a0, a33, a37, a68, a71, a72, a73⟩ := hC
    simp only [enterG, Ht.set, beqF a0, beqF a33, beqF a37, beqF a68, beqF a71, beqF a72, beqF a73, cond_false]
  · intro i hC
    simp only [List.mem_cons, List.not_mem_nil, or_false] at hC
    rcases hC with rfl | rfl | rfl | rfl | rfl | rfl | rfl
    · rw [fix_0]; exact place_al _ _
    · exact priv_fix (Or.inr (Or.inl rfl))
    · exact res_fix rfl rfl
    · rw [fix_68]
      obtain ⟨x, e, l⟩ := mM hw L (o := 68) (by decide) 786722 8589934592 fix_68
      obtain ⟨y, ey, ly⟩ := taken68 (x := x) l (h.x 33 == 1)
      show Go.bits .or .u64 (Go.bits .and .u64 (takenV (h.x 68) (h.x 33 == 1)) 786722) 8589934592 = takenV (h.x 68) (h.x 33 == 1)
      rw [e, ey]; exact inv_fix (M := 786722) (C := 8589934592) ly
    · rw [fix_71, al3]; exact pc_leg L
    · rw [fix_72]; exact keepF (guest_rng c)
    · rw [fix_73]; exact keepF cv
theorem leg_enter {h : Ht} (hw : h.wf) (L : Leg h) (ti : Bool) (tc tv tv2 tn : Int) (tg : Bool) (c : 0 ≤ tc ∧ tc < 18446744073709551616) (cv : 0 ≤ tv ∧ tv < 18446744073709551616) (cv2 : 0 ≤ tv2 ∧ tv2 < 18446744073709551616) (cn : 0 ≤ tn ∧ tn < 18446744073709551616) : Leg (enter h ti tc tv tv2 tn tg) := by
  unfold enter
  split
  · simp only
    split
    · exact leg_enterM hw L tc tv tv2 tn tg c cv cv2 cn
    · split
      · exact leg_enterH hw L tc tv tv2 tn tg c cv cv2 cn
      · split
        · exact leg_enterG hw L tc tv c cv
        · refine legK L [37] (by decide) ?_ ?_ ?_
          · intro i hi hC
            simp only [List.mem_cons, List.not_mem_nil, or_false] at hC
            simp only [Ht.set, beqF hC, cond_false]
          · intro i hC
            simp only [List.mem_cons, List.not_mem_nil, or_false] at hC
            subst hC; exact res_fix rfl rfl
          · have := L.2; rw [fix_v] at this ⊢; exact this
  · exact L
theorem wf_hl {h : Ht} (H : h.wf) (a b : Bool) : ({ ({ h with wt := a } : Ht) with hl := b } : Ht).wf := H
theorem mretTo_4 (s : Int) : mretTo s = 0 ∨ mretTo s = 1 ∨ mretTo s = 2 ∨ mretTo s = 3 := by
  unfold mretTo
  rw [and_u64]
  have h := and_mk_toNat (BitVec.ofInt 64 (s / 2048)) 2 (by decide)
  rw [show mk 2 = BitVec.ofInt 64 3 by decide] at h
  unfold U; omega
theorem mretS38 {x : BitVec 64} (l : L38 x) : ∃ y, mretS (U x) = U y ∧ L38 y := by
  unfold mretS
  simp only
  have e : Go.bits .andNot .u64 (setV (setV (U x) 3 (onV (U x) 7)) 7 true) 6144 = U (((bset (bset x 3 (x.getLsbD 7)) 7 true) &&& ~~~ 6144#64) ||| 0#64) := by
    rw [ov_7, sv_3, sv_7, andNot_u64, ofInt_U, BitVec.or_zero]; rfl
  have l1 := (((l.bset 3 (x.getLsbD 7) (by decide) (by decide) (by decide) (by decide)).bset 7 true (by decide) (by decide) (by decide) (by decide)).mpp 0#64 (Or.inl rfl)).bset 39 false (by decide) (by decide) (by decide) (by decide)
  rw [e, sv_39]
  split
  · rw [sv_17]; exact ⟨_, rfl, l1.bset 17 false (by decide) (by decide) (by decide) (by decide)⟩
  · exact ⟨_, rfl, l1⟩
theorem leg_mret {h : Ht} (hw : h.wf) (L : Leg h) : Leg (mret h) := by
  have h33 : (mret h).x 33 = (if (mretTo (h.x 38) == 2) = true then 0 else mretTo (h.x 38)) := rfl
  refine legK L [0, 33, 37, 38] (by decide) ?_ ?_ ?_
  · intro i hi hC
    simp only [List.mem_cons, List.not_mem_nil, or_false, not_or] at hC
    obtain ⟨a0, a33, a37, a38⟩ := hC
    simp only [mret, Ht.set, beqF a0, beqF a33, beqF a37, beqF a38, cond_false]
  · intro i hC
    simp only [List.mem_cons, List.not_mem_nil, or_false] at hC
    rcases hC with rfl | rfl | rfl | rfl
    · rw [fix_0]; exact epc_leg L
    · refine priv_fix ?_
      rw [h33]
      rcases mretTo_4 (h.x 38) with e | e | e | e <;> rw [e] <;> decide
    · exact res_fix rfl rfl
    · rw [fix_38]
      obtain ⟨x, e, l⟩ := m38 hw L
      obtain ⟨y, ey, ly⟩ := mretS38 l
      show mppV (Go.bits .or .u64 (Go.bits .and .u64 (mretS (h.x 38)) 824641984938) 42949672960) = mretS (h.x 38)
      rw [e, ey]; exact at38 ly
  · rw [fix_v, h33]
    show (if (if onV (h.x 38) 39 = true then (mretTo (h.x 38) != 3) else false) = true then _ else false) = (if onV (h.x 38) 39 = true then (mretTo (h.x 38) != 3) else false)
    rcases mretTo_4 (h.x 38) with e | e | e | e <;> rw [e] <;> cases onV (h.x 38) 39 <;> rfl
theorem leg_sret {h : Ht} (hw : h.wf) (L : Leg h) : Leg (sret h) := by
  obtain ⟨x, e, l⟩ := m38 hw L
  unfold sret
  simp only
  cases hv : h.v
  · simp only [Bool.false_eq_true, if_false]
    refine legK L [0, 33, 37, 38, 58] (by decide) ?_ ?_ ?_
    · intro i hi hC
      simp only [List.mem_cons, List.not_mem_nil, or_false, not_or] at hC
      obtain ⟨a0, a33, a37, a38, a58⟩ := hC
      simp only [Ht.set, beqF a0, beqF a33, beqF a37, beqF a38, beqF a58, cond_false]
    · intro i hC
      simp only [List.mem_cons, List.not_mem_nil, or_false] at hC
      rcases hC with rfl | rfl | rfl | rfl | rfl
      · rw [fix_0]; exact sepc_leg L
      · refine priv_fix ?_
        show givenP (h.x 38) = 0 ∨ givenP (h.x 38) = 1 ∨ givenP (h.x 38) = 3
        rcases givenP_01 (h.x 38) with e | e <;> rw [e] <;> simp
      · exact res_fix rfl rfl
      · rw [fix_38]
        show mppV (Go.bits .or .u64 (Go.bits .and .u64 (setV (givenS (h.x 38)) 17 false) 824641984938) 42949672960) = setV (givenS (h.x 38)) 17 false
        obtain ⟨y, ey, ly⟩ := given38 l
        rw [e, ey, sv_17]; exact at38 (ly.bset 17 false (by decide) (by decide) (by decide) (by decide))
      · rw [fix_58]
        obtain ⟨z, ez, lz⟩ := mM hw L (o := 58) (by decide) 7345088 8589934592 fix_58
        have lz : Inv 7345088#64 8589934592#64 z := lz
        show Go.bits .or .u64 (Go.bits .and .u64 (setV (h.x 58) 7 false) 7345088) 8589934592 = setV (h.x 58) 7 false
        rw [ez, sv_7]; exact inv_fix (M := 7345088) (C := 8589934592) (lz.bset 7 false (by decide) (by decide) (by decide))
    · rw [fix_v]
      show (if onV (h.x 58) 7 = true then (if privOut (givenP (h.x 38)) = true then true else (givenP (h.x 38) != 3)) else false) = onV (h.x 58) 7
      rcases givenP_01 (h.x 38) with e | e <;> rw [e] <;> cases onV (h.x 58) 7 <;> rfl
  · simp only [if_true]
    refine legK L [0, 33, 37, 38, 68] (by decide) ?_ ?_ ?_
    · intro i hi hC
      simp only [List.mem_cons, List.not_mem_nil, or_false, not_or] at hC
      obtain ⟨a0, a33, a37, a38, a68⟩ := hC
      simp only [Ht.set, beqF a0, beqF a33, beqF a37, beqF a38, beqF a68, cond_false]
    · intro i hC
      simp only [List.mem_cons, List.not_mem_nil, or_false] at hC
      rcases hC with rfl | rfl | rfl | rfl | rfl
      · rw [fix_0]; exact vsepc_leg L
      · refine priv_fix ?_
        show givenP (h.x 68) = 0 ∨ givenP (h.x 68) = 1 ∨ givenP (h.x 68) = 3
        rcases givenP_01 (h.x 68) with e | e <;> rw [e] <;> simp
      · exact res_fix rfl rfl
      · rw [fix_38]
        show mppV (Go.bits .or .u64 (Go.bits .and .u64 (setV (h.x 38) 17 false) 824641984938) 42949672960) = setV (h.x 38) 17 false
        rw [e, sv_17]; exact at38 (l.bset 17 false (by decide) (by decide) (by decide) (by decide))
      · rw [fix_68]
        obtain ⟨z, ez, lz⟩ := mM hw L (o := 68) (by decide) 786722 8589934592 fix_68
        obtain ⟨y, ey, ly⟩ := given68 (x := z) lz
        show Go.bits .or .u64 (Go.bits .and .u64 (givenS (h.x 68)) 786722) 8589934592 = givenS (h.x 68)
        rw [ez, ey]; exact inv_fix (M := 786722) (C := 8589934592) ly
    · rw [fix_v]
      show (if true = true then (if privOut (givenP (h.x 68)) = true then true else (givenP (h.x 68) != 3)) else false) = true
      rcases givenP_01 (h.x 68) with e | e <;> rw [e] <;> rfl
end Go.Proofs.YtfehchhmghpfpaaDoor.Hx
