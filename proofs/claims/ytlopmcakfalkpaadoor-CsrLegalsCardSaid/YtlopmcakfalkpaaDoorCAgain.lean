/- What is written into a register that takes all is read again, and no other one is touched. (By a program of this session.) -/
import Derived.Test.YtlopmcakfalkpaaDoorCViews
import Derived.Great.BuildSlice
set_option linter.unusedSimpArgs false
set_option linter.unusedVariables false
namespace Go.Proofs.YtlopmcakfalkpaaDoor.Hx
open Go.Proofs.YtlopmcakfalkpaaDoor.Bv Go.RowKit Go.Proofs.YtlopmcakfalkpaaDoor.Q Go.Proofs.YtlopmcakfalkpaaDoorW.PrintWords Go.Proofs.YtlopmcakfalkpaaDoorW.PrintLast Go.Proofs.YtlopmcakfalkpaaDoorW.PrintMore Go.Proofs.YtlopmcakfalkpaaDoor.Rg

theorem field_cases {m : Int} {o : Nat} (h : fieldOff m = some o) : (m = 768 ∧ o = 38) ∨ (m = 770 ∧ o = 39) ∨ (m = 771 ∧ o = 40) ∨ (m = 772 ∧ o = 41) ∨ (m = 773 ∧ o = 43) ∨ (m = 774 ∧ o = 44) ∨ (m = 832 ∧ o = 45) ∨ (m = 833 ∧ o = 46) ∨ (m = 834 ∧ o = 47) ∨ (m = 835 ∧ o = 48) ∨ (m = 843 ∧ o = 49) ∨ (m = 842 ∧ o = 50) ∨ (m = 2816 ∧ o = 75) ∨ (m = 2818 ∧ o = 76) ∨ (m = 261 ∧ o = 51) ∨ (m = 262 ∧ o = 52) ∨ (m = 320 ∧ o = 53) ∨ (m = 321 ∧ o = 54) ∨ (m = 322 ∧ o = 55) ∨ (m = 323 ∧ o = 56) ∨ (m = 384 ∧ o = 57) ∨ (m = 512 ∧ o = 68) ∨ (m = 517 ∧ o = 69) ∨ (m = 576 ∧ o = 70) ∨ (m = 577 ∧ o = 71) ∨ (m = 578 ∧ o = 72) ∨ (m = 579 ∧ o = 73) ∨ (m = 640 ∧ o = 74) ∨ (m = 1536 ∧ o = 58) ∨ (m = 1538 ∧ o = 59) ∨ (m = 1539 ∧ o = 60) ∨ (m = 1605 ∧ o = 61) ∨ (m = 1543 ∧ o = 63) ∨ (m = 1542 ∧ o = 62) ∨ (m = 1603 ∧ o = 64) ∨ (m = 1610 ∧ o = 65) ∨ (m = 1664 ∧ o = 66) ∨ (m = 1541 ∧ o = 67) := by
  unfold fieldOff at h
  by_cases g_768 : m = 768
  · subst g_768; have e : fieldOff 768 = some 38 := rfl; have h2 : some 38 = some o := h; cases h2; simp
  by_cases g_770 : m = 770
  · subst g_770; have e : fieldOff 770 = some 39 := rfl; have h2 : some 39 = some o := h; cases h2; simp
  by_cases g_771 : m = 771
  · subst g_771; have e : fieldOff 771 = some 40 := rfl; have h2 : some 40 = some o := h; cases h2; simp
  by_cases g_772 : m = 772
  · subst g_772; have e : fieldOff 772 = some 41 := rfl; have h2 : some 41 = some o := h; cases h2; simp
  by_cases g_773 : m = 773
  · subst g_773; have e : fieldOff 773 = some 43 := rfl; have h2 : some 43 = some o := h; cases h2; simp
  by_cases g_774 : m = 774
  · subst g_774; have e : fieldOff 774 = some 44 := rfl; have h2 : some 44 = some o := h; cases h2; simp
  by_cases g_832 : m = 832
  · subst g_832; have e : fieldOff 832 = some 45 := rfl; have h2 : some 45 = some o := h; cases h2; simp
  by_cases g_833 : m = 833
  · subst g_833; have e : fieldOff 833 = some 46 := rfl; have h2 : some 46 = some o := h; cases h2; simp
  by_cases g_834 : m = 834
  · subst g_834; have e : fieldOff 834 = some 47 := rfl; have h2 : some 47 = some o := h; cases h2; simp
  by_cases g_835 : m = 835
  · subst g_835; have e : fieldOff 835 = some 48 := rfl; have h2 : some 48 = some o := h; cases h2; simp
  by_cases g_843 : m = 843
  · subst g_843; have e : fieldOff 843 = some 49 := rfl; have h2 : some 49 = some o := h; cases h2; simp
  by_cases g_842 : m = 842
  · subst g_842; have e : fieldOff 842 = some 50 := rfl; have h2 : some 50 = some o := h; cases h2; simp
  by_cases g_2816 : m = 2816
  · subst g_2816; have e : fieldOff 2816 = some 75 := rfl; have h2 : some 75 = some o := h; cases h2; simp
  by_cases g_2818 : m = 2818
  · subst g_2818; have e : fieldOff 2818 = some 76 := rfl; have h2 : some 76 = some o := h; cases h2; simp
  by_cases g_261 : m = 261
  · subst g_261; have e : fieldOff 261 = some 51 := rfl; have h2 : some 51 = some o := h; cases h2; simp
  by_cases g_262 : m = 262
  · subst g_262; have e : fieldOff 262 = some 52 := rfl; have h2 : some 52 = some o := h; cases h2; simp
  by_cases g_320 : m = 320
  · subst g_320; have e : fieldOff 320 = some 53 := rfl; have h2 : some 53 = some o := h; cases h2; simp
  by_cases g_321 : m = 321
  · subst g_321; have e : fieldOff 321 = some 54 := rfl; have h2 : some 54 = some o := h; cases h2; simp
  by_cases g_322 : m = 322
  · subst g_322; have e : fieldOff 322 = some 55 := rfl; have h2 : some 55 = some o := h; cases h2; simp
  by_cases g_323 : m = 323
  · subst g_323; have e : fieldOff 323 = some 56 := rfl; have h2 : some 56 = some o := h; cases h2; simp
  by_cases g_384 : m = 384
  · subst g_384; have e : fieldOff 384 = some 57 := rfl; have h2 : some 57 = some o := h; cases h2; simp
  by_cases g_512 : m = 512
  · subst g_512; have e : fieldOff 512 = some 68 := rfl; have h2 : some 68 = some o := h; cases h2; simp
  by_cases g_517 : m = 517
  · subst g_517; have e : fieldOff 517 = some 69 := rfl; have h2 : some 69 = some o := h; cases h2; simp
  by_cases g_576 : m = 576
  · subst g_576; have e : fieldOff 576 = some 70 := rfl; have h2 : some 70 = some o := h; cases h2; simp
  by_cases g_577 : m = 577
  · subst g_577; have e : fieldOff 577 = some 71 := rfl; have h2 : some 71 = some o := h; cases h2; simp
  by_cases g_578 : m = 578
  · subst g_578; have e : fieldOff 578 = some 72 := rfl; have h2 : some 72 = some o := h; cases h2; simp
  by_cases g_579 : m = 579
  · subst g_579; have e : fieldOff 579 = some 73 := rfl; have h2 : some 73 = some o := h; cases h2; simp
  by_cases g_640 : m = 640
  · subst g_640; have e : fieldOff 640 = some 74 := rfl; have h2 : some 74 = some o := h; cases h2; simp
  by_cases g_1536 : m = 1536
  · subst g_1536; have e : fieldOff 1536 = some 58 := rfl; have h2 : some 58 = some o := h; cases h2; simp
  by_cases g_1538 : m = 1538
  · subst g_1538; have e : fieldOff 1538 = some 59 := rfl; have h2 : some 59 = some o := h; cases h2; simp
  by_cases g_1539 : m = 1539
  · subst g_1539; have e : fieldOff 1539 = some 60 := rfl; have h2 : some 60 = some o := h; cases h2; simp
  by_cases g_1605 : m = 1605
  · subst g_1605; have e : fieldOff 1605 = some 61 := rfl; have h2 : some 61 = some o := h; cases h2; simp
  by_cases g_1543 : m = 1543
  · subst g_1543; have e : fieldOff 1543 = some 63 := rfl; have h2 : some 63 = some o := h; cases h2; simp
  by_cases g_1542 : m = 1542
  · subst g_1542; have e : fieldOff 1542 = some 62 := rfl; have h2 : some 62 = some o := h; cases h2; simp
  by_cases g_1603 : m = 1603
  · subst g_1603; have e : fieldOff 1603 = some 64 := rfl; have h2 : some 64 = some o := h; cases h2; simp
  by_cases g_1610 : m = 1610
  · subst g_1610; have e : fieldOff 1610 = some 65 := rfl; have h2 : some 65 = some o := h; cases h2; simp
  by_cases g_1664 : m = 1664
  · subst g_1664; have e : fieldOff 1664 = some 66 := rfl; have h2 : some 66 = some o := h; cases h2; simp
  by_cases g_1541 : m = 1541
  · subst g_1541; have e : fieldOff 1541 = some 67 := rfl; have h2 : some 67 = some o := h; cases h2; simp
  exfalso
  have z_mOff : mOff m = none := by unfold mOff; rw [if_neg g_768, if_neg g_770, if_neg g_771, if_neg g_772, if_neg g_773, if_neg g_774, if_neg g_832, if_neg g_833, if_neg g_834, if_neg g_835, if_neg g_843, if_neg g_842, if_neg g_2816, if_neg g_2818]
  have z_superOff : superOff m = none := by unfold superOff; rw [if_neg g_261, if_neg g_262, if_neg g_320, if_neg g_321, if_neg g_322, if_neg g_323, if_neg g_384, if_neg g_512, if_neg g_517, if_neg g_576, if_neg g_577, if_neg g_578, if_neg g_579, if_neg g_640]
  have z_hypOff : hypOff m = none := by unfold hypOff; rw [if_neg g_1536, if_neg g_1538, if_neg g_1539, if_neg g_1605, if_neg g_1543, if_neg g_1542, if_neg g_1603, if_neg g_1610, if_neg g_1664, if_neg g_1541]
  rw [z_mOff] at h; simp only at h; rw [z_superOff] at h; simp only at h; rw [z_hypOff] at h; cases h
theorem flat_event {P : Program} {ops : Array Oper} {rest : List Oper} {o : Oper} {a : Act} {W : World} {Q : Exit → Act → World → Prop} (hg : o.guard = none) (t e : TypeId) (len : Nat) (parts : Array (Nat × Operand)) (ho : o.op = .buildSlice t len parts)
    (k : IntKind) (zs : List Int) (hu : P.underlying t = some (.slice e)) (hsz : (P.info? e).map (·.size) = some 1) (hz : ((P.info? e).bind (·.zero)).isSome = true) (hlen : len = zs.length) (hpos : 0 < len) (hsmall : len ≤ 2 ^ 24)
    (hparts : parts.toList = (zs.zipIdx 0).map fun x => (x.2, Operand.const (Value.int k x.1)))
    (h : ∀ g, g = W.heap.size → ∀ w1, w1.heap[g]? = some (.cells (zs.map (Value.int k)).toArray e (0, 0)) → Below W.heap.size W w1 → wpList P ops Q rest (a.put o.dst (.slice (some ⟨g, 0, none⟩) len len)) w1) : wpList P ops Q (o :: rest) a W :=
  wpList_buildFlat hg t e len parts ho k zs hu hsz hz hlen hpos hsmall hparts (h _ rfl _ (blk_new W _) (below_alloc (Below.refl _ _) _))
theorem sl_index (n gs c k : Nat) (h : k < n) (W : World) : (Instr.indexAt 40 (.slice (some ⟨gs, 0, none⟩) n c) (.int .i64 (k : Int))).run Tryd.prog W = .ok (.pointer (some ⟨gs, k, none⟩)) W := by
  rw [run_indexAt_slice (h := by exact Tryd.underlying40), if_pos (by omega)]
  have e : (⟨gs, 0, none⟩ : Addr).add k = ⟨gs, k, none⟩ := by unfold Addr.add; split <;> simp_all
  show Result.ok (Value.pointer (some ((⟨gs, 0, none⟩ : Addr).add (k * 1)))) W = _
  rw [Nat.mul_one, e]
theorem wr64 {k n : Nat} (h : k < n) (hn : n < 1000) : wrap64 ((k : Int) + 1) = ((k + 1 : Nat) : Int) := by unfold wrap64; omega
theorem meas {k n : Nat} (h : k < n) (hn : n < 1000) : n - (intOf (Value.int .i64 (wrap64 ((k : Int) + 1)))).toNat < n - (intOf (Value.int .i64 (k : Int))).toNat := by
  rw [wr64 h hn]
  show n - (((k + 1 : Nat) : Int)).toNat < n - ((k : Int)).toNat
  rw [Int.toNat_natCast, Int.toNat_natCast]; omega
def wholeL : List Int := [832, 834, 835, 843, 842, 320, 322, 323, 576, 578, 579, 1603, 1610]
def whole (k : Nat) : Int := wholeL.getD k 0
def isTo (no : Int) : Nat → Bool
  | 0 => false
  | k + 1 => if isTo no k = true then true else (whole k == no)
theorem is_mem (no : Int) : ∀ n, isTo no n = true → ∃ k, k < n ∧ whole k = no
  | 0, h => by cases h
  | n + 1, h => by
    unfold isTo at h
    split at h
    · rename_i h2; obtain ⟨k, hk, e⟩ := is_mem no n h2; exact ⟨k, by omega, e⟩
    · exact ⟨n, by omega, eq_of_beq h⟩
theorem whole_at : ∀ k, k < 13 → (#[.int .i64 832, .int .i64 834, .int .i64 835, .int .i64 843, .int .i64 842, .int .i64 320, .int .i64 322, .int .i64 323, .int .i64 576, .int .i64 578, .int .i64 579, .int .i64 1603, .int .i64 1610] : Array Value)[k]? = some (.int .i64 (whole k))
  | 0, _ => rfl
  | 1, _ => rfl
  | 2, _ => rfl
  | 3, _ => rfl
  | 4, _ => rfl
  | 5, _ => rfl
  | 6, _ => rfl
  | 7, _ => rfl
  | 8, _ => rfl
  | 9, _ => rfl
  | 10, _ => rfl
  | 11, _ => rfl
  | 12, _ => rfl
  | k + 13, h => by omega
theorem putV_all (a : Int) {v : Int} (hv : 0 ≤ v ∧ v < 18446744073709551616) : putV a 18446744073709551615 v = v := by
  obtain ⟨x, rfl⟩ := U_of hv.1 hv.2
  unfold putV
  rw [andNot_u64, and_u64, or_u64, ofInt_U, ofInt_U, ofInt_U, show BitVec.ofInt 64 18446744073709551615 = BitVec.allOnes 64 by decide]
  congr 1
  apply BitVec.eq_of_getLsbD_eq; intro i hi
  simp only [BitVec.getLsbD_and, BitVec.getLsbD_or, BitVec.getLsbD_not, BitVec.getLsbD_allOnes, hi, decide_true, Bool.not_true, Bool.and_false, Bool.false_or, Bool.and_true, Bool.true_and]
theorem read_set (g : Ht) (o : Nat) (v : Int) (la lb lc ld : Bool) (lg lt other : Int) (hf : fieldOff other ≠ some o) (hT : readT ((host g).set o v) la lb lc ld lg lt other = readT (host g) la lb lc ld lg lt other) : readV ((host g).set o v) la lb lc ld lg lt other = readV (host g) la lb lc ld lg lt other := by
  show (match fieldOff other with | some q => ((host g).set o v).x q | none => readT ((host g).set o v) la lb lc ld lg lt other) = (match fieldOff other with | some q => (host g).x q | none => readT (host g) la lb lc ld lg lt other)
  cases ho : fieldOff other with
  | none => exact hT
  | some q =>
    show (bif Nat.beq q o then v else (host g).x q) = _
    rw [beqF (fun e => hf (by rw [ho, e]))]; rfl
theorem again_law (g : Ht) (la lb lc ld : Bool) (lg lt no other v : Int) (hv : 0 ≤ v ∧ v < 18446744073709551616) (h : isTo no 13 = true) : (readV (writeV (host g) no v) la lb lc ld lg lt no != v) = false ∧ ((other == no) = false → (readV (writeV (host g) no v) la lb lc ld lg lt other == readV (host g) la lb lc ld lg lt other) = true) := by
  obtain ⟨k, hk, rfl⟩ := is_mem no 13 h
  clear h
  have hk : k = 0 ∨ k = 1 ∨ k = 2 ∨ k = 3 ∨ k = 4 ∨ k = 5 ∨ k = 6 ∨ k = 7 ∨ k = 8 ∨ k = 9 ∨ k = 10 ∨ k = 11 ∨ k = 12 := by omega
  rcases hk with rfl | rfl | rfl | rfl | rfl | rfl | rfl | rfl | rfl | rfl | rfl | rfl | rfl
  · show (readV (writeV (host g) 832 v) la lb lc ld lg lt 832 != v) = false ∧ ((other == 832) = false → _)
    have hwr : writeV (host g) 832 v = (host g).set 45 v := Eq.trans (show writeV (host g) 832 v = (host g).set 45 (putV ((host g).x 45) 18446744073709551615 v) by kernel_rfl) (by rw [putV_all _ hv])
    refine ⟨?_, fun hne => ?_⟩
    · rw [hwr]
      show (v != v) = false
      rw [bne_self_eq_false]
    · show (readV (writeV (host g) 832 v) la lb lc ld lg lt other == _) = true
      rw [hwr, read_set g 45 v la lb lc ld lg lt other (fun e => ?_) rfl, beq_self_eq_true]
      have := field_cases e
      have h3 : other ≠ 832 := fun e => by rw [e, beq_self_eq_true] at hne; cases hne
      omega
  · show (readV (writeV (host g) 834 v) la lb lc ld lg lt 834 != v) = false ∧ ((other == 834) = false → _)
    have hwr : writeV (host g) 834 v = (host g).set 47 v := Eq.trans (show writeV (host g) 834 v = (host g).set 47 (putV ((host g).x 47) 18446744073709551615 v) by kernel_rfl) (by rw [putV_all _ hv])
    refine ⟨?_, fun hne => ?_⟩
    · rw [hwr]
      show (v != v) = false
      rw [bne_self_eq_false]
    · show (readV (writeV (host g) 834 v) la lb lc ld lg lt other == _) = true
      rw [hwr, read_set g 47 v la lb lc ld lg lt other (fun e => ?_) rfl, beq_self_eq_true]
      have := field_cases e
      have h3 : other ≠ 834 := fun e => by rw [e, beq_self_eq_true] at hne; cases hne
      omega
  · show (readV (writeV (host g) 835 v) la lb lc ld lg lt 835 != v) = false ∧ ((other == 835) = false → _)
    have hwr : writeV (host g) 835 v = (host g).set 48 v := Eq.trans (show writeV (host g) 835 v = (host g).set 48 (putV ((host g).x 48) 18446744073709551615 v) by kernel_rfl) (by rw [putV_all _ hv])
    refine ⟨?_, fun hne => ?_⟩
    · rw [hwr]
      show (v != v) = false
      rw [bne_self_eq_false]
    · show (readV (writeV (host g) 835 v) la lb lc ld lg lt other == _) = true
      rw [hwr, read_set g 48 v la lb lc ld lg lt other (fun e => ?_) rfl, beq_self_eq_true]
      have := field_cases e
      have h3 : other ≠ 835 := fun e => by rw [e, beq_self_eq_true] at hne; cases hne
      omega
  · show (readV (writeV (host g) 843 v) la lb lc ld lg lt 843 != v) = false ∧ ((other == 843) = false → _)
    have hwr : writeV (host g) 843 v = (host g).set 49 v := Eq.trans (show writeV (host g) 843 v = (host g).set 49 (putV ((host g).x 49) 18446744073709551615 v) by kernel_rfl) (by rw [putV_all _ hv])
    refine ⟨?_, fun hne => ?_⟩
    · rw [hwr]
      show (v != v) = false
      rw [bne_self_eq_false]
    · show (readV (writeV (host g) 843 v) la lb lc ld lg lt other == _) = true
      rw [hwr, read_set g 49 v la lb lc ld lg lt other (fun e => ?_) rfl, beq_self_eq_true]
      have := field_cases e
      have h3 : other ≠ 843 := fun e => by rw [e, beq_self_eq_true] at hne; cases hne
      omega
  · show (readV (writeV (host g) 842 v) la lb lc ld lg lt 842 != v) = false ∧ ((other == 842) = false → _)
    have hwr : writeV (host g) 842 v = (host g).set 50 v := Eq.trans (show writeV (host g) 842 v = (host g).set 50 (putV ((host g).x 50) 18446744073709551615 v) by kernel_rfl) (by rw [putV_all _ hv])
    refine ⟨?_, fun hne => ?_⟩
    · rw [hwr]
      show (v != v) = false
      rw [bne_self_eq_false]
    · show (readV (writeV (host g) 842 v) la lb lc ld lg lt other == _) = true
      rw [hwr, read_set g 50 v la lb lc ld lg lt other (fun e => ?_) rfl, beq_self_eq_true]
      have := field_cases e
      have h3 : other ≠ 842 := fun e => by rw [e, beq_self_eq_true] at hne; cases hne
      omega
  · show (readV (writeV (host g) 320 v) la lb lc ld lg lt 320 != v) = false ∧ ((other == 320) = false → _)
    have hwr : writeV (host g) 320 v = (host g).set 53 v := Eq.trans (show writeV (host g) 320 v = (host g).set 53 (putV ((host g).x 53) 18446744073709551615 v) by kernel_rfl) (by rw [putV_all _ hv])
    refine ⟨?_, fun hne => ?_⟩
    · rw [hwr]
      show (v != v) = false
      rw [bne_self_eq_false]
    · show (readV (writeV (host g) 320 v) la lb lc ld lg lt other == _) = true
      rw [hwr, read_set g 53 v la lb lc ld lg lt other (fun e => ?_) rfl, beq_self_eq_true]
      have := field_cases e
      have h3 : other ≠ 320 := fun e => by rw [e, beq_self_eq_true] at hne; cases hne
      omega
  · show (readV (writeV (host g) 322 v) la lb lc ld lg lt 322 != v) = false ∧ ((other == 322) = false → _)
    have hwr : writeV (host g) 322 v = (host g).set 55 v := Eq.trans (show writeV (host g) 322 v = (host g).set 55 (putV ((host g).x 55) 18446744073709551615 v) by kernel_rfl) (by rw [putV_all _ hv])
    refine ⟨?_, fun hne => ?_⟩
    · rw [hwr]
      show (v != v) = false
      rw [bne_self_eq_false]
    · show (readV (writeV (host g) 322 v) la lb lc ld lg lt other == _) = true
      rw [hwr, read_set g 55 v la lb lc ld lg lt other (fun e => ?_) rfl, beq_self_eq_true]
      have := field_cases e
      have h3 : other ≠ 322 := fun e => by rw [e, beq_self_eq_true] at hne; cases hne
      omega
  · show (readV (writeV (host g) 323 v) la lb lc ld lg lt 323 != v) = false ∧ ((other == 323) = false → _)
    have hwr : writeV (host g) 323 v = (host g).set 56 v := Eq.trans (show writeV (host g) 323 v = (host g).set 56 (putV ((host g).x 56) 18446744073709551615 v) by kernel_rfl) (by rw [putV_all _ hv])
    refine ⟨?_, fun hne => ?_⟩
    · rw [hwr]
      show (v != v) = false
      rw [bne_self_eq_false]
    · show (readV (writeV (host g) 323 v) la lb lc ld lg lt other == _) = true
      rw [hwr, read_set g 56 v la lb lc ld lg lt other (fun e => ?_) rfl, beq_self_eq_true]
      have := field_cases e
      have h3 : other ≠ 323 := fun e => by rw [e, beq_self_eq_true] at hne; cases hne
      omega
  · show (readV (writeV (host g) 576 v) la lb lc ld lg lt 576 != v) = false ∧ ((other == 576) = false → _)
    have hwr : writeV (host g) 576 v = (host g).set 70 v := Eq.trans (show writeV (host g) 576 v = (host g).set 70 (putV ((host g).x 70) 18446744073709551615 v) by kernel_rfl) (by rw [putV_all _ hv])
    refine ⟨?_, fun hne => ?_⟩
    · rw [hwr]
      show (v != v) = false
      rw [bne_self_eq_false]
    · show (readV (writeV (host g) 576 v) la lb lc ld lg lt other == _) = true
      rw [hwr, read_set g 70 v la lb lc ld lg lt other (fun e => ?_) rfl, beq_self_eq_true]
      have := field_cases e
      have h3 : other ≠ 576 := fun e => by rw [e, beq_self_eq_true] at hne; cases hne
      omega
  · show (readV (writeV (host g) 578 v) la lb lc ld lg lt 578 != v) = false ∧ ((other == 578) = false → _)
    have hwr : writeV (host g) 578 v = (host g).set 72 v := Eq.trans (show writeV (host g) 578 v = (host g).set 72 (putV ((host g).x 72) 18446744073709551615 v) by kernel_rfl) (by rw [putV_all _ hv])
    refine ⟨?_, fun hne => ?_⟩
    · rw [hwr]
      show (v != v) = false
      rw [bne_self_eq_false]
    · show (readV (writeV (host g) 578 v) la lb lc ld lg lt other == _) = true
      rw [hwr, read_set g 72 v la lb lc ld lg lt other (fun e => ?_) rfl, beq_self_eq_true]
      have := field_cases e
      have h3 : other ≠ 578 := fun e => by rw [e, beq_self_eq_true] at hne; cases hne
      omega
  · show (readV (writeV (host g) 579 v) la lb lc ld lg lt 579 != v) = false ∧ ((other == 579) = false → _)
    have hwr : writeV (host g) 579 v = (host g).set 73 v := Eq.trans (show writeV (host g) 579 v = (host g).set 73 (putV ((host g).x 73) 18446744073709551615 v) by kernel_rfl) (by rw [putV_all _ hv])
    refine ⟨?_, fun hne => ?_⟩
    · rw [hwr]
      show (v != v) = false
      rw [bne_self_eq_false]
    · show (readV (writeV (host g) 579 v) la lb lc ld lg lt other == _) = true
      rw [hwr, read_set g 73 v la lb lc ld lg lt other (fun e => ?_) rfl, beq_self_eq_true]
      have := field_cases e
      have h3 : other ≠ 579 := fun e => by rw [e, beq_self_eq_true] at hne; cases hne
      omega
  · show (readV (writeV (host g) 1603 v) la lb lc ld lg lt 1603 != v) = false ∧ ((other == 1603) = false → _)
    have hwr : writeV (host g) 1603 v = (host g).set 64 v := Eq.trans (show writeV (host g) 1603 v = (host g).set 64 (putV ((host g).x 64) 18446744073709551615 v) by kernel_rfl) (by rw [putV_all _ hv])
    refine ⟨?_, fun hne => ?_⟩
    · rw [hwr]
      show (v != v) = false
      rw [bne_self_eq_false]
    · show (readV (writeV (host g) 1603 v) la lb lc ld lg lt other == _) = true
      rw [hwr, read_set g 64 v la lb lc ld lg lt other (fun e => ?_) rfl, beq_self_eq_true]
      have := field_cases e
      have h3 : other ≠ 1603 := fun e => by rw [e, beq_self_eq_true] at hne; cases hne
      omega
  · show (readV (writeV (host g) 1610 v) la lb lc ld lg lt 1610 != v) = false ∧ ((other == 1610) = false → _)
    have hwr : writeV (host g) 1610 v = (host g).set 65 v := Eq.trans (show writeV (host g) 1610 v = (host g).set 65 (putV ((host g).x 65) 18446744073709551615 v) by kernel_rfl) (by rw [putV_all _ hv])
    refine ⟨?_, fun hne => ?_⟩
    · rw [hwr]
      show (v != v) = false
      rw [bne_self_eq_false]
    · show (readV (writeV (host g) 1610 v) la lb lc ld lg lt other == _) = true
      rw [hwr, read_set g 65 v la lb lc ld lg lt other (fun e => ?_) rfl, beq_self_eq_true]
      have := field_cases e
      have h3 : other ≠ 1610 := fun e => by rw [e, beq_self_eq_true] at hne; cases hne
      omega
end Go.Proofs.YtlopmcakfalkpaaDoor.Hx
