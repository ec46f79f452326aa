/- Where the Lean function of a Go function gives a value, the Go call returns that value and changes nothing that was there: for every input. (By a program of this session, and by hand.) -/
import Derived.Test.YtkcgihpnlekfnaaDoorQx0
import Derived.Test.YtkcgihpnlekfnaaDoorQx2
namespace Go.Proofs.YtkcgihpnlekfnaaDoor.Q
open Go.RowKit Go.Proofs.YtkcgihpnlekfnaaDoorW.PrintWords Go.Proofs.YtkcgihpnlekfnaaDoorW.PrintLast Go.Proofs.YtkcgihpnlekfnaaDoorW.PrintMore
attribute [local go_sem] max2_int min2_int max_two min_two max_three min_three max_four min_four   -- for this text's walks alone
set_option linter.unusedVariables false
set_option linter.unusedSimpArgs false

/-! ### mezzanineref01_Same: function 14 -/
def mezzanineref01_Same.l0 : Nat → List Int → List Int → Int → Option (Bool)
  | 0, _, _, _ => none
  | k + 1, x0, x1, x5 => if x5 < (x0.length : Int) then (if 0 ≤ x5 then (if x5 < (x1.length : Int) then (if (rd x0 x5) = (rd x1 x5) then (mezzanineref01_Same.l0 k x0 x1 (wrap64 (x5 + 1))) else (some false)) else (none)) else (none)) else (some true)
def mezzanineref01_Same.f (k : Nat) (l0 : List Int) (l1 : List Int) : Option (Bool) := if (l0.length : Int) = (l1.length : Int) then (mezzanineref01_Same.l0 k l0 l1 0) else (some false)
theorem mezzanineref01_Same.mono_l : ∀ k, (∀ y0 y1 y2, LeO (mezzanineref01_Same.l0 k y0 y1 y2) (mezzanineref01_Same.l0 (k + 1) y0 y1 y2))
  | 0 => fun _ _ _ r h => by simp [mezzanineref01_Same.l0] at h
  | k + 1 => by
    have ih0 := mezzanineref01_Same.mono_l k
    · intro y0 y1 y2
      unfold mezzanineref01_Same.l0
      repeat' first
      | (with_reducible exact ih0 _ _ _)
      | (with_reducible exact LeO.refl _)
      | (with_reducible exact LeO.none _)
      | (with_reducible refine LeO.ite ?_ ?_)
      | (with_reducible refine LeO.bind ?_ (fun _ => ?_))
      | exact ih0 _ _ _
      | exact LeO.none _
      | refine LeO.ite ?_ ?_
      | refine LeO.bind ?_ (fun _ => ?_)
theorem mezzanineref01_Same.mono : ∀ a0 a1 k, LeO (mezzanineref01_Same.f k a0 a1) (mezzanineref01_Same.f (k + 1) a0 a1) := by
  intro a0 a1 k
  have ih0 := mezzanineref01_Same.mono_l k
  unfold mezzanineref01_Same.f
  repeat' first
      | (with_reducible exact ih0 _ _ _)
      | (with_reducible exact LeO.refl _)
      | (with_reducible exact LeO.none _)
      | (with_reducible refine LeO.ite ?_ ?_)
      | (with_reducible refine LeO.bind ?_ (fun _ => ?_))
      | exact ih0 _ _ _
      | exact LeO.none _
      | refine LeO.ite ?_ ?_
      | refine LeO.bind ?_ (fun _ => ?_)
set_option maxHeartbeats 8000000 in
set_option maxRecDepth 100000 in
theorem mezzanineref01_Same.calls (k : Nat) (A0 : Option Addr) (c0 : Nat) (l0 : List Int) (A1 : Option Addr) (c1 : Nat) (l1 : List Int) (r : Bool) (w : World) (hr0 : Kd.C (Kd.int .i64) w A0 l0.length l0) (hc0 : l0.length ≤ c0) (hr1 : Kd.C (Kd.int .i64) w A1 l1.length l1) (hc1 : l1.length ≤ c1) (h : mezzanineref01_Same.f k l0 l1 = some r) :
    Calls Tryd.prog 14 #[.slice A0 l0.length c0, .slice A1 l1.length c1] w fun e w' => e = .returned (.bool r) ∧ Drawn0 w w' := by
  have HR0 := Aside0.mk hr0
  have HC0 := Aside0.mk hc0
  clear hr0 hc0
  have HR1 := Aside0.mk hr1
  have HC1 := Aside0.mk hc1
  clear hr1 hc1
  have H : (if (l0.length : Int) = (l1.length : Int) then (mezzanineref01_Same.l0 k l0 l1 0) else (some false)) = some r := h
  clear h
  by_cases c3 : (l0.length : Int) = (l1.length : Int)
  · rw [if_pos c3] at H
    have c3b0 : ((l0.length : Int) == (l1.length : Int)) = true := beq_iff_eq.mpr c3
    have c3b1 : ((l0.length : Int) != (l1.length : Int)) = false := bne_eq_false_iff_eq.mpr c3
    have c3b2 : (l0.length == l1.length) = true := by first | simpa using c3 | (simp at c3 ⊢; omega)
    clear c3
    have H' := Aside0.mk H
    clear H
    go_enter Tryd.func14, Tryd.ntmps14
    go_wp2
    repeat (go_quiet (fail); try go_wp2)
    go_loopg [5] k (fun kq v5 w' => ∃ (x5_1 : Int), v5 = .int .i64 x5_1 ∧ Aside0 (mezzanineref01_Same.l0 kq l0 l1 x5_1 = some r) ∧ Aside0 (kq ≤ k) ∧ Drawn0 w w')
    case atStart => exact ⟨(0), (by first | rfl | (simp; done) | (simp [*]; done)), H', ⟨Nat.le_refl _⟩, by repeat (first | exact Drawn0.refl _ | apply Drawn0.step)⟩
    case round =>
      clear H'
      try clear c1
      try clear p2
      try clear c3
      try clear c3b0
      try clear c3b1
      try clear c3b2
      obtain ⟨x5_1, rfl, HA, HK1, ⟨m1, rfl⟩⟩ := hrel
      cases gk with
      | zero => exact absurd HA.out (by simp [mezzanineref01_Same.l0])
      | succ k1 =>
        have H := HA.out
        clear HA
        simp only [mezzanineref01_Same.l0] at H
        by_cases c4 : x5_1 < (l0.length : Int)
        · rw [if_pos c4] at H
          have c4b0 : decide (x5_1 < (l0.length : Int)) = true := decide_eq_true c4
          clear c4
          by_cases c5 : 0 ≤ x5_1
          · rw [if_pos c5] at H
            have c5b0 : decide (0 ≤ x5_1) = true := decide_eq_true c5
            clear c5
            by_cases c6 : x5_1 < (l1.length : Int)
            · rw [if_pos c6] at H
              have c6b0 : decide (x5_1 < (l1.length : Int)) = true := decide_eq_true c6
              clear c6
              by_cases c7 : (rd l0 x5_1) = (rd l1 x5_1)
              · rw [if_pos c7] at H
                have c7b0 : ((rd l0 x5_1) == (rd l1 x5_1)) = true := beq_iff_eq.mpr c7
                have c7b1 : ((rd l0 x5_1) != (rd l1 x5_1)) = false := bne_eq_false_iff_eq.mpr c7
                clear c7
                have H' := Aside0.mk H
                clear H
                have p114 : 0 ≤ (x5_1 : Int) := of_decide_eq_true (by first | (with_reducible assumption) | assumption)
                have q114 : x5_1 < (l0.length : Int) := of_decide_eq_true (by first | (with_reducible assumption) | assumption)
                obtain ⟨ad114, e114, hx114_0⟩ := Kd.at_int HR0.out x5_1 p114 q114
                cases e114
                replace p114 := eq_true p114
                replace q114 := eq_true q114
                have p115 : 0 ≤ (x5_1 : Int) := of_decide_eq_true (by first | (with_reducible assumption) | assumption)
                have q115 : x5_1 < (l1.length : Int) := of_decide_eq_true (by first | (with_reducible assumption) | assumption)
                obtain ⟨ad115, e115, hx115_0⟩ := Kd.at_int HR1.out x5_1 p115 q115
                cases e115
                replace p115 := eq_true p115
                replace q115 := eq_true q115
                go_wp2
                repeat (go_quiet (fail); try go_wp2)
                go_roundg k1
                case measure => have := HK1.out; omega
                case rel => exact ⟨(wrap64 (x5_1 + 1)), (by first | rfl | (simp; done) | (simp [*]; done)), H', ⟨by have := HK1.out; omega⟩, by repeat (first | exact Drawn0.refl _ | apply Drawn0.step)⟩
              · rw [if_neg c7] at H
                have c7b0 : ((rd l0 x5_1) == (rd l1 x5_1)) = false := beq_eq_false_iff_ne.mpr c7
                have c7b1 : ((rd l0 x5_1) != (rd l1 x5_1)) = true := bne_iff_ne.mpr c7
                obtain rfl := Option.some.inj H
                have p114 : 0 ≤ (x5_1 : Int) := of_decide_eq_true (by first | (with_reducible assumption) | assumption)
                have q114 : x5_1 < (l0.length : Int) := of_decide_eq_true (by first | (with_reducible assumption) | assumption)
                obtain ⟨ad114, e114, hx114_0⟩ := Kd.at_int HR0.out x5_1 p114 q114
                cases e114
                replace p114 := eq_true p114
                replace q114 := eq_true q114
                have p115 : 0 ≤ (x5_1 : Int) := of_decide_eq_true (by first | (with_reducible assumption) | assumption)
                have q115 : x5_1 < (l1.length : Int) := of_decide_eq_true (by first | (with_reducible assumption) | assumption)
                obtain ⟨ad115, e115, hx115_0⟩ := Kd.at_int HR1.out x5_1 p115 q115
                cases e115
                replace p115 := eq_true p115
                replace q115 := eq_true q115
                go_wp2
                repeat (go_quiet (fail); try go_wp2)
                go_ret
                exact ⟨by first | rfl | (simp; done) | (simp [*]; done), by repeat (first | exact Drawn0.refl _ | apply Drawn0.step)⟩
            · rw [if_neg c6] at H
              exact absurd H (by simp)
          · rw [if_neg c5] at H
            exact absurd H (by simp)
        · rw [if_neg c4] at H
          have c4b0 : decide (x5_1 < (l0.length : Int)) = false := decide_eq_false c4
          clear c4
          obtain rfl := Option.some.inj H
          go_wp2
          repeat (go_quiet (fail); try go_wp2)
          go_ret
          exact ⟨by first | rfl | (simp; done) | (simp [*]; done), by repeat (first | exact Drawn0.refl _ | apply Drawn0.step)⟩
  · rw [if_neg c3] at H
    have c3b0 : ((l0.length : Int) == (l1.length : Int)) = false := beq_eq_false_iff_ne.mpr c3
    have c3b1 : ((l0.length : Int) != (l1.length : Int)) = true := bne_iff_ne.mpr c3
    have c3b2 : (l0.length == l1.length) = false := by first | simpa using c3 | (simp at c3 ⊢; omega)
    obtain rfl := Option.some.inj H
    go_enter Tryd.func14, Tryd.ntmps14
    go_wp2
    repeat (go_quiet (fail); try go_wp2)
    go_ret
    exact ⟨by first | rfl | (simp; done) | (simp [*]; done), by repeat (first | exact Drawn0.refl _ | apply Drawn0.step)⟩

/-! ### mezzanineref01_Ones: by hand -/
section
open Go.Proofs.YtkcgihpnlekfnaaDoor.Bv
/-- The numbers below k of the bits that are 1. -/
def mezzanineref01_Ones.upto (x : BitVec 64) : Nat → List Int
  | 0 => []
  | k + 1 => if bitOf x k = true then mezzanineref01_Ones.upto x k ++ [(k : Int)] else mezzanineref01_Ones.upto x k
theorem mezzanineref01_Ones.len (x : BitVec 64) : ∀ k, (mezzanineref01_Ones.upto x k).length ≤ k
  | 0 => Nat.le_refl _
  | k + 1 => by
    have := mezzanineref01_Ones.len x k
    unfold mezzanineref01_Ones.upto; split
    · rw [List.length_append]; simp; omega
    · omega
def mezzanineref01_Ones.f (a0 : Int) : Option (List Int) := if 0 ≤ a0 ∧ a0 < 18446744073709551616 then some (mezzanineref01_Ones.upto (BitVec.ofInt 64 a0) 64) else none
set_option maxHeartbeats 4000000 in
set_option maxRecDepth 100000 in
theorem mezzanineref01_Ones.callsB (x : BitVec 64) (w : World) :
    Calls Tryd.prog 15 #[.int .u64 (U x)] w fun e w' => ∃ v0_ : Value, e = .returned (v0_) ∧ Kd.R (Kd.int .i64) 3 w' w.heap.size (fun _ => True) v0_ (mezzanineref01_Ones.upto x 64) ∧ Below w.heap.size w w' := by
  obtain ⟨hz, hi⟩ := zero_of_info mezzanineref01_Split.zero
  have HI := Lib.hid hi
  clear hi
  go_enter Tryd.func15, Tryd.ntmps15
  go_wp2_with fail
  refine (mezzanineref01_Split.calls x _).mono ?_
  rintro e1 w1 ⟨rfl, hb1⟩
  go_wp2_with (refine wpList_store_row rfl 44 _ _ rfl w1.heap.size (wArr x) rfl rfl 44 (bArr fun _ => false) (heap_alloc_last _ _) (by rw [show (wArr x).size = 64 from bArr_size _]; exact HI.out) (by rw [bArr_size, show (wArr x).size = 64 from bArr_size _]) (bArr_one _) ?_; rw [blk_stored])
  have hX := heap_alloc_last w1 (.cells (wArr x) 44)
  have hB := hb1.alloc hb1.size (.cells (wArr x) 44)
  clear hb1
  generalize w1.alloc (.cells (wArr x) 44) = W0 at hX hB ⊢
  generalize w1.heap.size = gb at hX ⊢
  go_loopw [4, 5] (fun v4 v5 wr => ∃ k : Nat, k ≤ 64 ∧ v5 = .int .i64 k ∧ Kd.R (Kd.int .i64) 3 wr w.heap.size (fun _ => True) v4 (mezzanineref01_Ones.upto x k) ∧ wr.heap[gb]? = some (.cells (wArr x) 44) ∧ Below w.heap.size w wr) (fun _ v5 _ => 64 - (intOf v5).toNat)
  case atStart => exact ⟨0, by omega, rfl, Kd.R_nil _ _ _ _ _, hX, hB⟩
  case round =>
    obtain ⟨k, hk, rfl, hR, hX1, hB1⟩ := hrel
    by_cases hlt : k < 64
    · have cX : wr.cell? ⟨gb, k, none⟩ = some (.bool (bitOf x k)) := blk_cell hX1 (bArr_get _ k hlt)
      cases hb : bitOf x k
      · rw [hb] at cX
        have hR2 : Kd.R (Kd.int .i64) 3 wr w.heap.size (fun _ => True) u4 (mezzanineref01_Ones.upto x (k + 1)) := by
          rw [mezzanineref01_Ones.upto, if_neg (by rw [hb]; decide)]; exact hR
        go_wp2
        go_roundw
        case rel => exact ⟨k + 1, by omega, by go_num, hR2, hX1, hB1⟩
        case measure => first | (simp [intOf]; done) | (simp [intOf]; omega)
      · rw [hb] at cX
        have HL := mezzanineref01_Ones.len x k
        have he : mezzanineref01_Ones.upto x k ++ [(k : Int)] = mezzanineref01_Ones.upto x (k + 1) := by rw [mezzanineref01_Ones.upto, if_pos hb]
        have HE := Lib.hid he
        clear he hb
        go_wp2_with ((with_reducible refine gate_builtin (b := .append) (xs := #[.tmp 15, .tmp 17]) rfl ?_); at_builtin; refine Kd.R_append (Kd.int .i64) (w0 := w) w.heap.size rfl (.tmp 15) (.tmp 17) 23 3 (.int .i64 0) 8 rfl Tryd.underlying23 info3 rfl (by decide) (by omega) u4 (mezzanineref01_Ones.upto x k) (k : Int) [.int .i64 (k : Int)] (fun _ => True) (fun _ => False) rfl rfl ?aP (fun _ hk => hk.elim) ?aF ?aO ?aB ?aS ?aL ?_; (case aP => exact rfl); (case aB => exact hB1); (case aF => exact (fun _ _ => trivial)); (case aO => exact hR); (case aS => exact below_size hB1); (case aL => omega); intro v113 w5 ho hbb hg hat; have hX2 := blk_grown hX1 hg (Kd.R_ne hR hX1 (by decide)); rw [HE.out] at ho; clear cX hX1 hR hB1 hg hat)
        go_roundw
        case rel => exact ⟨k + 1, by omega, by go_num, ho, hX2, hbb⟩
        case measure => first | (simp [intOf]; done) | (simp [intOf]; omega)
    · obtain rfl : k = 64 := by omega
      go_wp2
      go_ret
      exact ⟨_, rfl, hR, hB1⟩
theorem mezzanineref01_Ones.calls (a0 : Int) (r : List Int) (w : World) (h : mezzanineref01_Ones.f a0 = some r) :
    Calls Tryd.prog 15 #[.int .u64 a0] w fun e w' => ∃ v0_ : Value, e = .returned (v0_) ∧ Kd.R (Kd.int .i64) 3 w' w.heap.size (fun _ => True) v0_ r ∧ Below w.heap.size w w' := by
  unfold mezzanineref01_Ones.f at h
  by_cases hc : 0 ≤ a0 ∧ a0 < 18446744073709551616
  · rw [if_pos hc] at h
    obtain rfl := Option.some.inj h
    have := mezzanineref01_Ones.callsB (BitVec.ofInt 64 a0) w
    rw [U_ofInt hc.1 hc.2] at this
    exact this
  · rw [if_neg hc] at h; cases h
end

/-! ### mezzanineref01_Join: by hand -/
section
open Go.Proofs.YtkcgihpnlekfnaaDoor.Bv
set_option maxHeartbeats 4000000 in
set_option maxRecDepth 100000 in
theorem mezzanineref01_Join.callsW (x : BitVec 64) (w : World) : Calls Tryd.prog 25 #[.agg (wArr x)] w fun e w' => e = .returned (.int .u64 (U x)) ∧ Below w.heap.size w w' := by
  obtain ⟨c, hc⟩ : ∃ c, c = wArr x := ⟨_, rfl⟩
  have hcell : ∀ k, k < 64 → c[k]? = some (.bool (x.getLsbD k)) := fun k h => by rw [hc]; exact bArr_get _ k h
  rw [← hc]
  clear hc
  have HC := Lib.hid hcell
  clear hcell
  go_enter Tryd.func25, Tryd.ntmps25
  go_wp2
  go_loop [3, 4] (fun v3 v4 => ∃ k : Nat, k ≤ 64 ∧ v4 = .int .i64 ((k : Int) - 1) ∧ v3 = .int .u64 (U (x >>> k))) (fun _ v4 => (intOf v4 + 1).toNat)
  case atStart => exact ⟨64, by omega, rfl, by rw [show x >>> 64 = 0#64 from BitVec.eq_of_getLsbD_eq fun i hi => by rw [BitVec.getLsbD_ushiftRight, BitVec.getLsbD_of_ge _ _ (by omega)]; simp]; rfl⟩
  case round =>
    obtain ⟨k, hk, rfl, rfl⟩ := hrel
    by_cases hlt : k = 0
    · subst hlt
      go_wp2
      go_ret
      exact ⟨by simp, (Below.refl _ _).alloc (Nat.le_refl _) _⟩
    · obtain ⟨j, rfl⟩ : ∃ j, k = j + 1 := ⟨k - 1, by omega⟩
      have hg := HC.out j (by omega)
      have hj := join_step x j (by omega)
      have e1 : ((j + 1 : Nat) : Int) - 1 = (j : Int) := by omega
      rw [e1]
      have HJ := Lib.hid hj
      clear hj e1
      cases hb : x.getLsbD j
      · rw [hb] at hg
        have h2 := join_off x j hb
        clear hb
        go_wp2
        go_round
        case rel => exact ⟨j, by omega, rfl, by rw [HJ.out, h2]⟩
        case measure => first | (simp [intOf]; done) | (simp [intOf]; omega)
      · rw [hb] at hg
        have h2 := join_on x j hb
        clear hb
        go_wp2
        go_round
        case rel => exact ⟨j, by omega, rfl, by rw [HJ.out, join_one, h2]⟩
        case measure => first | (simp [intOf]; done) | (simp [intOf]; omega)
theorem mezzanineref01_Join.calls (b : Nat → Bool) (w : World) : Calls Tryd.prog 25 #[.agg (bArr b)] w fun e w' => e = .returned (.int .u64 (U (ofB b))) ∧ Below w.heap.size w w' := by
  rw [← wArr_ofB]; exact mezzanineref01_Join.callsW _ _
end

/-! ### mezzanineref01_Of: by hand -/
section
open Go.Proofs.YtkcgihpnlekfnaaDoor.Bv
/-- Which of the bits the first numbers of a list name. -/
def mezzanineref01_Of.b (l : List Int) (i : Nat) : Bool := l.any fun z => z == (i : Int)
def mezzanineref01_Of.f (l0 : List Int) : Option Int := if l0.length < 9223372036854775807 then some (U (ofB (mezzanineref01_Of.b l0))) else none
theorem mezzanineref01_Of.step (l : List Int) (k : Nat) (hk : k < l.length) (n : Nat) (hn : n < 64) (e : l[k] = (n : Int)) :
    (bArr fun i => if i = n then true else mezzanineref01_Of.b (l.take k) i) = bArr (mezzanineref01_Of.b (l.take (k + 1))) := by
  apply bArr_congr; intro i hi
  unfold mezzanineref01_Of.b
  rw [List.take_succ_eq_append_getElem hk, List.any_append, List.any_cons, List.any_nil, Bool.or_false, e]
  by_cases h : i = n
  · rw [if_pos h]; subst h; simp
  · rw [if_neg h]
    have : ((n : Int) == (i : Int)) = false := by simp; omega
    rw [this, Bool.or_false]
theorem mezzanineref01_Of.skip (l : List Int) (k : Nat) (hk : k < l.length) (h : ¬(0 ≤ l[k] ∧ l[k] < 64)) :
    bArr (mezzanineref01_Of.b (l.take k)) = bArr (mezzanineref01_Of.b (l.take (k + 1))) := by
  apply bArr_congr; intro i hi
  unfold mezzanineref01_Of.b
  rw [List.take_succ_eq_append_getElem hk, List.any_append, List.any_cons, List.any_nil, Bool.or_false]
  have : (l[k] == (i : Int)) = false := by simp; omega
  rw [this, Bool.or_false]
theorem mezzanineref01_Of.rd_at {l : List Int} {i : Nat} (h : i < l.length) : rd l (i : Int) = l[i] := by
  unfold rd; simp [h]
set_option maxHeartbeats 4000000 in
set_option maxRecDepth 100000 in
theorem mezzanineref01_Of.calls (A0 : Option Addr) (c0 : Nat) (l0 : List Int) (r : Int) (w : World) (hr0 : Kd.C (Kd.int .i64) w A0 l0.length l0) (hc0 : l0.length ≤ c0) (h : mezzanineref01_Of.f l0 = some r) :
    Calls Tryd.prog 16 #[.slice A0 l0.length c0] w fun e w' => e = .returned (.int .u64 r) ∧ Below w.heap.size w w' := by
  unfold mezzanineref01_Of.f at h
  by_cases hl : l0.length < 9223372036854775807
  case neg => rw [if_neg hl] at h; cases h
  rw [if_pos hl] at h
  obtain rfl := Option.some.inj h
  clear h
  have HR0 := Aside0.mk hr0
  clear hr0 hc0
  obtain ⟨hz, hi⟩ := zero_of_info mezzanineref01_Split.zero
  have HI := Lib.hid hi
  clear hi
  go_enter Tryd.func16, Tryd.ntmps16
  go_wp2
  go_loopw [4] (fun v4 wr => ∃ k : Nat, k ≤ l0.length ∧ v4 = .int .i64 k ∧ wr = w.alloc (.cells (bArr (mezzanineref01_Of.b (l0.take k))) 44)) (fun v4 _ => l0.length - (intOf v4).toNat)
  case atStart => exact ⟨0, by omega, rfl, by rw [List.take_zero]; rfl⟩
  case round =>
    obtain ⟨k, hk, rfl, rfl⟩ := hrel
    by_cases hlt : k < l0.length
    · have hw : wrap64 ((k : Int) + 1) = ((k + 1 : Nat) : Int) := by unfold wrap64; omega
      have p101 : 0 ≤ (k : Int) := by omega
      have q101 : (k : Int) < (l0.length : Int) := by omega
      obtain ⟨ad101, e101, hx101_0⟩ := Kd.at_int HR0.out (k : Int) p101 q101
      cases e101
      rw [Int.toNat_natCast] at hx101_0
      have hx2 := fun o : Obj => (World.cell?_alloc_lt w o _ (World.block_lt_of_cell? _ _ hx101_0)).trans hx101_0
      clear hx101_0
      have hs := mezzanineref01_Of.skip l0 k hlt
      have ht := mezzanineref01_Of.step l0 k hlt
      rw [← mezzanineref01_Of.rd_at hlt] at hs ht
      have HS := Lib.hid hs
      have HT := Lib.hid ht
      clear hs ht
      have p102 : decide (0 ≤ (k : Int)) = true := decide_eq_true p101
      have q102 : decide ((k : Int) < (l0.length : Int)) = true := decide_eq_true q101
      by_cases h0 : 0 ≤ rd l0 (k : Int)
      · by_cases h1 : rd l0 (k : Int) < 64
        · obtain ⟨n, hn⟩ := Int.eq_ofNat_of_zero_le h0
          have hn64 : n < 64 := by omega
          have hh := HT.out n hn64 hn
          have hg : (bArr (mezzanineref01_Of.b (l0.take k)))[n]? = some (.bool (mezzanineref01_Of.b (l0.take k) n)) := bArr_get _ n hn64
          rw [hn] at hx2 h0 h1
          have d0 := decide_eq_true h0
          have d1 := decide_eq_true h1
          have HH := Lib.hid hh
          clear hh h0 h1 hn HS HT
          go_wp2
          go_roundw
          case rel => exact ⟨k + 1, by omega, by first | rw [hw] | go_num | (simp; done), by rw [← HH.out, bArr_set]⟩
          case measure => first | (simp [intOf]; done) | (simp [intOf]; omega) | (simp only [intOf]; omega)
        · have d0 := decide_eq_true h0
          have d1 := decide_eq_false h1
          have hh := HS.out (fun h => h1 h.2)
          have HH := Lib.hid hh
          clear hh h0 h1 HS HT
          go_wp2
          go_roundw
          case rel => exact ⟨k + 1, by omega, by first | rw [hw] | go_num | (simp; done), by rw [HH.out]⟩
          case measure => first | (simp [intOf]; done) | (simp [intOf]; omega) | (simp only [intOf]; omega)
      · have d0 := decide_eq_false h0
        have hh := HS.out (fun h => h0 h.1)
        have HH := Lib.hid hh
        clear hh h0 HS HT
        go_wp2
        go_roundw
        case rel => exact ⟨k + 1, by omega, by first | rw [hw] | go_num | (simp; done), by rw [HH.out]⟩
        case measure => first | (simp [intOf]; done) | (simp [intOf]; omega) | (simp only [intOf]; omega)
    · obtain rfl : k = l0.length := by omega
      rw [List.take_length]
      have hi := HI.out
      go_wp2_with (refine wpList_load_row rfl 44 _ rfl w.heap.size rfl 44 (bArr (mezzanineref01_Of.b l0)) (0, 0) _ (heap_alloc_last _ _) Tryd.underlying44 rfl (by rw [bArr_size]; exact hi) ?_)
      refine (mezzanineref01_Join.calls (mezzanineref01_Of.b l0) _).mono ?_
      rintro e1 w1 ⟨rfl, hb1⟩
      go_wp2
      go_ret
      exact ⟨rfl, below_step ((Below.refl _ _).alloc (Nat.le_refl _) _) hb1⟩
end

end Go.Proofs.YtkcgihpnlekfnaaDoor.Q
