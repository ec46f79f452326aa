/- What is allowed without marks is allowed with them; a user needs U; no supervisor fetches where U is 1; what may be stored may be loaded; only the lowest eight bits count. (Walked by a program of this session.) -/
import Derived.Test.YteebgfcihoidmaaRQPteM
import Derived.Test.YteebgfcihoidmaaRQx2
import Derived.Test.YteebgfcihoidmaaRArr
import Derived.Deep.MidRow
import Derived.Lib.Hide
set_option linter.unusedSimpArgs false
set_option linter.unusedVariables false
namespace Go.Proofs.YteebgfcihoidmaaR.Pure
open Go.RowKit Go.Proofs.YteebgfcihoidmaaR.Q Go.Proofs.YteebgfcihoidmaaRW.PrintWords Go.Proofs.YteebgfcihoidmaaRW.PrintLast Go.Proofs.YteebgfcihoidmaaRW.PrintMore Go.Proofs.YteebgfcihoidmaaR.Bv Go.Proofs.YteebgfcihoidmaaR.QF
theorem and255 (x : BitVec 64) : Go.bits .and .u64 (U x) 255 = U (x &&& 255#64) := by
  rw [and_u64, ofInt_U]; rfl
theorem bit255 (x : BitVec 64) (i : Nat) (h : i < 8) : bitOf (x &&& 255#64) i = bitOf x i := by
  have e : (255#64).getLsbD i = true := by
    have h2 : ∀ i : Fin 8, (255#64).getLsbD i.val = true := by decide
    exact h2 ⟨i, h⟩
  unfold bitOf; rw [BitVec.getLsbD_and, e, Bool.and_true]
theorem al255 (x : BitVec 64) (kind : Int) (exec : Bool) (priv : Int) (v sum mxr vmxr : Bool) : al (x &&& 255#64) kind exec priv v sum mxr vmxr = al x kind exec priv v sum mxr vmxr := by
  unfold al md; rw [bit255 x 1 (by decide), bit255 x 2 (by decide), bit255 x 3 (by decide), bit255 x 4 (by decide)]
theorem fu255 (x : BitVec 64) (kind : Int) : fu (x &&& 255#64) kind = fu x kind := by
  unfold fu; rw [bit255 x 6 (by decide), bit255 x 7 (by decide)]
theorem al_more (x : BitVec 64) (kind : Int) (exec : Bool) (priv : Int) (v sum mxr vmxr : Bool) (h : al x kind exec priv v sum mxr vmxr = true) : al x kind exec priv v true true true = true := by
  unfold al md at h ⊢
  generalize bitOf x 1 = b1 at h ⊢; generalize bitOf x 2 = b2 at h ⊢; generalize bitOf x 3 = b3 at h ⊢; generalize bitOf x 4 = b4 at h ⊢
  by_cases hp : priv = 0 <;> by_cases h0 : kind = 0
  · subst h0; cases exec <;> cases b1 <;> cases b3 <;> cases b4 <;> simp_all
  · by_cases h1 : kind = 1
    · subst h1; cases b2 <;> cases b4 <;> simp_all
    · by_cases h2 : kind = 2
      · subst h2; cases b3 <;> cases b4 <;> simp_all
      · simp_all
  · subst h0; cases exec <;> cases b1 <;> cases b3 <;> cases b4 <;> simp_all
  · by_cases h1 : kind = 1
    · subst h1; cases b2 <;> cases b4 <;> simp_all
    · by_cases h2 : kind = 2
      · subst h2; cases b3 <;> cases b4 <;> simp_all
      · simp_all
theorem al_user (x : BitVec 64) (kind : Int) (exec : Bool) (v sum mxr vmxr : Bool) (h : al x kind exec 0 v sum mxr vmxr = true) : bitOf x 4 = true := by
  unfold al md at h; simp_all
theorem al_fetch (x : BitVec 64) (priv : Int) (hp : ¬priv = 0) (exec : Bool) (v sum mxr vmxr : Bool) (h : al x 2 exec priv v sum mxr vmxr = true) : bitOf x 4 = false := by
  unfold al md at h; simp_all
theorem al_kind (x : BitVec 64) (kind priv : Int) (exec : Bool) (v sum mxr vmxr : Bool) (h : al x kind exec priv v sum mxr vmxr = true) : ¬kind > 2 := by
  intro h2; unfold al at h
  rw [if_neg (show ¬kind = 2 by omega), if_neg (show ¬kind = 1 by omega), if_neg (show ¬kind = 0 by omega)] at h; simp at h
theorem al_load (x : BitVec 64) (priv : Int) (exec : Bool) (v sum mxr vmxr : Bool) (ho : okE x = true) (h : al x 1 exec priv v sum mxr vmxr = true) : al x 0 false priv v sum mxr vmxr = true := by
  unfold al md at h ⊢; unfold okE at ho
  generalize bitOf x 1 = b1 at h ho ⊢; generalize bitOf x 2 = b2 at h ho ⊢; generalize bitOf x 3 = b3 at h ho ⊢; generalize bitOf x 4 = b4 at h ho ⊢
  by_cases hp : priv = 0 <;> cases b1 <;> cases b2 <;> cases b4 <;> simp_all
theorem fu_load (x : BitVec 64) (h : fu x 1 = true) : fu x 0 = true := by unfold fu at h ⊢; simp_all

theorem setCells_block (g : Nat) (t : TypeId) : ∀ (vs : List Value) (o : Nat) (w : World) (cs : Array Value), w.heap[g]? = some (.cells cs t (0, 0)) → ∃ cs', (w.setCells g o vs).heap[g]? = some (.cells cs' t (0, 0)) ∧ cs'.size = cs.size
  | [], _, w, cs, h => ⟨cs, h, rfl⟩
  | v :: vs, o, w, cs, h => by
    obtain ⟨cs', h1, h2⟩ := setCells_block g t vs (o + 1) (w.setCell ⟨g, o, none⟩ v) _ (blk_set h o v)
    exact ⟨cs', h1, by rw [h2, Array.size_setIfInBounds]⟩
theorem setCells_far {g g2 : Nat} {ob : Obj} (hne : g2 ≠ g) : ∀ (vs : List Value) (o : Nat) (w : World), w.heap[g2]? = some ob → (w.setCells g o vs).heap[g2]? = some ob
  | [], _, w, h => h
  | v :: vs, o, w, h => setCells_far hne vs (o + 1) (w.setCell ⟨g, o, none⟩ v) ((Below.heap_setCell w ⟨g, o, none⟩ v g2 hne).trans h)
theorem setCells_far' {w : World} {g g2 : Nat} {ob : Obj} {vs : List Value} {o : Nat} (hne : g2 ≠ g) (h : w.heap[g2]? = some ob) : (w.setCells g o vs).heap[g2]? = some ob := setCells_far hne vs o w h
theorem setCells_below {w0 : World} {g : Nat} (hg : w0.heap.size ≤ g) : ∀ (vs : List Value) (o : Nat) (w : World), Below w0.heap.size w0 w → Below w0.heap.size w0 (w.setCells g o vs)
  | [], _, w, h => h
  | v :: vs, o, w, h => setCells_below hg vs (o + 1) (w.setCell ⟨g, o, none⟩ v) (below_set h hg)
theorem blk_there {w : World} {g : Nat} {t : TypeId} {cs0 : Array Value} (H : w.heap[g]? = some (.cells cs0 t (0, 0))) {n : Nat} (hn : n = cs0.size := by rfl) : w.there g 0 n := fun j hj => by
  rw [Nat.zero_add]
  refine ⟨?_, blk_frozen H j⟩
  rw [blk_cell H j, Array.getElem?_eq_getElem (by omega)]; rfl
theorem blk_putAll {w : World} {g : Nat} {t : TypeId} {cs0 cs : Array Value} (H : w.heap[g]? = some (.cells cs0 t (0, 0))) (hs : cs.size = cs0.size) : (w.setCells g 0 cs.toList).heap[g]? = some (.cells cs t (0, 0)) := by
  obtain ⟨cs', h1, h2⟩ := setCells_block g t cs.toList 0 w _ H
  have hr := World.rangeAt_setCells_same w g 0 cs.toList (blk_there H (by rw [Array.length_toList, hs]))
  have e : cs' = cs := by
    apply Array.ext_getElem?
    intro i
    by_cases hi : i < cs.size
    · have := hr i cs[i] (by rw [Array.getElem?_toList, Array.getElem?_eq_getElem hi])
      rw [Nat.zero_add, blk_cell h1 i] at this
      rw [this, Array.getElem?_eq_getElem hi]
    · rw [Array.getElem?_eq_none (by omega), Array.getElem?_eq_none (by omega)]
  rw [e] at h1; exact h1
theorem exec_load_blk {P : Program} {o : Oper} {ρ : Operand → Value} {w : World} {ty t : TypeId} {x : Operand} {g : Nat} {cs : Array Value} {fr : Nat × Nat} {d : TypeDesc} (ho : o.op = .load ty x) (hx : ρ x = .pointer (some ⟨g, 0, none⟩)) (hg : w.heap[g]? = some (.cells cs t fr))
    (hu : P.underlying ty = some d) (hd : (match d with | .struct _ | .array _ _ => true | _ => false) = true) (hi : (P.info? ty).map (·.size) = some cs.size) : (execOp ρ o).run P w = .ok (.value (.agg cs)) w := by
  unfold execOp
  simp only [ho, hx, Instr.loadAt, Instr.sureAddr, Sem.run_bind, Sem.run_pure, Result.andThen_ok, run_loadVar_row w g t ty cs fr d hg hu hd hi]
theorem Below_of {n : Nat} {w w1 w2 : World} (e : w1 = w2) (H : Below n w w1) : Below n w w2 := e ▸ H
theorem u16 (x : BitVec 64) : (Go.bits .and .u64 (U x) 16 == 0) = !bitOf x 4 := by
  rw [← n16]; unfold bne; rw [Bool.not_not]
set_option maxHeartbeats 16000000 in
set_option maxRecDepth 100000 in
theorem marks_f (x : BitVec 64) (kind : Int) (exec : Bool) (priv : Int) (v sum mxr vmxr : Bool) (w : World) (ok : al x kind exec priv v sum mxr vmxr = false) : Calls Try.prog 6 #[.int .u64 (U x), .agg #[.int .u8 kind, .bool exec, .int .u8 priv, .bool v, .bool sum, .bool mxr, .bool vmxr]] w fun e w' => e = .returned (.bool true) ∧ Below w.heap.size w w' := by
  have hA := fun w => pte_Allowed.calls (U x) kind exec priv v sum mxr vmxr _ w (allowed_eq x kind exec priv v sum mxr vmxr)
  have hA2 := fun w => pte_Allowed.calls (U x) kind exec priv v true true true _ w (allowed_eq x kind exec priv v true true true)
  have hAl := fun w => pte_Allowed.calls (U x) 0 false priv v sum mxr vmxr _ w (allowed_eq x 0 false priv v sum mxr vmxr)
  have hA5 := fun w => pte_Allowed.calls (U (x &&& 255#64)) kind exec priv v sum mxr vmxr _ w (allowed_eq (x &&& 255#64) kind exec priv v sum mxr vmxr)
  simp only [al255] at hA5
  have hF := fun w => pte_Full.calls (U x) kind exec priv v sum mxr vmxr _ w (full_eq x kind exec priv v sum mxr vmxr)
  have hFl := fun w => pte_Full.calls (U x) 0 false priv v sum mxr vmxr _ w (full_eq x 0 false priv v sum mxr vmxr)
  have hF5 := fun w => pte_Full.calls (U (x &&& 255#64)) kind exec priv v sum mxr vmxr _ w (full_eq (x &&& 255#64) kind exec priv v sum mxr vmxr)
  simp only [fu255] at hF5
  have hO := fun w => pte_Ok.calls 1 (U x) _ w (ok_eq x 0)
  have hL := fun w => pte_Leaf.calls (U x) _ w (leaf_eq x)
  have e255 := (and255 x).symm
  rw [e255] at hA5 hF5
  clear e255
  have f1 := al_more x kind exec priv v sum mxr vmxr
  have f2 := fun (e : priv = 0) => al_user x kind exec v sum mxr vmxr
  have f3 := al_fetch x priv
  have f4 := al_kind x kind priv exec v sum mxr vmxr
  have f5 := al_load x priv exec v sum mxr vmxr
  have f6 := fu_load x
  have HO := Lib.hid hO; have HL := Lib.hid hL; have HA := Lib.hid hA; have HA2 := Lib.hid hA2; have HAL := Lib.hid hAl; have HA5 := Lib.hid hA5; have HF := Lib.hid hF; have HFL := Lib.hid hFl; have HF5 := Lib.hid hF5; have F1 := Lib.hid f1; have F2 := Lib.hid f2; have F3 := Lib.hid f3; have F4 := Lib.hid f4; have F5 := Lib.hid f5; have F6 := Lib.hid f6; have U16 := Lib.hid (u16 x); have N16 := Lib.hid (n16 x)
  clear hO hL hA hA2 hAl hA5 hF hFl hF5 f1 f2 f3 f4 f5 f6
  cases o1 : okE x
  · skip
    have hA := HA.out; rw [ok] at hA
    have HA := Lib.hid hA; clear hA
    have hA5 := HA5.out; rw [ok] at hA5
    have HA5 := Lib.hid hA5; clear hA5
    have hO := HO.out; rw [o1] at hO
    have HO := Lib.hid hO; clear hO
    have hF := HF.out; have hF5 := HF5.out
    generalize fu x kind = ff at hF hF5
    have d9 : (ff == ff) = true := beq_self_eq_true _
    have HF := Lib.hid hF; have HF5 := Lib.hid hF5; clear hF hF5
    clear ok o1
    have hu32 := Try.underlying32
    go_enter Try.func6, Try.ntmps6
    go_upto_region 1 with (first | ((with_reducible refine gate_dst (N := 3) rfl ?_); refine box_event ?hg (N := 3) ?hd (cs := #[.int .u8 kind, .bool exec, .int .u8 priv, .bool v, .bool sum, .bool mxr, .bool vmxr]) (t := 32) ?hr ?_; (case hd => rfl); (case hg => rfl); (case hr => first | (go_simp; done) | (go_simp; rfl)); intro gw hg w_1 H1 hb; have hB_2 := Lib.hid (below_step (Below.refl w.heap.size w) hb); have G_gw := Lib.hid (show w.heap.size ≤ gw by rw [hg]; exact ((Below.refl w.heap.size w)).size); have K_gw := Lib.hid (show w_1.heap[gw]? = some (.cells #[.int .u8 kind, .bool exec, .int .u8 priv, .bool v, .bool sum, .bool mxr, .bool vmxr] 32 (0, 0)) from H1); clear hg hb H1))
    go_wp2_with fail
    refine (mezzaninelaw15_awake.calls 6 true _ (pte_awake 1)).mono ?_
    rintro e_3 w_4 ⟨rfl, hb⟩
    have hB_5 := Lib.hid (below_step hB_2.out hb)
    replace K_gw := Lib.hid (blk_below K_gw.out hb)
    clear hb hB_2
    go_upto_region 3 with fail
    go_upto_region 4 with (first | ((with_reducible refine gate_dst (N := 10) rfl ?_); (first | (refine gate_guard (by kernel_rfl) ?_) | skip); refine Kd.event_run rfl (v := .agg #[.int .u8 kind, .bool exec, .int .u8 priv, .bool v, .bool sum, .bool mxr, .bool vmxr]) (w1 := w_4) ?hb ?_; (case hb => exact exec_load_blk rfl rfl K_gw.out Try.underlying32 rfl (by kernel_rfl))) | ((with_reducible refine gate_dst (N := 5) rfl ?_); refine box_event ?hg (N := 5) ?hd (cs := #[.int .u8 0, .bool false, .int .u8 0, .bool false, .bool false, .bool false, .bool false]) (t := 32) ?hr ?_; (case hd => rfl); (case hg => rfl); (case hr => first | (go_simp; done) | (go_simp; rfl)); intro gm hg w_6 H1 hb; have hB_8 := Lib.hid (below_step hB_5.out hb); have G_gm := Lib.hid (show w.heap.size ≤ gm by rw [hg]; exact (hB_5.out).size); have N_gw_gm := Lib.hid (show gw ≠ gm by rw [hg]; exact Nat.ne_of_lt (blk_lt K_gw.out)); replace K_gw := Lib.hid (blk_below K_gw.out hb); have K_gm := Lib.hid (show w_6.heap[gm]? = some (.cells #[.int .u8 0, .bool false, .int .u8 0, .bool false, .bool false, .bool false, .bool false] 32 (0, 0)) from H1); clear hg hb H1 hB_5) | (refine wpList_store_mid rfl 32 (.tmp 5) (.tmp 10) rfl gm 0 #[.int .u8 kind, .bool exec, .int .u8 priv, .bool v, .bool sum, .bool mxr, .bool vmxr] rfl rfl (blk_there K_gm.out) (by kernel_rfl) (by simp [Value.oneCell']) ?_; have hB_9 := Lib.hid (setCells_below G_gm.out (#[.int .u8 kind, .bool exec, .int .u8 priv, .bool v, .bool sum, .bool mxr, .bool vmxr] : Array Value).toList 0 _ hB_8.out); replace K_gw := Lib.hid (setCells_far' (vs := (#[.int .u8 kind, .bool exec, .int .u8 priv, .bool v, .bool sum, .bool mxr, .bool vmxr] : Array Value).toList) (o := 0) N_gw_gm.out K_gw.out); replace K_gm := Lib.hid (blk_putAll (cs := #[.int .u8 kind, .bool exec, .int .u8 priv, .bool v, .bool sum, .bool mxr, .bool vmxr]) K_gm.out rfl); clear hB_8; generalize World.setCells w_6 gm 0 (#[.int .u8 kind, .bool exec, .int .u8 priv, .bool v, .bool sum, .bool mxr, .bool vmxr] : Array Value).toList = w_7 at K_gw K_gm hB_9 ⊢))
    have c_gm_4 := (show World.cell? _ ⟨gm, 4, none⟩ = some (.bool sum) from (blk_cell K_gm.out 4).trans rfl); have f_gm_4 := blk_frozen K_gm.out 4
    have c_gm_5 := (show World.cell? _ ⟨gm, 5, none⟩ = some (.bool mxr) from (blk_cell K_gm.out 5).trans rfl); have f_gm_5 := blk_frozen K_gm.out 5
    have c_gm_6 := (show World.cell? _ ⟨gm, 6, none⟩ = some (.bool vmxr) from (blk_cell K_gm.out 6).trans rfl); have f_gm_6 := blk_frozen K_gm.out 6
    go_upto_region 7 with fail
    clear c_gm_4 f_gm_4 c_gm_5 f_gm_5 c_gm_6 f_gm_6
    have q_g := Lib.hid (blk_put (blk_put (blk_put K_gm.out 4 (.bool true) rfl) 5 (.bool true) rfl) 6 (.bool true) rfl)
    replace K_gw := Lib.hid (blk_far (blk_far (blk_far K_gw.out (p := ⟨gm, 4, none⟩) N_gw_gm.out (.bool true)) (p := ⟨gm, 5, none⟩) N_gw_gm.out (.bool true)) (p := ⟨gm, 6, none⟩) N_gw_gm.out (.bool true))
    have hB_11 := Lib.hid (below_set (j := 6) (v := .bool true) (below_set (j := 5) (v := .bool true) (below_set (j := 4) (v := .bool true) hB_9.out G_gm.out) G_gm.out) G_gm.out)
    clear K_gm hB_9
    generalize (World.setCell (World.setCell (World.setCell w_7 ⟨gm, 4, none⟩ (.bool true)) ⟨gm, 5, none⟩ (.bool true)) ⟨gm, 6, none⟩ (.bool true)) = w_10 at K_gw q_g hB_11 ⊢
    have K_gm := Lib.hid (show w_10.heap[gm]? = some (.cells #[.int .u8 kind, .bool exec, .int .u8 priv, .bool v, .bool true, .bool true, .bool true] 32 (0, 0)) from q_g.out); clear q_g
    go_wp2_with (first | ((with_reducible refine gate_dst (N := 15) rfl ?_); (first | (refine gate_guard (by kernel_rfl) ?_) | skip); refine Kd.event_run rfl (v := .agg #[.int .u8 kind, .bool exec, .int .u8 priv, .bool v, .bool sum, .bool mxr, .bool vmxr]) (w1 := w_10) ?hb ?_; (case hb => exact exec_load_blk rfl rfl K_gw.out Try.underlying32 rfl (by kernel_rfl))))
    refine (HA.out _).mono ?_
    rintro e_12 w_13 ⟨rfl, hb⟩
    have hB_14 := Lib.hid (below_step hB_11.out hb)
    replace K_gw := Lib.hid (blk_below K_gw.out hb)
    replace K_gm := Lib.hid (blk_below K_gm.out hb)
    clear hb hB_11
    have c_gw_0 := (show World.cell? _ ⟨gw, 0, none⟩ = some (.int .u8 kind) from (blk_cell K_gw.out 0).trans rfl); have f_gw_0 := blk_frozen K_gw.out 0
    have c_gw_2 := (show World.cell? _ ⟨gw, 2, none⟩ = some (.int .u8 priv) from (blk_cell K_gw.out 2).trans rfl); have f_gw_2 := blk_frozen K_gw.out 2
    go_upto_region 10 with fail
    go_wp2_with fail
    refine (HO.out _).mono ?_
    rintro e5 w5 ⟨rfl, n_, e5⟩
    clear c_gw_0 f_gw_0 c_gw_2 f_gw_2
    replace K_gw := Lib.hid (show w5.heap[gw]? = some (.cells #[.int .u8 kind, .bool exec, .int .u8 priv, .bool v, .bool sum, .bool mxr, .bool vmxr] 32 (0, 0)) from by rw [e5]; exact blk_drewN K_gw.out n_)
    replace K_gm := Lib.hid (show w5.heap[gm]? = some (.cells #[.int .u8 kind, .bool exec, .int .u8 priv, .bool v, .bool true, .bool true, .bool true] 32 (0, 0)) from by rw [e5]; exact blk_drewN K_gm.out n_)
    have hB_15 := Lib.hid (Below_of e5.symm (pw_below_drewN hB_14.out n_))
    clear e5 hB_14
    have c_gw_0 := (show World.cell? _ ⟨gw, 0, none⟩ = some (.int .u8 kind) from (blk_cell K_gw.out 0).trans rfl); have f_gw_0 := blk_frozen K_gw.out 0
    have c_gw_2 := (show World.cell? _ ⟨gw, 2, none⟩ = some (.int .u8 priv) from (blk_cell K_gw.out 2).trans rfl); have f_gw_2 := blk_frozen K_gw.out 2
    go_upto_region 16 with fail
    clear c_gw_0 f_gw_0 c_gw_2 f_gw_2
    refine start_ (n := 19) (S := fun w' => w'.heap[gw]? = some (.cells #[.int .u8 kind, .bool exec, .int .u8 priv, .bool v, .bool sum, .bool mxr, .bool vmxr] 32 (0, 0))) (ds := []) #[false, false, false, false, false, false, false, false, false, false, false, false, false, false, false, false, false, false, false] (by kernel_rfl) rfl rfl (blk_drew K_gw.out) (fun hHeld => ?_)
    replace K_gw := Lib.hid (blk_drew K_gw.out)
    replace K_gm := Lib.hid (blk_drew K_gm.out)
    have hB_17 := Lib.hid (below_drew1 hB_15.out)
    clear hB_15
    generalize World.drew w5 = w_16 at K_gw K_gm hB_17 hHeld ⊢
    refine pure_ (i := 0) (N := some 95) (v := ?_) (a' := ?_) #[true, false, false, false, false, false, false, false, false, false, false, false, false, false, false, false, false, false, false] rfl rfl (by kernel_rfl) (fun _ _ _ h => h) (Or.inl ⟨by rfl, ?_⟩) ?_ ?_
    rotate_left
    · intro w'
      go_simp
      with_reducible rfl
    rotate_left
    · simp only [Act.put, List.setIfInBounds_toArray, List.set_cons_zero, List.set_cons_succ, i64_w, i32_w]
      rfl
    refine pure_ (i := 3) (N := some 98) (v := ?_) (a' := ?_) #[true, false, false, true, false, false, false, false, false, false, false, false, false, false, false, false, false, false, false] rfl rfl (by kernel_rfl) (fun _ _ _ h => h) (Or.inl ⟨by rfl, ?_⟩) ?_ ?_
    rotate_left
    · intro w'
      go_simp
      with_reducible rfl
    rotate_left
    · simp only [Act.put, List.setIfInBounds_toArray, List.set_cons_zero, List.set_cons_succ, i64_w, i32_w]
      rfl
    refine pure_ (i := 4) (N := some 99) (v := ?_) (a' := ?_) #[true, false, false, true, true, false, false, false, false, false, false, false, false, false, false, false, false, false, false] rfl rfl (by kernel_rfl) (fun _ _ _ h => h) (Or.inl ⟨by rfl, ?_⟩) ?_ ?_
    rotate_left
    · intro w'
      go_simp
      with_reducible rfl
    rotate_left
    · simp only [Act.put, List.setIfInBounds_toArray, List.set_cons_zero, List.set_cons_succ, i64_w, i32_w]
      rfl
    refine take_ (i := 1) (N := some 96) (v := .agg #[.int .u8 kind, .bool exec, .int .u8 priv, .bool v, .bool sum, .bool mxr, .bool vmxr]) (a' := ?_) #[true, true, false, true, true, false, false, false, false, false, false, false, false, false, false, false, false, false, false] rfl rfl (by kernel_rfl) (fun _ _ _ h => h) (Or.inl ⟨by rfl, ?_⟩) hHeld ?_ ?_
    · intro w' s0; exact exec_load_blk rfl rfl s0 Try.underlying32 rfl (by kernel_rfl)
    rotate_left
    · simp only [Act.put, List.setIfInBounds_toArray, List.set_cons_zero, List.set_cons_succ, i64_w, i32_w]
      rfl
    refine take_ (i := 5) (N := some 100) (v := .agg #[.int .u8 kind, .bool exec, .int .u8 priv, .bool v, .bool sum, .bool mxr, .bool vmxr]) (a' := ?_) #[true, true, false, true, true, true, false, false, false, false, false, false, false, false, false, false, false, false, false] rfl rfl (by kernel_rfl) (fun _ _ _ h => h) (Or.inl ⟨by rfl, ?_⟩) hHeld ?_ ?_
    · intro w' s0; exact exec_load_blk rfl rfl s0 Try.underlying32 rfl (by kernel_rfl)
    rotate_left
    · simp only [Act.put, List.setIfInBounds_toArray, List.set_cons_zero, List.set_cons_succ, i64_w, i32_w]
      rfl
    have HH := Lib.hid hHeld
    clear hHeld
    refine one_ (i := 2) (N := some 97) #[true, true, true, true, true, true, false, false, false, false, false, false, false, false, false, false, false, false, false] rfl rfl (by kernel_rfl) (by decide) (fun K hK => ?_)
    refine goes_ Try.func21 (by kernel_rfl) rfl #[.int .u64 (U x), .agg #[.int .u8 kind, .bool exec, .int .u8 priv, .bool v, .bool sum, .bool mxr, .bool vmxr]] (by rfl) rfl rfl (by simp only [List.map_toArray, List.map_cons, List.map_nil]; rfl) ?_
    with_reducible refine (HA.out _).mono ?_
    rintro e_ w_18 ⟨rfl, hb⟩
    refine ⟨_, rfl, ?_⟩
    have s_0 := blk_below (HH.out) hb
    replace K_gw := Lib.hid (blk_below K_gw.out hb)
    replace K_gm := Lib.hid (blk_below K_gm.out hb)
    have hB_19 := Lib.hid (below_step hB_17.out hb)
    clear HH hb hB_17
    refine hK.out _ _ (s_0) (fun hHeld => ?_)
    have HH := Lib.hid hHeld
    clear hHeld s_0
    clear hK K
    refine norm_ (a' := ?_) ?_ ?_
    rotate_left
    · show Act.put _ (some 97) _ = _
      simp only [Act.put, List.setIfInBounds_toArray, List.set_cons_zero, List.set_cons_succ, i64_w, i32_w]
      rfl
    refine one_ (i := 6) (N := some 101) #[true, true, true, true, true, true, true, false, false, false, false, false, false, false, false, false, false, false, false] rfl rfl (by kernel_rfl) (by decide) (fun K hK => ?_)
    refine goes_ Try.func21 (by kernel_rfl) rfl #[.int .u64 (Go.bits .and .u64 (U x) 255), .agg #[.int .u8 kind, .bool exec, .int .u8 priv, .bool v, .bool sum, .bool mxr, .bool vmxr]] (by rfl) rfl rfl (by simp only [List.map_toArray, List.map_cons, List.map_nil]; rfl) ?_
    with_reducible refine (HA5.out _).mono ?_
    rintro e_ w_20 ⟨rfl, hb⟩
    refine ⟨_, rfl, ?_⟩
    have s_0 := blk_below (HH.out) hb
    replace K_gw := Lib.hid (blk_below K_gw.out hb)
    replace K_gm := Lib.hid (blk_below K_gm.out hb)
    have hB_21 := Lib.hid (below_step hB_19.out hb)
    clear HH hb hB_19
    refine hK.out _ _ (s_0) (fun hHeld => ?_)
    have HH := Lib.hid hHeld
    clear hHeld s_0
    clear hK K
    refine norm_ (a' := ?_) ?_ ?_
    rotate_left
    · show Act.put _ (some 101) _ = _
      simp only [Act.put, List.setIfInBounds_toArray, List.set_cons_zero, List.set_cons_succ, i64_w, i32_w]
      rfl
    refine pure_ (i := 7) (N := some 102) (v := ?_) (a' := ?_) #[true, true, true, true, true, true, true, true, false, false, false, false, false, false, false, false, false, false, false] rfl rfl (by kernel_rfl) (fun _ _ _ h => h) (Or.inl ⟨by rfl, ?_⟩) ?_ ?_
    rotate_left
    · intro w'
      go_simp
      with_reducible rfl
    rotate_left
    · simp only [Act.put, List.setIfInBounds_toArray, List.set_cons_zero, List.set_cons_succ, i64_w, i32_w]
      rfl
    refine pure_ (i := 8) (N := some 103) (v := ?_) (a' := ?_) #[true, true, true, true, true, true, true, true, true, false, false, false, false, false, false, false, false, false, false] rfl rfl (by kernel_rfl) (fun _ _ _ h => h) (Or.inl ⟨by rfl, ?_⟩) ?_ ?_
    rotate_left
    · intro w'
      go_simp
      with_reducible rfl
    rotate_left
    · simp only [Act.put, List.setIfInBounds_toArray, List.set_cons_zero, List.set_cons_succ, i64_w, i32_w]
      rfl
    refine pure_ (i := 9) (N := some 104) (v := ?_) (a' := ?_) #[true, true, true, true, true, true, true, true, true, true, false, false, false, false, false, false, false, false, false] rfl rfl (by kernel_rfl) (fun _ _ _ h => h) (Or.inl ⟨by rfl, ?_⟩) ?_ ?_
    rotate_left
    · intro w'
      go_simp
      with_reducible rfl
    rotate_left
    · simp only [Act.put, List.setIfInBounds_toArray, List.set_cons_zero, List.set_cons_succ, i64_w, i32_w]
      rfl
    refine pure_ (i := 12) (N := some 107) (v := ?_) (a' := ?_) #[true, true, true, true, true, true, true, true, true, true, false, false, true, false, false, false, false, false, false] rfl rfl (by kernel_rfl) (fun _ _ _ h => h) (Or.inl ⟨by rfl, ?_⟩) ?_ ?_
    rotate_left
    · intro w'
      go_simp
      with_reducible rfl
    rotate_left
    · simp only [Act.put, List.setIfInBounds_toArray, List.set_cons_zero, List.set_cons_succ, i64_w, i32_w]
      rfl
    refine pure_ (i := 13) (N := some 108) (v := ?_) (a' := ?_) #[true, true, true, true, true, true, true, true, true, true, false, false, true, true, false, false, false, false, false] rfl rfl (by kernel_rfl) (fun _ _ _ h => h) (Or.inl ⟨by rfl, ?_⟩) ?_ ?_
    rotate_left
    · intro w'
      go_simp
      with_reducible rfl
    rotate_left
    · simp only [Act.put, List.setIfInBounds_toArray, List.set_cons_zero, List.set_cons_succ, i64_w, i32_w]
      rfl
    refine take_ (i := 10) (N := some 105) (v := .agg #[.int .u8 kind, .bool exec, .int .u8 priv, .bool v, .bool sum, .bool mxr, .bool vmxr]) (a' := ?_) #[true, true, true, true, true, true, true, true, true, true, true, false, true, true, false, false, false, false, false] rfl rfl (by kernel_rfl) (fun _ _ _ h => h) (Or.inl ⟨by rfl, ?_⟩) HH.out ?_ ?_
    · intro w' s0; exact exec_load_blk rfl rfl s0 Try.underlying32 rfl (by kernel_rfl)
    rotate_left
    · simp only [Act.put, List.setIfInBounds_toArray, List.set_cons_zero, List.set_cons_succ, i64_w, i32_w]
      rfl
    refine take_ (i := 14) (N := some 109) (v := .agg #[.int .u8 kind, .bool exec, .int .u8 priv, .bool v, .bool sum, .bool mxr, .bool vmxr]) (a' := ?_) #[true, true, true, true, true, true, true, true, true, true, true, false, true, true, true, false, false, false, false] rfl rfl (by kernel_rfl) (fun _ _ _ h => h) (Or.inl ⟨by rfl, ?_⟩) HH.out ?_ ?_
    · intro w' s0; exact exec_load_blk rfl rfl s0 Try.underlying32 rfl (by kernel_rfl)
    rotate_left
    · simp only [Act.put, List.setIfInBounds_toArray, List.set_cons_zero, List.set_cons_succ, i64_w, i32_w]
      rfl
    refine one_ (i := 11) (N := some 106) #[true, true, true, true, true, true, true, true, true, true, true, true, true, true, true, false, false, false, false] rfl rfl (by kernel_rfl) (by decide) (fun K hK => ?_)
    refine goes_ Try.func23 (by kernel_rfl) rfl #[.int .u64 (U x), .agg #[.int .u8 kind, .bool exec, .int .u8 priv, .bool v, .bool sum, .bool mxr, .bool vmxr]] (by rfl) rfl rfl (by simp only [List.map_toArray, List.map_cons, List.map_nil]; rfl) ?_
    with_reducible refine (HF.out _).mono ?_
    rintro e_ w_22 ⟨rfl, hb⟩
    refine ⟨_, rfl, ?_⟩
    have s_0 := blk_below (HH.out) hb
    replace K_gw := Lib.hid (blk_below K_gw.out hb)
    replace K_gm := Lib.hid (blk_below K_gm.out hb)
    have hB_23 := Lib.hid (below_step hB_21.out hb)
    clear HH hb hB_21
    refine hK.out _ _ (s_0) (fun hHeld => ?_)
    have HH := Lib.hid hHeld
    clear hHeld s_0
    clear hK K
    refine norm_ (a' := ?_) ?_ ?_
    rotate_left
    · show Act.put _ (some 106) _ = _
      simp only [Act.put, List.setIfInBounds_toArray, List.set_cons_zero, List.set_cons_succ, i64_w, i32_w]
      rfl
    refine one_ (i := 15) (N := some 110) #[true, true, true, true, true, true, true, true, true, true, true, true, true, true, true, true, false, false, false] rfl rfl (by kernel_rfl) (by decide) (fun K hK => ?_)
    refine goes_ Try.func23 (by kernel_rfl) rfl #[.int .u64 (Go.bits .and .u64 (U x) 255), .agg #[.int .u8 kind, .bool exec, .int .u8 priv, .bool v, .bool sum, .bool mxr, .bool vmxr]] (by rfl) rfl rfl (by simp only [List.map_toArray, List.map_cons, List.map_nil]; rfl) ?_
    with_reducible refine (HF5.out _).mono ?_
    rintro e_ w_24 ⟨rfl, hb⟩
    refine ⟨_, rfl, ?_⟩
    have s_0 := blk_below (HH.out) hb
    replace K_gw := Lib.hid (blk_below K_gw.out hb)
    replace K_gm := Lib.hid (blk_below K_gm.out hb)
    have hB_25 := Lib.hid (below_step hB_23.out hb)
    clear HH hb hB_23
    refine hK.out _ _ (s_0) (fun hHeld => ?_)
    have HH := Lib.hid hHeld
    clear hHeld s_0
    clear hK K
    refine norm_ (a' := ?_) ?_ ?_
    rotate_left
    · show Act.put _ (some 110) _ = _
      simp only [Act.put, List.setIfInBounds_toArray, List.set_cons_zero, List.set_cons_succ, i64_w, i32_w]
      rfl
    refine pure_ (i := 16) (N := some 111) (v := ?_) (a' := ?_) #[true, true, true, true, true, true, true, true, true, true, true, true, true, true, true, true, true, false, false] rfl rfl (by kernel_rfl) (fun _ _ _ h => h) (Or.inl ⟨by rfl, ?_⟩) ?_ ?_
    rotate_left
    · intro w'
      go_simp
      with_reducible rfl
    rotate_left
    · simp only [Act.put, List.setIfInBounds_toArray, List.set_cons_zero, List.set_cons_succ, i64_w, i32_w]
      rfl
    refine pure_ (i := 17) (N := some 112) (v := ?_) (a' := ?_) #[true, true, true, true, true, true, true, true, true, true, true, true, true, true, true, true, true, true, false] rfl rfl (by kernel_rfl) (fun _ _ _ h => h) (Or.inl ⟨by rfl, ?_⟩) ?_ ?_
    rotate_left
    · intro w'
      go_simp
      with_reducible rfl
    rotate_left
    · simp only [Act.put, List.setIfInBounds_toArray, List.set_cons_zero, List.set_cons_succ, i64_w, i32_w]
      rfl
    refine pure_ (i := 18) (N := some 4) (v := ?_) (a' := ?_) #[true, true, true, true, true, true, true, true, true, true, true, true, true, true, true, true, true, true, true] rfl rfl (by kernel_rfl) (fun _ _ _ h => h) (Or.inl ⟨by rfl, ?_⟩) ?_ ?_
    rotate_left
    · intro w'
      go_simp
      with_reducible rfl
    rotate_left
    · simp only [Act.put, List.setIfInBounds_toArray, List.set_cons_zero, List.set_cons_succ, i64_w, i32_w]
      rfl
    refine done_ (by kernel_rfl) ?_
    try clear HH
    go_wp2
    go_ret
    exact ⟨rfl, hB_25.out⟩
  · skip
    cases o2 : lf x
    · skip
      have hA := HA.out; rw [ok] at hA
      have HA := Lib.hid hA; clear hA
      have hA5 := HA5.out; rw [ok] at hA5
      have HA5 := Lib.hid hA5; clear hA5
      have hO := HO.out; rw [o1] at hO
      have HO := Lib.hid hO; clear hO
      have hL := HL.out; rw [o2] at hL
      have HL := Lib.hid hL; clear hL
      have hF := HF.out; have hF5 := HF5.out
      generalize fu x kind = ff at hF hF5
      have d9 : (ff == ff) = true := beq_self_eq_true _
      have HF := Lib.hid hF; have HF5 := Lib.hid hF5; clear hF hF5
      clear ok o1 o2
      have hu32 := Try.underlying32
      go_enter Try.func6, Try.ntmps6
      go_upto_region 1 with (first | ((with_reducible refine gate_dst (N := 3) rfl ?_); refine box_event ?hg (N := 3) ?hd (cs := #[.int .u8 kind, .bool exec, .int .u8 priv, .bool v, .bool sum, .bool mxr, .bool vmxr]) (t := 32) ?hr ?_; (case hd => rfl); (case hg => rfl); (case hr => first | (go_simp; done) | (go_simp; rfl)); intro gw hg w_1 H1 hb; have hB_2 := Lib.hid (below_step (Below.refl w.heap.size w) hb); have G_gw := Lib.hid (show w.heap.size ≤ gw by rw [hg]; exact ((Below.refl w.heap.size w)).size); have K_gw := Lib.hid (show w_1.heap[gw]? = some (.cells #[.int .u8 kind, .bool exec, .int .u8 priv, .bool v, .bool sum, .bool mxr, .bool vmxr] 32 (0, 0)) from H1); clear hg hb H1))
      go_wp2_with fail
      refine (mezzaninelaw15_awake.calls 6 true _ (pte_awake 1)).mono ?_
      rintro e_3 w_4 ⟨rfl, hb⟩
      have hB_5 := Lib.hid (below_step hB_2.out hb)
      replace K_gw := Lib.hid (blk_below K_gw.out hb)
      clear hb hB_2
      go_upto_region 3 with fail
      go_upto_region 4 with (first | ((with_reducible refine gate_dst (N := 10) rfl ?_); (first | (refine gate_guard (by kernel_rfl) ?_) | skip); refine Kd.event_run rfl (v := .agg #[.int .u8 kind, .bool exec, .int .u8 priv, .bool v, .bool sum, .bool mxr, .bool vmxr]) (w1 := w_4) ?hb ?_; (case hb => exact exec_load_blk rfl rfl K_gw.out Try.underlying32 rfl (by kernel_rfl))) | ((with_reducible refine gate_dst (N := 5) rfl ?_); refine box_event ?hg (N := 5) ?hd (cs := #[.int .u8 0, .bool false, .int .u8 0, .bool false, .bool false, .bool false, .bool false]) (t := 32) ?hr ?_; (case hd => rfl); (case hg => rfl); (case hr => first | (go_simp; done) | (go_simp; rfl)); intro gm hg w_6 H1 hb; have hB_8 := Lib.hid (below_step hB_5.out hb); have G_gm := Lib.hid (show w.heap.size ≤ gm by rw [hg]; exact (hB_5.out).size); have N_gw_gm := Lib.hid (show gw ≠ gm by rw [hg]; exact Nat.ne_of_lt (blk_lt K_gw.out)); replace K_gw := Lib.hid (blk_below K_gw.out hb); have K_gm := Lib.hid (show w_6.heap[gm]? = some (.cells #[.int .u8 0, .bool false, .int .u8 0, .bool false, .bool false, .bool false, .bool false] 32 (0, 0)) from H1); clear hg hb H1 hB_5) | (refine wpList_store_mid rfl 32 (.tmp 5) (.tmp 10) rfl gm 0 #[.int .u8 kind, .bool exec, .int .u8 priv, .bool v, .bool sum, .bool mxr, .bool vmxr] rfl rfl (blk_there K_gm.out) (by kernel_rfl) (by simp [Value.oneCell']) ?_; have hB_9 := Lib.hid (setCells_below G_gm.out (#[.int .u8 kind, .bool exec, .int .u8 priv, .bool v, .bool sum, .bool mxr, .bool vmxr] : Array Value).toList 0 _ hB_8.out); replace K_gw := Lib.hid (setCells_far' (vs := (#[.int .u8 kind, .bool exec, .int .u8 priv, .bool v, .bool sum, .bool mxr, .bool vmxr] : Array Value).toList) (o := 0) N_gw_gm.out K_gw.out); replace K_gm := Lib.hid (blk_putAll (cs := #[.int .u8 kind, .bool exec, .int .u8 priv, .bool v, .bool sum, .bool mxr, .bool vmxr]) K_gm.out rfl); clear hB_8; generalize World.setCells w_6 gm 0 (#[.int .u8 kind, .bool exec, .int .u8 priv, .bool v, .bool sum, .bool mxr, .bool vmxr] : Array Value).toList = w_7 at K_gw K_gm hB_9 ⊢))
      have c_gm_4 := (show World.cell? _ ⟨gm, 4, none⟩ = some (.bool sum) from (blk_cell K_gm.out 4).trans rfl); have f_gm_4 := blk_frozen K_gm.out 4
      have c_gm_5 := (show World.cell? _ ⟨gm, 5, none⟩ = some (.bool mxr) from (blk_cell K_gm.out 5).trans rfl); have f_gm_5 := blk_frozen K_gm.out 5
      have c_gm_6 := (show World.cell? _ ⟨gm, 6, none⟩ = some (.bool vmxr) from (blk_cell K_gm.out 6).trans rfl); have f_gm_6 := blk_frozen K_gm.out 6
      go_upto_region 7 with fail
      clear c_gm_4 f_gm_4 c_gm_5 f_gm_5 c_gm_6 f_gm_6
      have q_g := Lib.hid (blk_put (blk_put (blk_put K_gm.out 4 (.bool true) rfl) 5 (.bool true) rfl) 6 (.bool true) rfl)
      replace K_gw := Lib.hid (blk_far (blk_far (blk_far K_gw.out (p := ⟨gm, 4, none⟩) N_gw_gm.out (.bool true)) (p := ⟨gm, 5, none⟩) N_gw_gm.out (.bool true)) (p := ⟨gm, 6, none⟩) N_gw_gm.out (.bool true))
      have hB_11 := Lib.hid (below_set (j := 6) (v := .bool true) (below_set (j := 5) (v := .bool true) (below_set (j := 4) (v := .bool true) hB_9.out G_gm.out) G_gm.out) G_gm.out)
      clear K_gm hB_9
      generalize (World.setCell (World.setCell (World.setCell w_7 ⟨gm, 4, none⟩ (.bool true)) ⟨gm, 5, none⟩ (.bool true)) ⟨gm, 6, none⟩ (.bool true)) = w_10 at K_gw q_g hB_11 ⊢
      have K_gm := Lib.hid (show w_10.heap[gm]? = some (.cells #[.int .u8 kind, .bool exec, .int .u8 priv, .bool v, .bool true, .bool true, .bool true] 32 (0, 0)) from q_g.out); clear q_g
      go_wp2_with (first | ((with_reducible refine gate_dst (N := 15) rfl ?_); (first | (refine gate_guard (by kernel_rfl) ?_) | skip); refine Kd.event_run rfl (v := .agg #[.int .u8 kind, .bool exec, .int .u8 priv, .bool v, .bool sum, .bool mxr, .bool vmxr]) (w1 := w_10) ?hb ?_; (case hb => exact exec_load_blk rfl rfl K_gw.out Try.underlying32 rfl (by kernel_rfl))))
      refine (HA.out _).mono ?_
      rintro e_12 w_13 ⟨rfl, hb⟩
      have hB_14 := Lib.hid (below_step hB_11.out hb)
      replace K_gw := Lib.hid (blk_below K_gw.out hb)
      replace K_gm := Lib.hid (blk_below K_gm.out hb)
      clear hb hB_11
      have c_gw_0 := (show World.cell? _ ⟨gw, 0, none⟩ = some (.int .u8 kind) from (blk_cell K_gw.out 0).trans rfl); have f_gw_0 := blk_frozen K_gw.out 0
      have c_gw_2 := (show World.cell? _ ⟨gw, 2, none⟩ = some (.int .u8 priv) from (blk_cell K_gw.out 2).trans rfl); have f_gw_2 := blk_frozen K_gw.out 2
      go_upto_region 10 with fail
      go_wp2_with fail
      refine (HO.out _).mono ?_
      rintro e5 w5 ⟨rfl, n_, e5⟩
      clear c_gw_0 f_gw_0 c_gw_2 f_gw_2
      replace K_gw := Lib.hid (show w5.heap[gw]? = some (.cells #[.int .u8 kind, .bool exec, .int .u8 priv, .bool v, .bool sum, .bool mxr, .bool vmxr] 32 (0, 0)) from by rw [e5]; exact blk_drewN K_gw.out n_)
      replace K_gm := Lib.hid (show w5.heap[gm]? = some (.cells #[.int .u8 kind, .bool exec, .int .u8 priv, .bool v, .bool true, .bool true, .bool true] 32 (0, 0)) from by rw [e5]; exact blk_drewN K_gm.out n_)
      have hB_15 := Lib.hid (Below_of e5.symm (pw_below_drewN hB_14.out n_))
      clear e5 hB_14
      have c_gw_0 := (show World.cell? _ ⟨gw, 0, none⟩ = some (.int .u8 kind) from (blk_cell K_gw.out 0).trans rfl); have f_gw_0 := blk_frozen K_gw.out 0
      have c_gw_2 := (show World.cell? _ ⟨gw, 2, none⟩ = some (.int .u8 priv) from (blk_cell K_gw.out 2).trans rfl); have f_gw_2 := blk_frozen K_gw.out 2
      go_wp2_with fail
      refine (HL.out _).mono ?_
      rintro e6 w6 ⟨rfl, n_, e6⟩
      clear c_gw_0 f_gw_0 c_gw_2 f_gw_2
      replace K_gw := Lib.hid (show w6.heap[gw]? = some (.cells #[.int .u8 kind, .bool exec, .int .u8 priv, .bool v, .bool sum, .bool mxr, .bool vmxr] 32 (0, 0)) from by rw [e6]; exact blk_drewN K_gw.out n_)
      replace K_gm := Lib.hid (show w6.heap[gm]? = some (.cells #[.int .u8 kind, .bool exec, .int .u8 priv, .bool v, .bool true, .bool true, .bool true] 32 (0, 0)) from by rw [e6]; exact blk_drewN K_gm.out n_)
      have hB_16 := Lib.hid (Below_of e6.symm (pw_below_drewN hB_15.out n_))
      clear e6 hB_15
      have c_gw_0 := (show World.cell? _ ⟨gw, 0, none⟩ = some (.int .u8 kind) from (blk_cell K_gw.out 0).trans rfl); have f_gw_0 := blk_frozen K_gw.out 0
      have c_gw_2 := (show World.cell? _ ⟨gw, 2, none⟩ = some (.int .u8 priv) from (blk_cell K_gw.out 2).trans rfl); have f_gw_2 := blk_frozen K_gw.out 2
      go_upto_region 16 with fail
      clear c_gw_0 f_gw_0 c_gw_2 f_gw_2
      refine start_ (n := 19) (S := fun w' => w'.heap[gw]? = some (.cells #[.int .u8 kind, .bool exec, .int .u8 priv, .bool v, .bool sum, .bool mxr, .bool vmxr] 32 (0, 0))) (ds := []) #[false, false, false, false, false, false, false, false, false, false, false, false, false, false, false, false, false, false, false] (by kernel_rfl) rfl rfl (blk_drew K_gw.out) (fun hHeld => ?_)
      replace K_gw := Lib.hid (blk_drew K_gw.out)
      replace K_gm := Lib.hid (blk_drew K_gm.out)
      have hB_18 := Lib.hid (below_drew1 hB_16.out)
      clear hB_16
      generalize World.drew w6 = w_17 at K_gw K_gm hB_18 hHeld ⊢
      refine pure_ (i := 0) (N := some 95) (v := ?_) (a' := ?_) #[true, false, false, false, false, false, false, false, false, false, false, false, false, false, false, false, false, false, false] rfl rfl (by kernel_rfl) (fun _ _ _ h => h) (Or.inl ⟨by rfl, ?_⟩) ?_ ?_
      rotate_left
      · intro w'
        go_simp
        with_reducible rfl
      rotate_left
      · simp only [Act.put, List.setIfInBounds_toArray, List.set_cons_zero, List.set_cons_succ, i64_w, i32_w]
        rfl
      refine pure_ (i := 3) (N := some 98) (v := ?_) (a' := ?_) #[true, false, false, true, false, false, false, false, false, false, false, false, false, false, false, false, false, false, false] rfl rfl (by kernel_rfl) (fun _ _ _ h => h) (Or.inl ⟨by rfl, ?_⟩) ?_ ?_
      rotate_left
      · intro w'
        go_simp
        with_reducible rfl
      rotate_left
      · simp only [Act.put, List.setIfInBounds_toArray, List.set_cons_zero, List.set_cons_succ, i64_w, i32_w]
        rfl
      refine pure_ (i := 4) (N := some 99) (v := ?_) (a' := ?_) #[true, false, false, true, true, false, false, false, false, false, false, false, false, false, false, false, false, false, false] rfl rfl (by kernel_rfl) (fun _ _ _ h => h) (Or.inl ⟨by rfl, ?_⟩) ?_ ?_
      rotate_left
      · intro w'
        go_simp
        with_reducible rfl
      rotate_left
      · simp only [Act.put, List.setIfInBounds_toArray, List.set_cons_zero, List.set_cons_succ, i64_w, i32_w]
        rfl
      refine take_ (i := 1) (N := some 96) (v := .agg #[.int .u8 kind, .bool exec, .int .u8 priv, .bool v, .bool sum, .bool mxr, .bool vmxr]) (a' := ?_) #[true, true, false, true, true, false, false, false, false, false, false, false, false, false, false, false, false, false, false] rfl rfl (by kernel_rfl) (fun _ _ _ h => h) (Or.inl ⟨by rfl, ?_⟩) hHeld ?_ ?_
      · intro w' s0; exact exec_load_blk rfl rfl s0 Try.underlying32 rfl (by kernel_rfl)
      rotate_left
      · simp only [Act.put, List.setIfInBounds_toArray, List.set_cons_zero, List.set_cons_succ, i64_w, i32_w]
        rfl
      refine take_ (i := 5) (N := some 100) (v := .agg #[.int .u8 kind, .bool exec, .int .u8 priv, .bool v, .bool sum, .bool mxr, .bool vmxr]) (a' := ?_) #[true, true, false, true, true, true, false, false, false, false, false, false, false, false, false, false, false, false, false] rfl rfl (by kernel_rfl) (fun _ _ _ h => h) (Or.inl ⟨by rfl, ?_⟩) hHeld ?_ ?_
      · intro w' s0; exact exec_load_blk rfl rfl s0 Try.underlying32 rfl (by kernel_rfl)
      rotate_left
      · simp only [Act.put, List.setIfInBounds_toArray, List.set_cons_zero, List.set_cons_succ, i64_w, i32_w]
        rfl
      have HH := Lib.hid hHeld
      clear hHeld
      refine one_ (i := 2) (N := some 97) #[true, true, true, true, true, true, false, false, false, false, false, false, false, false, false, false, false, false, false] rfl rfl (by kernel_rfl) (by decide) (fun K hK => ?_)
      refine goes_ Try.func21 (by kernel_rfl) rfl #[.int .u64 (U x), .agg #[.int .u8 kind, .bool exec, .int .u8 priv, .bool v, .bool sum, .bool mxr, .bool vmxr]] (by rfl) rfl rfl (by simp only [List.map_toArray, List.map_cons, List.map_nil]; rfl) ?_
      with_reducible refine (HA.out _).mono ?_
      rintro e_ w_19 ⟨rfl, hb⟩
      refine ⟨_, rfl, ?_⟩
      have s_0 := blk_below (HH.out) hb
      replace K_gw := Lib.hid (blk_below K_gw.out hb)
      replace K_gm := Lib.hid (blk_below K_gm.out hb)
      have hB_20 := Lib.hid (below_step hB_18.out hb)
      clear HH hb hB_18
      refine hK.out _ _ (s_0) (fun hHeld => ?_)
      have HH := Lib.hid hHeld
      clear hHeld s_0
      clear hK K
      refine norm_ (a' := ?_) ?_ ?_
      rotate_left
      · show Act.put _ (some 97) _ = _
        simp only [Act.put, List.setIfInBounds_toArray, List.set_cons_zero, List.set_cons_succ, i64_w, i32_w]
        rfl
      refine one_ (i := 6) (N := some 101) #[true, true, true, true, true, true, true, false, false, false, false, false, false, false, false, false, false, false, false] rfl rfl (by kernel_rfl) (by decide) (fun K hK => ?_)
      refine goes_ Try.func21 (by kernel_rfl) rfl #[.int .u64 (Go.bits .and .u64 (U x) 255), .agg #[.int .u8 kind, .bool exec, .int .u8 priv, .bool v, .bool sum, .bool mxr, .bool vmxr]] (by rfl) rfl rfl (by simp only [List.map_toArray, List.map_cons, List.map_nil]; rfl) ?_
      with_reducible refine (HA5.out _).mono ?_
      rintro e_ w_21 ⟨rfl, hb⟩
      refine ⟨_, rfl, ?_⟩
      have s_0 := blk_below (HH.out) hb
      replace K_gw := Lib.hid (blk_below K_gw.out hb)
      replace K_gm := Lib.hid (blk_below K_gm.out hb)
      have hB_22 := Lib.hid (below_step hB_20.out hb)
      clear HH hb hB_20
      refine hK.out _ _ (s_0) (fun hHeld => ?_)
      have HH := Lib.hid hHeld
      clear hHeld s_0
      clear hK K
      refine norm_ (a' := ?_) ?_ ?_
      rotate_left
      · show Act.put _ (some 101) _ = _
        simp only [Act.put, List.setIfInBounds_toArray, List.set_cons_zero, List.set_cons_succ, i64_w, i32_w]
        rfl
      refine pure_ (i := 7) (N := some 102) (v := ?_) (a' := ?_) #[true, true, true, true, true, true, true, true, false, false, false, false, false, false, false, false, false, false, false] rfl rfl (by kernel_rfl) (fun _ _ _ h => h) (Or.inl ⟨by rfl, ?_⟩) ?_ ?_
      rotate_left
      · intro w'
        go_simp
        with_reducible rfl
      rotate_left
      · simp only [Act.put, List.setIfInBounds_toArray, List.set_cons_zero, List.set_cons_succ, i64_w, i32_w]
        rfl
      refine pure_ (i := 8) (N := some 103) (v := ?_) (a' := ?_) #[true, true, true, true, true, true, true, true, true, false, false, false, false, false, false, false, false, false, false] rfl rfl (by kernel_rfl) (fun _ _ _ h => h) (Or.inl ⟨by rfl, ?_⟩) ?_ ?_
      rotate_left
      · intro w'
        go_simp
        with_reducible rfl
      rotate_left
      · simp only [Act.put, List.setIfInBounds_toArray, List.set_cons_zero, List.set_cons_succ, i64_w, i32_w]
        rfl
      refine pure_ (i := 9) (N := some 104) (v := ?_) (a' := ?_) #[true, true, true, true, true, true, true, true, true, true, false, false, false, false, false, false, false, false, false] rfl rfl (by kernel_rfl) (fun _ _ _ h => h) (Or.inl ⟨by rfl, ?_⟩) ?_ ?_
      rotate_left
      · intro w'
        go_simp
        with_reducible rfl
      rotate_left
      · simp only [Act.put, List.setIfInBounds_toArray, List.set_cons_zero, List.set_cons_succ, i64_w, i32_w]
        rfl
      refine pure_ (i := 12) (N := some 107) (v := ?_) (a' := ?_) #[true, true, true, true, true, true, true, true, true, true, false, false, true, false, false, false, false, false, false] rfl rfl (by kernel_rfl) (fun _ _ _ h => h) (Or.inl ⟨by rfl, ?_⟩) ?_ ?_
      rotate_left
      · intro w'
        go_simp
        with_reducible rfl
      rotate_left
      · simp only [Act.put, List.setIfInBounds_toArray, List.set_cons_zero, List.set_cons_succ, i64_w, i32_w]
        rfl
      refine pure_ (i := 13) (N := some 108) (v := ?_) (a' := ?_) #[true, true, true, true, true, true, true, true, true, true, false, false, true, true, false, false, false, false, false] rfl rfl (by kernel_rfl) (fun _ _ _ h => h) (Or.inl ⟨by rfl, ?_⟩) ?_ ?_
      rotate_left
      · intro w'
        go_simp
        with_reducible rfl
      rotate_left
      · simp only [Act.put, List.setIfInBounds_toArray, List.set_cons_zero, List.set_cons_succ, i64_w, i32_w]
        rfl
      refine take_ (i := 10) (N := some 105) (v := .agg #[.int .u8 kind, .bool exec, .int .u8 priv, .bool v, .bool sum, .bool mxr, .bool vmxr]) (a' := ?_) #[true, true, true, true, true, true, true, true, true, true, true, false, true, true, false, false, false, false, false] rfl rfl (by kernel_rfl) (fun _ _ _ h => h) (Or.inl ⟨by rfl, ?_⟩) HH.out ?_ ?_
      · intro w' s0; exact exec_load_blk rfl rfl s0 Try.underlying32 rfl (by kernel_rfl)
      rotate_left
      · simp only [Act.put, List.setIfInBounds_toArray, List.set_cons_zero, List.set_cons_succ, i64_w, i32_w]
        rfl
      refine take_ (i := 14) (N := some 109) (v := .agg #[.int .u8 kind, .bool exec, .int .u8 priv, .bool v, .bool sum, .bool mxr, .bool vmxr]) (a' := ?_) #[true, true, true, true, true, true, true, true, true, true, true, false, true, true, true, false, false, false, false] rfl rfl (by kernel_rfl) (fun _ _ _ h => h) (Or.inl ⟨by rfl, ?_⟩) HH.out ?_ ?_
      · intro w' s0; exact exec_load_blk rfl rfl s0 Try.underlying32 rfl (by kernel_rfl)
      rotate_left
      · simp only [Act.put, List.setIfInBounds_toArray, List.set_cons_zero, List.set_cons_succ, i64_w, i32_w]
        rfl
      refine one_ (i := 11) (N := some 106) #[true, true, true, true, true, true, true, true, true, true, true, true, true, true, true, false, false, false, false] rfl rfl (by kernel_rfl) (by decide) (fun K hK => ?_)
      refine goes_ Try.func23 (by kernel_rfl) rfl #[.int .u64 (U x), .agg #[.int .u8 kind, .bool exec, .int .u8 priv, .bool v, .bool sum, .bool mxr, .bool vmxr]] (by rfl) rfl rfl (by simp only [List.map_toArray, List.map_cons, List.map_nil]; rfl) ?_
      with_reducible refine (HF.out _).mono ?_
      rintro e_ w_23 ⟨rfl, hb⟩
      refine ⟨_, rfl, ?_⟩
      have s_0 := blk_below (HH.out) hb
      replace K_gw := Lib.hid (blk_below K_gw.out hb)
      replace K_gm := Lib.hid (blk_below K_gm.out hb)
      have hB_24 := Lib.hid (below_step hB_22.out hb)
      clear HH hb hB_22
      refine hK.out _ _ (s_0) (fun hHeld => ?_)
      have HH := Lib.hid hHeld
      clear hHeld s_0
      clear hK K
      refine norm_ (a' := ?_) ?_ ?_
      rotate_left
      · show Act.put _ (some 106) _ = _
        simp only [Act.put, List.setIfInBounds_toArray, List.set_cons_zero, List.set_cons_succ, i64_w, i32_w]
        rfl
      refine one_ (i := 15) (N := some 110) #[true, true, true, true, true, true, true, true, true, true, true, true, true, true, true, true, false, false, false] rfl rfl (by kernel_rfl) (by decide) (fun K hK => ?_)
      refine goes_ Try.func23 (by kernel_rfl) rfl #[.int .u64 (Go.bits .and .u64 (U x) 255), .agg #[.int .u8 kind, .bool exec, .int .u8 priv, .bool v, .bool sum, .bool mxr, .bool vmxr]] (by rfl) rfl rfl (by simp only [List.map_toArray, List.map_cons, List.map_nil]; rfl) ?_
      with_reducible refine (HF5.out _).mono ?_
      rintro e_ w_25 ⟨rfl, hb⟩
      refine ⟨_, rfl, ?_⟩
      have s_0 := blk_below (HH.out) hb
      replace K_gw := Lib.hid (blk_below K_gw.out hb)
      replace K_gm := Lib.hid (blk_below K_gm.out hb)
      have hB_26 := Lib.hid (below_step hB_24.out hb)
      clear HH hb hB_24
      refine hK.out _ _ (s_0) (fun hHeld => ?_)
      have HH := Lib.hid hHeld
      clear hHeld s_0
      clear hK K
      refine norm_ (a' := ?_) ?_ ?_
      rotate_left
      · show Act.put _ (some 110) _ = _
        simp only [Act.put, List.setIfInBounds_toArray, List.set_cons_zero, List.set_cons_succ, i64_w, i32_w]
        rfl
      refine pure_ (i := 16) (N := some 111) (v := ?_) (a' := ?_) #[true, true, true, true, true, true, true, true, true, true, true, true, true, true, true, true, true, false, false] rfl rfl (by kernel_rfl) (fun _ _ _ h => h) (Or.inl ⟨by rfl, ?_⟩) ?_ ?_
      rotate_left
      · intro w'
        go_simp
        with_reducible rfl
      rotate_left
      · simp only [Act.put, List.setIfInBounds_toArray, List.set_cons_zero, List.set_cons_succ, i64_w, i32_w]
        rfl
      refine pure_ (i := 17) (N := some 112) (v := ?_) (a' := ?_) #[true, true, true, true, true, true, true, true, true, true, true, true, true, true, true, true, true, true, false] rfl rfl (by kernel_rfl) (fun _ _ _ h => h) (Or.inl ⟨by rfl, ?_⟩) ?_ ?_
      rotate_left
      · intro w'
        go_simp
        with_reducible rfl
      rotate_left
      · simp only [Act.put, List.setIfInBounds_toArray, List.set_cons_zero, List.set_cons_succ, i64_w, i32_w]
        rfl
      refine pure_ (i := 18) (N := some 4) (v := ?_) (a' := ?_) #[true, true, true, true, true, true, true, true, true, true, true, true, true, true, true, true, true, true, true] rfl rfl (by kernel_rfl) (fun _ _ _ h => h) (Or.inl ⟨by rfl, ?_⟩) ?_ ?_
      rotate_left
      · intro w'
        go_simp
        with_reducible rfl
      rotate_left
      · simp only [Act.put, List.setIfInBounds_toArray, List.set_cons_zero, List.set_cons_succ, i64_w, i32_w]
        rfl
      refine done_ (by kernel_rfl) ?_
      try clear HH
      go_wp2
      go_ret
      exact ⟨rfl, hB_26.out⟩
    · skip
      cases k1 : (kind == 1)
      · skip
        have hA := HA.out; rw [ok] at hA
        have HA := Lib.hid hA; clear hA
        have hA5 := HA5.out; rw [ok] at hA5
        have HA5 := Lib.hid hA5; clear hA5
        have hO := HO.out; rw [o1] at hO
        have HO := Lib.hid hO; clear hO
        have hL := HL.out; rw [o2] at hL
        have HL := Lib.hid hL; clear hL
        have hF := HF.out; have hF5 := HF5.out
        generalize fu x kind = ff at hF hF5
        have d9 : (ff == ff) = true := beq_self_eq_true _
        have HF := Lib.hid hF; have HF5 := Lib.hid hF5; clear hF hF5
        clear ok o1 o2
        have hu32 := Try.underlying32
        go_enter Try.func6, Try.ntmps6
        go_upto_region 1 with (first | ((with_reducible refine gate_dst (N := 3) rfl ?_); refine box_event ?hg (N := 3) ?hd (cs := #[.int .u8 kind, .bool exec, .int .u8 priv, .bool v, .bool sum, .bool mxr, .bool vmxr]) (t := 32) ?hr ?_; (case hd => rfl); (case hg => rfl); (case hr => first | (go_simp; done) | (go_simp; rfl)); intro gw hg w_1 H1 hb; have hB_2 := Lib.hid (below_step (Below.refl w.heap.size w) hb); have G_gw := Lib.hid (show w.heap.size ≤ gw by rw [hg]; exact ((Below.refl w.heap.size w)).size); have K_gw := Lib.hid (show w_1.heap[gw]? = some (.cells #[.int .u8 kind, .bool exec, .int .u8 priv, .bool v, .bool sum, .bool mxr, .bool vmxr] 32 (0, 0)) from H1); clear hg hb H1))
        go_wp2_with fail
        refine (mezzaninelaw15_awake.calls 6 true _ (pte_awake 1)).mono ?_
        rintro e_3 w_4 ⟨rfl, hb⟩
        have hB_5 := Lib.hid (below_step hB_2.out hb)
        replace K_gw := Lib.hid (blk_below K_gw.out hb)
        clear hb hB_2
        go_upto_region 3 with fail
        go_upto_region 4 with (first | ((with_reducible refine gate_dst (N := 10) rfl ?_); (first | (refine gate_guard (by kernel_rfl) ?_) | skip); refine Kd.event_run rfl (v := .agg #[.int .u8 kind, .bool exec, .int .u8 priv, .bool v, .bool sum, .bool mxr, .bool vmxr]) (w1 := w_4) ?hb ?_; (case hb => exact exec_load_blk rfl rfl K_gw.out Try.underlying32 rfl (by kernel_rfl))) | ((with_reducible refine gate_dst (N := 5) rfl ?_); refine box_event ?hg (N := 5) ?hd (cs := #[.int .u8 0, .bool false, .int .u8 0, .bool false, .bool false, .bool false, .bool false]) (t := 32) ?hr ?_; (case hd => rfl); (case hg => rfl); (case hr => first | (go_simp; done) | (go_simp; rfl)); intro gm hg w_6 H1 hb; have hB_8 := Lib.hid (below_step hB_5.out hb); have G_gm := Lib.hid (show w.heap.size ≤ gm by rw [hg]; exact (hB_5.out).size); have N_gw_gm := Lib.hid (show gw ≠ gm by rw [hg]; exact Nat.ne_of_lt (blk_lt K_gw.out)); replace K_gw := Lib.hid (blk_below K_gw.out hb); have K_gm := Lib.hid (show w_6.heap[gm]? = some (.cells #[.int .u8 0, .bool false, .int .u8 0, .bool false, .bool false, .bool false, .bool false] 32 (0, 0)) from H1); clear hg hb H1 hB_5) | (refine wpList_store_mid rfl 32 (.tmp 5) (.tmp 10) rfl gm 0 #[.int .u8 kind, .bool exec, .int .u8 priv, .bool v, .bool sum, .bool mxr, .bool vmxr] rfl rfl (blk_there K_gm.out) (by kernel_rfl) (by simp [Value.oneCell']) ?_; have hB_9 := Lib.hid (setCells_below G_gm.out (#[.int .u8 kind, .bool exec, .int .u8 priv, .bool v, .bool sum, .bool mxr, .bool vmxr] : Array Value).toList 0 _ hB_8.out); replace K_gw := Lib.hid (setCells_far' (vs := (#[.int .u8 kind, .bool exec, .int .u8 priv, .bool v, .bool sum, .bool mxr, .bool vmxr] : Array Value).toList) (o := 0) N_gw_gm.out K_gw.out); replace K_gm := Lib.hid (blk_putAll (cs := #[.int .u8 kind, .bool exec, .int .u8 priv, .bool v, .bool sum, .bool mxr, .bool vmxr]) K_gm.out rfl); clear hB_8; generalize World.setCells w_6 gm 0 (#[.int .u8 kind, .bool exec, .int .u8 priv, .bool v, .bool sum, .bool mxr, .bool vmxr] : Array Value).toList = w_7 at K_gw K_gm hB_9 ⊢))
        have c_gm_4 := (show World.cell? _ ⟨gm, 4, none⟩ = some (.bool sum) from (blk_cell K_gm.out 4).trans rfl); have f_gm_4 := blk_frozen K_gm.out 4
        have c_gm_5 := (show World.cell? _ ⟨gm, 5, none⟩ = some (.bool mxr) from (blk_cell K_gm.out 5).trans rfl); have f_gm_5 := blk_frozen K_gm.out 5
        have c_gm_6 := (show World.cell? _ ⟨gm, 6, none⟩ = some (.bool vmxr) from (blk_cell K_gm.out 6).trans rfl); have f_gm_6 := blk_frozen K_gm.out 6
        go_upto_region 7 with fail
        clear c_gm_4 f_gm_4 c_gm_5 f_gm_5 c_gm_6 f_gm_6
        have q_g := Lib.hid (blk_put (blk_put (blk_put K_gm.out 4 (.bool true) rfl) 5 (.bool true) rfl) 6 (.bool true) rfl)
        replace K_gw := Lib.hid (blk_far (blk_far (blk_far K_gw.out (p := ⟨gm, 4, none⟩) N_gw_gm.out (.bool true)) (p := ⟨gm, 5, none⟩) N_gw_gm.out (.bool true)) (p := ⟨gm, 6, none⟩) N_gw_gm.out (.bool true))
        have hB_11 := Lib.hid (below_set (j := 6) (v := .bool true) (below_set (j := 5) (v := .bool true) (below_set (j := 4) (v := .bool true) hB_9.out G_gm.out) G_gm.out) G_gm.out)
        clear K_gm hB_9
        generalize (World.setCell (World.setCell (World.setCell w_7 ⟨gm, 4, none⟩ (.bool true)) ⟨gm, 5, none⟩ (.bool true)) ⟨gm, 6, none⟩ (.bool true)) = w_10 at K_gw q_g hB_11 ⊢
        have K_gm := Lib.hid (show w_10.heap[gm]? = some (.cells #[.int .u8 kind, .bool exec, .int .u8 priv, .bool v, .bool true, .bool true, .bool true] 32 (0, 0)) from q_g.out); clear q_g
        go_wp2_with (first | ((with_reducible refine gate_dst (N := 15) rfl ?_); (first | (refine gate_guard (by kernel_rfl) ?_) | skip); refine Kd.event_run rfl (v := .agg #[.int .u8 kind, .bool exec, .int .u8 priv, .bool v, .bool sum, .bool mxr, .bool vmxr]) (w1 := w_10) ?hb ?_; (case hb => exact exec_load_blk rfl rfl K_gw.out Try.underlying32 rfl (by kernel_rfl))))
        refine (HA.out _).mono ?_
        rintro e_12 w_13 ⟨rfl, hb⟩
        have hB_14 := Lib.hid (below_step hB_11.out hb)
        replace K_gw := Lib.hid (blk_below K_gw.out hb)
        replace K_gm := Lib.hid (blk_below K_gm.out hb)
        clear hb hB_11
        have c_gw_0 := (show World.cell? _ ⟨gw, 0, none⟩ = some (.int .u8 kind) from (blk_cell K_gw.out 0).trans rfl); have f_gw_0 := blk_frozen K_gw.out 0
        have c_gw_2 := (show World.cell? _ ⟨gw, 2, none⟩ = some (.int .u8 priv) from (blk_cell K_gw.out 2).trans rfl); have f_gw_2 := blk_frozen K_gw.out 2
        go_upto_region 10 with fail
        go_wp2_with fail
        refine (HO.out _).mono ?_
        rintro e5 w5 ⟨rfl, n_, e5⟩
        clear c_gw_0 f_gw_0 c_gw_2 f_gw_2
        replace K_gw := Lib.hid (show w5.heap[gw]? = some (.cells #[.int .u8 kind, .bool exec, .int .u8 priv, .bool v, .bool sum, .bool mxr, .bool vmxr] 32 (0, 0)) from by rw [e5]; exact blk_drewN K_gw.out n_)
        replace K_gm := Lib.hid (show w5.heap[gm]? = some (.cells #[.int .u8 kind, .bool exec, .int .u8 priv, .bool v, .bool true, .bool true, .bool true] 32 (0, 0)) from by rw [e5]; exact blk_drewN K_gm.out n_)
        have hB_15 := Lib.hid (Below_of e5.symm (pw_below_drewN hB_14.out n_))
        clear e5 hB_14
        have c_gw_0 := (show World.cell? _ ⟨gw, 0, none⟩ = some (.int .u8 kind) from (blk_cell K_gw.out 0).trans rfl); have f_gw_0 := blk_frozen K_gw.out 0
        have c_gw_2 := (show World.cell? _ ⟨gw, 2, none⟩ = some (.int .u8 priv) from (blk_cell K_gw.out 2).trans rfl); have f_gw_2 := blk_frozen K_gw.out 2
        go_wp2_with fail
        refine (HL.out _).mono ?_
        rintro e6 w6 ⟨rfl, n_, e6⟩
        clear c_gw_0 f_gw_0 c_gw_2 f_gw_2
        replace K_gw := Lib.hid (show w6.heap[gw]? = some (.cells #[.int .u8 kind, .bool exec, .int .u8 priv, .bool v, .bool sum, .bool mxr, .bool vmxr] 32 (0, 0)) from by rw [e6]; exact blk_drewN K_gw.out n_)
        replace K_gm := Lib.hid (show w6.heap[gm]? = some (.cells #[.int .u8 kind, .bool exec, .int .u8 priv, .bool v, .bool true, .bool true, .bool true] 32 (0, 0)) from by rw [e6]; exact blk_drewN K_gm.out n_)
        have hB_16 := Lib.hid (Below_of e6.symm (pw_below_drewN hB_15.out n_))
        clear e6 hB_15
        have c_gw_0 := (show World.cell? _ ⟨gw, 0, none⟩ = some (.int .u8 kind) from (blk_cell K_gw.out 0).trans rfl); have f_gw_0 := blk_frozen K_gw.out 0
        have c_gw_2 := (show World.cell? _ ⟨gw, 2, none⟩ = some (.int .u8 priv) from (blk_cell K_gw.out 2).trans rfl); have f_gw_2 := blk_frozen K_gw.out 2
        go_upto_region 16 with fail
        clear c_gw_0 f_gw_0 c_gw_2 f_gw_2
        refine start_ (n := 19) (S := fun w' => w'.heap[gw]? = some (.cells #[.int .u8 kind, .bool exec, .int .u8 priv, .bool v, .bool sum, .bool mxr, .bool vmxr] 32 (0, 0))) (ds := []) #[false, false, false, false, false, false, false, false, false, false, false, false, false, false, false, false, false, false, false] (by kernel_rfl) rfl rfl (blk_drew K_gw.out) (fun hHeld => ?_)
        replace K_gw := Lib.hid (blk_drew K_gw.out)
        replace K_gm := Lib.hid (blk_drew K_gm.out)
        have hB_18 := Lib.hid (below_drew1 hB_16.out)
        clear hB_16
        generalize World.drew w6 = w_17 at K_gw K_gm hB_18 hHeld ⊢
        refine pure_ (i := 0) (N := some 95) (v := ?_) (a' := ?_) #[true, false, false, false, false, false, false, false, false, false, false, false, false, false, false, false, false, false, false] rfl rfl (by kernel_rfl) (fun _ _ _ h => h) (Or.inl ⟨by rfl, ?_⟩) ?_ ?_
        rotate_left
        · intro w'
          go_simp
          with_reducible rfl
        rotate_left
        · simp only [Act.put, List.setIfInBounds_toArray, List.set_cons_zero, List.set_cons_succ, i64_w, i32_w]
          rfl
        refine pure_ (i := 3) (N := some 98) (v := ?_) (a' := ?_) #[true, false, false, true, false, false, false, false, false, false, false, false, false, false, false, false, false, false, false] rfl rfl (by kernel_rfl) (fun _ _ _ h => h) (Or.inl ⟨by rfl, ?_⟩) ?_ ?_
        rotate_left
        · intro w'
          go_simp
          with_reducible rfl
        rotate_left
        · simp only [Act.put, List.setIfInBounds_toArray, List.set_cons_zero, List.set_cons_succ, i64_w, i32_w]
          rfl
        refine pure_ (i := 4) (N := some 99) (v := ?_) (a' := ?_) #[true, false, false, true, true, false, false, false, false, false, false, false, false, false, false, false, false, false, false] rfl rfl (by kernel_rfl) (fun _ _ _ h => h) (Or.inl ⟨by rfl, ?_⟩) ?_ ?_
        rotate_left
        · intro w'
          go_simp
          with_reducible rfl
        rotate_left
        · simp only [Act.put, List.setIfInBounds_toArray, List.set_cons_zero, List.set_cons_succ, i64_w, i32_w]
          rfl
        refine take_ (i := 1) (N := some 96) (v := .agg #[.int .u8 kind, .bool exec, .int .u8 priv, .bool v, .bool sum, .bool mxr, .bool vmxr]) (a' := ?_) #[true, true, false, true, true, false, false, false, false, false, false, false, false, false, false, false, false, false, false] rfl rfl (by kernel_rfl) (fun _ _ _ h => h) (Or.inl ⟨by rfl, ?_⟩) hHeld ?_ ?_
        · intro w' s0; exact exec_load_blk rfl rfl s0 Try.underlying32 rfl (by kernel_rfl)
        rotate_left
        · simp only [Act.put, List.setIfInBounds_toArray, List.set_cons_zero, List.set_cons_succ, i64_w, i32_w]
          rfl
        refine take_ (i := 5) (N := some 100) (v := .agg #[.int .u8 kind, .bool exec, .int .u8 priv, .bool v, .bool sum, .bool mxr, .bool vmxr]) (a' := ?_) #[true, true, false, true, true, true, false, false, false, false, false, false, false, false, false, false, false, false, false] rfl rfl (by kernel_rfl) (fun _ _ _ h => h) (Or.inl ⟨by rfl, ?_⟩) hHeld ?_ ?_
        · intro w' s0; exact exec_load_blk rfl rfl s0 Try.underlying32 rfl (by kernel_rfl)
        rotate_left
        · simp only [Act.put, List.setIfInBounds_toArray, List.set_cons_zero, List.set_cons_succ, i64_w, i32_w]
          rfl
        have HH := Lib.hid hHeld
        clear hHeld
        refine one_ (i := 2) (N := some 97) #[true, true, true, true, true, true, false, false, false, false, false, false, false, false, false, false, false, false, false] rfl rfl (by kernel_rfl) (by decide) (fun K hK => ?_)
        refine goes_ Try.func21 (by kernel_rfl) rfl #[.int .u64 (U x), .agg #[.int .u8 kind, .bool exec, .int .u8 priv, .bool v, .bool sum, .bool mxr, .bool vmxr]] (by rfl) rfl rfl (by simp only [List.map_toArray, List.map_cons, List.map_nil]; rfl) ?_
        with_reducible refine (HA.out _).mono ?_
        rintro e_ w_19 ⟨rfl, hb⟩
        refine ⟨_, rfl, ?_⟩
        have s_0 := blk_below (HH.out) hb
        replace K_gw := Lib.hid (blk_below K_gw.out hb)
        replace K_gm := Lib.hid (blk_below K_gm.out hb)
        have hB_20 := Lib.hid (below_step hB_18.out hb)
        clear HH hb hB_18
        refine hK.out _ _ (s_0) (fun hHeld => ?_)
        have HH := Lib.hid hHeld
        clear hHeld s_0
        clear hK K
        refine norm_ (a' := ?_) ?_ ?_
        rotate_left
        · show Act.put _ (some 97) _ = _
          simp only [Act.put, List.setIfInBounds_toArray, List.set_cons_zero, List.set_cons_succ, i64_w, i32_w]
          rfl
        refine one_ (i := 6) (N := some 101) #[true, true, true, true, true, true, true, false, false, false, false, false, false, false, false, false, false, false, false] rfl rfl (by kernel_rfl) (by decide) (fun K hK => ?_)
        refine goes_ Try.func21 (by kernel_rfl) rfl #[.int .u64 (Go.bits .and .u64 (U x) 255), .agg #[.int .u8 kind, .bool exec, .int .u8 priv, .bool v, .bool sum, .bool mxr, .bool vmxr]] (by rfl) rfl rfl (by simp only [List.map_toArray, List.map_cons, List.map_nil]; rfl) ?_
        with_reducible refine (HA5.out _).mono ?_
        rintro e_ w_21 ⟨rfl, hb⟩
        refine ⟨_, rfl, ?_⟩
        have s_0 := blk_below (HH.out) hb
        replace K_gw := Lib.hid (blk_below K_gw.out hb)
        replace K_gm := Lib.hid (blk_below K_gm.out hb)
        have hB_22 := Lib.hid (below_step hB_20.out hb)
        clear HH hb hB_20
        refine hK.out _ _ (s_0) (fun hHeld => ?_)
        have HH := Lib.hid hHeld
        clear hHeld s_0
        clear hK K
        refine norm_ (a' := ?_) ?_ ?_
        rotate_left
        · show Act.put _ (some 101) _ = _
          simp only [Act.put, List.setIfInBounds_toArray, List.set_cons_zero, List.set_cons_succ, i64_w, i32_w]
          rfl
        refine pure_ (i := 7) (N := some 102) (v := ?_) (a' := ?_) #[true, true, true, true, true, true, true, true, false, false, false, false, false, false, false, false, false, false, false] rfl rfl (by kernel_rfl) (fun _ _ _ h => h) (Or.inl ⟨by rfl, ?_⟩) ?_ ?_
        rotate_left
        · intro w'
          go_simp
          with_reducible rfl
        rotate_left
        · simp only [Act.put, List.setIfInBounds_toArray, List.set_cons_zero, List.set_cons_succ, i64_w, i32_w]
          rfl
        refine pure_ (i := 8) (N := some 103) (v := ?_) (a' := ?_) #[true, true, true, true, true, true, true, true, true, false, false, false, false, false, false, false, false, false, false] rfl rfl (by kernel_rfl) (fun _ _ _ h => h) (Or.inl ⟨by rfl, ?_⟩) ?_ ?_
        rotate_left
        · intro w'
          go_simp
          with_reducible rfl
        rotate_left
        · simp only [Act.put, List.setIfInBounds_toArray, List.set_cons_zero, List.set_cons_succ, i64_w, i32_w]
          rfl
        refine pure_ (i := 9) (N := some 104) (v := ?_) (a' := ?_) #[true, true, true, true, true, true, true, true, true, true, false, false, false, false, false, false, false, false, false] rfl rfl (by kernel_rfl) (fun _ _ _ h => h) (Or.inl ⟨by rfl, ?_⟩) ?_ ?_
        rotate_left
        · intro w'
          go_simp
          with_reducible rfl
        rotate_left
        · simp only [Act.put, List.setIfInBounds_toArray, List.set_cons_zero, List.set_cons_succ, i64_w, i32_w]
          rfl
        refine pure_ (i := 12) (N := some 107) (v := ?_) (a' := ?_) #[true, true, true, true, true, true, true, true, true, true, false, false, true, false, false, false, false, false, false] rfl rfl (by kernel_rfl) (fun _ _ _ h => h) (Or.inl ⟨by rfl, ?_⟩) ?_ ?_
        rotate_left
        · intro w'
          go_simp
          with_reducible rfl
        rotate_left
        · simp only [Act.put, List.setIfInBounds_toArray, List.set_cons_zero, List.set_cons_succ, i64_w, i32_w]
          rfl
        refine pure_ (i := 13) (N := some 108) (v := ?_) (a' := ?_) #[true, true, true, true, true, true, true, true, true, true, false, false, true, true, false, false, false, false, false] rfl rfl (by kernel_rfl) (fun _ _ _ h => h) (Or.inl ⟨by rfl, ?_⟩) ?_ ?_
        rotate_left
        · intro w'
          go_simp
          with_reducible rfl
        rotate_left
        · simp only [Act.put, List.setIfInBounds_toArray, List.set_cons_zero, List.set_cons_succ, i64_w, i32_w]
          rfl
        refine take_ (i := 10) (N := some 105) (v := .agg #[.int .u8 kind, .bool exec, .int .u8 priv, .bool v, .bool sum, .bool mxr, .bool vmxr]) (a' := ?_) #[true, true, true, true, true, true, true, true, true, true, true, false, true, true, false, false, false, false, false] rfl rfl (by kernel_rfl) (fun _ _ _ h => h) (Or.inl ⟨by rfl, ?_⟩) HH.out ?_ ?_
        · intro w' s0; exact exec_load_blk rfl rfl s0 Try.underlying32 rfl (by kernel_rfl)
        rotate_left
        · simp only [Act.put, List.setIfInBounds_toArray, List.set_cons_zero, List.set_cons_succ, i64_w, i32_w]
          rfl
        refine take_ (i := 14) (N := some 109) (v := .agg #[.int .u8 kind, .bool exec, .int .u8 priv, .bool v, .bool sum, .bool mxr, .bool vmxr]) (a' := ?_) #[true, true, true, true, true, true, true, true, true, true, true, false, true, true, true, false, false, false, false] rfl rfl (by kernel_rfl) (fun _ _ _ h => h) (Or.inl ⟨by rfl, ?_⟩) HH.out ?_ ?_
        · intro w' s0; exact exec_load_blk rfl rfl s0 Try.underlying32 rfl (by kernel_rfl)
        rotate_left
        · simp only [Act.put, List.setIfInBounds_toArray, List.set_cons_zero, List.set_cons_succ, i64_w, i32_w]
          rfl
        refine one_ (i := 11) (N := some 106) #[true, true, true, true, true, true, true, true, true, true, true, true, true, true, true, false, false, false, false] rfl rfl (by kernel_rfl) (by decide) (fun K hK => ?_)
        refine goes_ Try.func23 (by kernel_rfl) rfl #[.int .u64 (U x), .agg #[.int .u8 kind, .bool exec, .int .u8 priv, .bool v, .bool sum, .bool mxr, .bool vmxr]] (by rfl) rfl rfl (by simp only [List.map_toArray, List.map_cons, List.map_nil]; rfl) ?_
        with_reducible refine (HF.out _).mono ?_
        rintro e_ w_23 ⟨rfl, hb⟩
        refine ⟨_, rfl, ?_⟩
        have s_0 := blk_below (HH.out) hb
        replace K_gw := Lib.hid (blk_below K_gw.out hb)
        replace K_gm := Lib.hid (blk_below K_gm.out hb)
        have hB_24 := Lib.hid (below_step hB_22.out hb)
        clear HH hb hB_22
        refine hK.out _ _ (s_0) (fun hHeld => ?_)
        have HH := Lib.hid hHeld
        clear hHeld s_0
        clear hK K
        refine norm_ (a' := ?_) ?_ ?_
        rotate_left
        · show Act.put _ (some 106) _ = _
          simp only [Act.put, List.setIfInBounds_toArray, List.set_cons_zero, List.set_cons_succ, i64_w, i32_w]
          rfl
        refine one_ (i := 15) (N := some 110) #[true, true, true, true, true, true, true, true, true, true, true, true, true, true, true, true, false, false, false] rfl rfl (by kernel_rfl) (by decide) (fun K hK => ?_)
        refine goes_ Try.func23 (by kernel_rfl) rfl #[.int .u64 (Go.bits .and .u64 (U x) 255), .agg #[.int .u8 kind, .bool exec, .int .u8 priv, .bool v, .bool sum, .bool mxr, .bool vmxr]] (by rfl) rfl rfl (by simp only [List.map_toArray, List.map_cons, List.map_nil]; rfl) ?_
        with_reducible refine (HF5.out _).mono ?_
        rintro e_ w_25 ⟨rfl, hb⟩
        refine ⟨_, rfl, ?_⟩
        have s_0 := blk_below (HH.out) hb
        replace K_gw := Lib.hid (blk_below K_gw.out hb)
        replace K_gm := Lib.hid (blk_below K_gm.out hb)
        have hB_26 := Lib.hid (below_step hB_24.out hb)
        clear HH hb hB_24
        refine hK.out _ _ (s_0) (fun hHeld => ?_)
        have HH := Lib.hid hHeld
        clear hHeld s_0
        clear hK K
        refine norm_ (a' := ?_) ?_ ?_
        rotate_left
        · show Act.put _ (some 110) _ = _
          simp only [Act.put, List.setIfInBounds_toArray, List.set_cons_zero, List.set_cons_succ, i64_w, i32_w]
          rfl
        refine pure_ (i := 16) (N := some 111) (v := ?_) (a' := ?_) #[true, true, true, true, true, true, true, true, true, true, true, true, true, true, true, true, true, false, false] rfl rfl (by kernel_rfl) (fun _ _ _ h => h) (Or.inl ⟨by rfl, ?_⟩) ?_ ?_
        rotate_left
        · intro w'
          go_simp
          with_reducible rfl
        rotate_left
        · simp only [Act.put, List.setIfInBounds_toArray, List.set_cons_zero, List.set_cons_succ, i64_w, i32_w]
          rfl
        refine pure_ (i := 17) (N := some 112) (v := ?_) (a' := ?_) #[true, true, true, true, true, true, true, true, true, true, true, true, true, true, true, true, true, true, false] rfl rfl (by kernel_rfl) (fun _ _ _ h => h) (Or.inl ⟨by rfl, ?_⟩) ?_ ?_
        rotate_left
        · intro w'
          go_simp
          with_reducible rfl
        rotate_left
        · simp only [Act.put, List.setIfInBounds_toArray, List.set_cons_zero, List.set_cons_succ, i64_w, i32_w]
          rfl
        refine pure_ (i := 18) (N := some 4) (v := ?_) (a' := ?_) #[true, true, true, true, true, true, true, true, true, true, true, true, true, true, true, true, true, true, true] rfl rfl (by kernel_rfl) (fun _ _ _ h => h) (Or.inl ⟨by rfl, ?_⟩) ?_ ?_
        rotate_left
        · intro w'
          go_simp
          with_reducible rfl
        rotate_left
        · simp only [Act.put, List.setIfInBounds_toArray, List.set_cons_zero, List.set_cons_succ, i64_w, i32_w]
          rfl
        refine done_ (by kernel_rfl) ?_
        try clear HH
        go_wp2
        go_ret
        exact ⟨rfl, hB_26.out⟩
      · skip
        have hA := HA.out; rw [ok] at hA
        have HA := Lib.hid hA; clear hA
        have hA5 := HA5.out; rw [ok] at hA5
        have HA5 := Lib.hid hA5; clear hA5
        have hO := HO.out; rw [o1] at hO
        have HO := Lib.hid hO; clear hO
        have hL := HL.out; rw [o2] at hL
        have HL := Lib.hid hL; clear hL
        have hF := HF.out; have hF5 := HF5.out
        generalize fu x kind = ff at hF hF5
        have d9 : (ff == ff) = true := beq_self_eq_true _
        have HF := Lib.hid hF; have HF5 := Lib.hid hF5; clear hF hF5
        clear ok o1 o2
        have hu32 := Try.underlying32
        go_enter Try.func6, Try.ntmps6
        go_upto_region 1 with (first | ((with_reducible refine gate_dst (N := 3) rfl ?_); refine box_event ?hg (N := 3) ?hd (cs := #[.int .u8 kind, .bool exec, .int .u8 priv, .bool v, .bool sum, .bool mxr, .bool vmxr]) (t := 32) ?hr ?_; (case hd => rfl); (case hg => rfl); (case hr => first | (go_simp; done) | (go_simp; rfl)); intro gw hg w_1 H1 hb; have hB_2 := Lib.hid (below_step (Below.refl w.heap.size w) hb); have G_gw := Lib.hid (show w.heap.size ≤ gw by rw [hg]; exact ((Below.refl w.heap.size w)).size); have K_gw := Lib.hid (show w_1.heap[gw]? = some (.cells #[.int .u8 kind, .bool exec, .int .u8 priv, .bool v, .bool sum, .bool mxr, .bool vmxr] 32 (0, 0)) from H1); clear hg hb H1))
        go_wp2_with fail
        refine (mezzaninelaw15_awake.calls 6 true _ (pte_awake 1)).mono ?_
        rintro e_3 w_4 ⟨rfl, hb⟩
        have hB_5 := Lib.hid (below_step hB_2.out hb)
        replace K_gw := Lib.hid (blk_below K_gw.out hb)
        clear hb hB_2
        go_upto_region 3 with fail
        go_upto_region 4 with (first | ((with_reducible refine gate_dst (N := 10) rfl ?_); (first | (refine gate_guard (by kernel_rfl) ?_) | skip); refine Kd.event_run rfl (v := .agg #[.int .u8 kind, .bool exec, .int .u8 priv, .bool v, .bool sum, .bool mxr, .bool vmxr]) (w1 := w_4) ?hb ?_; (case hb => exact exec_load_blk rfl rfl K_gw.out Try.underlying32 rfl (by kernel_rfl))) | ((with_reducible refine gate_dst (N := 5) rfl ?_); refine box_event ?hg (N := 5) ?hd (cs := #[.int .u8 0, .bool false, .int .u8 0, .bool false, .bool false, .bool false, .bool false]) (t := 32) ?hr ?_; (case hd => rfl); (case hg => rfl); (case hr => first | (go_simp; done) | (go_simp; rfl)); intro gm hg w_6 H1 hb; have hB_8 := Lib.hid (below_step hB_5.out hb); have G_gm := Lib.hid (show w.heap.size ≤ gm by rw [hg]; exact (hB_5.out).size); have N_gw_gm := Lib.hid (show gw ≠ gm by rw [hg]; exact Nat.ne_of_lt (blk_lt K_gw.out)); replace K_gw := Lib.hid (blk_below K_gw.out hb); have K_gm := Lib.hid (show w_6.heap[gm]? = some (.cells #[.int .u8 0, .bool false, .int .u8 0, .bool false, .bool false, .bool false, .bool false] 32 (0, 0)) from H1); clear hg hb H1 hB_5) | (refine wpList_store_mid rfl 32 (.tmp 5) (.tmp 10) rfl gm 0 #[.int .u8 kind, .bool exec, .int .u8 priv, .bool v, .bool sum, .bool mxr, .bool vmxr] rfl rfl (blk_there K_gm.out) (by kernel_rfl) (by simp [Value.oneCell']) ?_; have hB_9 := Lib.hid (setCells_below G_gm.out (#[.int .u8 kind, .bool exec, .int .u8 priv, .bool v, .bool sum, .bool mxr, .bool vmxr] : Array Value).toList 0 _ hB_8.out); replace K_gw := Lib.hid (setCells_far' (vs := (#[.int .u8 kind, .bool exec, .int .u8 priv, .bool v, .bool sum, .bool mxr, .bool vmxr] : Array Value).toList) (o := 0) N_gw_gm.out K_gw.out); replace K_gm := Lib.hid (blk_putAll (cs := #[.int .u8 kind, .bool exec, .int .u8 priv, .bool v, .bool sum, .bool mxr, .bool vmxr]) K_gm.out rfl); clear hB_8; generalize World.setCells w_6 gm 0 (#[.int .u8 kind, .bool exec, .int .u8 priv, .bool v, .bool sum, .bool mxr, .bool vmxr] : Array Value).toList = w_7 at K_gw K_gm hB_9 ⊢))
        have c_gm_4 := (show World.cell? _ ⟨gm, 4, none⟩ = some (.bool sum) from (blk_cell K_gm.out 4).trans rfl); have f_gm_4 := blk_frozen K_gm.out 4
        have c_gm_5 := (show World.cell? _ ⟨gm, 5, none⟩ = some (.bool mxr) from (blk_cell K_gm.out 5).trans rfl); have f_gm_5 := blk_frozen K_gm.out 5
        have c_gm_6 := (show World.cell? _ ⟨gm, 6, none⟩ = some (.bool vmxr) from (blk_cell K_gm.out 6).trans rfl); have f_gm_6 := blk_frozen K_gm.out 6
        go_upto_region 7 with fail
        clear c_gm_4 f_gm_4 c_gm_5 f_gm_5 c_gm_6 f_gm_6
        have q_g := Lib.hid (blk_put (blk_put (blk_put K_gm.out 4 (.bool true) rfl) 5 (.bool true) rfl) 6 (.bool true) rfl)
        replace K_gw := Lib.hid (blk_far (blk_far (blk_far K_gw.out (p := ⟨gm, 4, none⟩) N_gw_gm.out (.bool true)) (p := ⟨gm, 5, none⟩) N_gw_gm.out (.bool true)) (p := ⟨gm, 6, none⟩) N_gw_gm.out (.bool true))
        have hB_11 := Lib.hid (below_set (j := 6) (v := .bool true) (below_set (j := 5) (v := .bool true) (below_set (j := 4) (v := .bool true) hB_9.out G_gm.out) G_gm.out) G_gm.out)
        clear K_gm hB_9
        generalize (World.setCell (World.setCell (World.setCell w_7 ⟨gm, 4, none⟩ (.bool true)) ⟨gm, 5, none⟩ (.bool true)) ⟨gm, 6, none⟩ (.bool true)) = w_10 at K_gw q_g hB_11 ⊢
        have K_gm := Lib.hid (show w_10.heap[gm]? = some (.cells #[.int .u8 kind, .bool exec, .int .u8 priv, .bool v, .bool true, .bool true, .bool true] 32 (0, 0)) from q_g.out); clear q_g
        go_wp2_with (first | ((with_reducible refine gate_dst (N := 15) rfl ?_); (first | (refine gate_guard (by kernel_rfl) ?_) | skip); refine Kd.event_run rfl (v := .agg #[.int .u8 kind, .bool exec, .int .u8 priv, .bool v, .bool sum, .bool mxr, .bool vmxr]) (w1 := w_10) ?hb ?_; (case hb => exact exec_load_blk rfl rfl K_gw.out Try.underlying32 rfl (by kernel_rfl))))
        refine (HA.out _).mono ?_
        rintro e_12 w_13 ⟨rfl, hb⟩
        have hB_14 := Lib.hid (below_step hB_11.out hb)
        replace K_gw := Lib.hid (blk_below K_gw.out hb)
        replace K_gm := Lib.hid (blk_below K_gm.out hb)
        clear hb hB_11
        have c_gw_0 := (show World.cell? _ ⟨gw, 0, none⟩ = some (.int .u8 kind) from (blk_cell K_gw.out 0).trans rfl); have f_gw_0 := blk_frozen K_gw.out 0
        have c_gw_2 := (show World.cell? _ ⟨gw, 2, none⟩ = some (.int .u8 priv) from (blk_cell K_gw.out 2).trans rfl); have f_gw_2 := blk_frozen K_gw.out 2
        go_upto_region 10 with fail
        go_wp2_with fail
        refine (HO.out _).mono ?_
        rintro e5 w5 ⟨rfl, n_, e5⟩
        clear c_gw_0 f_gw_0 c_gw_2 f_gw_2
        replace K_gw := Lib.hid (show w5.heap[gw]? = some (.cells #[.int .u8 kind, .bool exec, .int .u8 priv, .bool v, .bool sum, .bool mxr, .bool vmxr] 32 (0, 0)) from by rw [e5]; exact blk_drewN K_gw.out n_)
        replace K_gm := Lib.hid (show w5.heap[gm]? = some (.cells #[.int .u8 kind, .bool exec, .int .u8 priv, .bool v, .bool true, .bool true, .bool true] 32 (0, 0)) from by rw [e5]; exact blk_drewN K_gm.out n_)
        have hB_15 := Lib.hid (Below_of e5.symm (pw_below_drewN hB_14.out n_))
        clear e5 hB_14
        have c_gw_0 := (show World.cell? _ ⟨gw, 0, none⟩ = some (.int .u8 kind) from (blk_cell K_gw.out 0).trans rfl); have f_gw_0 := blk_frozen K_gw.out 0
        have c_gw_2 := (show World.cell? _ ⟨gw, 2, none⟩ = some (.int .u8 priv) from (blk_cell K_gw.out 2).trans rfl); have f_gw_2 := blk_frozen K_gw.out 2
        go_wp2_with fail
        refine (HL.out _).mono ?_
        rintro e6 w6 ⟨rfl, n_, e6⟩
        clear c_gw_0 f_gw_0 c_gw_2 f_gw_2
        replace K_gw := Lib.hid (show w6.heap[gw]? = some (.cells #[.int .u8 kind, .bool exec, .int .u8 priv, .bool v, .bool sum, .bool mxr, .bool vmxr] 32 (0, 0)) from by rw [e6]; exact blk_drewN K_gw.out n_)
        replace K_gm := Lib.hid (show w6.heap[gm]? = some (.cells #[.int .u8 kind, .bool exec, .int .u8 priv, .bool v, .bool true, .bool true, .bool true] 32 (0, 0)) from by rw [e6]; exact blk_drewN K_gm.out n_)
        have hB_16 := Lib.hid (Below_of e6.symm (pw_below_drewN hB_15.out n_))
        clear e6 hB_15
        have c_gw_0 := (show World.cell? _ ⟨gw, 0, none⟩ = some (.int .u8 kind) from (blk_cell K_gw.out 0).trans rfl); have f_gw_0 := blk_frozen K_gw.out 0
        have c_gw_2 := (show World.cell? _ ⟨gw, 2, none⟩ = some (.int .u8 priv) from (blk_cell K_gw.out 2).trans rfl); have f_gw_2 := blk_frozen K_gw.out 2
        go_upto_region 16 with fail
        clear c_gw_0 f_gw_0 c_gw_2 f_gw_2
        refine start_ (n := 19) (S := fun w' => w'.heap[gw]? = some (.cells #[.int .u8 kind, .bool exec, .int .u8 priv, .bool v, .bool sum, .bool mxr, .bool vmxr] 32 (0, 0))) (ds := []) #[false, false, false, false, false, false, false, false, false, false, false, false, false, false, false, false, false, false, false] (by kernel_rfl) rfl rfl (blk_drew K_gw.out) (fun hHeld => ?_)
        replace K_gw := Lib.hid (blk_drew K_gw.out)
        replace K_gm := Lib.hid (blk_drew K_gm.out)
        have hB_18 := Lib.hid (below_drew1 hB_16.out)
        clear hB_16
        generalize World.drew w6 = w_17 at K_gw K_gm hB_18 hHeld ⊢
        refine pure_ (i := 0) (N := some 95) (v := ?_) (a' := ?_) #[true, false, false, false, false, false, false, false, false, false, false, false, false, false, false, false, false, false, false] rfl rfl (by kernel_rfl) (fun _ _ _ h => h) (Or.inl ⟨by rfl, ?_⟩) ?_ ?_
        rotate_left
        · intro w'
          go_simp
          with_reducible rfl
        rotate_left
        · simp only [Act.put, List.setIfInBounds_toArray, List.set_cons_zero, List.set_cons_succ, i64_w, i32_w]
          rfl
        refine pure_ (i := 3) (N := some 98) (v := ?_) (a' := ?_) #[true, false, false, true, false, false, false, false, false, false, false, false, false, false, false, false, false, false, false] rfl rfl (by kernel_rfl) (fun _ _ _ h => h) (Or.inl ⟨by rfl, ?_⟩) ?_ ?_
        rotate_left
        · intro w'
          go_simp
          with_reducible rfl
        rotate_left
        · simp only [Act.put, List.setIfInBounds_toArray, List.set_cons_zero, List.set_cons_succ, i64_w, i32_w]
          rfl
        refine pure_ (i := 4) (N := some 99) (v := ?_) (a' := ?_) #[true, false, false, true, true, false, false, false, false, false, false, false, false, false, false, false, false, false, false] rfl rfl (by kernel_rfl) (fun _ _ _ h => h) (Or.inl ⟨by rfl, ?_⟩) ?_ ?_
        rotate_left
        · intro w'
          go_simp
          with_reducible rfl
        rotate_left
        · simp only [Act.put, List.setIfInBounds_toArray, List.set_cons_zero, List.set_cons_succ, i64_w, i32_w]
          rfl
        refine take_ (i := 1) (N := some 96) (v := .agg #[.int .u8 kind, .bool exec, .int .u8 priv, .bool v, .bool sum, .bool mxr, .bool vmxr]) (a' := ?_) #[true, true, false, true, true, false, false, false, false, false, false, false, false, false, false, false, false, false, false] rfl rfl (by kernel_rfl) (fun _ _ _ h => h) (Or.inl ⟨by rfl, ?_⟩) hHeld ?_ ?_
        · intro w' s0; exact exec_load_blk rfl rfl s0 Try.underlying32 rfl (by kernel_rfl)
        rotate_left
        · simp only [Act.put, List.setIfInBounds_toArray, List.set_cons_zero, List.set_cons_succ, i64_w, i32_w]
          rfl
        refine take_ (i := 5) (N := some 100) (v := .agg #[.int .u8 kind, .bool exec, .int .u8 priv, .bool v, .bool sum, .bool mxr, .bool vmxr]) (a' := ?_) #[true, true, false, true, true, true, false, false, false, false, false, false, false, false, false, false, false, false, false] rfl rfl (by kernel_rfl) (fun _ _ _ h => h) (Or.inl ⟨by rfl, ?_⟩) hHeld ?_ ?_
        · intro w' s0; exact exec_load_blk rfl rfl s0 Try.underlying32 rfl (by kernel_rfl)
        rotate_left
        · simp only [Act.put, List.setIfInBounds_toArray, List.set_cons_zero, List.set_cons_succ, i64_w, i32_w]
          rfl
        have HH := Lib.hid hHeld
        clear hHeld
        refine one_ (i := 2) (N := some 97) #[true, true, true, true, true, true, false, false, false, false, false, false, false, false, false, false, false, false, false] rfl rfl (by kernel_rfl) (by decide) (fun K hK => ?_)
        refine goes_ Try.func21 (by kernel_rfl) rfl #[.int .u64 (U x), .agg #[.int .u8 kind, .bool exec, .int .u8 priv, .bool v, .bool sum, .bool mxr, .bool vmxr]] (by rfl) rfl rfl (by simp only [List.map_toArray, List.map_cons, List.map_nil]; rfl) ?_
        with_reducible refine (HA.out _).mono ?_
        rintro e_ w_19 ⟨rfl, hb⟩
        refine ⟨_, rfl, ?_⟩
        have s_0 := blk_below (HH.out) hb
        replace K_gw := Lib.hid (blk_below K_gw.out hb)
        replace K_gm := Lib.hid (blk_below K_gm.out hb)
        have hB_20 := Lib.hid (below_step hB_18.out hb)
        clear HH hb hB_18
        refine hK.out _ _ (s_0) (fun hHeld => ?_)
        have HH := Lib.hid hHeld
        clear hHeld s_0
        clear hK K
        refine norm_ (a' := ?_) ?_ ?_
        rotate_left
        · show Act.put _ (some 97) _ = _
          simp only [Act.put, List.setIfInBounds_toArray, List.set_cons_zero, List.set_cons_succ, i64_w, i32_w]
          rfl
        refine one_ (i := 6) (N := some 101) #[true, true, true, true, true, true, true, false, false, false, false, false, false, false, false, false, false, false, false] rfl rfl (by kernel_rfl) (by decide) (fun K hK => ?_)
        refine goes_ Try.func21 (by kernel_rfl) rfl #[.int .u64 (Go.bits .and .u64 (U x) 255), .agg #[.int .u8 kind, .bool exec, .int .u8 priv, .bool v, .bool sum, .bool mxr, .bool vmxr]] (by rfl) rfl rfl (by simp only [List.map_toArray, List.map_cons, List.map_nil]; rfl) ?_
        with_reducible refine (HA5.out _).mono ?_
        rintro e_ w_21 ⟨rfl, hb⟩
        refine ⟨_, rfl, ?_⟩
        have s_0 := blk_below (HH.out) hb
        replace K_gw := Lib.hid (blk_below K_gw.out hb)
        replace K_gm := Lib.hid (blk_below K_gm.out hb)
        have hB_22 := Lib.hid (below_step hB_20.out hb)
        clear HH hb hB_20
        refine hK.out _ _ (s_0) (fun hHeld => ?_)
        have HH := Lib.hid hHeld
        clear hHeld s_0
        clear hK K
        refine norm_ (a' := ?_) ?_ ?_
        rotate_left
        · show Act.put _ (some 101) _ = _
          simp only [Act.put, List.setIfInBounds_toArray, List.set_cons_zero, List.set_cons_succ, i64_w, i32_w]
          rfl
        refine pure_ (i := 7) (N := some 102) (v := ?_) (a' := ?_) #[true, true, true, true, true, true, true, true, false, false, false, false, false, false, false, false, false, false, false] rfl rfl (by kernel_rfl) (fun _ _ _ h => h) (Or.inl ⟨by rfl, ?_⟩) ?_ ?_
        rotate_left
        · intro w'
          go_simp
          with_reducible rfl
        rotate_left
        · simp only [Act.put, List.setIfInBounds_toArray, List.set_cons_zero, List.set_cons_succ, i64_w, i32_w]
          rfl
        refine pure_ (i := 8) (N := some 103) (v := ?_) (a' := ?_) #[true, true, true, true, true, true, true, true, true, false, false, false, false, false, false, false, false, false, false] rfl rfl (by kernel_rfl) (fun _ _ _ h => h) (Or.inl ⟨by rfl, ?_⟩) ?_ ?_
        rotate_left
        · intro w'
          go_simp
          with_reducible rfl
        rotate_left
        · simp only [Act.put, List.setIfInBounds_toArray, List.set_cons_zero, List.set_cons_succ, i64_w, i32_w]
          rfl
        refine pure_ (i := 9) (N := some 104) (v := ?_) (a' := ?_) #[true, true, true, true, true, true, true, true, true, true, false, false, false, false, false, false, false, false, false] rfl rfl (by kernel_rfl) (fun _ _ _ h => h) (Or.inl ⟨by rfl, ?_⟩) ?_ ?_
        rotate_left
        · intro w'
          go_simp
          with_reducible rfl
        rotate_left
        · simp only [Act.put, List.setIfInBounds_toArray, List.set_cons_zero, List.set_cons_succ, i64_w, i32_w]
          rfl
        refine pure_ (i := 12) (N := some 107) (v := ?_) (a' := ?_) #[true, true, true, true, true, true, true, true, true, true, false, false, true, false, false, false, false, false, false] rfl rfl (by kernel_rfl) (fun _ _ _ h => h) (Or.inl ⟨by rfl, ?_⟩) ?_ ?_
        rotate_left
        · intro w'
          go_simp
          with_reducible rfl
        rotate_left
        · simp only [Act.put, List.setIfInBounds_toArray, List.set_cons_zero, List.set_cons_succ, i64_w, i32_w]
          rfl
        refine pure_ (i := 13) (N := some 108) (v := ?_) (a' := ?_) #[true, true, true, true, true, true, true, true, true, true, false, false, true, true, false, false, false, false, false] rfl rfl (by kernel_rfl) (fun _ _ _ h => h) (Or.inl ⟨by rfl, ?_⟩) ?_ ?_
        rotate_left
        · intro w'
          go_simp
          with_reducible rfl
        rotate_left
        · simp only [Act.put, List.setIfInBounds_toArray, List.set_cons_zero, List.set_cons_succ, i64_w, i32_w]
          rfl
        refine take_ (i := 10) (N := some 105) (v := .agg #[.int .u8 kind, .bool exec, .int .u8 priv, .bool v, .bool sum, .bool mxr, .bool vmxr]) (a' := ?_) #[true, true, true, true, true, true, true, true, true, true, true, false, true, true, false, false, false, false, false] rfl rfl (by kernel_rfl) (fun _ _ _ h => h) (Or.inl ⟨by rfl, ?_⟩) HH.out ?_ ?_
        · intro w' s0; exact exec_load_blk rfl rfl s0 Try.underlying32 rfl (by kernel_rfl)
        rotate_left
        · simp only [Act.put, List.setIfInBounds_toArray, List.set_cons_zero, List.set_cons_succ, i64_w, i32_w]
          rfl
        refine take_ (i := 14) (N := some 109) (v := .agg #[.int .u8 kind, .bool exec, .int .u8 priv, .bool v, .bool sum, .bool mxr, .bool vmxr]) (a' := ?_) #[true, true, true, true, true, true, true, true, true, true, true, false, true, true, true, false, false, false, false] rfl rfl (by kernel_rfl) (fun _ _ _ h => h) (Or.inl ⟨by rfl, ?_⟩) HH.out ?_ ?_
        · intro w' s0; exact exec_load_blk rfl rfl s0 Try.underlying32 rfl (by kernel_rfl)
        rotate_left
        · simp only [Act.put, List.setIfInBounds_toArray, List.set_cons_zero, List.set_cons_succ, i64_w, i32_w]
          rfl
        refine one_ (i := 11) (N := some 106) #[true, true, true, true, true, true, true, true, true, true, true, true, true, true, true, false, false, false, false] rfl rfl (by kernel_rfl) (by decide) (fun K hK => ?_)
        refine goes_ Try.func23 (by kernel_rfl) rfl #[.int .u64 (U x), .agg #[.int .u8 kind, .bool exec, .int .u8 priv, .bool v, .bool sum, .bool mxr, .bool vmxr]] (by rfl) rfl rfl (by simp only [List.map_toArray, List.map_cons, List.map_nil]; rfl) ?_
        with_reducible refine (HF.out _).mono ?_
        rintro e_ w_23 ⟨rfl, hb⟩
        refine ⟨_, rfl, ?_⟩
        have s_0 := blk_below (HH.out) hb
        replace K_gw := Lib.hid (blk_below K_gw.out hb)
        replace K_gm := Lib.hid (blk_below K_gm.out hb)
        have hB_24 := Lib.hid (below_step hB_22.out hb)
        clear HH hb hB_22
        refine hK.out _ _ (s_0) (fun hHeld => ?_)
        have HH := Lib.hid hHeld
        clear hHeld s_0
        clear hK K
        refine norm_ (a' := ?_) ?_ ?_
        rotate_left
        · show Act.put _ (some 106) _ = _
          simp only [Act.put, List.setIfInBounds_toArray, List.set_cons_zero, List.set_cons_succ, i64_w, i32_w]
          rfl
        refine one_ (i := 15) (N := some 110) #[true, true, true, true, true, true, true, true, true, true, true, true, true, true, true, true, false, false, false] rfl rfl (by kernel_rfl) (by decide) (fun K hK => ?_)
        refine goes_ Try.func23 (by kernel_rfl) rfl #[.int .u64 (Go.bits .and .u64 (U x) 255), .agg #[.int .u8 kind, .bool exec, .int .u8 priv, .bool v, .bool sum, .bool mxr, .bool vmxr]] (by rfl) rfl rfl (by simp only [List.map_toArray, List.map_cons, List.map_nil]; rfl) ?_
        with_reducible refine (HF5.out _).mono ?_
        rintro e_ w_25 ⟨rfl, hb⟩
        refine ⟨_, rfl, ?_⟩
        have s_0 := blk_below (HH.out) hb
        replace K_gw := Lib.hid (blk_below K_gw.out hb)
        replace K_gm := Lib.hid (blk_below K_gm.out hb)
        have hB_26 := Lib.hid (below_step hB_24.out hb)
        clear HH hb hB_24
        refine hK.out _ _ (s_0) (fun hHeld => ?_)
        have HH := Lib.hid hHeld
        clear hHeld s_0
        clear hK K
        refine norm_ (a' := ?_) ?_ ?_
        rotate_left
        · show Act.put _ (some 110) _ = _
          simp only [Act.put, List.setIfInBounds_toArray, List.set_cons_zero, List.set_cons_succ, i64_w, i32_w]
          rfl
        refine pure_ (i := 16) (N := some 111) (v := ?_) (a' := ?_) #[true, true, true, true, true, true, true, true, true, true, true, true, true, true, true, true, true, false, false] rfl rfl (by kernel_rfl) (fun _ _ _ h => h) (Or.inl ⟨by rfl, ?_⟩) ?_ ?_
        rotate_left
        · intro w'
          go_simp
          with_reducible rfl
        rotate_left
        · simp only [Act.put, List.setIfInBounds_toArray, List.set_cons_zero, List.set_cons_succ, i64_w, i32_w]
          rfl
        refine pure_ (i := 17) (N := some 112) (v := ?_) (a' := ?_) #[true, true, true, true, true, true, true, true, true, true, true, true, true, true, true, true, true, true, false] rfl rfl (by kernel_rfl) (fun _ _ _ h => h) (Or.inl ⟨by rfl, ?_⟩) ?_ ?_
        rotate_left
        · intro w'
          go_simp
          with_reducible rfl
        rotate_left
        · simp only [Act.put, List.setIfInBounds_toArray, List.set_cons_zero, List.set_cons_succ, i64_w, i32_w]
          rfl
        refine pure_ (i := 18) (N := some 4) (v := ?_) (a' := ?_) #[true, true, true, true, true, true, true, true, true, true, true, true, true, true, true, true, true, true, true] rfl rfl (by kernel_rfl) (fun _ _ _ h => h) (Or.inl ⟨by rfl, ?_⟩) ?_ ?_
        rotate_left
        · intro w'
          go_simp
          with_reducible rfl
        rotate_left
        · simp only [Act.put, List.setIfInBounds_toArray, List.set_cons_zero, List.set_cons_succ, i64_w, i32_w]
          rfl
        refine done_ (by kernel_rfl) ?_
        try clear HH
        go_wp2
        go_ret
        exact ⟨rfl, hB_26.out⟩
set_option maxHeartbeats 16000000 in
set_option maxRecDepth 100000 in
theorem marks_p (x : BitVec 64) (kind : Int) (exec : Bool) (priv : Int) (v sum mxr vmxr : Bool) (w : World) (ok : al x kind exec priv v sum mxr vmxr = true) (p0 : (priv == 0) = true) : Calls Try.prog 6 #[.int .u64 (U x), .agg #[.int .u8 kind, .bool exec, .int .u8 priv, .bool v, .bool sum, .bool mxr, .bool vmxr]] w fun e w' => e = .returned (.bool true) ∧ Below w.heap.size w w' := by
  have hA := fun w => pte_Allowed.calls (U x) kind exec priv v sum mxr vmxr _ w (allowed_eq x kind exec priv v sum mxr vmxr)
  have hA2 := fun w => pte_Allowed.calls (U x) kind exec priv v true true true _ w (allowed_eq x kind exec priv v true true true)
  have hAl := fun w => pte_Allowed.calls (U x) 0 false priv v sum mxr vmxr _ w (allowed_eq x 0 false priv v sum mxr vmxr)
  have hA5 := fun w => pte_Allowed.calls (U (x &&& 255#64)) kind exec priv v sum mxr vmxr _ w (allowed_eq (x &&& 255#64) kind exec priv v sum mxr vmxr)
  simp only [al255] at hA5
  have hF := fun w => pte_Full.calls (U x) kind exec priv v sum mxr vmxr _ w (full_eq x kind exec priv v sum mxr vmxr)
  have hFl := fun w => pte_Full.calls (U x) 0 false priv v sum mxr vmxr _ w (full_eq x 0 false priv v sum mxr vmxr)
  have hF5 := fun w => pte_Full.calls (U (x &&& 255#64)) kind exec priv v sum mxr vmxr _ w (full_eq (x &&& 255#64) kind exec priv v sum mxr vmxr)
  simp only [fu255] at hF5
  have hO := fun w => pte_Ok.calls 1 (U x) _ w (ok_eq x 0)
  have hL := fun w => pte_Leaf.calls (U x) _ w (leaf_eq x)
  have e255 := (and255 x).symm
  rw [e255] at hA5 hF5
  clear e255
  have f1 := al_more x kind exec priv v sum mxr vmxr
  have f2 := fun (e : priv = 0) => al_user x kind exec v sum mxr vmxr
  have f3 := al_fetch x priv
  have f4 := al_kind x kind priv exec v sum mxr vmxr
  have f5 := al_load x priv exec v sum mxr vmxr
  have f6 := fu_load x
  have HO := Lib.hid hO; have HL := Lib.hid hL; have HA := Lib.hid hA; have HA2 := Lib.hid hA2; have HAL := Lib.hid hAl; have HA5 := Lib.hid hA5; have HF := Lib.hid hF; have HFL := Lib.hid hFl; have HF5 := Lib.hid hF5; have F1 := Lib.hid f1; have F2 := Lib.hid f2; have F3 := Lib.hid f3; have F4 := Lib.hid f4; have F5 := Lib.hid f5; have F6 := Lib.hid f6; have U16 := Lib.hid (u16 x); have N16 := Lib.hid (n16 x)
  clear hO hL hA hA2 hAl hA5 hF hFl hF5 f1 f2 f3 f4 f5 f6
  cases o1 : okE x
  · skip
    have hA := HA.out; rw [ok] at hA
    have HA := Lib.hid hA; clear hA
    have hA5 := HA5.out; rw [ok] at hA5
    have HA5 := Lib.hid hA5; clear hA5
    have hA2 := HA2.out; rw [F1.out ok] at hA2
    have HA2 := Lib.hid hA2; clear hA2
    have z4 : decide (kind > 2) = false := decide_eq_false (F4.out ok)
    have ep := eq_of_beq p0
    have q0 : (Go.bits .and .u64 (U x) 16 == 0) = false := by rw [U16.out, F2.out ep (ep ▸ ok)]; rfl
    have q1 : (priv != 0) = false := by rw [ep]; rfl
    clear ep
    have hO := HO.out; rw [o1] at hO
    have HO := Lib.hid hO; clear hO
    have hF := HF.out; have hF5 := HF5.out
    generalize fu x kind = ff at hF hF5
    have d9 : (ff == ff) = true := beq_self_eq_true _
    have HF := Lib.hid hF; have HF5 := Lib.hid hF5; clear hF hF5
    clear ok o1
    have hu32 := Try.underlying32
    go_enter Try.func6, Try.ntmps6
    go_upto_region 1 with (first | ((with_reducible refine gate_dst (N := 3) rfl ?_); refine box_event ?hg (N := 3) ?hd (cs := #[.int .u8 kind, .bool exec, .int .u8 priv, .bool v, .bool sum, .bool mxr, .bool vmxr]) (t := 32) ?hr ?_; (case hd => rfl); (case hg => rfl); (case hr => first | (go_simp; done) | (go_simp; rfl)); intro gw hg w_1 H1 hb; have hB_2 := Lib.hid (below_step (Below.refl w.heap.size w) hb); have G_gw := Lib.hid (show w.heap.size ≤ gw by rw [hg]; exact ((Below.refl w.heap.size w)).size); have K_gw := Lib.hid (show w_1.heap[gw]? = some (.cells #[.int .u8 kind, .bool exec, .int .u8 priv, .bool v, .bool sum, .bool mxr, .bool vmxr] 32 (0, 0)) from H1); clear hg hb H1))
    go_wp2_with fail
    refine (mezzaninelaw15_awake.calls 6 true _ (pte_awake 1)).mono ?_
    rintro e_3 w_4 ⟨rfl, hb⟩
    have hB_5 := Lib.hid (below_step hB_2.out hb)
    replace K_gw := Lib.hid (blk_below K_gw.out hb)
    clear hb hB_2
    go_upto_region 3 with fail
    go_upto_region 4 with (first | ((with_reducible refine gate_dst (N := 10) rfl ?_); (first | (refine gate_guard (by kernel_rfl) ?_) | skip); refine Kd.event_run rfl (v := .agg #[.int .u8 kind, .bool exec, .int .u8 priv, .bool v, .bool sum, .bool mxr, .bool vmxr]) (w1 := w_4) ?hb ?_; (case hb => exact exec_load_blk rfl rfl K_gw.out Try.underlying32 rfl (by kernel_rfl))) | ((with_reducible refine gate_dst (N := 5) rfl ?_); refine box_event ?hg (N := 5) ?hd (cs := #[.int .u8 0, .bool false, .int .u8 0, .bool false, .bool false, .bool false, .bool false]) (t := 32) ?hr ?_; (case hd => rfl); (case hg => rfl); (case hr => first | (go_simp; done) | (go_simp; rfl)); intro gm hg w_6 H1 hb; have hB_8 := Lib.hid (below_step hB_5.out hb); have G_gm := Lib.hid (show w.heap.size ≤ gm by rw [hg]; exact (hB_5.out).size); have N_gw_gm := Lib.hid (show gw ≠ gm by rw [hg]; exact Nat.ne_of_lt (blk_lt K_gw.out)); replace K_gw := Lib.hid (blk_below K_gw.out hb); have K_gm := Lib.hid (show w_6.heap[gm]? = some (.cells #[.int .u8 0, .bool false, .int .u8 0, .bool false, .bool false, .bool false, .bool false] 32 (0, 0)) from H1); clear hg hb H1 hB_5) | (refine wpList_store_mid rfl 32 (.tmp 5) (.tmp 10) rfl gm 0 #[.int .u8 kind, .bool exec, .int .u8 priv, .bool v, .bool sum, .bool mxr, .bool vmxr] rfl rfl (blk_there K_gm.out) (by kernel_rfl) (by simp [Value.oneCell']) ?_; have hB_9 := Lib.hid (setCells_below G_gm.out (#[.int .u8 kind, .bool exec, .int .u8 priv, .bool v, .bool sum, .bool mxr, .bool vmxr] : Array Value).toList 0 _ hB_8.out); replace K_gw := Lib.hid (setCells_far' (vs := (#[.int .u8 kind, .bool exec, .int .u8 priv, .bool v, .bool sum, .bool mxr, .bool vmxr] : Array Value).toList) (o := 0) N_gw_gm.out K_gw.out); replace K_gm := Lib.hid (blk_putAll (cs := #[.int .u8 kind, .bool exec, .int .u8 priv, .bool v, .bool sum, .bool mxr, .bool vmxr]) K_gm.out rfl); clear hB_8; generalize World.setCells w_6 gm 0 (#[.int .u8 kind, .bool exec, .int .u8 priv, .bool v, .bool sum, .bool mxr, .bool vmxr] : Array Value).toList = w_7 at K_gw K_gm hB_9 ⊢))
    have c_gm_4 := (show World.cell? _ ⟨gm, 4, none⟩ = some (.bool sum) from (blk_cell K_gm.out 4).trans rfl); have f_gm_4 := blk_frozen K_gm.out 4
    have c_gm_5 := (show World.cell? _ ⟨gm, 5, none⟩ = some (.bool mxr) from (blk_cell K_gm.out 5).trans rfl); have f_gm_5 := blk_frozen K_gm.out 5
    have c_gm_6 := (show World.cell? _ ⟨gm, 6, none⟩ = some (.bool vmxr) from (blk_cell K_gm.out 6).trans rfl); have f_gm_6 := blk_frozen K_gm.out 6
    go_upto_region 7 with fail
    clear c_gm_4 f_gm_4 c_gm_5 f_gm_5 c_gm_6 f_gm_6
    have q_g := Lib.hid (blk_put (blk_put (blk_put K_gm.out 4 (.bool true) rfl) 5 (.bool true) rfl) 6 (.bool true) rfl)
    replace K_gw := Lib.hid (blk_far (blk_far (blk_far K_gw.out (p := ⟨gm, 4, none⟩) N_gw_gm.out (.bool true)) (p := ⟨gm, 5, none⟩) N_gw_gm.out (.bool true)) (p := ⟨gm, 6, none⟩) N_gw_gm.out (.bool true))
    have hB_11 := Lib.hid (below_set (j := 6) (v := .bool true) (below_set (j := 5) (v := .bool true) (below_set (j := 4) (v := .bool true) hB_9.out G_gm.out) G_gm.out) G_gm.out)
    clear K_gm hB_9
    generalize (World.setCell (World.setCell (World.setCell w_7 ⟨gm, 4, none⟩ (.bool true)) ⟨gm, 5, none⟩ (.bool true)) ⟨gm, 6, none⟩ (.bool true)) = w_10 at K_gw q_g hB_11 ⊢
    have K_gm := Lib.hid (show w_10.heap[gm]? = some (.cells #[.int .u8 kind, .bool exec, .int .u8 priv, .bool v, .bool true, .bool true, .bool true] 32 (0, 0)) from q_g.out); clear q_g
    go_wp2_with (first | ((with_reducible refine gate_dst (N := 15) rfl ?_); (first | (refine gate_guard (by kernel_rfl) ?_) | skip); refine Kd.event_run rfl (v := .agg #[.int .u8 kind, .bool exec, .int .u8 priv, .bool v, .bool sum, .bool mxr, .bool vmxr]) (w1 := w_10) ?hb ?_; (case hb => exact exec_load_blk rfl rfl K_gw.out Try.underlying32 rfl (by kernel_rfl))))
    refine (HA.out _).mono ?_
    rintro e_12 w_13 ⟨rfl, hb⟩
    have hB_14 := Lib.hid (below_step hB_11.out hb)
    replace K_gw := Lib.hid (blk_below K_gw.out hb)
    replace K_gm := Lib.hid (blk_below K_gm.out hb)
    clear hb hB_11
    have c_gw_0 := (show World.cell? _ ⟨gw, 0, none⟩ = some (.int .u8 kind) from (blk_cell K_gw.out 0).trans rfl); have f_gw_0 := blk_frozen K_gw.out 0
    have c_gw_2 := (show World.cell? _ ⟨gw, 2, none⟩ = some (.int .u8 priv) from (blk_cell K_gw.out 2).trans rfl); have f_gw_2 := blk_frozen K_gw.out 2
    go_wp2_with (first | ((with_reducible refine gate_dst (N := 20) rfl ?_); (first | (refine gate_guard (by kernel_rfl) ?_) | skip); refine Kd.event_run rfl (v := .agg #[.int .u8 kind, .bool exec, .int .u8 priv, .bool v, .bool true, .bool true, .bool true]) (w1 := w_13) ?hb ?_; (case hb => exact exec_load_blk rfl rfl K_gm.out Try.underlying32 rfl (by kernel_rfl))))
    refine (HA2.out _).mono ?_
    rintro e_15 w_16 ⟨rfl, hb⟩
    clear c_gw_0 f_gw_0 c_gw_2 f_gw_2
    have hB_17 := Lib.hid (below_step hB_14.out hb)
    replace K_gw := Lib.hid (blk_below K_gw.out hb)
    replace K_gm := Lib.hid (blk_below K_gm.out hb)
    clear hb hB_14
    have c_gw_0 := (show World.cell? _ ⟨gw, 0, none⟩ = some (.int .u8 kind) from (blk_cell K_gw.out 0).trans rfl); have f_gw_0 := blk_frozen K_gw.out 0
    have c_gw_2 := (show World.cell? _ ⟨gw, 2, none⟩ = some (.int .u8 priv) from (blk_cell K_gw.out 2).trans rfl); have f_gw_2 := blk_frozen K_gw.out 2
    go_upto_region 10 with fail
    go_wp2_with fail
    refine (HO.out _).mono ?_
    rintro e5 w5 ⟨rfl, n_, e5⟩
    clear c_gw_0 f_gw_0 c_gw_2 f_gw_2
    replace K_gw := Lib.hid (show w5.heap[gw]? = some (.cells #[.int .u8 kind, .bool exec, .int .u8 priv, .bool v, .bool sum, .bool mxr, .bool vmxr] 32 (0, 0)) from by rw [e5]; exact blk_drewN K_gw.out n_)
    replace K_gm := Lib.hid (show w5.heap[gm]? = some (.cells #[.int .u8 kind, .bool exec, .int .u8 priv, .bool v, .bool true, .bool true, .bool true] 32 (0, 0)) from by rw [e5]; exact blk_drewN K_gm.out n_)
    have hB_18 := Lib.hid (Below_of e5.symm (pw_below_drewN hB_17.out n_))
    clear e5 hB_17
    have c_gw_0 := (show World.cell? _ ⟨gw, 0, none⟩ = some (.int .u8 kind) from (blk_cell K_gw.out 0).trans rfl); have f_gw_0 := blk_frozen K_gw.out 0
    have c_gw_2 := (show World.cell? _ ⟨gw, 2, none⟩ = some (.int .u8 priv) from (blk_cell K_gw.out 2).trans rfl); have f_gw_2 := blk_frozen K_gw.out 2
    go_upto_region 16 with fail
    clear c_gw_0 f_gw_0 c_gw_2 f_gw_2
    refine start_ (n := 19) (S := fun w' => w'.heap[gw]? = some (.cells #[.int .u8 kind, .bool exec, .int .u8 priv, .bool v, .bool sum, .bool mxr, .bool vmxr] 32 (0, 0))) (ds := []) #[false, false, false, false, false, false, false, false, false, false, false, false, false, false, false, false, false, false, false] (by kernel_rfl) rfl rfl (blk_drew K_gw.out) (fun hHeld => ?_)
    replace K_gw := Lib.hid (blk_drew K_gw.out)
    replace K_gm := Lib.hid (blk_drew K_gm.out)
    have hB_20 := Lib.hid (below_drew1 hB_18.out)
    clear hB_18
    generalize World.drew w5 = w_19 at K_gw K_gm hB_20 hHeld ⊢
    refine pure_ (i := 0) (N := some 95) (v := ?_) (a' := ?_) #[true, false, false, false, false, false, false, false, false, false, false, false, false, false, false, false, false, false, false] rfl rfl (by kernel_rfl) (fun _ _ _ h => h) (Or.inl ⟨by rfl, ?_⟩) ?_ ?_
    rotate_left
    · intro w'
      go_simp
      with_reducible rfl
    rotate_left
    · simp only [Act.put, List.setIfInBounds_toArray, List.set_cons_zero, List.set_cons_succ, i64_w, i32_w]
      rfl
    refine pure_ (i := 3) (N := some 98) (v := ?_) (a' := ?_) #[true, false, false, true, false, false, false, false, false, false, false, false, false, false, false, false, false, false, false] rfl rfl (by kernel_rfl) (fun _ _ _ h => h) (Or.inl ⟨by rfl, ?_⟩) ?_ ?_
    rotate_left
    · intro w'
      go_simp
      with_reducible rfl
    rotate_left
    · simp only [Act.put, List.setIfInBounds_toArray, List.set_cons_zero, List.set_cons_succ, i64_w, i32_w]
      rfl
    refine pure_ (i := 4) (N := some 99) (v := ?_) (a' := ?_) #[true, false, false, true, true, false, false, false, false, false, false, false, false, false, false, false, false, false, false] rfl rfl (by kernel_rfl) (fun _ _ _ h => h) (Or.inl ⟨by rfl, ?_⟩) ?_ ?_
    rotate_left
    · intro w'
      go_simp
      with_reducible rfl
    rotate_left
    · simp only [Act.put, List.setIfInBounds_toArray, List.set_cons_zero, List.set_cons_succ, i64_w, i32_w]
      rfl
    refine take_ (i := 1) (N := some 96) (v := .agg #[.int .u8 kind, .bool exec, .int .u8 priv, .bool v, .bool sum, .bool mxr, .bool vmxr]) (a' := ?_) #[true, true, false, true, true, false, false, false, false, false, false, false, false, false, false, false, false, false, false] rfl rfl (by kernel_rfl) (fun _ _ _ h => h) (Or.inl ⟨by rfl, ?_⟩) hHeld ?_ ?_
    · intro w' s0; exact exec_load_blk rfl rfl s0 Try.underlying32 rfl (by kernel_rfl)
    rotate_left
    · simp only [Act.put, List.setIfInBounds_toArray, List.set_cons_zero, List.set_cons_succ, i64_w, i32_w]
      rfl
    refine take_ (i := 5) (N := some 100) (v := .agg #[.int .u8 kind, .bool exec, .int .u8 priv, .bool v, .bool sum, .bool mxr, .bool vmxr]) (a' := ?_) #[true, true, false, true, true, true, false, false, false, false, false, false, false, false, false, false, false, false, false] rfl rfl (by kernel_rfl) (fun _ _ _ h => h) (Or.inl ⟨by rfl, ?_⟩) hHeld ?_ ?_
    · intro w' s0; exact exec_load_blk rfl rfl s0 Try.underlying32 rfl (by kernel_rfl)
    rotate_left
    · simp only [Act.put, List.setIfInBounds_toArray, List.set_cons_zero, List.set_cons_succ, i64_w, i32_w]
      rfl
    have HH := Lib.hid hHeld
    clear hHeld
    refine one_ (i := 2) (N := some 97) #[true, true, true, true, true, true, false, false, false, false, false, false, false, false, false, false, false, false, false] rfl rfl (by kernel_rfl) (by decide) (fun K hK => ?_)
    refine goes_ Try.func21 (by kernel_rfl) rfl #[.int .u64 (U x), .agg #[.int .u8 kind, .bool exec, .int .u8 priv, .bool v, .bool sum, .bool mxr, .bool vmxr]] (by rfl) rfl rfl (by simp only [List.map_toArray, List.map_cons, List.map_nil]; rfl) ?_
    with_reducible refine (HA.out _).mono ?_
    rintro e_ w_21 ⟨rfl, hb⟩
    refine ⟨_, rfl, ?_⟩
    have s_0 := blk_below (HH.out) hb
    replace K_gw := Lib.hid (blk_below K_gw.out hb)
    replace K_gm := Lib.hid (blk_below K_gm.out hb)
    have hB_22 := Lib.hid (below_step hB_20.out hb)
    clear HH hb hB_20
    refine hK.out _ _ (s_0) (fun hHeld => ?_)
    have HH := Lib.hid hHeld
    clear hHeld s_0
    clear hK K
    refine norm_ (a' := ?_) ?_ ?_
    rotate_left
    · show Act.put _ (some 97) _ = _
      simp only [Act.put, List.setIfInBounds_toArray, List.set_cons_zero, List.set_cons_succ, i64_w, i32_w]
      rfl
    refine one_ (i := 6) (N := some 101) #[true, true, true, true, true, true, true, false, false, false, false, false, false, false, false, false, false, false, false] rfl rfl (by kernel_rfl) (by decide) (fun K hK => ?_)
    refine goes_ Try.func21 (by kernel_rfl) rfl #[.int .u64 (Go.bits .and .u64 (U x) 255), .agg #[.int .u8 kind, .bool exec, .int .u8 priv, .bool v, .bool sum, .bool mxr, .bool vmxr]] (by rfl) rfl rfl (by simp only [List.map_toArray, List.map_cons, List.map_nil]; rfl) ?_
    with_reducible refine (HA5.out _).mono ?_
    rintro e_ w_23 ⟨rfl, hb⟩
    refine ⟨_, rfl, ?_⟩
    have s_0 := blk_below (HH.out) hb
    replace K_gw := Lib.hid (blk_below K_gw.out hb)
    replace K_gm := Lib.hid (blk_below K_gm.out hb)
    have hB_24 := Lib.hid (below_step hB_22.out hb)
    clear HH hb hB_22
    refine hK.out _ _ (s_0) (fun hHeld => ?_)
    have HH := Lib.hid hHeld
    clear hHeld s_0
    clear hK K
    refine norm_ (a' := ?_) ?_ ?_
    rotate_left
    · show Act.put _ (some 101) _ = _
      simp only [Act.put, List.setIfInBounds_toArray, List.set_cons_zero, List.set_cons_succ, i64_w, i32_w]
      rfl
    refine pure_ (i := 7) (N := some 102) (v := ?_) (a' := ?_) #[true, true, true, true, true, true, true, true, false, false, false, false, false, false, false, false, false, false, false] rfl rfl (by kernel_rfl) (fun _ _ _ h => h) (Or.inl ⟨by rfl, ?_⟩) ?_ ?_
    rotate_left
    · intro w'
      go_simp
      with_reducible rfl
    rotate_left
    · simp only [Act.put, List.setIfInBounds_toArray, List.set_cons_zero, List.set_cons_succ, i64_w, i32_w]
      rfl
    refine pure_ (i := 8) (N := some 103) (v := ?_) (a' := ?_) #[true, true, true, true, true, true, true, true, true, false, false, false, false, false, false, false, false, false, false] rfl rfl (by kernel_rfl) (fun _ _ _ h => h) (Or.inl ⟨by rfl, ?_⟩) ?_ ?_
    rotate_left
    · intro w'
      go_simp
      with_reducible rfl
    rotate_left
    · simp only [Act.put, List.setIfInBounds_toArray, List.set_cons_zero, List.set_cons_succ, i64_w, i32_w]
      rfl
    refine pure_ (i := 9) (N := some 104) (v := ?_) (a' := ?_) #[true, true, true, true, true, true, true, true, true, true, false, false, false, false, false, false, false, false, false] rfl rfl (by kernel_rfl) (fun _ _ _ h => h) (Or.inl ⟨by rfl, ?_⟩) ?_ ?_
    rotate_left
    · intro w'
      go_simp
      with_reducible rfl
    rotate_left
    · simp only [Act.put, List.setIfInBounds_toArray, List.set_cons_zero, List.set_cons_succ, i64_w, i32_w]
      rfl
    refine pure_ (i := 12) (N := some 107) (v := ?_) (a' := ?_) #[true, true, true, true, true, true, true, true, true, true, false, false, true, false, false, false, false, false, false] rfl rfl (by kernel_rfl) (fun _ _ _ h => h) (Or.inl ⟨by rfl, ?_⟩) ?_ ?_
    rotate_left
    · intro w'
      go_simp
      with_reducible rfl
    rotate_left
    · simp only [Act.put, List.setIfInBounds_toArray, List.set_cons_zero, List.set_cons_succ, i64_w, i32_w]
      rfl
    refine pure_ (i := 13) (N := some 108) (v := ?_) (a' := ?_) #[true, true, true, true, true, true, true, true, true, true, false, false, true, true, false, false, false, false, false] rfl rfl (by kernel_rfl) (fun _ _ _ h => h) (Or.inl ⟨by rfl, ?_⟩) ?_ ?_
    rotate_left
    · intro w'
      go_simp
      with_reducible rfl
    rotate_left
    · simp only [Act.put, List.setIfInBounds_toArray, List.set_cons_zero, List.set_cons_succ, i64_w, i32_w]
      rfl
    refine take_ (i := 10) (N := some 105) (v := .agg #[.int .u8 kind, .bool exec, .int .u8 priv, .bool v, .bool sum, .bool mxr, .bool vmxr]) (a' := ?_) #[true, true, true, true, true, true, true, true, true, true, true, false, true, true, false, false, false, false, false] rfl rfl (by kernel_rfl) (fun _ _ _ h => h) (Or.inl ⟨by rfl, ?_⟩) HH.out ?_ ?_
    · intro w' s0; exact exec_load_blk rfl rfl s0 Try.underlying32 rfl (by kernel_rfl)
    rotate_left
    · simp only [Act.put, List.setIfInBounds_toArray, List.set_cons_zero, List.set_cons_succ, i64_w, i32_w]
      rfl
    refine take_ (i := 14) (N := some 109) (v := .agg #[.int .u8 kind, .bool exec, .int .u8 priv, .bool v, .bool sum, .bool mxr, .bool vmxr]) (a' := ?_) #[true, true, true, true, true, true, true, true, true, true, true, false, true, true, true, false, false, false, false] rfl rfl (by kernel_rfl) (fun _ _ _ h => h) (Or.inl ⟨by rfl, ?_⟩) HH.out ?_ ?_
    · intro w' s0; exact exec_load_blk rfl rfl s0 Try.underlying32 rfl (by kernel_rfl)
    rotate_left
    · simp only [Act.put, List.setIfInBounds_toArray, List.set_cons_zero, List.set_cons_succ, i64_w, i32_w]
      rfl
    refine one_ (i := 11) (N := some 106) #[true, true, true, true, true, true, true, true, true, true, true, true, true, true, true, false, false, false, false] rfl rfl (by kernel_rfl) (by decide) (fun K hK => ?_)
    refine goes_ Try.func23 (by kernel_rfl) rfl #[.int .u64 (U x), .agg #[.int .u8 kind, .bool exec, .int .u8 priv, .bool v, .bool sum, .bool mxr, .bool vmxr]] (by rfl) rfl rfl (by simp only [List.map_toArray, List.map_cons, List.map_nil]; rfl) ?_
    with_reducible refine (HF.out _).mono ?_
    rintro e_ w_25 ⟨rfl, hb⟩
    refine ⟨_, rfl, ?_⟩
    have s_0 := blk_below (HH.out) hb
    replace K_gw := Lib.hid (blk_below K_gw.out hb)
    replace K_gm := Lib.hid (blk_below K_gm.out hb)
    have hB_26 := Lib.hid (below_step hB_24.out hb)
    clear HH hb hB_24
    refine hK.out _ _ (s_0) (fun hHeld => ?_)
    have HH := Lib.hid hHeld
    clear hHeld s_0
    clear hK K
    refine norm_ (a' := ?_) ?_ ?_
    rotate_left
    · show Act.put _ (some 106) _ = _
      simp only [Act.put, List.setIfInBounds_toArray, List.set_cons_zero, List.set_cons_succ, i64_w, i32_w]
      rfl
    refine one_ (i := 15) (N := some 110) #[true, true, true, true, true, true, true, true, true, true, true, true, true, true, true, true, false, false, false] rfl rfl (by kernel_rfl) (by decide) (fun K hK => ?_)
    refine goes_ Try.func23 (by kernel_rfl) rfl #[.int .u64 (Go.bits .and .u64 (U x) 255), .agg #[.int .u8 kind, .bool exec, .int .u8 priv, .bool v, .bool sum, .bool mxr, .bool vmxr]] (by rfl) rfl rfl (by simp only [List.map_toArray, List.map_cons, List.map_nil]; rfl) ?_
    with_reducible refine (HF5.out _).mono ?_
    rintro e_ w_27 ⟨rfl, hb⟩
    refine ⟨_, rfl, ?_⟩
    have s_0 := blk_below (HH.out) hb
    replace K_gw := Lib.hid (blk_below K_gw.out hb)
    replace K_gm := Lib.hid (blk_below K_gm.out hb)
    have hB_28 := Lib.hid (below_step hB_26.out hb)
    clear HH hb hB_26
    refine hK.out _ _ (s_0) (fun hHeld => ?_)
    have HH := Lib.hid hHeld
    clear hHeld s_0
    clear hK K
    refine norm_ (a' := ?_) ?_ ?_
    rotate_left
    · show Act.put _ (some 110) _ = _
      simp only [Act.put, List.setIfInBounds_toArray, List.set_cons_zero, List.set_cons_succ, i64_w, i32_w]
      rfl
    refine pure_ (i := 16) (N := some 111) (v := ?_) (a' := ?_) #[true, true, true, true, true, true, true, true, true, true, true, true, true, true, true, true, true, false, false] rfl rfl (by kernel_rfl) (fun _ _ _ h => h) (Or.inl ⟨by rfl, ?_⟩) ?_ ?_
    rotate_left
    · intro w'
      go_simp
      with_reducible rfl
    rotate_left
    · simp only [Act.put, List.setIfInBounds_toArray, List.set_cons_zero, List.set_cons_succ, i64_w, i32_w]
      rfl
    refine pure_ (i := 17) (N := some 112) (v := ?_) (a' := ?_) #[true, true, true, true, true, true, true, true, true, true, true, true, true, true, true, true, true, true, false] rfl rfl (by kernel_rfl) (fun _ _ _ h => h) (Or.inl ⟨by rfl, ?_⟩) ?_ ?_
    rotate_left
    · intro w'
      go_simp
      with_reducible rfl
    rotate_left
    · simp only [Act.put, List.setIfInBounds_toArray, List.set_cons_zero, List.set_cons_succ, i64_w, i32_w]
      rfl
    refine pure_ (i := 18) (N := some 4) (v := ?_) (a' := ?_) #[true, true, true, true, true, true, true, true, true, true, true, true, true, true, true, true, true, true, true] rfl rfl (by kernel_rfl) (fun _ _ _ h => h) (Or.inl ⟨by rfl, ?_⟩) ?_ ?_
    rotate_left
    · intro w'
      go_simp
      with_reducible rfl
    rotate_left
    · simp only [Act.put, List.setIfInBounds_toArray, List.set_cons_zero, List.set_cons_succ, i64_w, i32_w]
      rfl
    refine done_ (by kernel_rfl) ?_
    try clear HH
    go_wp2
    go_ret
    exact ⟨rfl, hB_28.out⟩
  · skip
    cases o2 : lf x
    · skip
      have hA := HA.out; rw [ok] at hA
      have HA := Lib.hid hA; clear hA
      have hA5 := HA5.out; rw [ok] at hA5
      have HA5 := Lib.hid hA5; clear hA5
      have hA2 := HA2.out; rw [F1.out ok] at hA2
      have HA2 := Lib.hid hA2; clear hA2
      have z4 : decide (kind > 2) = false := decide_eq_false (F4.out ok)
      have ep := eq_of_beq p0
      have q0 : (Go.bits .and .u64 (U x) 16 == 0) = false := by rw [U16.out, F2.out ep (ep ▸ ok)]; rfl
      have q1 : (priv != 0) = false := by rw [ep]; rfl
      clear ep
      have hO := HO.out; rw [o1] at hO
      have HO := Lib.hid hO; clear hO
      have hL := HL.out; rw [o2] at hL
      have HL := Lib.hid hL; clear hL
      have hF := HF.out; have hF5 := HF5.out
      generalize fu x kind = ff at hF hF5
      have d9 : (ff == ff) = true := beq_self_eq_true _
      have HF := Lib.hid hF; have HF5 := Lib.hid hF5; clear hF hF5
      clear ok o1 o2
      have hu32 := Try.underlying32
      go_enter Try.func6, Try.ntmps6
      go_upto_region 1 with (first | ((with_reducible refine gate_dst (N := 3) rfl ?_); refine box_event ?hg (N := 3) ?hd (cs := #[.int .u8 kind, .bool exec, .int .u8 priv, .bool v, .bool sum, .bool mxr, .bool vmxr]) (t := 32) ?hr ?_; (case hd => rfl); (case hg => rfl); (case hr => first | (go_simp; done) | (go_simp; rfl)); intro gw hg w_1 H1 hb; have hB_2 := Lib.hid (below_step (Below.refl w.heap.size w) hb); have G_gw := Lib.hid (show w.heap.size ≤ gw by rw [hg]; exact ((Below.refl w.heap.size w)).size); have K_gw := Lib.hid (show w_1.heap[gw]? = some (.cells #[.int .u8 kind, .bool exec, .int .u8 priv, .bool v, .bool sum, .bool mxr, .bool vmxr] 32 (0, 0)) from H1); clear hg hb H1))
      go_wp2_with fail
      refine (mezzaninelaw15_awake.calls 6 true _ (pte_awake 1)).mono ?_
      rintro e_3 w_4 ⟨rfl, hb⟩
      have hB_5 := Lib.hid (below_step hB_2.out hb)
      replace K_gw := Lib.hid (blk_below K_gw.out hb)
      clear hb hB_2
      go_upto_region 3 with fail
      go_upto_region 4 with (first | ((with_reducible refine gate_dst (N := 10) rfl ?_); (first | (refine gate_guard (by kernel_rfl) ?_) | skip); refine Kd.event_run rfl (v := .agg #[.int .u8 kind, .bool exec, .int .u8 priv, .bool v, .bool sum, .bool mxr, .bool vmxr]) (w1 := w_4) ?hb ?_; (case hb => exact exec_load_blk rfl rfl K_gw.out Try.underlying32 rfl (by kernel_rfl))) | ((with_reducible refine gate_dst (N := 5) rfl ?_); refine box_event ?hg (N := 5) ?hd (cs := #[.int .u8 0, .bool false, .int .u8 0, .bool false, .bool false, .bool false, .bool false]) (t := 32) ?hr ?_; (case hd => rfl); (case hg => rfl); (case hr => first | (go_simp; done) | (go_simp; rfl)); intro gm hg w_6 H1 hb; have hB_8 := Lib.hid (below_step hB_5.out hb); have G_gm := Lib.hid (show w.heap.size ≤ gm by rw [hg]; exact (hB_5.out).size); have N_gw_gm := Lib.hid (show gw ≠ gm by rw [hg]; exact Nat.ne_of_lt (blk_lt K_gw.out)); replace K_gw := Lib.hid (blk_below K_gw.out hb); have K_gm := Lib.hid (show w_6.heap[gm]? = some (.cells #[.int .u8 0, .bool false, .int .u8 0, .bool false, .bool false, .bool false, .bool false] 32 (0, 0)) from H1); clear hg hb H1 hB_5) | (refine wpList_store_mid rfl 32 (.tmp 5) (.tmp 10) rfl gm 0 #[.int .u8 kind, .bool exec, .int .u8 priv, .bool v, .bool sum, .bool mxr, .bool vmxr] rfl rfl (blk_there K_gm.out) (by kernel_rfl) (by simp [Value.oneCell']) ?_; have hB_9 := Lib.hid (setCells_below G_gm.out (#[.int .u8 kind, .bool exec, .int .u8 priv, .bool v, .bool sum, .bool mxr, .bool vmxr] : Array Value).toList 0 _ hB_8.out); replace K_gw := Lib.hid (setCells_far' (vs := (#[.int .u8 kind, .bool exec, .int .u8 priv, .bool v, .bool sum, .bool mxr, .bool vmxr] : Array Value).toList) (o := 0) N_gw_gm.out K_gw.out); replace K_gm := Lib.hid (blk_putAll (cs := #[.int .u8 kind, .bool exec, .int .u8 priv, .bool v, .bool sum, .bool mxr, .bool vmxr]) K_gm.out rfl); clear hB_8; generalize World.setCells w_6 gm 0 (#[.int .u8 kind, .bool exec, .int .u8 priv, .bool v, .bool sum, .bool mxr, .bool vmxr] : Array Value).toList = w_7 at K_gw K_gm hB_9 ⊢))
      have c_gm_4 := (show World.cell? _ ⟨gm, 4, none⟩ = some (.bool sum) from (blk_cell K_gm.out 4).trans rfl); have f_gm_4 := blk_frozen K_gm.out 4
      have c_gm_5 := (show World.cell? _ ⟨gm, 5, none⟩ = some (.bool mxr) from (blk_cell K_gm.out 5).trans rfl); have f_gm_5 := blk_frozen K_gm.out 5
      have c_gm_6 := (show World.cell? _ ⟨gm, 6, none⟩ = some (.bool vmxr) from (blk_cell K_gm.out 6).trans rfl); have f_gm_6 := blk_frozen K_gm.out 6
      go_upto_region 7 with fail
      clear c_gm_4 f_gm_4 c_gm_5 f_gm_5 c_gm_6 f_gm_6
      have q_g := Lib.hid (blk_put (blk_put (blk_put K_gm.out 4 (.bool true) rfl) 5 (.bool true) rfl) 6 (.bool true) rfl)
      replace K_gw := Lib.hid (blk_far (blk_far (blk_far K_gw.out (p := ⟨gm, 4, none⟩) N_gw_gm.out (.bool true)) (p := ⟨gm, 5, none⟩) N_gw_gm.out (.bool true)) (p := ⟨gm, 6, none⟩) N_gw_gm.out (.bool true))
      have hB_11 := Lib.hid (below_set (j := 6) (v := .bool true) (below_set (j := 5) (v := .bool true) (below_set (j := 4) (v := .bool true) hB_9.out G_gm.out) G_gm.out) G_gm.out)
      clear K_gm hB_9
      generalize (World.setCell (World.setCell (World.setCell w_7 ⟨gm, 4, none⟩ (.bool true)) ⟨gm, 5, none⟩ (.bool true)) ⟨gm, 6, none⟩ (.bool true)) = w_10 at K_gw q_g hB_11 ⊢
      have K_gm := Lib.hid (show w_10.heap[gm]? = some (.cells #[.int .u8 kind, .bool exec, .int .u8 priv, .bool v, .bool true, .bool true, .bool true] 32 (0, 0)) from q_g.out); clear q_g
      go_wp2_with (first | ((with_reducible refine gate_dst (N := 15) rfl ?_); (first | (refine gate_guard (by kernel_rfl) ?_) | skip); refine Kd.event_run rfl (v := .agg #[.int .u8 kind, .bool exec, .int .u8 priv, .bool v, .bool sum, .bool mxr, .bool vmxr]) (w1 := w_10) ?hb ?_; (case hb => exact exec_load_blk rfl rfl K_gw.out Try.underlying32 rfl (by kernel_rfl))))
      refine (HA.out _).mono ?_
      rintro e_12 w_13 ⟨rfl, hb⟩
      have hB_14 := Lib.hid (below_step hB_11.out hb)
      replace K_gw := Lib.hid (blk_below K_gw.out hb)
      replace K_gm := Lib.hid (blk_below K_gm.out hb)
      clear hb hB_11
      have c_gw_0 := (show World.cell? _ ⟨gw, 0, none⟩ = some (.int .u8 kind) from (blk_cell K_gw.out 0).trans rfl); have f_gw_0 := blk_frozen K_gw.out 0
      have c_gw_2 := (show World.cell? _ ⟨gw, 2, none⟩ = some (.int .u8 priv) from (blk_cell K_gw.out 2).trans rfl); have f_gw_2 := blk_frozen K_gw.out 2
      go_wp2_with (first | ((with_reducible refine gate_dst (N := 20) rfl ?_); (first | (refine gate_guard (by kernel_rfl) ?_) | skip); refine Kd.event_run rfl (v := .agg #[.int .u8 kind, .bool exec, .int .u8 priv, .bool v, .bool true, .bool true, .bool true]) (w1 := w_13) ?hb ?_; (case hb => exact exec_load_blk rfl rfl K_gm.out Try.underlying32 rfl (by kernel_rfl))))
      refine (HA2.out _).mono ?_
      rintro e_15 w_16 ⟨rfl, hb⟩
      clear c_gw_0 f_gw_0 c_gw_2 f_gw_2
      have hB_17 := Lib.hid (below_step hB_14.out hb)
      replace K_gw := Lib.hid (blk_below K_gw.out hb)
      replace K_gm := Lib.hid (blk_below K_gm.out hb)
      clear hb hB_14
      have c_gw_0 := (show World.cell? _ ⟨gw, 0, none⟩ = some (.int .u8 kind) from (blk_cell K_gw.out 0).trans rfl); have f_gw_0 := blk_frozen K_gw.out 0
      have c_gw_2 := (show World.cell? _ ⟨gw, 2, none⟩ = some (.int .u8 priv) from (blk_cell K_gw.out 2).trans rfl); have f_gw_2 := blk_frozen K_gw.out 2
      go_upto_region 10 with fail
      go_wp2_with fail
      refine (HO.out _).mono ?_
      rintro e5 w5 ⟨rfl, n_, e5⟩
      clear c_gw_0 f_gw_0 c_gw_2 f_gw_2
      replace K_gw := Lib.hid (show w5.heap[gw]? = some (.cells #[.int .u8 kind, .bool exec, .int .u8 priv, .bool v, .bool sum, .bool mxr, .bool vmxr] 32 (0, 0)) from by rw [e5]; exact blk_drewN K_gw.out n_)
      replace K_gm := Lib.hid (show w5.heap[gm]? = some (.cells #[.int .u8 kind, .bool exec, .int .u8 priv, .bool v, .bool true, .bool true, .bool true] 32 (0, 0)) from by rw [e5]; exact blk_drewN K_gm.out n_)
      have hB_18 := Lib.hid (Below_of e5.symm (pw_below_drewN hB_17.out n_))
      clear e5 hB_17
      have c_gw_0 := (show World.cell? _ ⟨gw, 0, none⟩ = some (.int .u8 kind) from (blk_cell K_gw.out 0).trans rfl); have f_gw_0 := blk_frozen K_gw.out 0
      have c_gw_2 := (show World.cell? _ ⟨gw, 2, none⟩ = some (.int .u8 priv) from (blk_cell K_gw.out 2).trans rfl); have f_gw_2 := blk_frozen K_gw.out 2
      go_wp2_with fail
      refine (HL.out _).mono ?_
      rintro e6 w6 ⟨rfl, n_, e6⟩
      clear c_gw_0 f_gw_0 c_gw_2 f_gw_2
      replace K_gw := Lib.hid (show w6.heap[gw]? = some (.cells #[.int .u8 kind, .bool exec, .int .u8 priv, .bool v, .bool sum, .bool mxr, .bool vmxr] 32 (0, 0)) from by rw [e6]; exact blk_drewN K_gw.out n_)
      replace K_gm := Lib.hid (show w6.heap[gm]? = some (.cells #[.int .u8 kind, .bool exec, .int .u8 priv, .bool v, .bool true, .bool true, .bool true] 32 (0, 0)) from by rw [e6]; exact blk_drewN K_gm.out n_)
      have hB_19 := Lib.hid (Below_of e6.symm (pw_below_drewN hB_18.out n_))
      clear e6 hB_18
      have c_gw_0 := (show World.cell? _ ⟨gw, 0, none⟩ = some (.int .u8 kind) from (blk_cell K_gw.out 0).trans rfl); have f_gw_0 := blk_frozen K_gw.out 0
      have c_gw_2 := (show World.cell? _ ⟨gw, 2, none⟩ = some (.int .u8 priv) from (blk_cell K_gw.out 2).trans rfl); have f_gw_2 := blk_frozen K_gw.out 2
      go_upto_region 16 with fail
      clear c_gw_0 f_gw_0 c_gw_2 f_gw_2
      refine start_ (n := 19) (S := fun w' => w'.heap[gw]? = some (.cells #[.int .u8 kind, .bool exec, .int .u8 priv, .bool v, .bool sum, .bool mxr, .bool vmxr] 32 (0, 0))) (ds := []) #[false, false, false, false, false, false, false, false, false, false, false, false, false, false, false, false, false, false, false] (by kernel_rfl) rfl rfl (blk_drew K_gw.out) (fun hHeld => ?_)
      replace K_gw := Lib.hid (blk_drew K_gw.out)
      replace K_gm := Lib.hid (blk_drew K_gm.out)
      have hB_21 := Lib.hid (below_drew1 hB_19.out)
      clear hB_19
      generalize World.drew w6 = w_20 at K_gw K_gm hB_21 hHeld ⊢
      refine pure_ (i := 0) (N := some 95) (v := ?_) (a' := ?_) #[true, false, false, false, false, false, false, false, false, false, false, false, false, false, false, false, false, false, false] rfl rfl (by kernel_rfl) (fun _ _ _ h => h) (Or.inl ⟨by rfl, ?_⟩) ?_ ?_
      rotate_left
      · intro w'
        go_simp
        with_reducible rfl
      rotate_left
      · simp only [Act.put, List.setIfInBounds_toArray, List.set_cons_zero, List.set_cons_succ, i64_w, i32_w]
        rfl
      refine pure_ (i := 3) (N := some 98) (v := ?_) (a' := ?_) #[true, false, false, true, false, false, false, false, false, false, false, false, false, false, false, false, false, false, false] rfl rfl (by kernel_rfl) (fun _ _ _ h => h) (Or.inl ⟨by rfl, ?_⟩) ?_ ?_
      rotate_left
      · intro w'
        go_simp
        with_reducible rfl
      rotate_left
      · simp only [Act.put, List.setIfInBounds_toArray, List.set_cons_zero, List.set_cons_succ, i64_w, i32_w]
        rfl
      refine pure_ (i := 4) (N := some 99) (v := ?_) (a' := ?_) #[true, false, false, true, true, false, false, false, false, false, false, false, false, false, false, false, false, false, false] rfl rfl (by kernel_rfl) (fun _ _ _ h => h) (Or.inl ⟨by rfl, ?_⟩) ?_ ?_
      rotate_left
      · intro w'
        go_simp
        with_reducible rfl
      rotate_left
      · simp only [Act.put, List.setIfInBounds_toArray, List.set_cons_zero, List.set_cons_succ, i64_w, i32_w]
        rfl
      refine take_ (i := 1) (N := some 96) (v := .agg #[.int .u8 kind, .bool exec, .int .u8 priv, .bool v, .bool sum, .bool mxr, .bool vmxr]) (a' := ?_) #[true, true, false, true, true, false, false, false, false, false, false, false, false, false, false, false, false, false, false] rfl rfl (by kernel_rfl) (fun _ _ _ h => h) (Or.inl ⟨by rfl, ?_⟩) hHeld ?_ ?_
      · intro w' s0; exact exec_load_blk rfl rfl s0 Try.underlying32 rfl (by kernel_rfl)
      rotate_left
      · simp only [Act.put, List.setIfInBounds_toArray, List.set_cons_zero, List.set_cons_succ, i64_w, i32_w]
        rfl
      refine take_ (i := 5) (N := some 100) (v := .agg #[.int .u8 kind, .bool exec, .int .u8 priv, .bool v, .bool sum, .bool mxr, .bool vmxr]) (a' := ?_) #[true, true, false, true, true, true, false, false, false, false, false, false, false, false, false, false, false, false, false] rfl rfl (by kernel_rfl) (fun _ _ _ h => h) (Or.inl ⟨by rfl, ?_⟩) hHeld ?_ ?_
      · intro w' s0; exact exec_load_blk rfl rfl s0 Try.underlying32 rfl (by kernel_rfl)
      rotate_left
      · simp only [Act.put, List.setIfInBounds_toArray, List.set_cons_zero, List.set_cons_succ, i64_w, i32_w]
        rfl
      have HH := Lib.hid hHeld
      clear hHeld
      refine one_ (i := 2) (N := some 97) #[true, true, true, true, true, true, false, false, false, false, false, false, false, false, false, false, false, false, false] rfl rfl (by kernel_rfl) (by decide) (fun K hK => ?_)
      refine goes_ Try.func21 (by kernel_rfl) rfl #[.int .u64 (U x), .agg #[.int .u8 kind, .bool exec, .int .u8 priv, .bool v, .bool sum, .bool mxr, .bool vmxr]] (by rfl) rfl rfl (by simp only [List.map_toArray, List.map_cons, List.map_nil]; rfl) ?_
      with_reducible refine (HA.out _).mono ?_
      rintro e_ w_22 ⟨rfl, hb⟩
      refine ⟨_, rfl, ?_⟩
      have s_0 := blk_below (HH.out) hb
      replace K_gw := Lib.hid (blk_below K_gw.out hb)
      replace K_gm := Lib.hid (blk_below K_gm.out hb)
      have hB_23 := Lib.hid (below_step hB_21.out hb)
      clear HH hb hB_21
      refine hK.out _ _ (s_0) (fun hHeld => ?_)
      have HH := Lib.hid hHeld
      clear hHeld s_0
      clear hK K
      refine norm_ (a' := ?_) ?_ ?_
      rotate_left
      · show Act.put _ (some 97) _ = _
        simp only [Act.put, List.setIfInBounds_toArray, List.set_cons_zero, List.set_cons_succ, i64_w, i32_w]
        rfl
      refine one_ (i := 6) (N := some 101) #[true, true, true, true, true, true, true, false, false, false, false, false, false, false, false, false, false, false, false] rfl rfl (by kernel_rfl) (by decide) (fun K hK => ?_)
      refine goes_ Try.func21 (by kernel_rfl) rfl #[.int .u64 (Go.bits .and .u64 (U x) 255), .agg #[.int .u8 kind, .bool exec, .int .u8 priv, .bool v, .bool sum, .bool mxr, .bool vmxr]] (by rfl) rfl rfl (by simp only [List.map_toArray, List.map_cons, List.map_nil]; rfl) ?_
      with_reducible refine (HA5.out _).mono ?_
      rintro e_ w_24 ⟨rfl, hb⟩
      refine ⟨_, rfl, ?_⟩
      have s_0 := blk_below (HH.out) hb
      replace K_gw := Lib.hid (blk_below K_gw.out hb)
      replace K_gm := Lib.hid (blk_below K_gm.out hb)
      have hB_25 := Lib.hid (below_step hB_23.out hb)
      clear HH hb hB_23
      refine hK.out _ _ (s_0) (fun hHeld => ?_)
      have HH := Lib.hid hHeld
      clear hHeld s_0
      clear hK K
      refine norm_ (a' := ?_) ?_ ?_
      rotate_left
      · show Act.put _ (some 101) _ = _
        simp only [Act.put, List.setIfInBounds_toArray, List.set_cons_zero, List.set_cons_succ, i64_w, i32_w]
        rfl
      refine pure_ (i := 7) (N := some 102) (v := ?_) (a' := ?_) #[true, true, true, true, true, true, true, true, false, false, false, false, false, false, false, false, false, false, false] rfl rfl (by kernel_rfl) (fun _ _ _ h => h) (Or.inl ⟨by rfl, ?_⟩) ?_ ?_
      rotate_left
      · intro w'
        go_simp
        with_reducible rfl
      rotate_left
      · simp only [Act.put, List.setIfInBounds_toArray, List.set_cons_zero, List.set_cons_succ, i64_w, i32_w]
        rfl
      refine pure_ (i := 8) (N := some 103) (v := ?_) (a' := ?_) #[true, true, true, true, true, true, true, true, true, false, false, false, false, false, false, false, false, false, false] rfl rfl (by kernel_rfl) (fun _ _ _ h => h) (Or.inl ⟨by rfl, ?_⟩) ?_ ?_
      rotate_left
      · intro w'
        go_simp
        with_reducible rfl
      rotate_left
      · simp only [Act.put, List.setIfInBounds_toArray, List.set_cons_zero, List.set_cons_succ, i64_w, i32_w]
        rfl
      refine pure_ (i := 9) (N := some 104) (v := ?_) (a' := ?_) #[true, true, true, true, true, true, true, true, true, true, false, false, false, false, false, false, false, false, false] rfl rfl (by kernel_rfl) (fun _ _ _ h => h) (Or.inl ⟨by rfl, ?_⟩) ?_ ?_
      rotate_left
      · intro w'
        go_simp
        with_reducible rfl
      rotate_left
      · simp only [Act.put, List.setIfInBounds_toArray, List.set_cons_zero, List.set_cons_succ, i64_w, i32_w]
        rfl
      refine pure_ (i := 12) (N := some 107) (v := ?_) (a' := ?_) #[true, true, true, true, true, true, true, true, true, true, false, false, true, false, false, false, false, false, false] rfl rfl (by kernel_rfl) (fun _ _ _ h => h) (Or.inl ⟨by rfl, ?_⟩) ?_ ?_
      rotate_left
      · intro w'
        go_simp
        with_reducible rfl
      rotate_left
      · simp only [Act.put, List.setIfInBounds_toArray, List.set_cons_zero, List.set_cons_succ, i64_w, i32_w]
        rfl
      refine pure_ (i := 13) (N := some 108) (v := ?_) (a' := ?_) #[true, true, true, true, true, true, true, true, true, true, false, false, true, true, false, false, false, false, false] rfl rfl (by kernel_rfl) (fun _ _ _ h => h) (Or.inl ⟨by rfl, ?_⟩) ?_ ?_
      rotate_left
      · intro w'
        go_simp
        with_reducible rfl
      rotate_left
      · simp only [Act.put, List.setIfInBounds_toArray, List.set_cons_zero, List.set_cons_succ, i64_w, i32_w]
        rfl
      refine take_ (i := 10) (N := some 105) (v := .agg #[.int .u8 kind, .bool exec, .int .u8 priv, .bool v, .bool sum, .bool mxr, .bool vmxr]) (a' := ?_) #[true, true, true, true, true, true, true, true, true, true, true, false, true, true, false, false, false, false, false] rfl rfl (by kernel_rfl) (fun _ _ _ h => h) (Or.inl ⟨by rfl, ?_⟩) HH.out ?_ ?_
      · intro w' s0; exact exec_load_blk rfl rfl s0 Try.underlying32 rfl (by kernel_rfl)
      rotate_left
      · simp only [Act.put, List.setIfInBounds_toArray, List.set_cons_zero, List.set_cons_succ, i64_w, i32_w]
        rfl
      refine take_ (i := 14) (N := some 109) (v := .agg #[.int .u8 kind, .bool exec, .int .u8 priv, .bool v, .bool sum, .bool mxr, .bool vmxr]) (a' := ?_) #[true, true, true, true, true, true, true, true, true, true, true, false, true, true, true, false, false, false, false] rfl rfl (by kernel_rfl) (fun _ _ _ h => h) (Or.inl ⟨by rfl, ?_⟩) HH.out ?_ ?_
      · intro w' s0; exact exec_load_blk rfl rfl s0 Try.underlying32 rfl (by kernel_rfl)
      rotate_left
      · simp only [Act.put, List.setIfInBounds_toArray, List.set_cons_zero, List.set_cons_succ, i64_w, i32_w]
        rfl
      refine one_ (i := 11) (N := some 106) #[true, true, true, true, true, true, true, true, true, true, true, true, true, true, true, false, false, false, false] rfl rfl (by kernel_rfl) (by decide) (fun K hK => ?_)
      refine goes_ Try.func23 (by kernel_rfl) rfl #[.int .u64 (U x), .agg #[.int .u8 kind, .bool exec, .int .u8 priv, .bool v, .bool sum, .bool mxr, .bool vmxr]] (by rfl) rfl rfl (by simp only [List.map_toArray, List.map_cons, List.map_nil]; rfl) ?_
      with_reducible refine (HF.out _).mono ?_
      rintro e_ w_26 ⟨rfl, hb⟩
      refine ⟨_, rfl, ?_⟩
      have s_0 := blk_below (HH.out) hb
      replace K_gw := Lib.hid (blk_below K_gw.out hb)
      replace K_gm := Lib.hid (blk_below K_gm.out hb)
      have hB_27 := Lib.hid (below_step hB_25.out hb)
      clear HH hb hB_25
      refine hK.out _ _ (s_0) (fun hHeld => ?_)
      have HH := Lib.hid hHeld
      clear hHeld s_0
      clear hK K
      refine norm_ (a' := ?_) ?_ ?_
      rotate_left
      · show Act.put _ (some 106) _ = _
        simp only [Act.put, List.setIfInBounds_toArray, List.set_cons_zero, List.set_cons_succ, i64_w, i32_w]
        rfl
      refine one_ (i := 15) (N := some 110) #[true, true, true, true, true, true, true, true, true, true, true, true, true, true, true, true, false, false, false] rfl rfl (by kernel_rfl) (by decide) (fun K hK => ?_)
      refine goes_ Try.func23 (by kernel_rfl) rfl #[.int .u64 (Go.bits .and .u64 (U x) 255), .agg #[.int .u8 kind, .bool exec, .int .u8 priv, .bool v, .bool sum, .bool mxr, .bool vmxr]] (by rfl) rfl rfl (by simp only [List.map_toArray, List.map_cons, List.map_nil]; rfl) ?_
      with_reducible refine (HF5.out _).mono ?_
      rintro e_ w_28 ⟨rfl, hb⟩
      refine ⟨_, rfl, ?_⟩
      have s_0 := blk_below (HH.out) hb
      replace K_gw := Lib.hid (blk_below K_gw.out hb)
      replace K_gm := Lib.hid (blk_below K_gm.out hb)
      have hB_29 := Lib.hid (below_step hB_27.out hb)
      clear HH hb hB_27
      refine hK.out _ _ (s_0) (fun hHeld => ?_)
      have HH := Lib.hid hHeld
      clear hHeld s_0
      clear hK K
      refine norm_ (a' := ?_) ?_ ?_
      rotate_left
      · show Act.put _ (some 110) _ = _
        simp only [Act.put, List.setIfInBounds_toArray, List.set_cons_zero, List.set_cons_succ, i64_w, i32_w]
        rfl
      refine pure_ (i := 16) (N := some 111) (v := ?_) (a' := ?_) #[true, true, true, true, true, true, true, true, true, true, true, true, true, true, true, true, true, false, false] rfl rfl (by kernel_rfl) (fun _ _ _ h => h) (Or.inl ⟨by rfl, ?_⟩) ?_ ?_
      rotate_left
      · intro w'
        go_simp
        with_reducible rfl
      rotate_left
      · simp only [Act.put, List.setIfInBounds_toArray, List.set_cons_zero, List.set_cons_succ, i64_w, i32_w]
        rfl
      refine pure_ (i := 17) (N := some 112) (v := ?_) (a' := ?_) #[true, true, true, true, true, true, true, true, true, true, true, true, true, true, true, true, true, true, false] rfl rfl (by kernel_rfl) (fun _ _ _ h => h) (Or.inl ⟨by rfl, ?_⟩) ?_ ?_
      rotate_left
      · intro w'
        go_simp
        with_reducible rfl
      rotate_left
      · simp only [Act.put, List.setIfInBounds_toArray, List.set_cons_zero, List.set_cons_succ, i64_w, i32_w]
        rfl
      refine pure_ (i := 18) (N := some 4) (v := ?_) (a' := ?_) #[true, true, true, true, true, true, true, true, true, true, true, true, true, true, true, true, true, true, true] rfl rfl (by kernel_rfl) (fun _ _ _ h => h) (Or.inl ⟨by rfl, ?_⟩) ?_ ?_
      rotate_left
      · intro w'
        go_simp
        with_reducible rfl
      rotate_left
      · simp only [Act.put, List.setIfInBounds_toArray, List.set_cons_zero, List.set_cons_succ, i64_w, i32_w]
        rfl
      refine done_ (by kernel_rfl) ?_
      try clear HH
      go_wp2
      go_ret
      exact ⟨rfl, hB_29.out⟩
    · skip
      cases k1 : (kind == 1)
      · skip
        have hA := HA.out; rw [ok] at hA
        have HA := Lib.hid hA; clear hA
        have hA5 := HA5.out; rw [ok] at hA5
        have HA5 := Lib.hid hA5; clear hA5
        have hA2 := HA2.out; rw [F1.out ok] at hA2
        have HA2 := Lib.hid hA2; clear hA2
        have z4 : decide (kind > 2) = false := decide_eq_false (F4.out ok)
        have ep := eq_of_beq p0
        have q0 : (Go.bits .and .u64 (U x) 16 == 0) = false := by rw [U16.out, F2.out ep (ep ▸ ok)]; rfl
        have q1 : (priv != 0) = false := by rw [ep]; rfl
        clear ep
        have hO := HO.out; rw [o1] at hO
        have HO := Lib.hid hO; clear hO
        have hL := HL.out; rw [o2] at hL
        have HL := Lib.hid hL; clear hL
        have hF := HF.out; have hF5 := HF5.out
        generalize fu x kind = ff at hF hF5
        have d9 : (ff == ff) = true := beq_self_eq_true _
        have HF := Lib.hid hF; have HF5 := Lib.hid hF5; clear hF hF5
        clear ok o1 o2
        have hu32 := Try.underlying32
        go_enter Try.func6, Try.ntmps6
        go_upto_region 1 with (first | ((with_reducible refine gate_dst (N := 3) rfl ?_); refine box_event ?hg (N := 3) ?hd (cs := #[.int .u8 kind, .bool exec, .int .u8 priv, .bool v, .bool sum, .bool mxr, .bool vmxr]) (t := 32) ?hr ?_; (case hd => rfl); (case hg => rfl); (case hr => first | (go_simp; done) | (go_simp; rfl)); intro gw hg w_1 H1 hb; have hB_2 := Lib.hid (below_step (Below.refl w.heap.size w) hb); have G_gw := Lib.hid (show w.heap.size ≤ gw by rw [hg]; exact ((Below.refl w.heap.size w)).size); have K_gw := Lib.hid (show w_1.heap[gw]? = some (.cells #[.int .u8 kind, .bool exec, .int .u8 priv, .bool v, .bool sum, .bool mxr, .bool vmxr] 32 (0, 0)) from H1); clear hg hb H1))
        go_wp2_with fail
        refine (mezzaninelaw15_awake.calls 6 true _ (pte_awake 1)).mono ?_
        rintro e_3 w_4 ⟨rfl, hb⟩
        have hB_5 := Lib.hid (below_step hB_2.out hb)
        replace K_gw := Lib.hid (blk_below K_gw.out hb)
        clear hb hB_2
        go_upto_region 3 with fail
        go_upto_region 4 with (first | ((with_reducible refine gate_dst (N := 10) rfl ?_); (first | (refine gate_guard (by kernel_rfl) ?_) | skip); refine Kd.event_run rfl (v := .agg #[.int .u8 kind, .bool exec, .int .u8 priv, .bool v, .bool sum, .bool mxr, .bool vmxr]) (w1 := w_4) ?hb ?_; (case hb => exact exec_load_blk rfl rfl K_gw.out Try.underlying32 rfl (by kernel_rfl))) | ((with_reducible refine gate_dst (N := 5) rfl ?_); refine box_event ?hg (N := 5) ?hd (cs := #[.int .u8 0, .bool false, .int .u8 0, .bool false, .bool false, .bool false, .bool false]) (t := 32) ?hr ?_; (case hd => rfl); (case hg => rfl); (case hr => first | (go_simp; done) | (go_simp; rfl)); intro gm hg w_6 H1 hb; have hB_8 := Lib.hid (below_step hB_5.out hb); have G_gm := Lib.hid (show w.heap.size ≤ gm by rw [hg]; exact (hB_5.out).size); have N_gw_gm := Lib.hid (show gw ≠ gm by rw [hg]; exact Nat.ne_of_lt (blk_lt K_gw.out)); replace K_gw := Lib.hid (blk_below K_gw.out hb); have K_gm := Lib.hid (show w_6.heap[gm]? = some (.cells #[.int .u8 0, .bool false, .int .u8 0, .bool false, .bool false, .bool false, .bool false] 32 (0, 0)) from H1); clear hg hb H1 hB_5) | (refine wpList_store_mid rfl 32 (.tmp 5) (.tmp 10) rfl gm 0 #[.int .u8 kind, .bool exec, .int .u8 priv, .bool v, .bool sum, .bool mxr, .bool vmxr] rfl rfl (blk_there K_gm.out) (by kernel_rfl) (by simp [Value.oneCell']) ?_; have hB_9 := Lib.hid (setCells_below G_gm.out (#[.int .u8 kind, .bool exec, .int .u8 priv, .bool v, .bool sum, .bool mxr, .bool vmxr] : Array Value).toList 0 _ hB_8.out); replace K_gw := Lib.hid (setCells_far' (vs := (#[.int .u8 kind, .bool exec, .int .u8 priv, .bool v, .bool sum, .bool mxr, .bool vmxr] : Array Value).toList) (o := 0) N_gw_gm.out K_gw.out); replace K_gm := Lib.hid (blk_putAll (cs := #[.int .u8 kind, .bool exec, .int .u8 priv, .bool v, .bool sum, .bool mxr, .bool vmxr]) K_gm.out rfl); clear hB_8; generalize World.setCells w_6 gm 0 (#[.int .u8 kind, .bool exec, .int .u8 priv, .bool v, .bool sum, .bool mxr, .bool vmxr] : Array Value).toList = w_7 at K_gw K_gm hB_9 ⊢))
        have c_gm_4 := (show World.cell? _ ⟨gm, 4, none⟩ = some (.bool sum) from (blk_cell K_gm.out 4).trans rfl); have f_gm_4 := blk_frozen K_gm.out 4
        have c_gm_5 := (show World.cell? _ ⟨gm, 5, none⟩ = some (.bool mxr) from (blk_cell K_gm.out 5).trans rfl); have f_gm_5 := blk_frozen K_gm.out 5
        have c_gm_6 := (show World.cell? _ ⟨gm, 6, none⟩ = some (.bool vmxr) from (blk_cell K_gm.out 6).trans rfl); have f_gm_6 := blk_frozen K_gm.out 6
        go_upto_region 7 with fail
        clear c_gm_4 f_gm_4 c_gm_5 f_gm_5 c_gm_6 f_gm_6
        have q_g := Lib.hid (blk_put (blk_put (blk_put K_gm.out 4 (.bool true) rfl) 5 (.bool true) rfl) 6 (.bool true) rfl)
        replace K_gw := Lib.hid (blk_far (blk_far (blk_far K_gw.out (p := ⟨gm, 4, none⟩) N_gw_gm.out (.bool true)) (p := ⟨gm, 5, none⟩) N_gw_gm.out (.bool true)) (p := ⟨gm, 6, none⟩) N_gw_gm.out (.bool true))
        have hB_11 := Lib.hid (below_set (j := 6) (v := .bool true) (below_set (j := 5) (v := .bool true) (below_set (j := 4) (v := .bool true) hB_9.out G_gm.out) G_gm.out) G_gm.out)
        clear K_gm hB_9
        generalize (World.setCell (World.setCell (World.setCell w_7 ⟨gm, 4, none⟩ (.bool true)) ⟨gm, 5, none⟩ (.bool true)) ⟨gm, 6, none⟩ (.bool true)) = w_10 at K_gw q_g hB_11 ⊢
        have K_gm := Lib.hid (show w_10.heap[gm]? = some (.cells #[.int .u8 kind, .bool exec, .int .u8 priv, .bool v, .bool true, .bool true, .bool true] 32 (0, 0)) from q_g.out); clear q_g
        go_wp2_with (first | ((with_reducible refine gate_dst (N := 15) rfl ?_); (first | (refine gate_guard (by kernel_rfl) ?_) | skip); refine Kd.event_run rfl (v := .agg #[.int .u8 kind, .bool exec, .int .u8 priv, .bool v, .bool sum, .bool mxr, .bool vmxr]) (w1 := w_10) ?hb ?_; (case hb => exact exec_load_blk rfl rfl K_gw.out Try.underlying32 rfl (by kernel_rfl))))
        refine (HA.out _).mono ?_
        rintro e_12 w_13 ⟨rfl, hb⟩
        have hB_14 := Lib.hid (below_step hB_11.out hb)
        replace K_gw := Lib.hid (blk_below K_gw.out hb)
        replace K_gm := Lib.hid (blk_below K_gm.out hb)
        clear hb hB_11
        have c_gw_0 := (show World.cell? _ ⟨gw, 0, none⟩ = some (.int .u8 kind) from (blk_cell K_gw.out 0).trans rfl); have f_gw_0 := blk_frozen K_gw.out 0
        have c_gw_2 := (show World.cell? _ ⟨gw, 2, none⟩ = some (.int .u8 priv) from (blk_cell K_gw.out 2).trans rfl); have f_gw_2 := blk_frozen K_gw.out 2
        go_wp2_with (first | ((with_reducible refine gate_dst (N := 20) rfl ?_); (first | (refine gate_guard (by kernel_rfl) ?_) | skip); refine Kd.event_run rfl (v := .agg #[.int .u8 kind, .bool exec, .int .u8 priv, .bool v, .bool true, .bool true, .bool true]) (w1 := w_13) ?hb ?_; (case hb => exact exec_load_blk rfl rfl K_gm.out Try.underlying32 rfl (by kernel_rfl))))
        refine (HA2.out _).mono ?_
        rintro e_15 w_16 ⟨rfl, hb⟩
        clear c_gw_0 f_gw_0 c_gw_2 f_gw_2
        have hB_17 := Lib.hid (below_step hB_14.out hb)
        replace K_gw := Lib.hid (blk_below K_gw.out hb)
        replace K_gm := Lib.hid (blk_below K_gm.out hb)
        clear hb hB_14
        have c_gw_0 := (show World.cell? _ ⟨gw, 0, none⟩ = some (.int .u8 kind) from (blk_cell K_gw.out 0).trans rfl); have f_gw_0 := blk_frozen K_gw.out 0
        have c_gw_2 := (show World.cell? _ ⟨gw, 2, none⟩ = some (.int .u8 priv) from (blk_cell K_gw.out 2).trans rfl); have f_gw_2 := blk_frozen K_gw.out 2
        go_upto_region 10 with fail
        go_wp2_with fail
        refine (HO.out _).mono ?_
        rintro e5 w5 ⟨rfl, n_, e5⟩
        clear c_gw_0 f_gw_0 c_gw_2 f_gw_2
        replace K_gw := Lib.hid (show w5.heap[gw]? = some (.cells #[.int .u8 kind, .bool exec, .int .u8 priv, .bool v, .bool sum, .bool mxr, .bool vmxr] 32 (0, 0)) from by rw [e5]; exact blk_drewN K_gw.out n_)
        replace K_gm := Lib.hid (show w5.heap[gm]? = some (.cells #[.int .u8 kind, .bool exec, .int .u8 priv, .bool v, .bool true, .bool true, .bool true] 32 (0, 0)) from by rw [e5]; exact blk_drewN K_gm.out n_)
        have hB_18 := Lib.hid (Below_of e5.symm (pw_below_drewN hB_17.out n_))
        clear e5 hB_17
        have c_gw_0 := (show World.cell? _ ⟨gw, 0, none⟩ = some (.int .u8 kind) from (blk_cell K_gw.out 0).trans rfl); have f_gw_0 := blk_frozen K_gw.out 0
        have c_gw_2 := (show World.cell? _ ⟨gw, 2, none⟩ = some (.int .u8 priv) from (blk_cell K_gw.out 2).trans rfl); have f_gw_2 := blk_frozen K_gw.out 2
        go_wp2_with fail
        refine (HL.out _).mono ?_
        rintro e6 w6 ⟨rfl, n_, e6⟩
        clear c_gw_0 f_gw_0 c_gw_2 f_gw_2
        replace K_gw := Lib.hid (show w6.heap[gw]? = some (.cells #[.int .u8 kind, .bool exec, .int .u8 priv, .bool v, .bool sum, .bool mxr, .bool vmxr] 32 (0, 0)) from by rw [e6]; exact blk_drewN K_gw.out n_)
        replace K_gm := Lib.hid (show w6.heap[gm]? = some (.cells #[.int .u8 kind, .bool exec, .int .u8 priv, .bool v, .bool true, .bool true, .bool true] 32 (0, 0)) from by rw [e6]; exact blk_drewN K_gm.out n_)
        have hB_19 := Lib.hid (Below_of e6.symm (pw_below_drewN hB_18.out n_))
        clear e6 hB_18
        have c_gw_0 := (show World.cell? _ ⟨gw, 0, none⟩ = some (.int .u8 kind) from (blk_cell K_gw.out 0).trans rfl); have f_gw_0 := blk_frozen K_gw.out 0
        have c_gw_2 := (show World.cell? _ ⟨gw, 2, none⟩ = some (.int .u8 priv) from (blk_cell K_gw.out 2).trans rfl); have f_gw_2 := blk_frozen K_gw.out 2
        go_upto_region 16 with fail
        clear c_gw_0 f_gw_0 c_gw_2 f_gw_2
        refine start_ (n := 19) (S := fun w' => w'.heap[gw]? = some (.cells #[.int .u8 kind, .bool exec, .int .u8 priv, .bool v, .bool sum, .bool mxr, .bool vmxr] 32 (0, 0))) (ds := []) #[false, false, false, false, false, false, false, false, false, false, false, false, false, false, false, false, false, false, false] (by kernel_rfl) rfl rfl (blk_drew K_gw.out) (fun hHeld => ?_)
        replace K_gw := Lib.hid (blk_drew K_gw.out)
        replace K_gm := Lib.hid (blk_drew K_gm.out)
        have hB_21 := Lib.hid (below_drew1 hB_19.out)
        clear hB_19
        generalize World.drew w6 = w_20 at K_gw K_gm hB_21 hHeld ⊢
        refine pure_ (i := 0) (N := some 95) (v := ?_) (a' := ?_) #[true, false, false, false, false, false, false, false, false, false, false, false, false, false, false, false, false, false, false] rfl rfl (by kernel_rfl) (fun _ _ _ h => h) (Or.inl ⟨by rfl, ?_⟩) ?_ ?_
        rotate_left
        · intro w'
          go_simp
          with_reducible rfl
        rotate_left
        · simp only [Act.put, List.setIfInBounds_toArray, List.set_cons_zero, List.set_cons_succ, i64_w, i32_w]
          rfl
        refine pure_ (i := 3) (N := some 98) (v := ?_) (a' := ?_) #[true, false, false, true, false, false, false, false, false, false, false, false, false, false, false, false, false, false, false] rfl rfl (by kernel_rfl) (fun _ _ _ h => h) (Or.inl ⟨by rfl, ?_⟩) ?_ ?_
        rotate_left
        · intro w'
          go_simp
          with_reducible rfl
        rotate_left
        · simp only [Act.put, List.setIfInBounds_toArray, List.set_cons_zero, List.set_cons_succ, i64_w, i32_w]
          rfl
        refine pure_ (i := 4) (N := some 99) (v := ?_) (a' := ?_) #[true, false, false, true, true, false, false, false, false, false, false, false, false, false, false, false, false, false, false] rfl rfl (by kernel_rfl) (fun _ _ _ h => h) (Or.inl ⟨by rfl, ?_⟩) ?_ ?_
        rotate_left
        · intro w'
          go_simp
          with_reducible rfl
        rotate_left
        · simp only [Act.put, List.setIfInBounds_toArray, List.set_cons_zero, List.set_cons_succ, i64_w, i32_w]
          rfl
        refine take_ (i := 1) (N := some 96) (v := .agg #[.int .u8 kind, .bool exec, .int .u8 priv, .bool v, .bool sum, .bool mxr, .bool vmxr]) (a' := ?_) #[true, true, false, true, true, false, false, false, false, false, false, false, false, false, false, false, false, false, false] rfl rfl (by kernel_rfl) (fun _ _ _ h => h) (Or.inl ⟨by rfl, ?_⟩) hHeld ?_ ?_
        · intro w' s0; exact exec_load_blk rfl rfl s0 Try.underlying32 rfl (by kernel_rfl)
        rotate_left
        · simp only [Act.put, List.setIfInBounds_toArray, List.set_cons_zero, List.set_cons_succ, i64_w, i32_w]
          rfl
        refine take_ (i := 5) (N := some 100) (v := .agg #[.int .u8 kind, .bool exec, .int .u8 priv, .bool v, .bool sum, .bool mxr, .bool vmxr]) (a' := ?_) #[true, true, false, true, true, true, false, false, false, false, false, false, false, false, false, false, false, false, false] rfl rfl (by kernel_rfl) (fun _ _ _ h => h) (Or.inl ⟨by rfl, ?_⟩) hHeld ?_ ?_
        · intro w' s0; exact exec_load_blk rfl rfl s0 Try.underlying32 rfl (by kernel_rfl)
        rotate_left
        · simp only [Act.put, List.setIfInBounds_toArray, List.set_cons_zero, List.set_cons_succ, i64_w, i32_w]
          rfl
        have HH := Lib.hid hHeld
        clear hHeld
        refine one_ (i := 2) (N := some 97) #[true, true, true, true, true, true, false, false, false, false, false, false, false, false, false, false, false, false, false] rfl rfl (by kernel_rfl) (by decide) (fun K hK => ?_)
        refine goes_ Try.func21 (by kernel_rfl) rfl #[.int .u64 (U x), .agg #[.int .u8 kind, .bool exec, .int .u8 priv, .bool v, .bool sum, .bool mxr, .bool vmxr]] (by rfl) rfl rfl (by simp only [List.map_toArray, List.map_cons, List.map_nil]; rfl) ?_
        with_reducible refine (HA.out _).mono ?_
        rintro e_ w_22 ⟨rfl, hb⟩
        refine ⟨_, rfl, ?_⟩
        have s_0 := blk_below (HH.out) hb
        replace K_gw := Lib.hid (blk_below K_gw.out hb)
        replace K_gm := Lib.hid (blk_below K_gm.out hb)
        have hB_23 := Lib.hid (below_step hB_21.out hb)
        clear HH hb hB_21
        refine hK.out _ _ (s_0) (fun hHeld => ?_)
        have HH := Lib.hid hHeld
        clear hHeld s_0
        clear hK K
        refine norm_ (a' := ?_) ?_ ?_
        rotate_left
        · show Act.put _ (some 97) _ = _
          simp only [Act.put, List.setIfInBounds_toArray, List.set_cons_zero, List.set_cons_succ, i64_w, i32_w]
          rfl
        refine one_ (i := 6) (N := some 101) #[true, true, true, true, true, true, true, false, false, false, false, false, false, false, false, false, false, false, false] rfl rfl (by kernel_rfl) (by decide) (fun K hK => ?_)
        refine goes_ Try.func21 (by kernel_rfl) rfl #[.int .u64 (Go.bits .and .u64 (U x) 255), .agg #[.int .u8 kind, .bool exec, .int .u8 priv, .bool v, .bool sum, .bool mxr, .bool vmxr]] (by rfl) rfl rfl (by simp only [List.map_toArray, List.map_cons, List.map_nil]; rfl) ?_
        with_reducible refine (HA5.out _).mono ?_
        rintro e_ w_24 ⟨rfl, hb⟩
        refine ⟨_, rfl, ?_⟩
        have s_0 := blk_below (HH.out) hb
        replace K_gw := Lib.hid (blk_below K_gw.out hb)
        replace K_gm := Lib.hid (blk_below K_gm.out hb)
        have hB_25 := Lib.hid (below_step hB_23.out hb)
        clear HH hb hB_23
        refine hK.out _ _ (s_0) (fun hHeld => ?_)
        have HH := Lib.hid hHeld
        clear hHeld s_0
        clear hK K
        refine norm_ (a' := ?_) ?_ ?_
        rotate_left
        · show Act.put _ (some 101) _ = _
          simp only [Act.put, List.setIfInBounds_toArray, List.set_cons_zero, List.set_cons_succ, i64_w, i32_w]
          rfl
        refine pure_ (i := 7) (N := some 102) (v := ?_) (a' := ?_) #[true, true, true, true, true, true, true, true, false, false, false, false, false, false, false, false, false, false, false] rfl rfl (by kernel_rfl) (fun _ _ _ h => h) (Or.inl ⟨by rfl, ?_⟩) ?_ ?_
        rotate_left
        · intro w'
          go_simp
          with_reducible rfl
        rotate_left
        · simp only [Act.put, List.setIfInBounds_toArray, List.set_cons_zero, List.set_cons_succ, i64_w, i32_w]
          rfl
        refine pure_ (i := 8) (N := some 103) (v := ?_) (a' := ?_) #[true, true, true, true, true, true, true, true, true, false, false, false, false, false, false, false, false, false, false] rfl rfl (by kernel_rfl) (fun _ _ _ h => h) (Or.inl ⟨by rfl, ?_⟩) ?_ ?_
        rotate_left
        · intro w'
          go_simp
          with_reducible rfl
        rotate_left
        · simp only [Act.put, List.setIfInBounds_toArray, List.set_cons_zero, List.set_cons_succ, i64_w, i32_w]
          rfl
        refine pure_ (i := 9) (N := some 104) (v := ?_) (a' := ?_) #[true, true, true, true, true, true, true, true, true, true, false, false, false, false, false, false, false, false, false] rfl rfl (by kernel_rfl) (fun _ _ _ h => h) (Or.inl ⟨by rfl, ?_⟩) ?_ ?_
        rotate_left
        · intro w'
          go_simp
          with_reducible rfl
        rotate_left
        · simp only [Act.put, List.setIfInBounds_toArray, List.set_cons_zero, List.set_cons_succ, i64_w, i32_w]
          rfl
        refine pure_ (i := 12) (N := some 107) (v := ?_) (a' := ?_) #[true, true, true, true, true, true, true, true, true, true, false, false, true, false, false, false, false, false, false] rfl rfl (by kernel_rfl) (fun _ _ _ h => h) (Or.inl ⟨by rfl, ?_⟩) ?_ ?_
        rotate_left
        · intro w'
          go_simp
          with_reducible rfl
        rotate_left
        · simp only [Act.put, List.setIfInBounds_toArray, List.set_cons_zero, List.set_cons_succ, i64_w, i32_w]
          rfl
        refine pure_ (i := 13) (N := some 108) (v := ?_) (a' := ?_) #[true, true, true, true, true, true, true, true, true, true, false, false, true, true, false, false, false, false, false] rfl rfl (by kernel_rfl) (fun _ _ _ h => h) (Or.inl ⟨by rfl, ?_⟩) ?_ ?_
        rotate_left
        · intro w'
          go_simp
          with_reducible rfl
        rotate_left
        · simp only [Act.put, List.setIfInBounds_toArray, List.set_cons_zero, List.set_cons_succ, i64_w, i32_w]
          rfl
        refine take_ (i := 10) (N := some 105) (v := .agg #[.int .u8 kind, .bool exec, .int .u8 priv, .bool v, .bool sum, .bool mxr, .bool vmxr]) (a' := ?_) #[true, true, true, true, true, true, true, true, true, true, true, false, true, true, false, false, false, false, false] rfl rfl (by kernel_rfl) (fun _ _ _ h => h) (Or.inl ⟨by rfl, ?_⟩) HH.out ?_ ?_
        · intro w' s0; exact exec_load_blk rfl rfl s0 Try.underlying32 rfl (by kernel_rfl)
        rotate_left
        · simp only [Act.put, List.setIfInBounds_toArray, List.set_cons_zero, List.set_cons_succ, i64_w, i32_w]
          rfl
        refine take_ (i := 14) (N := some 109) (v := .agg #[.int .u8 kind, .bool exec, .int .u8 priv, .bool v, .bool sum, .bool mxr, .bool vmxr]) (a' := ?_) #[true, true, true, true, true, true, true, true, true, true, true, false, true, true, true, false, false, false, false] rfl rfl (by kernel_rfl) (fun _ _ _ h => h) (Or.inl ⟨by rfl, ?_⟩) HH.out ?_ ?_
        · intro w' s0; exact exec_load_blk rfl rfl s0 Try.underlying32 rfl (by kernel_rfl)
        rotate_left
        · simp only [Act.put, List.setIfInBounds_toArray, List.set_cons_zero, List.set_cons_succ, i64_w, i32_w]
          rfl
        refine one_ (i := 11) (N := some 106) #[true, true, true, true, true, true, true, true, true, true, true, true, true, true, true, false, false, false, false] rfl rfl (by kernel_rfl) (by decide) (fun K hK => ?_)
        refine goes_ Try.func23 (by kernel_rfl) rfl #[.int .u64 (U x), .agg #[.int .u8 kind, .bool exec, .int .u8 priv, .bool v, .bool sum, .bool mxr, .bool vmxr]] (by rfl) rfl rfl (by simp only [List.map_toArray, List.map_cons, List.map_nil]; rfl) ?_
        with_reducible refine (HF.out _).mono ?_
        rintro e_ w_26 ⟨rfl, hb⟩
        refine ⟨_, rfl, ?_⟩
        have s_0 := blk_below (HH.out) hb
        replace K_gw := Lib.hid (blk_below K_gw.out hb)
        replace K_gm := Lib.hid (blk_below K_gm.out hb)
        have hB_27 := Lib.hid (below_step hB_25.out hb)
        clear HH hb hB_25
        refine hK.out _ _ (s_0) (fun hHeld => ?_)
        have HH := Lib.hid hHeld
        clear hHeld s_0
        clear hK K
        refine norm_ (a' := ?_) ?_ ?_
        rotate_left
        · show Act.put _ (some 106) _ = _
          simp only [Act.put, List.setIfInBounds_toArray, List.set_cons_zero, List.set_cons_succ, i64_w, i32_w]
          rfl
        refine one_ (i := 15) (N := some 110) #[true, true, true, true, true, true, true, true, true, true, true, true, true, true, true, true, false, false, false] rfl rfl (by kernel_rfl) (by decide) (fun K hK => ?_)
        refine goes_ Try.func23 (by kernel_rfl) rfl #[.int .u64 (Go.bits .and .u64 (U x) 255), .agg #[.int .u8 kind, .bool exec, .int .u8 priv, .bool v, .bool sum, .bool mxr, .bool vmxr]] (by rfl) rfl rfl (by simp only [List.map_toArray, List.map_cons, List.map_nil]; rfl) ?_
        with_reducible refine (HF5.out _).mono ?_
        rintro e_ w_28 ⟨rfl, hb⟩
        refine ⟨_, rfl, ?_⟩
        have s_0 := blk_below (HH.out) hb
        replace K_gw := Lib.hid (blk_below K_gw.out hb)
        replace K_gm := Lib.hid (blk_below K_gm.out hb)
        have hB_29 := Lib.hid (below_step hB_27.out hb)
        clear HH hb hB_27
        refine hK.out _ _ (s_0) (fun hHeld => ?_)
        have HH := Lib.hid hHeld
        clear hHeld s_0
        clear hK K
        refine norm_ (a' := ?_) ?_ ?_
        rotate_left
        · show Act.put _ (some 110) _ = _
          simp only [Act.put, List.setIfInBounds_toArray, List.set_cons_zero, List.set_cons_succ, i64_w, i32_w]
          rfl
        refine pure_ (i := 16) (N := some 111) (v := ?_) (a' := ?_) #[true, true, true, true, true, true, true, true, true, true, true, true, true, true, true, true, true, false, false] rfl rfl (by kernel_rfl) (fun _ _ _ h => h) (Or.inl ⟨by rfl, ?_⟩) ?_ ?_
        rotate_left
        · intro w'
          go_simp
          with_reducible rfl
        rotate_left
        · simp only [Act.put, List.setIfInBounds_toArray, List.set_cons_zero, List.set_cons_succ, i64_w, i32_w]
          rfl
        refine pure_ (i := 17) (N := some 112) (v := ?_) (a' := ?_) #[true, true, true, true, true, true, true, true, true, true, true, true, true, true, true, true, true, true, false] rfl rfl (by kernel_rfl) (fun _ _ _ h => h) (Or.inl ⟨by rfl, ?_⟩) ?_ ?_
        rotate_left
        · intro w'
          go_simp
          with_reducible rfl
        rotate_left
        · simp only [Act.put, List.setIfInBounds_toArray, List.set_cons_zero, List.set_cons_succ, i64_w, i32_w]
          rfl
        refine pure_ (i := 18) (N := some 4) (v := ?_) (a' := ?_) #[true, true, true, true, true, true, true, true, true, true, true, true, true, true, true, true, true, true, true] rfl rfl (by kernel_rfl) (fun _ _ _ h => h) (Or.inl ⟨by rfl, ?_⟩) ?_ ?_
        rotate_left
        · intro w'
          go_simp
          with_reducible rfl
        rotate_left
        · simp only [Act.put, List.setIfInBounds_toArray, List.set_cons_zero, List.set_cons_succ, i64_w, i32_w]
          rfl
        refine done_ (by kernel_rfl) ?_
        try clear HH
        go_wp2
        go_ret
        exact ⟨rfl, hB_29.out⟩
      · skip
        cases fw : fu x kind
        · skip
          have hA := HA.out; rw [ok] at hA
          have HA := Lib.hid hA; clear hA
          have hA5 := HA5.out; rw [ok] at hA5
          have HA5 := Lib.hid hA5; clear hA5
          have hA2 := HA2.out; rw [F1.out ok] at hA2
          have HA2 := Lib.hid hA2; clear hA2
          have z4 : decide (kind > 2) = false := decide_eq_false (F4.out ok)
          have ep := eq_of_beq p0
          have q0 : (Go.bits .and .u64 (U x) 16 == 0) = false := by rw [U16.out, F2.out ep (ep ▸ ok)]; rfl
          have q1 : (priv != 0) = false := by rw [ep]; rfl
          clear ep
          have hO := HO.out; rw [o1] at hO
          have HO := Lib.hid hO; clear hO
          have hL := HL.out; rw [o2] at hL
          have HL := Lib.hid hL; clear hL
          have ek1 := eq_of_beq k1
          have hAl := HAL.out; rw [F5.out o1 (ek1 ▸ ok)] at hAl
          have HAL := Lib.hid hAl; clear hAl
          have hF := HF.out; rw [fw] at hF
          have HF := Lib.hid hF; clear hF
          have hF5 := HF5.out; rw [fw] at hF5
          have HF5 := Lib.hid hF5; clear hF5
          clear ek1
          clear ok o1 o2 fw
          have hu32 := Try.underlying32
          go_enter Try.func6, Try.ntmps6
          go_upto_region 1 with (first | ((with_reducible refine gate_dst (N := 3) rfl ?_); refine box_event ?hg (N := 3) ?hd (cs := #[.int .u8 kind, .bool exec, .int .u8 priv, .bool v, .bool sum, .bool mxr, .bool vmxr]) (t := 32) ?hr ?_; (case hd => rfl); (case hg => rfl); (case hr => first | (go_simp; done) | (go_simp; rfl)); intro gw hg w_1 H1 hb; have hB_2 := Lib.hid (below_step (Below.refl w.heap.size w) hb); have G_gw := Lib.hid (show w.heap.size ≤ gw by rw [hg]; exact ((Below.refl w.heap.size w)).size); have K_gw := Lib.hid (show w_1.heap[gw]? = some (.cells #[.int .u8 kind, .bool exec, .int .u8 priv, .bool v, .bool sum, .bool mxr, .bool vmxr] 32 (0, 0)) from H1); clear hg hb H1))
          go_wp2_with fail
          refine (mezzaninelaw15_awake.calls 6 true _ (pte_awake 1)).mono ?_
          rintro e_3 w_4 ⟨rfl, hb⟩
          have hB_5 := Lib.hid (below_step hB_2.out hb)
          replace K_gw := Lib.hid (blk_below K_gw.out hb)
          clear hb hB_2
          go_upto_region 3 with fail
          go_upto_region 4 with (first | ((with_reducible refine gate_dst (N := 10) rfl ?_); (first | (refine gate_guard (by kernel_rfl) ?_) | skip); refine Kd.event_run rfl (v := .agg #[.int .u8 kind, .bool exec, .int .u8 priv, .bool v, .bool sum, .bool mxr, .bool vmxr]) (w1 := w_4) ?hb ?_; (case hb => exact exec_load_blk rfl rfl K_gw.out Try.underlying32 rfl (by kernel_rfl))) | ((with_reducible refine gate_dst (N := 5) rfl ?_); refine box_event ?hg (N := 5) ?hd (cs := #[.int .u8 0, .bool false, .int .u8 0, .bool false, .bool false, .bool false, .bool false]) (t := 32) ?hr ?_; (case hd => rfl); (case hg => rfl); (case hr => first | (go_simp; done) | (go_simp; rfl)); intro gm hg w_6 H1 hb; have hB_8 := Lib.hid (below_step hB_5.out hb); have G_gm := Lib.hid (show w.heap.size ≤ gm by rw [hg]; exact (hB_5.out).size); have N_gw_gm := Lib.hid (show gw ≠ gm by rw [hg]; exact Nat.ne_of_lt (blk_lt K_gw.out)); replace K_gw := Lib.hid (blk_below K_gw.out hb); have K_gm := Lib.hid (show w_6.heap[gm]? = some (.cells #[.int .u8 0, .bool false, .int .u8 0, .bool false, .bool false, .bool false, .bool false] 32 (0, 0)) from H1); clear hg hb H1 hB_5) | (refine wpList_store_mid rfl 32 (.tmp 5) (.tmp 10) rfl gm 0 #[.int .u8 kind, .bool exec, .int .u8 priv, .bool v, .bool sum, .bool mxr, .bool vmxr] rfl rfl (blk_there K_gm.out) (by kernel_rfl) (by simp [Value.oneCell']) ?_; have hB_9 := Lib.hid (setCells_below G_gm.out (#[.int .u8 kind, .bool exec, .int .u8 priv, .bool v, .bool sum, .bool mxr, .bool vmxr] : Array Value).toList 0 _ hB_8.out); replace K_gw := Lib.hid (setCells_far' (vs := (#[.int .u8 kind, .bool exec, .int .u8 priv, .bool v, .bool sum, .bool mxr, .bool vmxr] : Array Value).toList) (o := 0) N_gw_gm.out K_gw.out); replace K_gm := Lib.hid (blk_putAll (cs := #[.int .u8 kind, .bool exec, .int .u8 priv, .bool v, .bool sum, .bool mxr, .bool vmxr]) K_gm.out rfl); clear hB_8; generalize World.setCells w_6 gm 0 (#[.int .u8 kind, .bool exec, .int .u8 priv, .bool v, .bool sum, .bool mxr, .bool vmxr] : Array Value).toList = w_7 at K_gw K_gm hB_9 ⊢))
          have c_gm_4 := (show World.cell? _ ⟨gm, 4, none⟩ = some (.bool sum) from (blk_cell K_gm.out 4).trans rfl); have f_gm_4 := blk_frozen K_gm.out 4
          have c_gm_5 := (show World.cell? _ ⟨gm, 5, none⟩ = some (.bool mxr) from (blk_cell K_gm.out 5).trans rfl); have f_gm_5 := blk_frozen K_gm.out 5
          have c_gm_6 := (show World.cell? _ ⟨gm, 6, none⟩ = some (.bool vmxr) from (blk_cell K_gm.out 6).trans rfl); have f_gm_6 := blk_frozen K_gm.out 6
          go_upto_region 7 with fail
          clear c_gm_4 f_gm_4 c_gm_5 f_gm_5 c_gm_6 f_gm_6
          have q_g := Lib.hid (blk_put (blk_put (blk_put K_gm.out 4 (.bool true) rfl) 5 (.bool true) rfl) 6 (.bool true) rfl)
          replace K_gw := Lib.hid (blk_far (blk_far (blk_far K_gw.out (p := ⟨gm, 4, none⟩) N_gw_gm.out (.bool true)) (p := ⟨gm, 5, none⟩) N_gw_gm.out (.bool true)) (p := ⟨gm, 6, none⟩) N_gw_gm.out (.bool true))
          have hB_11 := Lib.hid (below_set (j := 6) (v := .bool true) (below_set (j := 5) (v := .bool true) (below_set (j := 4) (v := .bool true) hB_9.out G_gm.out) G_gm.out) G_gm.out)
          clear K_gm hB_9
          generalize (World.setCell (World.setCell (World.setCell w_7 ⟨gm, 4, none⟩ (.bool true)) ⟨gm, 5, none⟩ (.bool true)) ⟨gm, 6, none⟩ (.bool true)) = w_10 at K_gw q_g hB_11 ⊢
          have K_gm := Lib.hid (show w_10.heap[gm]? = some (.cells #[.int .u8 kind, .bool exec, .int .u8 priv, .bool v, .bool true, .bool true, .bool true] 32 (0, 0)) from q_g.out); clear q_g
          go_wp2_with (first | ((with_reducible refine gate_dst (N := 15) rfl ?_); (first | (refine gate_guard (by kernel_rfl) ?_) | skip); refine Kd.event_run rfl (v := .agg #[.int .u8 kind, .bool exec, .int .u8 priv, .bool v, .bool sum, .bool mxr, .bool vmxr]) (w1 := w_10) ?hb ?_; (case hb => exact exec_load_blk rfl rfl K_gw.out Try.underlying32 rfl (by kernel_rfl))))
          refine (HA.out _).mono ?_
          rintro e_12 w_13 ⟨rfl, hb⟩
          have hB_14 := Lib.hid (below_step hB_11.out hb)
          replace K_gw := Lib.hid (blk_below K_gw.out hb)
          replace K_gm := Lib.hid (blk_below K_gm.out hb)
          clear hb hB_11
          have c_gw_0 := (show World.cell? _ ⟨gw, 0, none⟩ = some (.int .u8 kind) from (blk_cell K_gw.out 0).trans rfl); have f_gw_0 := blk_frozen K_gw.out 0
          have c_gw_2 := (show World.cell? _ ⟨gw, 2, none⟩ = some (.int .u8 priv) from (blk_cell K_gw.out 2).trans rfl); have f_gw_2 := blk_frozen K_gw.out 2
          go_wp2_with (first | ((with_reducible refine gate_dst (N := 20) rfl ?_); (first | (refine gate_guard (by kernel_rfl) ?_) | skip); refine Kd.event_run rfl (v := .agg #[.int .u8 kind, .bool exec, .int .u8 priv, .bool v, .bool true, .bool true, .bool true]) (w1 := w_13) ?hb ?_; (case hb => exact exec_load_blk rfl rfl K_gm.out Try.underlying32 rfl (by kernel_rfl))))
          refine (HA2.out _).mono ?_
          rintro e_15 w_16 ⟨rfl, hb⟩
          clear c_gw_0 f_gw_0 c_gw_2 f_gw_2
          have hB_17 := Lib.hid (below_step hB_14.out hb)
          replace K_gw := Lib.hid (blk_below K_gw.out hb)
          replace K_gm := Lib.hid (blk_below K_gm.out hb)
          clear hb hB_14
          have c_gw_0 := (show World.cell? _ ⟨gw, 0, none⟩ = some (.int .u8 kind) from (blk_cell K_gw.out 0).trans rfl); have f_gw_0 := blk_frozen K_gw.out 0
          have c_gw_2 := (show World.cell? _ ⟨gw, 2, none⟩ = some (.int .u8 priv) from (blk_cell K_gw.out 2).trans rfl); have f_gw_2 := blk_frozen K_gw.out 2
          go_upto_region 10 with fail
          go_wp2_with fail
          refine (HO.out _).mono ?_
          rintro e5 w5 ⟨rfl, n_, e5⟩
          clear c_gw_0 f_gw_0 c_gw_2 f_gw_2
          replace K_gw := Lib.hid (show w5.heap[gw]? = some (.cells #[.int .u8 kind, .bool exec, .int .u8 priv, .bool v, .bool sum, .bool mxr, .bool vmxr] 32 (0, 0)) from by rw [e5]; exact blk_drewN K_gw.out n_)
          replace K_gm := Lib.hid (show w5.heap[gm]? = some (.cells #[.int .u8 kind, .bool exec, .int .u8 priv, .bool v, .bool true, .bool true, .bool true] 32 (0, 0)) from by rw [e5]; exact blk_drewN K_gm.out n_)
          have hB_18 := Lib.hid (Below_of e5.symm (pw_below_drewN hB_17.out n_))
          clear e5 hB_17
          have c_gw_0 := (show World.cell? _ ⟨gw, 0, none⟩ = some (.int .u8 kind) from (blk_cell K_gw.out 0).trans rfl); have f_gw_0 := blk_frozen K_gw.out 0
          have c_gw_2 := (show World.cell? _ ⟨gw, 2, none⟩ = some (.int .u8 priv) from (blk_cell K_gw.out 2).trans rfl); have f_gw_2 := blk_frozen K_gw.out 2
          go_wp2_with fail
          refine (HL.out _).mono ?_
          rintro e6 w6 ⟨rfl, n_, e6⟩
          clear c_gw_0 f_gw_0 c_gw_2 f_gw_2
          replace K_gw := Lib.hid (show w6.heap[gw]? = some (.cells #[.int .u8 kind, .bool exec, .int .u8 priv, .bool v, .bool sum, .bool mxr, .bool vmxr] 32 (0, 0)) from by rw [e6]; exact blk_drewN K_gw.out n_)
          replace K_gm := Lib.hid (show w6.heap[gm]? = some (.cells #[.int .u8 kind, .bool exec, .int .u8 priv, .bool v, .bool true, .bool true, .bool true] 32 (0, 0)) from by rw [e6]; exact blk_drewN K_gm.out n_)
          have hB_19 := Lib.hid (Below_of e6.symm (pw_below_drewN hB_18.out n_))
          clear e6 hB_18
          have c_gw_0 := (show World.cell? _ ⟨gw, 0, none⟩ = some (.int .u8 kind) from (blk_cell K_gw.out 0).trans rfl); have f_gw_0 := blk_frozen K_gw.out 0
          have c_gw_2 := (show World.cell? _ ⟨gw, 2, none⟩ = some (.int .u8 priv) from (blk_cell K_gw.out 2).trans rfl); have f_gw_2 := blk_frozen K_gw.out 2
          go_upto_region 11 with fail
          clear c_gw_0 f_gw_0 c_gw_2 f_gw_2
          go_upto_region 12 with (first | ((with_reducible refine gate_dst (N := 77) rfl ?_); (first | (refine gate_guard (by kernel_rfl) ?_) | skip); refine Kd.event_run rfl (v := .agg #[.int .u8 kind, .bool exec, .int .u8 priv, .bool v, .bool sum, .bool mxr, .bool vmxr]) (w1 := w6) ?hb ?_; (case hb => exact exec_load_blk rfl rfl K_gw.out Try.underlying32 rfl (by kernel_rfl))) | ((with_reducible refine gate_dst (N := 7) rfl ?_); refine box_event ?hg (N := 7) ?hd (cs := #[.int .u8 0, .bool false, .int .u8 0, .bool false, .bool false, .bool false, .bool false]) (t := 32) ?hr ?_; (case hd => rfl); (case hg => rfl); (case hr => first | (go_simp; done) | (go_simp; rfl)); intro gl hg w_20 H1 hb; have hB_22 := Lib.hid (below_step hB_19.out hb); have G_gl := Lib.hid (show w.heap.size ≤ gl by rw [hg]; exact (hB_19.out).size); have N_gw_gl := Lib.hid (show gw ≠ gl by rw [hg]; exact Nat.ne_of_lt (blk_lt K_gw.out)); have N_gm_gl := Lib.hid (show gm ≠ gl by rw [hg]; exact Nat.ne_of_lt (blk_lt K_gm.out)); replace K_gw := Lib.hid (blk_below K_gw.out hb); replace K_gm := Lib.hid (blk_below K_gm.out hb); have K_gl := Lib.hid (show w_20.heap[gl]? = some (.cells #[.int .u8 0, .bool false, .int .u8 0, .bool false, .bool false, .bool false, .bool false] 32 (0, 0)) from H1); clear hg hb H1 hB_19) | (refine wpList_store_mid rfl 32 (.tmp 7) (.tmp 77) rfl gl 0 #[.int .u8 kind, .bool exec, .int .u8 priv, .bool v, .bool sum, .bool mxr, .bool vmxr] rfl rfl (blk_there K_gl.out) (by kernel_rfl) (by simp [Value.oneCell']) ?_; have hB_23 := Lib.hid (setCells_below G_gl.out (#[.int .u8 kind, .bool exec, .int .u8 priv, .bool v, .bool sum, .bool mxr, .bool vmxr] : Array Value).toList 0 _ hB_22.out); replace K_gw := Lib.hid (setCells_far' (vs := (#[.int .u8 kind, .bool exec, .int .u8 priv, .bool v, .bool sum, .bool mxr, .bool vmxr] : Array Value).toList) (o := 0) N_gw_gl.out K_gw.out); replace K_gm := Lib.hid (setCells_far' (vs := (#[.int .u8 kind, .bool exec, .int .u8 priv, .bool v, .bool sum, .bool mxr, .bool vmxr] : Array Value).toList) (o := 0) N_gm_gl.out K_gm.out); replace K_gl := Lib.hid (blk_putAll (cs := #[.int .u8 kind, .bool exec, .int .u8 priv, .bool v, .bool sum, .bool mxr, .bool vmxr]) K_gl.out rfl); clear hB_22; generalize World.setCells w_20 gl 0 (#[.int .u8 kind, .bool exec, .int .u8 priv, .bool v, .bool sum, .bool mxr, .bool vmxr] : Array Value).toList = w_21 at K_gw K_gm K_gl hB_23 ⊢))
          have c_gl_0 := (show World.cell? _ ⟨gl, 0, none⟩ = some (.int .u8 kind) from (blk_cell K_gl.out 0).trans rfl); have f_gl_0 := blk_frozen K_gl.out 0
          have c_gl_1 := (show World.cell? _ ⟨gl, 1, none⟩ = some (.bool exec) from (blk_cell K_gl.out 1).trans rfl); have f_gl_1 := blk_frozen K_gl.out 1
          go_upto_region 14 with fail
          clear c_gl_0 f_gl_0 c_gl_1 f_gl_1
          have q_g := Lib.hid (blk_put (blk_put K_gl.out 0 (.int .u8 0) rfl) 1 (.bool false) rfl)
          replace K_gw := Lib.hid (blk_far (blk_far K_gw.out (p := ⟨gl, 0, none⟩) N_gw_gl.out (.int .u8 0)) (p := ⟨gl, 1, none⟩) N_gw_gl.out (.bool false))
          replace K_gm := Lib.hid (blk_far (blk_far K_gm.out (p := ⟨gl, 0, none⟩) N_gm_gl.out (.int .u8 0)) (p := ⟨gl, 1, none⟩) N_gm_gl.out (.bool false))
          have hB_25 := Lib.hid (below_set (j := 1) (v := .bool false) (below_set (j := 0) (v := .int .u8 0) hB_23.out G_gl.out) G_gl.out)
          clear K_gl hB_23
          generalize (World.setCell (World.setCell w_21 ⟨gl, 0, none⟩ (.int .u8 0)) ⟨gl, 1, none⟩ (.bool false)) = w_24 at K_gw K_gm q_g hB_25 ⊢
          have K_gl := Lib.hid (show w_24.heap[gl]? = some (.cells #[.int .u8 0, .bool false, .int .u8 priv, .bool v, .bool sum, .bool mxr, .bool vmxr] 32 (0, 0)) from q_g.out); clear q_g
          go_wp2_with (first | ((with_reducible refine gate_dst (N := 81) rfl ?_); (first | (refine gate_guard (by kernel_rfl) ?_) | skip); refine Kd.event_run rfl (v := .agg #[.int .u8 0, .bool false, .int .u8 priv, .bool v, .bool sum, .bool mxr, .bool vmxr]) (w1 := w_24) ?hb ?_; (case hb => exact exec_load_blk rfl rfl K_gl.out Try.underlying32 rfl (by kernel_rfl))))
          refine (HAL.out _).mono ?_
          rintro e_26 w_27 ⟨rfl, hb⟩
          have hB_28 := Lib.hid (below_step hB_25.out hb)
          replace K_gw := Lib.hid (blk_below K_gw.out hb)
          replace K_gm := Lib.hid (blk_below K_gm.out hb)
          replace K_gl := Lib.hid (blk_below K_gl.out hb)
          clear hb hB_25
          go_wp2_with (first | ((with_reducible refine gate_dst (N := 86) rfl ?_); (first | (refine gate_guard (by kernel_rfl) ?_) | skip); refine Kd.event_run rfl (v := .agg #[.int .u8 kind, .bool exec, .int .u8 priv, .bool v, .bool sum, .bool mxr, .bool vmxr]) (w1 := w_27) ?hb ?_; (case hb => exact exec_load_blk rfl rfl K_gw.out Try.underlying32 rfl (by kernel_rfl))))
          refine (HF.out _).mono ?_
          rintro e_29 w_30 ⟨rfl, hb⟩
          have hB_31 := Lib.hid (below_step hB_28.out hb)
          replace K_gw := Lib.hid (blk_below K_gw.out hb)
          replace K_gm := Lib.hid (blk_below K_gm.out hb)
          replace K_gl := Lib.hid (blk_below K_gl.out hb)
          clear hb hB_28
          go_upto_region 16 with fail
          refine start_ (n := 19) (S := fun w' => w'.heap[gw]? = some (.cells #[.int .u8 kind, .bool exec, .int .u8 priv, .bool v, .bool sum, .bool mxr, .bool vmxr] 32 (0, 0))) (ds := []) #[false, false, false, false, false, false, false, false, false, false, false, false, false, false, false, false, false, false, false] (by kernel_rfl) rfl rfl (blk_drew K_gw.out) (fun hHeld => ?_)
          replace K_gw := Lib.hid (blk_drew K_gw.out)
          replace K_gm := Lib.hid (blk_drew K_gm.out)
          replace K_gl := Lib.hid (blk_drew K_gl.out)
          have hB_33 := Lib.hid (below_drew1 hB_31.out)
          clear hB_31
          generalize World.drew w_30 = w_32 at K_gw K_gm K_gl hB_33 hHeld ⊢
          refine pure_ (i := 0) (N := some 95) (v := ?_) (a' := ?_) #[true, false, false, false, false, false, false, false, false, false, false, false, false, false, false, false, false, false, false] rfl rfl (by kernel_rfl) (fun _ _ _ h => h) (Or.inl ⟨by rfl, ?_⟩) ?_ ?_
          rotate_left
          · intro w'
            go_simp
            with_reducible rfl
          rotate_left
          · simp only [Act.put, List.setIfInBounds_toArray, List.set_cons_zero, List.set_cons_succ, i64_w, i32_w]
            rfl
          refine pure_ (i := 3) (N := some 98) (v := ?_) (a' := ?_) #[true, false, false, true, false, false, false, false, false, false, false, false, false, false, false, false, false, false, false] rfl rfl (by kernel_rfl) (fun _ _ _ h => h) (Or.inl ⟨by rfl, ?_⟩) ?_ ?_
          rotate_left
          · intro w'
            go_simp
            with_reducible rfl
          rotate_left
          · simp only [Act.put, List.setIfInBounds_toArray, List.set_cons_zero, List.set_cons_succ, i64_w, i32_w]
            rfl
          refine pure_ (i := 4) (N := some 99) (v := ?_) (a' := ?_) #[true, false, false, true, true, false, false, false, false, false, false, false, false, false, false, false, false, false, false] rfl rfl (by kernel_rfl) (fun _ _ _ h => h) (Or.inl ⟨by rfl, ?_⟩) ?_ ?_
          rotate_left
          · intro w'
            go_simp
            with_reducible rfl
          rotate_left
          · simp only [Act.put, List.setIfInBounds_toArray, List.set_cons_zero, List.set_cons_succ, i64_w, i32_w]
            rfl
          refine take_ (i := 1) (N := some 96) (v := .agg #[.int .u8 kind, .bool exec, .int .u8 priv, .bool v, .bool sum, .bool mxr, .bool vmxr]) (a' := ?_) #[true, true, false, true, true, false, false, false, false, false, false, false, false, false, false, false, false, false, false] rfl rfl (by kernel_rfl) (fun _ _ _ h => h) (Or.inl ⟨by rfl, ?_⟩) hHeld ?_ ?_
          · intro w' s0; exact exec_load_blk rfl rfl s0 Try.underlying32 rfl (by kernel_rfl)
          rotate_left
          · simp only [Act.put, List.setIfInBounds_toArray, List.set_cons_zero, List.set_cons_succ, i64_w, i32_w]
            rfl
          refine take_ (i := 5) (N := some 100) (v := .agg #[.int .u8 kind, .bool exec, .int .u8 priv, .bool v, .bool sum, .bool mxr, .bool vmxr]) (a' := ?_) #[true, true, false, true, true, true, false, false, false, false, false, false, false, false, false, false, false, false, false] rfl rfl (by kernel_rfl) (fun _ _ _ h => h) (Or.inl ⟨by rfl, ?_⟩) hHeld ?_ ?_
          · intro w' s0; exact exec_load_blk rfl rfl s0 Try.underlying32 rfl (by kernel_rfl)
          rotate_left
          · simp only [Act.put, List.setIfInBounds_toArray, List.set_cons_zero, List.set_cons_succ, i64_w, i32_w]
            rfl
          have HH := Lib.hid hHeld
          clear hHeld
          refine one_ (i := 2) (N := some 97) #[true, true, true, true, true, true, false, false, false, false, false, false, false, false, false, false, false, false, false] rfl rfl (by kernel_rfl) (by decide) (fun K hK => ?_)
          refine goes_ Try.func21 (by kernel_rfl) rfl #[.int .u64 (U x), .agg #[.int .u8 kind, .bool exec, .int .u8 priv, .bool v, .bool sum, .bool mxr, .bool vmxr]] (by rfl) rfl rfl (by simp only [List.map_toArray, List.map_cons, List.map_nil]; rfl) ?_
          with_reducible refine (HA.out _).mono ?_
          rintro e_ w_34 ⟨rfl, hb⟩
          refine ⟨_, rfl, ?_⟩
          have s_0 := blk_below (HH.out) hb
          replace K_gw := Lib.hid (blk_below K_gw.out hb)
          replace K_gm := Lib.hid (blk_below K_gm.out hb)
          replace K_gl := Lib.hid (blk_below K_gl.out hb)
          have hB_35 := Lib.hid (below_step hB_33.out hb)
          clear HH hb hB_33
          refine hK.out _ _ (s_0) (fun hHeld => ?_)
          have HH := Lib.hid hHeld
          clear hHeld s_0
          clear hK K
          refine norm_ (a' := ?_) ?_ ?_
          rotate_left
          · show Act.put _ (some 97) _ = _
            simp only [Act.put, List.setIfInBounds_toArray, List.set_cons_zero, List.set_cons_succ, i64_w, i32_w]
            rfl
          refine one_ (i := 6) (N := some 101) #[true, true, true, true, true, true, true, false, false, false, false, false, false, false, false, false, false, false, false] rfl rfl (by kernel_rfl) (by decide) (fun K hK => ?_)
          refine goes_ Try.func21 (by kernel_rfl) rfl #[.int .u64 (Go.bits .and .u64 (U x) 255), .agg #[.int .u8 kind, .bool exec, .int .u8 priv, .bool v, .bool sum, .bool mxr, .bool vmxr]] (by rfl) rfl rfl (by simp only [List.map_toArray, List.map_cons, List.map_nil]; rfl) ?_
          with_reducible refine (HA5.out _).mono ?_
          rintro e_ w_36 ⟨rfl, hb⟩
          refine ⟨_, rfl, ?_⟩
          have s_0 := blk_below (HH.out) hb
          replace K_gw := Lib.hid (blk_below K_gw.out hb)
          replace K_gm := Lib.hid (blk_below K_gm.out hb)
          replace K_gl := Lib.hid (blk_below K_gl.out hb)
          have hB_37 := Lib.hid (below_step hB_35.out hb)
          clear HH hb hB_35
          refine hK.out _ _ (s_0) (fun hHeld => ?_)
          have HH := Lib.hid hHeld
          clear hHeld s_0
          clear hK K
          refine norm_ (a' := ?_) ?_ ?_
          rotate_left
          · show Act.put _ (some 101) _ = _
            simp only [Act.put, List.setIfInBounds_toArray, List.set_cons_zero, List.set_cons_succ, i64_w, i32_w]
            rfl
          refine pure_ (i := 7) (N := some 102) (v := ?_) (a' := ?_) #[true, true, true, true, true, true, true, true, false, false, false, false, false, false, false, false, false, false, false] rfl rfl (by kernel_rfl) (fun _ _ _ h => h) (Or.inl ⟨by rfl, ?_⟩) ?_ ?_
          rotate_left
          · intro w'
            go_simp
            with_reducible rfl
          rotate_left
          · simp only [Act.put, List.setIfInBounds_toArray, List.set_cons_zero, List.set_cons_succ, i64_w, i32_w]
            rfl
          refine pure_ (i := 8) (N := some 103) (v := ?_) (a' := ?_) #[true, true, true, true, true, true, true, true, true, false, false, false, false, false, false, false, false, false, false] rfl rfl (by kernel_rfl) (fun _ _ _ h => h) (Or.inl ⟨by rfl, ?_⟩) ?_ ?_
          rotate_left
          · intro w'
            go_simp
            with_reducible rfl
          rotate_left
          · simp only [Act.put, List.setIfInBounds_toArray, List.set_cons_zero, List.set_cons_succ, i64_w, i32_w]
            rfl
          refine pure_ (i := 9) (N := some 104) (v := ?_) (a' := ?_) #[true, true, true, true, true, true, true, true, true, true, false, false, false, false, false, false, false, false, false] rfl rfl (by kernel_rfl) (fun _ _ _ h => h) (Or.inl ⟨by rfl, ?_⟩) ?_ ?_
          rotate_left
          · intro w'
            go_simp
            with_reducible rfl
          rotate_left
          · simp only [Act.put, List.setIfInBounds_toArray, List.set_cons_zero, List.set_cons_succ, i64_w, i32_w]
            rfl
          refine pure_ (i := 12) (N := some 107) (v := ?_) (a' := ?_) #[true, true, true, true, true, true, true, true, true, true, false, false, true, false, false, false, false, false, false] rfl rfl (by kernel_rfl) (fun _ _ _ h => h) (Or.inl ⟨by rfl, ?_⟩) ?_ ?_
          rotate_left
          · intro w'
            go_simp
            with_reducible rfl
          rotate_left
          · simp only [Act.put, List.setIfInBounds_toArray, List.set_cons_zero, List.set_cons_succ, i64_w, i32_w]
            rfl
          refine pure_ (i := 13) (N := some 108) (v := ?_) (a' := ?_) #[true, true, true, true, true, true, true, true, true, true, false, false, true, true, false, false, false, false, false] rfl rfl (by kernel_rfl) (fun _ _ _ h => h) (Or.inl ⟨by rfl, ?_⟩) ?_ ?_
          rotate_left
          · intro w'
            go_simp
            with_reducible rfl
          rotate_left
          · simp only [Act.put, List.setIfInBounds_toArray, List.set_cons_zero, List.set_cons_succ, i64_w, i32_w]
            rfl
          refine take_ (i := 10) (N := some 105) (v := .agg #[.int .u8 kind, .bool exec, .int .u8 priv, .bool v, .bool sum, .bool mxr, .bool vmxr]) (a' := ?_) #[true, true, true, true, true, true, true, true, true, true, true, false, true, true, false, false, false, false, false] rfl rfl (by kernel_rfl) (fun _ _ _ h => h) (Or.inl ⟨by rfl, ?_⟩) HH.out ?_ ?_
          · intro w' s0; exact exec_load_blk rfl rfl s0 Try.underlying32 rfl (by kernel_rfl)
          rotate_left
          · simp only [Act.put, List.setIfInBounds_toArray, List.set_cons_zero, List.set_cons_succ, i64_w, i32_w]
            rfl
          refine take_ (i := 14) (N := some 109) (v := .agg #[.int .u8 kind, .bool exec, .int .u8 priv, .bool v, .bool sum, .bool mxr, .bool vmxr]) (a' := ?_) #[true, true, true, true, true, true, true, true, true, true, true, false, true, true, true, false, false, false, false] rfl rfl (by kernel_rfl) (fun _ _ _ h => h) (Or.inl ⟨by rfl, ?_⟩) HH.out ?_ ?_
          · intro w' s0; exact exec_load_blk rfl rfl s0 Try.underlying32 rfl (by kernel_rfl)
          rotate_left
          · simp only [Act.put, List.setIfInBounds_toArray, List.set_cons_zero, List.set_cons_succ, i64_w, i32_w]
            rfl
          refine one_ (i := 11) (N := some 106) #[true, true, true, true, true, true, true, true, true, true, true, true, true, true, true, false, false, false, false] rfl rfl (by kernel_rfl) (by decide) (fun K hK => ?_)
          refine goes_ Try.func23 (by kernel_rfl) rfl #[.int .u64 (U x), .agg #[.int .u8 kind, .bool exec, .int .u8 priv, .bool v, .bool sum, .bool mxr, .bool vmxr]] (by rfl) rfl rfl (by simp only [List.map_toArray, List.map_cons, List.map_nil]; rfl) ?_
          with_reducible refine (HF.out _).mono ?_
          rintro e_ w_38 ⟨rfl, hb⟩
          refine ⟨_, rfl, ?_⟩
          have s_0 := blk_below (HH.out) hb
          replace K_gw := Lib.hid (blk_below K_gw.out hb)
          replace K_gm := Lib.hid (blk_below K_gm.out hb)
          replace K_gl := Lib.hid (blk_below K_gl.out hb)
          have hB_39 := Lib.hid (below_step hB_37.out hb)
          clear HH hb hB_37
          refine hK.out _ _ (s_0) (fun hHeld => ?_)
          have HH := Lib.hid hHeld
          clear hHeld s_0
          clear hK K
          refine norm_ (a' := ?_) ?_ ?_
          rotate_left
          · show Act.put _ (some 106) _ = _
            simp only [Act.put, List.setIfInBounds_toArray, List.set_cons_zero, List.set_cons_succ, i64_w, i32_w]
            rfl
          refine one_ (i := 15) (N := some 110) #[true, true, true, true, true, true, true, true, true, true, true, true, true, true, true, true, false, false, false] rfl rfl (by kernel_rfl) (by decide) (fun K hK => ?_)
          refine goes_ Try.func23 (by kernel_rfl) rfl #[.int .u64 (Go.bits .and .u64 (U x) 255), .agg #[.int .u8 kind, .bool exec, .int .u8 priv, .bool v, .bool sum, .bool mxr, .bool vmxr]] (by rfl) rfl rfl (by simp only [List.map_toArray, List.map_cons, List.map_nil]; rfl) ?_
          with_reducible refine (HF5.out _).mono ?_
          rintro e_ w_40 ⟨rfl, hb⟩
          refine ⟨_, rfl, ?_⟩
          have s_0 := blk_below (HH.out) hb
          replace K_gw := Lib.hid (blk_below K_gw.out hb)
          replace K_gm := Lib.hid (blk_below K_gm.out hb)
          replace K_gl := Lib.hid (blk_below K_gl.out hb)
          have hB_41 := Lib.hid (below_step hB_39.out hb)
          clear HH hb hB_39
          refine hK.out _ _ (s_0) (fun hHeld => ?_)
          have HH := Lib.hid hHeld
          clear hHeld s_0
          clear hK K
          refine norm_ (a' := ?_) ?_ ?_
          rotate_left
          · show Act.put _ (some 110) _ = _
            simp only [Act.put, List.setIfInBounds_toArray, List.set_cons_zero, List.set_cons_succ, i64_w, i32_w]
            rfl
          refine pure_ (i := 16) (N := some 111) (v := ?_) (a' := ?_) #[true, true, true, true, true, true, true, true, true, true, true, true, true, true, true, true, true, false, false] rfl rfl (by kernel_rfl) (fun _ _ _ h => h) (Or.inl ⟨by rfl, ?_⟩) ?_ ?_
          rotate_left
          · intro w'
            go_simp
            with_reducible rfl
          rotate_left
          · simp only [Act.put, List.setIfInBounds_toArray, List.set_cons_zero, List.set_cons_succ, i64_w, i32_w]
            rfl
          refine pure_ (i := 17) (N := some 112) (v := ?_) (a' := ?_) #[true, true, true, true, true, true, true, true, true, true, true, true, true, true, true, true, true, true, false] rfl rfl (by kernel_rfl) (fun _ _ _ h => h) (Or.inl ⟨by rfl, ?_⟩) ?_ ?_
          rotate_left
          · intro w'
            go_simp
            with_reducible rfl
          rotate_left
          · simp only [Act.put, List.setIfInBounds_toArray, List.set_cons_zero, List.set_cons_succ, i64_w, i32_w]
            rfl
          refine pure_ (i := 18) (N := some 4) (v := ?_) (a' := ?_) #[true, true, true, true, true, true, true, true, true, true, true, true, true, true, true, true, true, true, true] rfl rfl (by kernel_rfl) (fun _ _ _ h => h) (Or.inl ⟨by rfl, ?_⟩) ?_ ?_
          rotate_left
          · intro w'
            go_simp
            with_reducible rfl
          rotate_left
          · simp only [Act.put, List.setIfInBounds_toArray, List.set_cons_zero, List.set_cons_succ, i64_w, i32_w]
            rfl
          refine done_ (by kernel_rfl) ?_
          try clear HH
          go_wp2
          go_ret
          exact ⟨rfl, hB_41.out⟩
        · skip
          have hA := HA.out; rw [ok] at hA
          have HA := Lib.hid hA; clear hA
          have hA5 := HA5.out; rw [ok] at hA5
          have HA5 := Lib.hid hA5; clear hA5
          have hA2 := HA2.out; rw [F1.out ok] at hA2
          have HA2 := Lib.hid hA2; clear hA2
          have z4 : decide (kind > 2) = false := decide_eq_false (F4.out ok)
          have ep := eq_of_beq p0
          have q0 : (Go.bits .and .u64 (U x) 16 == 0) = false := by rw [U16.out, F2.out ep (ep ▸ ok)]; rfl
          have q1 : (priv != 0) = false := by rw [ep]; rfl
          clear ep
          have hO := HO.out; rw [o1] at hO
          have HO := Lib.hid hO; clear hO
          have hL := HL.out; rw [o2] at hL
          have HL := Lib.hid hL; clear hL
          have ek1 := eq_of_beq k1
          have hAl := HAL.out; rw [F5.out o1 (ek1 ▸ ok)] at hAl
          have HAL := Lib.hid hAl; clear hAl
          have hF := HF.out; rw [fw] at hF
          have HF := Lib.hid hF; clear hF
          have hF5 := HF5.out; rw [fw] at hF5
          have HF5 := Lib.hid hF5; clear hF5
          have hFl := HFL.out; rw [F6.out (ek1 ▸ fw)] at hFl
          have HFL := Lib.hid hFl; clear hFl
          clear ek1
          clear ok o1 o2 fw
          have hu32 := Try.underlying32
          go_enter Try.func6, Try.ntmps6
          go_upto_region 1 with (first | ((with_reducible refine gate_dst (N := 3) rfl ?_); refine box_event ?hg (N := 3) ?hd (cs := #[.int .u8 kind, .bool exec, .int .u8 priv, .bool v, .bool sum, .bool mxr, .bool vmxr]) (t := 32) ?hr ?_; (case hd => rfl); (case hg => rfl); (case hr => first | (go_simp; done) | (go_simp; rfl)); intro gw hg w_1 H1 hb; have hB_2 := Lib.hid (below_step (Below.refl w.heap.size w) hb); have G_gw := Lib.hid (show w.heap.size ≤ gw by rw [hg]; exact ((Below.refl w.heap.size w)).size); have K_gw := Lib.hid (show w_1.heap[gw]? = some (.cells #[.int .u8 kind, .bool exec, .int .u8 priv, .bool v, .bool sum, .bool mxr, .bool vmxr] 32 (0, 0)) from H1); clear hg hb H1))
          go_wp2_with fail
          refine (mezzaninelaw15_awake.calls 6 true _ (pte_awake 1)).mono ?_
          rintro e_3 w_4 ⟨rfl, hb⟩
          have hB_5 := Lib.hid (below_step hB_2.out hb)
          replace K_gw := Lib.hid (blk_below K_gw.out hb)
          clear hb hB_2
          go_upto_region 3 with fail
          go_upto_region 4 with (first | ((with_reducible refine gate_dst (N := 10) rfl ?_); (first | (refine gate_guard (by kernel_rfl) ?_) | skip); refine Kd.event_run rfl (v := .agg #[.int .u8 kind, .bool exec, .int .u8 priv, .bool v, .bool sum, .bool mxr, .bool vmxr]) (w1 := w_4) ?hb ?_; (case hb => exact exec_load_blk rfl rfl K_gw.out Try.underlying32 rfl (by kernel_rfl))) | ((with_reducible refine gate_dst (N := 5) rfl ?_); refine box_event ?hg (N := 5) ?hd (cs := #[.int .u8 0, .bool false, .int .u8 0, .bool false, .bool false, .bool false, .bool false]) (t := 32) ?hr ?_; (case hd => rfl); (case hg => rfl); (case hr => first | (go_simp; done) | (go_simp; rfl)); intro gm hg w_6 H1 hb; have hB_8 := Lib.hid (below_step hB_5.out hb); have G_gm := Lib.hid (show w.heap.size ≤ gm by rw [hg]; exact (hB_5.out).size); have N_gw_gm := Lib.hid (show gw ≠ gm by rw [hg]; exact Nat.ne_of_lt (blk_lt K_gw.out)); replace K_gw := Lib.hid (blk_below K_gw.out hb); have K_gm := Lib.hid (show w_6.heap[gm]? = some (.cells #[.int .u8 0, .bool false, .int .u8 0, .bool false, .bool false, .bool false, .bool false] 32 (0, 0)) from H1); clear hg hb H1 hB_5) | (refine wpList_store_mid rfl 32 (.tmp 5) (.tmp 10) rfl gm 0 #[.int .u8 kind, .bool exec, .int .u8 priv, .bool v, .bool sum, .bool mxr, .bool vmxr] rfl rfl (blk_there K_gm.out) (by kernel_rfl) (by simp [Value.oneCell']) ?_; have hB_9 := Lib.hid (setCells_below G_gm.out (#[.int .u8 kind, .bool exec, .int .u8 priv, .bool v, .bool sum, .bool mxr, .bool vmxr] : Array Value).toList 0 _ hB_8.out); replace K_gw := Lib.hid (setCells_far' (vs := (#[.int .u8 kind, .bool exec, .int .u8 priv, .bool v, .bool sum, .bool mxr, .bool vmxr] : Array Value).toList) (o := 0) N_gw_gm.out K_gw.out); replace K_gm := Lib.hid (blk_putAll (cs := #[.int .u8 kind, .bool exec, .int .u8 priv, .bool v, .bool sum, .bool mxr, .bool vmxr]) K_gm.out rfl); clear hB_8; generalize World.setCells w_6 gm 0 (#[.int .u8 kind, .bool exec, .int .u8 priv, .bool v, .bool sum, .bool mxr, .bool vmxr] : Array Value).toList = w_7 at K_gw K_gm hB_9 ⊢))
          have c_gm_4 := (show World.cell? _ ⟨gm, 4, none⟩ = some (.bool sum) from (blk_cell K_gm.out 4).trans rfl); have f_gm_4 := blk_frozen K_gm.out 4
          have c_gm_5 := (show World.cell? _ ⟨gm, 5, none⟩ = some (.bool mxr) from (blk_cell K_gm.out 5).trans rfl); have f_gm_5 := blk_frozen K_gm.out 5
          have c_gm_6 := (show World.cell? _ ⟨gm, 6, none⟩ = some (.bool vmxr) from (blk_cell K_gm.out 6).trans rfl); have f_gm_6 := blk_frozen K_gm.out 6
          go_upto_region 7 with fail
          clear c_gm_4 f_gm_4 c_gm_5 f_gm_5 c_gm_6 f_gm_6
          have q_g := Lib.hid (blk_put (blk_put (blk_put K_gm.out 4 (.bool true) rfl) 5 (.bool true) rfl) 6 (.bool true) rfl)
          replace K_gw := Lib.hid (blk_far (blk_far (blk_far K_gw.out (p := ⟨gm, 4, none⟩) N_gw_gm.out (.bool true)) (p := ⟨gm, 5, none⟩) N_gw_gm.out (.bool true)) (p := ⟨gm, 6, none⟩) N_gw_gm.out (.bool true))
          have hB_11 := Lib.hid (below_set (j := 6) (v := .bool true) (below_set (j := 5) (v := .bool true) (below_set (j := 4) (v := .bool true) hB_9.out G_gm.out) G_gm.out) G_gm.out)
          clear K_gm hB_9
          generalize (World.setCell (World.setCell (World.setCell w_7 ⟨gm, 4, none⟩ (.bool true)) ⟨gm, 5, none⟩ (.bool true)) ⟨gm, 6, none⟩ (.bool true)) = w_10 at K_gw q_g hB_11 ⊢
          have K_gm := Lib.hid (show w_10.heap[gm]? = some (.cells #[.int .u8 kind, .bool exec, .int .u8 priv, .bool v, .bool true, .bool true, .bool true] 32 (0, 0)) from q_g.out); clear q_g
          go_wp2_with (first | ((with_reducible refine gate_dst (N := 15) rfl ?_); (first | (refine gate_guard (by kernel_rfl) ?_) | skip); refine Kd.event_run rfl (v := .agg #[.int .u8 kind, .bool exec, .int .u8 priv, .bool v, .bool sum, .bool mxr, .bool vmxr]) (w1 := w_10) ?hb ?_; (case hb => exact exec_load_blk rfl rfl K_gw.out Try.underlying32 rfl (by kernel_rfl))))
          refine (HA.out _).mono ?_
          rintro e_12 w_13 ⟨rfl, hb⟩
          have hB_14 := Lib.hid (below_step hB_11.out hb)
          replace K_gw := Lib.hid (blk_below K_gw.out hb)
          replace K_gm := Lib.hid (blk_below K_gm.out hb)
          clear hb hB_11
          have c_gw_0 := (show World.cell? _ ⟨gw, 0, none⟩ = some (.int .u8 kind) from (blk_cell K_gw.out 0).trans rfl); have f_gw_0 := blk_frozen K_gw.out 0
          have c_gw_2 := (show World.cell? _ ⟨gw, 2, none⟩ = some (.int .u8 priv) from (blk_cell K_gw.out 2).trans rfl); have f_gw_2 := blk_frozen K_gw.out 2
          go_wp2_with (first | ((with_reducible refine gate_dst (N := 20) rfl ?_); (first | (refine gate_guard (by kernel_rfl) ?_) | skip); refine Kd.event_run rfl (v := .agg #[.int .u8 kind, .bool exec, .int .u8 priv, .bool v, .bool true, .bool true, .bool true]) (w1 := w_13) ?hb ?_; (case hb => exact exec_load_blk rfl rfl K_gm.out Try.underlying32 rfl (by kernel_rfl))))
          refine (HA2.out _).mono ?_
          rintro e_15 w_16 ⟨rfl, hb⟩
          clear c_gw_0 f_gw_0 c_gw_2 f_gw_2
          have hB_17 := Lib.hid (below_step hB_14.out hb)
          replace K_gw := Lib.hid (blk_below K_gw.out hb)
          replace K_gm := Lib.hid (blk_below K_gm.out hb)
          clear hb hB_14
          have c_gw_0 := (show World.cell? _ ⟨gw, 0, none⟩ = some (.int .u8 kind) from (blk_cell K_gw.out 0).trans rfl); have f_gw_0 := blk_frozen K_gw.out 0
          have c_gw_2 := (show World.cell? _ ⟨gw, 2, none⟩ = some (.int .u8 priv) from (blk_cell K_gw.out 2).trans rfl); have f_gw_2 := blk_frozen K_gw.out 2
          go_upto_region 10 with fail
          go_wp2_with fail
          refine (HO.out _).mono ?_
          rintro e5 w5 ⟨rfl, n_, e5⟩
          clear c_gw_0 f_gw_0 c_gw_2 f_gw_2
          replace K_gw := Lib.hid (show w5.heap[gw]? = some (.cells #[.int .u8 kind, .bool exec, .int .u8 priv, .bool v, .bool sum, .bool mxr, .bool vmxr] 32 (0, 0)) from by rw [e5]; exact blk_drewN K_gw.out n_)
          replace K_gm := Lib.hid (show w5.heap[gm]? = some (.cells #[.int .u8 kind, .bool exec, .int .u8 priv, .bool v, .bool true, .bool true, .bool true] 32 (0, 0)) from by rw [e5]; exact blk_drewN K_gm.out n_)
          have hB_18 := Lib.hid (Below_of e5.symm (pw_below_drewN hB_17.out n_))
          clear e5 hB_17
          have c_gw_0 := (show World.cell? _ ⟨gw, 0, none⟩ = some (.int .u8 kind) from (blk_cell K_gw.out 0).trans rfl); have f_gw_0 := blk_frozen K_gw.out 0
          have c_gw_2 := (show World.cell? _ ⟨gw, 2, none⟩ = some (.int .u8 priv) from (blk_cell K_gw.out 2).trans rfl); have f_gw_2 := blk_frozen K_gw.out 2
          go_wp2_with fail
          refine (HL.out _).mono ?_
          rintro e6 w6 ⟨rfl, n_, e6⟩
          clear c_gw_0 f_gw_0 c_gw_2 f_gw_2
          replace K_gw := Lib.hid (show w6.heap[gw]? = some (.cells #[.int .u8 kind, .bool exec, .int .u8 priv, .bool v, .bool sum, .bool mxr, .bool vmxr] 32 (0, 0)) from by rw [e6]; exact blk_drewN K_gw.out n_)
          replace K_gm := Lib.hid (show w6.heap[gm]? = some (.cells #[.int .u8 kind, .bool exec, .int .u8 priv, .bool v, .bool true, .bool true, .bool true] 32 (0, 0)) from by rw [e6]; exact blk_drewN K_gm.out n_)
          have hB_19 := Lib.hid (Below_of e6.symm (pw_below_drewN hB_18.out n_))
          clear e6 hB_18
          have c_gw_0 := (show World.cell? _ ⟨gw, 0, none⟩ = some (.int .u8 kind) from (blk_cell K_gw.out 0).trans rfl); have f_gw_0 := blk_frozen K_gw.out 0
          have c_gw_2 := (show World.cell? _ ⟨gw, 2, none⟩ = some (.int .u8 priv) from (blk_cell K_gw.out 2).trans rfl); have f_gw_2 := blk_frozen K_gw.out 2
          go_upto_region 11 with fail
          clear c_gw_0 f_gw_0 c_gw_2 f_gw_2
          go_upto_region 12 with (first | ((with_reducible refine gate_dst (N := 77) rfl ?_); (first | (refine gate_guard (by kernel_rfl) ?_) | skip); refine Kd.event_run rfl (v := .agg #[.int .u8 kind, .bool exec, .int .u8 priv, .bool v, .bool sum, .bool mxr, .bool vmxr]) (w1 := w6) ?hb ?_; (case hb => exact exec_load_blk rfl rfl K_gw.out Try.underlying32 rfl (by kernel_rfl))) | ((with_reducible refine gate_dst (N := 7) rfl ?_); refine box_event ?hg (N := 7) ?hd (cs := #[.int .u8 0, .bool false, .int .u8 0, .bool false, .bool false, .bool false, .bool false]) (t := 32) ?hr ?_; (case hd => rfl); (case hg => rfl); (case hr => first | (go_simp; done) | (go_simp; rfl)); intro gl hg w_20 H1 hb; have hB_22 := Lib.hid (below_step hB_19.out hb); have G_gl := Lib.hid (show w.heap.size ≤ gl by rw [hg]; exact (hB_19.out).size); have N_gw_gl := Lib.hid (show gw ≠ gl by rw [hg]; exact Nat.ne_of_lt (blk_lt K_gw.out)); have N_gm_gl := Lib.hid (show gm ≠ gl by rw [hg]; exact Nat.ne_of_lt (blk_lt K_gm.out)); replace K_gw := Lib.hid (blk_below K_gw.out hb); replace K_gm := Lib.hid (blk_below K_gm.out hb); have K_gl := Lib.hid (show w_20.heap[gl]? = some (.cells #[.int .u8 0, .bool false, .int .u8 0, .bool false, .bool false, .bool false, .bool false] 32 (0, 0)) from H1); clear hg hb H1 hB_19) | (refine wpList_store_mid rfl 32 (.tmp 7) (.tmp 77) rfl gl 0 #[.int .u8 kind, .bool exec, .int .u8 priv, .bool v, .bool sum, .bool mxr, .bool vmxr] rfl rfl (blk_there K_gl.out) (by kernel_rfl) (by simp [Value.oneCell']) ?_; have hB_23 := Lib.hid (setCells_below G_gl.out (#[.int .u8 kind, .bool exec, .int .u8 priv, .bool v, .bool sum, .bool mxr, .bool vmxr] : Array Value).toList 0 _ hB_22.out); replace K_gw := Lib.hid (setCells_far' (vs := (#[.int .u8 kind, .bool exec, .int .u8 priv, .bool v, .bool sum, .bool mxr, .bool vmxr] : Array Value).toList) (o := 0) N_gw_gl.out K_gw.out); replace K_gm := Lib.hid (setCells_far' (vs := (#[.int .u8 kind, .bool exec, .int .u8 priv, .bool v, .bool sum, .bool mxr, .bool vmxr] : Array Value).toList) (o := 0) N_gm_gl.out K_gm.out); replace K_gl := Lib.hid (blk_putAll (cs := #[.int .u8 kind, .bool exec, .int .u8 priv, .bool v, .bool sum, .bool mxr, .bool vmxr]) K_gl.out rfl); clear hB_22; generalize World.setCells w_20 gl 0 (#[.int .u8 kind, .bool exec, .int .u8 priv, .bool v, .bool sum, .bool mxr, .bool vmxr] : Array Value).toList = w_21 at K_gw K_gm K_gl hB_23 ⊢))
          have c_gl_0 := (show World.cell? _ ⟨gl, 0, none⟩ = some (.int .u8 kind) from (blk_cell K_gl.out 0).trans rfl); have f_gl_0 := blk_frozen K_gl.out 0
          have c_gl_1 := (show World.cell? _ ⟨gl, 1, none⟩ = some (.bool exec) from (blk_cell K_gl.out 1).trans rfl); have f_gl_1 := blk_frozen K_gl.out 1
          go_upto_region 14 with fail
          clear c_gl_0 f_gl_0 c_gl_1 f_gl_1
          have q_g := Lib.hid (blk_put (blk_put K_gl.out 0 (.int .u8 0) rfl) 1 (.bool false) rfl)
          replace K_gw := Lib.hid (blk_far (blk_far K_gw.out (p := ⟨gl, 0, none⟩) N_gw_gl.out (.int .u8 0)) (p := ⟨gl, 1, none⟩) N_gw_gl.out (.bool false))
          replace K_gm := Lib.hid (blk_far (blk_far K_gm.out (p := ⟨gl, 0, none⟩) N_gm_gl.out (.int .u8 0)) (p := ⟨gl, 1, none⟩) N_gm_gl.out (.bool false))
          have hB_25 := Lib.hid (below_set (j := 1) (v := .bool false) (below_set (j := 0) (v := .int .u8 0) hB_23.out G_gl.out) G_gl.out)
          clear K_gl hB_23
          generalize (World.setCell (World.setCell w_21 ⟨gl, 0, none⟩ (.int .u8 0)) ⟨gl, 1, none⟩ (.bool false)) = w_24 at K_gw K_gm q_g hB_25 ⊢
          have K_gl := Lib.hid (show w_24.heap[gl]? = some (.cells #[.int .u8 0, .bool false, .int .u8 priv, .bool v, .bool sum, .bool mxr, .bool vmxr] 32 (0, 0)) from q_g.out); clear q_g
          go_wp2_with (first | ((with_reducible refine gate_dst (N := 81) rfl ?_); (first | (refine gate_guard (by kernel_rfl) ?_) | skip); refine Kd.event_run rfl (v := .agg #[.int .u8 0, .bool false, .int .u8 priv, .bool v, .bool sum, .bool mxr, .bool vmxr]) (w1 := w_24) ?hb ?_; (case hb => exact exec_load_blk rfl rfl K_gl.out Try.underlying32 rfl (by kernel_rfl))))
          refine (HAL.out _).mono ?_
          rintro e_26 w_27 ⟨rfl, hb⟩
          have hB_28 := Lib.hid (below_step hB_25.out hb)
          replace K_gw := Lib.hid (blk_below K_gw.out hb)
          replace K_gm := Lib.hid (blk_below K_gm.out hb)
          replace K_gl := Lib.hid (blk_below K_gl.out hb)
          clear hb hB_25
          go_wp2_with (first | ((with_reducible refine gate_dst (N := 86) rfl ?_); (first | (refine gate_guard (by kernel_rfl) ?_) | skip); refine Kd.event_run rfl (v := .agg #[.int .u8 kind, .bool exec, .int .u8 priv, .bool v, .bool sum, .bool mxr, .bool vmxr]) (w1 := w_27) ?hb ?_; (case hb => exact exec_load_blk rfl rfl K_gw.out Try.underlying32 rfl (by kernel_rfl))))
          refine (HF.out _).mono ?_
          rintro e_29 w_30 ⟨rfl, hb⟩
          have hB_31 := Lib.hid (below_step hB_28.out hb)
          replace K_gw := Lib.hid (blk_below K_gw.out hb)
          replace K_gm := Lib.hid (blk_below K_gm.out hb)
          replace K_gl := Lib.hid (blk_below K_gl.out hb)
          clear hb hB_28
          go_wp2_with (first | ((with_reducible refine gate_dst (N := 90) rfl ?_); (first | (refine gate_guard (by kernel_rfl) ?_) | skip); refine Kd.event_run rfl (v := .agg #[.int .u8 0, .bool false, .int .u8 priv, .bool v, .bool sum, .bool mxr, .bool vmxr]) (w1 := w_30) ?hb ?_; (case hb => exact exec_load_blk rfl rfl K_gl.out Try.underlying32 rfl (by kernel_rfl))))
          refine (HFL.out _).mono ?_
          rintro e_32 w_33 ⟨rfl, hb⟩
          have hB_34 := Lib.hid (below_step hB_31.out hb)
          replace K_gw := Lib.hid (blk_below K_gw.out hb)
          replace K_gm := Lib.hid (blk_below K_gm.out hb)
          replace K_gl := Lib.hid (blk_below K_gl.out hb)
          clear hb hB_31
          go_upto_region 16 with fail
          refine start_ (n := 19) (S := fun w' => w'.heap[gw]? = some (.cells #[.int .u8 kind, .bool exec, .int .u8 priv, .bool v, .bool sum, .bool mxr, .bool vmxr] 32 (0, 0))) (ds := []) #[false, false, false, false, false, false, false, false, false, false, false, false, false, false, false, false, false, false, false] (by kernel_rfl) rfl rfl (blk_drew K_gw.out) (fun hHeld => ?_)
          replace K_gw := Lib.hid (blk_drew K_gw.out)
          replace K_gm := Lib.hid (blk_drew K_gm.out)
          replace K_gl := Lib.hid (blk_drew K_gl.out)
          have hB_36 := Lib.hid (below_drew1 hB_34.out)
          clear hB_34
          generalize World.drew w_33 = w_35 at K_gw K_gm K_gl hB_36 hHeld ⊢
          refine pure_ (i := 0) (N := some 95) (v := ?_) (a' := ?_) #[true, false, false, false, false, false, false, false, false, false, false, false, false, false, false, false, false, false, false] rfl rfl (by kernel_rfl) (fun _ _ _ h => h) (Or.inl ⟨by rfl, ?_⟩) ?_ ?_
          rotate_left
          · intro w'
            go_simp
            with_reducible rfl
          rotate_left
          · simp only [Act.put, List.setIfInBounds_toArray, List.set_cons_zero, List.set_cons_succ, i64_w, i32_w]
            rfl
          refine pure_ (i := 3) (N := some 98) (v := ?_) (a' := ?_) #[true, false, false, true, false, false, false, false, false, false, false, false, false, false, false, false, false, false, false] rfl rfl (by kernel_rfl) (fun _ _ _ h => h) (Or.inl ⟨by rfl, ?_⟩) ?_ ?_
          rotate_left
          · intro w'
            go_simp
            with_reducible rfl
          rotate_left
          · simp only [Act.put, List.setIfInBounds_toArray, List.set_cons_zero, List.set_cons_succ, i64_w, i32_w]
            rfl
          refine pure_ (i := 4) (N := some 99) (v := ?_) (a' := ?_) #[true, false, false, true, true, false, false, false, false, false, false, false, false, false, false, false, false, false, false] rfl rfl (by kernel_rfl) (fun _ _ _ h => h) (Or.inl ⟨by rfl, ?_⟩) ?_ ?_
          rotate_left
          · intro w'
            go_simp
            with_reducible rfl
          rotate_left
          · simp only [Act.put, List.setIfInBounds_toArray, List.set_cons_zero, List.set_cons_succ, i64_w, i32_w]
            rfl
          refine take_ (i := 1) (N := some 96) (v := .agg #[.int .u8 kind, .bool exec, .int .u8 priv, .bool v, .bool sum, .bool mxr, .bool vmxr]) (a' := ?_) #[true, true, false, true, true, false, false, false, false, false, false, false, false, false, false, false, false, false, false] rfl rfl (by kernel_rfl) (fun _ _ _ h => h) (Or.inl ⟨by rfl, ?_⟩) hHeld ?_ ?_
          · intro w' s0; exact exec_load_blk rfl rfl s0 Try.underlying32 rfl (by kernel_rfl)
          rotate_left
          · simp only [Act.put, List.setIfInBounds_toArray, List.set_cons_zero, List.set_cons_succ, i64_w, i32_w]
            rfl
          refine take_ (i := 5) (N := some 100) (v := .agg #[.int .u8 kind, .bool exec, .int .u8 priv, .bool v, .bool sum, .bool mxr, .bool vmxr]) (a' := ?_) #[true, true, false, true, true, true, false, false, false, false, false, false, false, false, false, false, false, false, false] rfl rfl (by kernel_rfl) (fun _ _ _ h => h) (Or.inl ⟨by rfl, ?_⟩) hHeld ?_ ?_
          · intro w' s0; exact exec_load_blk rfl rfl s0 Try.underlying32 rfl (by kernel_rfl)
          rotate_left
          · simp only [Act.put, List.setIfInBounds_toArray, List.set_cons_zero, List.set_cons_succ, i64_w, i32_w]
            rfl
          have HH := Lib.hid hHeld
          clear hHeld
          refine one_ (i := 2) (N := some 97) #[true, true, true, true, true, true, false, false, false, false, false, false, false, false, false, false, false, false, false] rfl rfl (by kernel_rfl) (by decide) (fun K hK => ?_)
          refine goes_ Try.func21 (by kernel_rfl) rfl #[.int .u64 (U x), .agg #[.int .u8 kind, .bool exec, .int .u8 priv, .bool v, .bool sum, .bool mxr, .bool vmxr]] (by rfl) rfl rfl (by simp only [List.map_toArray, List.map_cons, List.map_nil]; rfl) ?_
          with_reducible refine (HA.out _).mono ?_
          rintro e_ w_37 ⟨rfl, hb⟩
          refine ⟨_, rfl, ?_⟩
          have s_0 := blk_below (HH.out) hb
          replace K_gw := Lib.hid (blk_below K_gw.out hb)
          replace K_gm := Lib.hid (blk_below K_gm.out hb)
          replace K_gl := Lib.hid (blk_below K_gl.out hb)
          have hB_38 := Lib.hid (below_step hB_36.out hb)
          clear HH hb hB_36
          refine hK.out _ _ (s_0) (fun hHeld => ?_)
          have HH := Lib.hid hHeld
          clear hHeld s_0
          clear hK K
          refine norm_ (a' := ?_) ?_ ?_
          rotate_left
          · show Act.put _ (some 97) _ = _
            simp only [Act.put, List.setIfInBounds_toArray, List.set_cons_zero, List.set_cons_succ, i64_w, i32_w]
            rfl
          refine one_ (i := 6) (N := some 101) #[true, true, true, true, true, true, true, false, false, false, false, false, false, false, false, false, false, false, false] rfl rfl (by kernel_rfl) (by decide) (fun K hK => ?_)
          refine goes_ Try.func21 (by kernel_rfl) rfl #[.int .u64 (Go.bits .and .u64 (U x) 255), .agg #[.int .u8 kind, .bool exec, .int .u8 priv, .bool v, .bool sum, .bool mxr, .bool vmxr]] (by rfl) rfl rfl (by simp only [List.map_toArray, List.map_cons, List.map_nil]; rfl) ?_
          with_reducible refine (HA5.out _).mono ?_
          rintro e_ w_39 ⟨rfl, hb⟩
          refine ⟨_, rfl, ?_⟩
          have s_0 := blk_below (HH.out) hb
          replace K_gw := Lib.hid (blk_below K_gw.out hb)
          replace K_gm := Lib.hid (blk_below K_gm.out hb)
          replace K_gl := Lib.hid (blk_below K_gl.out hb)
          have hB_40 := Lib.hid (below_step hB_38.out hb)
          clear HH hb hB_38
          refine hK.out _ _ (s_0) (fun hHeld => ?_)
          have HH := Lib.hid hHeld
          clear hHeld s_0
          clear hK K
          refine norm_ (a' := ?_) ?_ ?_
          rotate_left
          · show Act.put _ (some 101) _ = _
            simp only [Act.put, List.setIfInBounds_toArray, List.set_cons_zero, List.set_cons_succ, i64_w, i32_w]
            rfl
          refine pure_ (i := 7) (N := some 102) (v := ?_) (a' := ?_) #[true, true, true, true, true, true, true, true, false, false, false, false, false, false, false, false, false, false, false] rfl rfl (by kernel_rfl) (fun _ _ _ h => h) (Or.inl ⟨by rfl, ?_⟩) ?_ ?_
          rotate_left
          · intro w'
            go_simp
            with_reducible rfl
          rotate_left
          · simp only [Act.put, List.setIfInBounds_toArray, List.set_cons_zero, List.set_cons_succ, i64_w, i32_w]
            rfl
          refine pure_ (i := 8) (N := some 103) (v := ?_) (a' := ?_) #[true, true, true, true, true, true, true, true, true, false, false, false, false, false, false, false, false, false, false] rfl rfl (by kernel_rfl) (fun _ _ _ h => h) (Or.inl ⟨by rfl, ?_⟩) ?_ ?_
          rotate_left
          · intro w'
            go_simp
            with_reducible rfl
          rotate_left
          · simp only [Act.put, List.setIfInBounds_toArray, List.set_cons_zero, List.set_cons_succ, i64_w, i32_w]
            rfl
          refine pure_ (i := 9) (N := some 104) (v := ?_) (a' := ?_) #[true, true, true, true, true, true, true, true, true, true, false, false, false, false, false, false, false, false, false] rfl rfl (by kernel_rfl) (fun _ _ _ h => h) (Or.inl ⟨by rfl, ?_⟩) ?_ ?_
          rotate_left
          · intro w'
            go_simp
            with_reducible rfl
          rotate_left
          · simp only [Act.put, List.setIfInBounds_toArray, List.set_cons_zero, List.set_cons_succ, i64_w, i32_w]
            rfl
          refine pure_ (i := 12) (N := some 107) (v := ?_) (a' := ?_) #[true, true, true, true, true, true, true, true, true, true, false, false, true, false, false, false, false, false, false] rfl rfl (by kernel_rfl) (fun _ _ _ h => h) (Or.inl ⟨by rfl, ?_⟩) ?_ ?_
          rotate_left
          · intro w'
            go_simp
            with_reducible rfl
          rotate_left
          · simp only [Act.put, List.setIfInBounds_toArray, List.set_cons_zero, List.set_cons_succ, i64_w, i32_w]
            rfl
          refine pure_ (i := 13) (N := some 108) (v := ?_) (a' := ?_) #[true, true, true, true, true, true, true, true, true, true, false, false, true, true, false, false, false, false, false] rfl rfl (by kernel_rfl) (fun _ _ _ h => h) (Or.inl ⟨by rfl, ?_⟩) ?_ ?_
          rotate_left
          · intro w'
            go_simp
            with_reducible rfl
          rotate_left
          · simp only [Act.put, List.setIfInBounds_toArray, List.set_cons_zero, List.set_cons_succ, i64_w, i32_w]
            rfl
          refine take_ (i := 10) (N := some 105) (v := .agg #[.int .u8 kind, .bool exec, .int .u8 priv, .bool v, .bool sum, .bool mxr, .bool vmxr]) (a' := ?_) #[true, true, true, true, true, true, true, true, true, true, true, false, true, true, false, false, false, false, false] rfl rfl (by kernel_rfl) (fun _ _ _ h => h) (Or.inl ⟨by rfl, ?_⟩) HH.out ?_ ?_
          · intro w' s0; exact exec_load_blk rfl rfl s0 Try.underlying32 rfl (by kernel_rfl)
          rotate_left
          · simp only [Act.put, List.setIfInBounds_toArray, List.set_cons_zero, List.set_cons_succ, i64_w, i32_w]
            rfl
          refine take_ (i := 14) (N := some 109) (v := .agg #[.int .u8 kind, .bool exec, .int .u8 priv, .bool v, .bool sum, .bool mxr, .bool vmxr]) (a' := ?_) #[true, true, true, true, true, true, true, true, true, true, true, false, true, true, true, false, false, false, false] rfl rfl (by kernel_rfl) (fun _ _ _ h => h) (Or.inl ⟨by rfl, ?_⟩) HH.out ?_ ?_
          · intro w' s0; exact exec_load_blk rfl rfl s0 Try.underlying32 rfl (by kernel_rfl)
          rotate_left
          · simp only [Act.put, List.setIfInBounds_toArray, List.set_cons_zero, List.set_cons_succ, i64_w, i32_w]
            rfl
          refine one_ (i := 11) (N := some 106) #[true, true, true, true, true, true, true, true, true, true, true, true, true, true, true, false, false, false, false] rfl rfl (by kernel_rfl) (by decide) (fun K hK => ?_)
          refine goes_ Try.func23 (by kernel_rfl) rfl #[.int .u64 (U x), .agg #[.int .u8 kind, .bool exec, .int .u8 priv, .bool v, .bool sum, .bool mxr, .bool vmxr]] (by rfl) rfl rfl (by simp only [List.map_toArray, List.map_cons, List.map_nil]; rfl) ?_
          with_reducible refine (HF.out _).mono ?_
          rintro e_ w_41 ⟨rfl, hb⟩
          refine ⟨_, rfl, ?_⟩
          have s_0 := blk_below (HH.out) hb
          replace K_gw := Lib.hid (blk_below K_gw.out hb)
          replace K_gm := Lib.hid (blk_below K_gm.out hb)
          replace K_gl := Lib.hid (blk_below K_gl.out hb)
          have hB_42 := Lib.hid (below_step hB_40.out hb)
          clear HH hb hB_40
          refine hK.out _ _ (s_0) (fun hHeld => ?_)
          have HH := Lib.hid hHeld
          clear hHeld s_0
          clear hK K
          refine norm_ (a' := ?_) ?_ ?_
          rotate_left
          · show Act.put _ (some 106) _ = _
            simp only [Act.put, List.setIfInBounds_toArray, List.set_cons_zero, List.set_cons_succ, i64_w, i32_w]
            rfl
          refine one_ (i := 15) (N := some 110) #[true, true, true, true, true, true, true, true, true, true, true, true, true, true, true, true, false, false, false] rfl rfl (by kernel_rfl) (by decide) (fun K hK => ?_)
          refine goes_ Try.func23 (by kernel_rfl) rfl #[.int .u64 (Go.bits .and .u64 (U x) 255), .agg #[.int .u8 kind, .bool exec, .int .u8 priv, .bool v, .bool sum, .bool mxr, .bool vmxr]] (by rfl) rfl rfl (by simp only [List.map_toArray, List.map_cons, List.map_nil]; rfl) ?_
          with_reducible refine (HF5.out _).mono ?_
          rintro e_ w_43 ⟨rfl, hb⟩
          refine ⟨_, rfl, ?_⟩
          have s_0 := blk_below (HH.out) hb
          replace K_gw := Lib.hid (blk_below K_gw.out hb)
          replace K_gm := Lib.hid (blk_below K_gm.out hb)
          replace K_gl := Lib.hid (blk_below K_gl.out hb)
          have hB_44 := Lib.hid (below_step hB_42.out hb)
          clear HH hb hB_42
          refine hK.out _ _ (s_0) (fun hHeld => ?_)
          have HH := Lib.hid hHeld
          clear hHeld s_0
          clear hK K
          refine norm_ (a' := ?_) ?_ ?_
          rotate_left
          · show Act.put _ (some 110) _ = _
            simp only [Act.put, List.setIfInBounds_toArray, List.set_cons_zero, List.set_cons_succ, i64_w, i32_w]
            rfl
          refine pure_ (i := 16) (N := some 111) (v := ?_) (a' := ?_) #[true, true, true, true, true, true, true, true, true, true, true, true, true, true, true, true, true, false, false] rfl rfl (by kernel_rfl) (fun _ _ _ h => h) (Or.inl ⟨by rfl, ?_⟩) ?_ ?_
          rotate_left
          · intro w'
            go_simp
            with_reducible rfl
          rotate_left
          · simp only [Act.put, List.setIfInBounds_toArray, List.set_cons_zero, List.set_cons_succ, i64_w, i32_w]
            rfl
          refine pure_ (i := 17) (N := some 112) (v := ?_) (a' := ?_) #[true, true, true, true, true, true, true, true, true, true, true, true, true, true, true, true, true, true, false] rfl rfl (by kernel_rfl) (fun _ _ _ h => h) (Or.inl ⟨by rfl, ?_⟩) ?_ ?_
          rotate_left
          · intro w'
            go_simp
            with_reducible rfl
          rotate_left
          · simp only [Act.put, List.setIfInBounds_toArray, List.set_cons_zero, List.set_cons_succ, i64_w, i32_w]
            rfl
          refine pure_ (i := 18) (N := some 4) (v := ?_) (a' := ?_) #[true, true, true, true, true, true, true, true, true, true, true, true, true, true, true, true, true, true, true] rfl rfl (by kernel_rfl) (fun _ _ _ h => h) (Or.inl ⟨by rfl, ?_⟩) ?_ ?_
          rotate_left
          · intro w'
            go_simp
            with_reducible rfl
          rotate_left
          · simp only [Act.put, List.setIfInBounds_toArray, List.set_cons_zero, List.set_cons_succ, i64_w, i32_w]
            rfl
          refine done_ (by kernel_rfl) ?_
          try clear HH
          go_wp2
          go_ret
          exact ⟨rfl, hB_44.out⟩
end Go.Proofs.YteebgfcihoidmaaR.Pure
