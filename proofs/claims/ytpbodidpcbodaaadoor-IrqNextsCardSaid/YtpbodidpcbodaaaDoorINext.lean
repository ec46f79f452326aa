/- Which interrupt is taken. (By a program of this session.) -/
import Derived.Test.YtpbodidpcbodaaaDoorIOrder
set_option linter.unusedSimpArgs false
set_option linter.unusedVariables false
namespace Go.Proofs.YtpbodidpcbodaaaDoor.Hx
open Go.Proofs.YtpbodidpcbodaaaDoor.Bv Go.RowKit Go.Shelf Go.Proofs.YtpbodidpcbodaaaDoor.Q Go.Proofs.YtpbodidpcbodaaaDoorW.PrintWords Go.Proofs.YtpbodidpcbodaaaDoorW.PrintLast Go.Proofs.YtpbodidpcbodaaaDoorW.PrintMore Go.Proofs.YtpbodidpcbodaaaDoor.Rg

attribute [local go_sem] Oper.semAt_some
/-- The three levels' bits: the machine's, the host's, the guest's. -/
def levelV (h : Ht) (av : Int) (k : Nat) : Int := match k with
  | 0 => Go.bits .andNot .u64 av (h.x 40)
  | 1 => Go.bits .andNot .u64 (Go.bits .and .u64 av (h.x 40)) (h.x 60)
  | _ => Go.bits .and .u64 (Go.bits .and .u64 av (h.x 40)) (h.x 60)
/-- What a level hands out. -/
def candV (h : Ht) (av : Int) (k : Nat) : Option Int := if openV h k = true then pickV (levelV h av k) else none
/-- The interrupt that is taken. -/
def nextTo (h : Ht) (av : Int) : Nat → Option Int
  | 0 => none
  | k + 1 => (nextTo h av k).or (candV h av k)
def nextO (h : Ht) (av : Int) : Option Int := nextTo h av 3
def trapV : Option Int → Array Value
  | none => #[.bool false, .int .u64 0, .int .u64 0, .int .u64 0, .int .u64 0, .bool false]
  | some n => #[.bool true, .int .u64 (Go.bits .or .u64 9223372036854775808 (IntKind.u64.wrap n)), .int .u64 0, .int .u64 0, .int .u64 0, .bool false]
theorem blk_there {w : World} {g n : Nat} {t : TypeId} {cs : Array Value} (K : w.heap[g]? = some (.cells cs t (0, 0))) (hs : cs.size = n) : w.there g 0 n := fun j hj => by
  rw [Nat.zero_add]
  refine ⟨?_, blk_frozen K j⟩
  rw [blk_cell K j, Array.getElem?_eq_getElem (by omega)]; rfl
theorem blk_putAll {w : World} {g : Nat} {t : TypeId} {cs0 : Array Value} (cs : Array Value) (K : w.heap[g]? = some (.cells cs0 t (0, 0))) (hs : cs0.size = cs.size) : (w.setCells g 0 cs.toList).heap[g]? = some (.cells cs t (0, 0)) := by
  obtain ⟨cs', h1, h2⟩ := setCells_block g t cs.toList 0 w _ K
  have hr := World.rangeAt_setCells_same w g 0 cs.toList (by rw [Array.length_toList]; exact blk_there K hs)
  have e : cs' = cs := by
    apply Array.ext (by rw [h2, hs])
    intro i hi hi2
    have := hr i cs[i] (by rw [Array.getElem?_toList, Array.getElem?_eq_getElem hi2])
    rw [Nat.zero_add, blk_cell h1 i, Array.getElem?_eq_getElem hi] at this
    exact Option.some.inj this
  rw [e] at h1
  exact h1
theorem keeps_setCells (g : Nat) : ∀ (vs : List Value) (o : Nat) (W : World), KeepsOthers W (W.setCells g o vs)
  | [], _, W => KeepsOthers.refl W
  | v :: vs, o, W => (KeepsOthers.setCell W ⟨g, o, none⟩ v).trans (keeps_setCells g vs (o + 1) (W.setCell ⟨g, o, none⟩ v))
/-- The marks of the loops that ran out: each one's block lies below the one ahead of it. -/
def Marks (n₀ : Nat) (W : World) : Nat → List Deferred → Prop
  | _, [] => True
  | hi, d :: ds => ∃ D, d = { target := .collected D, args := #[] } ∧ n₀ ≤ D ∧ D < hi ∧ W.heap[D]? = some (.deferred (some [])) ∧ Marks n₀ W D ds
theorem Marks.up {n₀ : Nat} {W : World} {hi hi2 : Nat} (h : hi ≤ hi2) : ∀ {ds : List Deferred}, Marks n₀ W hi ds → Marks n₀ W hi2 ds
  | [], _ => trivial
  | _ :: _, ⟨D, e, h0, h1, h2, h3⟩ => ⟨D, e, h0, Nat.lt_of_lt_of_le h1 h, h2, h3⟩
theorem Marks.keep {n₀ : Nat} {W W' : World} : ∀ {ds : List Deferred} {hi : Nat}, (∀ D, D < hi → W.heap[D]? = some (.deferred (some [])) → W'.heap[D]? = some (.deferred (some []))) → Marks n₀ W hi ds → Marks n₀ W' hi ds
  | [], _, _, _ => trivial
  | _ :: _, _, hk, ⟨D, e, h0, h1, h2, h3⟩ => ⟨D, e, h0, h1, hk D h1 h2, Marks.keep (fun D' h => hk D' (Nat.lt_trans h h1)) h3⟩
theorem Marks.others {n₀ : Nat} {W W' : World} {hi : Nat} {ds : List Deferred} (h : KeepsOthers W W') (m : Marks n₀ W hi ds) : Marks n₀ W' hi ds := m.keep (fun D _ hD => h.same D _ hD rfl)
theorem Marks.own {β : Type} {n₀ hi B : Nat} {ds : List Deferred} (hB : hi ≤ B) : OwnFrom B (fun (_ : β) W => Marks n₀ W hi ds) := fun s A A' row hs hg hr =>
  hs.keep (fun D hD hh => (hg.block D (Array.getElem?_eq_some_iff.1 hh).1 (fun e => by have := (hr D e.symm).1; omega)).trans hh)
theorem blk_own {β : Type} (g B : Nat) (cs : Array Value) (t : TypeId) : OwnFrom B (fun (_ : β) W => W.heap[g]? = some (.cells cs t (0, 0))) := fun s A A' row hs hg hr =>
  (grownBy_keeps_cells hg (fun r e => (hr r e).2) hs rfl).trans hs
theorem pure_own {β : Type} (B : Nat) (p : β → Prop) : OwnFrom B (fun (s : β) (_ : World) => p s) := fun _ _ _ _ hs _ _ => hs
theorem leaves_marks {P : Program} {n n₀ : Nat} {fn : Func} {tmps : Array Value} {R : Ending → World → Prop} (K : World → Prop)
    (hK : ∀ (W : World) (D : Nat), K W → n₀ ≤ D → W.heap[D]? = some (.deferred (some [])) → K (W.putObj D (.deferred none)))
    (hE : ∀ W, K W → ∃ v, (results fn tmps).run P W = .ok v W ∧ R (.returned v) W) :
    ∀ (ds : List Deferred) (hi : Nat) (W : World), Marks n₀ W hi ds → K W → LeavesInM Fence.wide n P fn tmps R ds .returning W
  | [], _, W, _, hk => hE W hk
  | d :: ds, hi, W, ⟨D, e, h0, h1, h2, h3⟩, hk => by
    subst e
    exact ⟨by simp, .inl ⟨D, _, rfl, run_takeDeferred h2, leaves_marks K hK hE ds D _ (h3.keep (fun D' h hh => (World.putObj_heap_other (by omega)).trans hh)) (hK W D hk h0 h2)⟩⟩
theorem nextTo_mono (h : Ht) (av a : Int) (k : Nat) (hh : nextTo h av k = some a) : ∀ j, nextTo h av (k + j) = some a
  | 0 => hh
  | j + 1 => by show (nextTo h av (k + j)).or _ = _; rw [nextTo_mono h av a k hh j]; rfl
theorem bits_u64_range (op : BinOp) (a b : Int) (h : op = .and ∨ op = .andNot) : 0 ≤ Go.bits op .u64 a b ∧ Go.bits op .u64 a b < 18446744073709551616 := by
  rcases h with rfl | rfl
  · rw [and_u64]; exact U_range _
  · rw [andNot_u64]; exact U_range _
theorem levelV_range (h : Ht) (av : Int) (k : Nat) : 0 ≤ levelV h av k ∧ levelV h av k < 18446744073709551616 := by
  unfold levelV
  split
  · exact bits_u64_range _ _ _ (.inr rfl)
  · exact bits_u64_range _ _ _ (.inr rfl)
  · exact bits_u64_range _ _ _ (.inl rfl)
theorem idx3_0 (a b c : Bool) (w : World) : (Instr.index 37 (.agg #[.bool a, .bool b, .bool c]) (.int .i64 0)).run Tryd.prog w = .ok (.bool a) w := by kernel_rfl
theorem idx3_1 (a b c : Bool) (w : World) : (Instr.index 37 (.agg #[.bool a, .bool b, .bool c]) (.int .i64 1)).run Tryd.prog w = .ok (.bool b) w := by kernel_rfl
theorem idx3_2 (a b c : Bool) (w : World) : (Instr.index 37 (.agg #[.bool a, .bool b, .bool c]) (.int .i64 2)).run Tryd.prog w = .ok (.bool c) w := by kernel_rfl

set_option maxHeartbeats 16000000 in
set_option maxRecDepth 100000 in
theorem next_c (h : Ht) (la lb lc ld : Bool) (lg lt : Int) (w : World) (hT : TabZ w) : Calls Tryd.prog 7 #[.agg h.cs, .agg #[.bool la, .bool lb, .bool lc, .bool ld, .int .u64 lg, .int .u64 lt]] w fun e w' => e = .returned (.agg (trapV (nextO h (asksV h la lb lc ld lg lt)))) ∧ Below w.heap.size w w' := by
  have HP := Lib.hid (asks_c h la lb lc ld lg lt)
  have HO := Lib.hid (open_c h)
  generalize asksV h la lb lc ld lg lt = av at *
  have HT := Lib.hid hT
  clear hT
  have hu25 := Tryd.underlying25; have hu27 := Tryd.underlying27
  refine (callsIn_wide (n := 5)).1 (callsIn_of_wp_marks Tryd.func7 rfl trivial ?_ rfl)
  simp only [Tryd.ntmps7, List.size_toArray, List.length_cons, List.length_nil, Nat.reduceAdd, Nat.reduceSub, Array.replicate_succ, Array.replicate_zero, List.push_toArray, List.append_toArray, List.nil_append, List.cons_append]
  refine wpIn_wide.2 ?_
  go_upto_region 1 with (first | ((with_reducible refine gate_dst (N := 2) rfl ?_); refine box_event ?hg (N := 2) ?hd (cs := h.cs) (t := 25) ?hr ?_; (case hd => rfl); (case hg => rfl); (case hr => first | (go_simp; done) | (go_simp; rfl)); intro ga hg w_1 H1 hb; have hB_2 := Lib.hid (below_step (Below.refl w.heap.size w) hb); have G_ga := Lib.hid (show w.heap.size ≤ ga by rw [hg]; exact ((Below.refl w.heap.size w)).size); have K_ga := Lib.hid (show Hb w_1 ga h from H1); clear hg hb H1) | ((with_reducible refine gate_dst (N := 3) rfl ?_); refine box_event ?hg (N := 3) ?hd (cs := #[.bool la, .bool lb, .bool lc, .bool ld, .int .u64 lg, .int .u64 lt]) (t := 27) ?hr ?_; (case hd => rfl); (case hg => rfl); (case hr => first | (go_simp; done) | (go_simp; rfl)); intro gt hg w_3 H1 hb; have hB_4 := Lib.hid (below_step hB_2.out hb); have G_gt := Lib.hid (show w.heap.size ≤ gt by rw [hg]; exact (hB_2.out).size); have N_ga_gt := Lib.hid (show ga ≠ gt by rw [hg]; exact Nat.ne_of_lt (K_ga.out.lt)); replace K_ga := Lib.hid (K_ga.out.below hb); have K_gt := Lib.hid (show w_3.heap[gt]? = some (.cells #[.bool la, .bool lb, .bool lc, .bool ld, .int .u64 lg, .int .u64 lt] 27 (0, 0)) from H1); clear hg hb H1 hB_2) | ((with_reducible refine gate_dst (N := 4) rfl ?_); refine box_event ?hg (N := 4) ?hd (cs := #[.bool false, .int .u64 0, .int .u64 0, .int .u64 0, .int .u64 0, .bool false]) (t := 29) ?hr ?_; (case hd => rfl); (case hg => rfl); (case hr => first | (go_simp; done) | (go_simp; rfl)); intro gr hg w_5 H1 hb; have hB_6 := Lib.hid (below_step hB_4.out hb); have G_gr := Lib.hid (show w.heap.size ≤ gr by rw [hg]; exact (hB_4.out).size); have N_ga_gr := Lib.hid (show ga ≠ gr by rw [hg]; exact Nat.ne_of_lt (K_ga.out.lt)); have N_gt_gr := Lib.hid (show gt ≠ gr by rw [hg]; exact Nat.ne_of_lt (blk_lt K_gt.out)); replace K_ga := Lib.hid (K_ga.out.below hb); replace K_gt := Lib.hid (blk_below K_gt.out hb); have K_gr := Lib.hid (show w_5.heap[gr]? = some (.cells #[.bool false, .int .u64 0, .int .u64 0, .int .u64 0, .int .u64 0, .bool false] 29 (0, 0)) from H1); clear hg hb H1 hB_4))
  go_wp2_with (first | ((with_reducible refine gate_dst (N := 10) rfl ?_); (first | (refine gate_guard (by kernel_rfl) ?_) | skip); refine Kd.event_run rfl (v := .agg (h).cs) (w1 := w_5) ?hb ?_; (case hb => exact exec_load_hart rfl rfl K_ga.out)) | ((with_reducible refine gate_dst (N := 11) rfl ?_); (first | (refine gate_guard (by kernel_rfl) ?_) | skip); refine Kd.event_run rfl (v := .agg #[.bool la, .bool lb, .bool lc, .bool ld, .int .u64 lg, .int .u64 lt]) (w1 := w_5) ?hb ?_; (case hb => exact exec_load_blk rfl rfl K_gt.out Tryd.underlying27 rfl (by kernel_rfl))))
  refine (HP.out _).mono ?_
  rintro e_7 w_8 ⟨rfl, hb⟩
  have hB_9 := Lib.hid (below_step hB_6.out hb)
  replace K_ga := Lib.hid (K_ga.out.below hb)
  replace K_gt := Lib.hid (blk_below K_gt.out hb)
  replace K_gr := Lib.hid (blk_below K_gr.out hb)
  clear hb hB_6
  have c_ga_40 := K_ga.out.u 40 rfl; have f_ga_40 := K_ga.out.fr 40
  have c_ga_60 := K_ga.out.u 60 rfl; have f_ga_60 := K_ga.out.fr 60
  go_upto_region 3 with (first | ((with_reducible refine gate_dst (N := 6) rfl ?_); refine box_event ?hg (N := 6) ?hd (cs := #[.int .u64 0, .int .u64 0, .int .u64 0]) (t := 36) ?hr ?_; (case hd => rfl); (case hg => rfl); (case hr => first | (go_simp; done) | (go_simp; rfl)); intro gl hg w_10 H1 hb; have hB_11 := Lib.hid (below_step hB_9.out hb); have G_gl := Lib.hid (show w.heap.size ≤ gl by rw [hg]; exact (hB_9.out).size); have N_ga_gl := Lib.hid (show ga ≠ gl by rw [hg]; exact Nat.ne_of_lt (K_ga.out.lt)); have N_gt_gl := Lib.hid (show gt ≠ gl by rw [hg]; exact Nat.ne_of_lt (blk_lt K_gt.out)); have N_gr_gl := Lib.hid (show gr ≠ gl by rw [hg]; exact Nat.ne_of_lt (blk_lt K_gr.out)); replace K_ga := Lib.hid (K_ga.out.below hb); replace K_gt := Lib.hid (blk_below K_gt.out hb); replace K_gr := Lib.hid (blk_below K_gr.out hb); have K_gl := Lib.hid (show w_10.heap[gl]? = some (.cells #[.int .u64 0, .int .u64 0, .int .u64 0] 36 (0, 0)) from H1); clear hg hb H1 hB_9) | (refine wpList_store_mid rfl 36 (.tmp 6) (.tmp 31) rfl gl 0 #[.int .u64 (levelV h av 0), .int .u64 (levelV h av 1), .int .u64 (levelV h av 2)] rfl rfl (blk_there K_gl.out rfl) (by kernel_rfl) (by simp [Value.oneCell']) ?_; have hB_13 := Lib.hid (setCells_below G_gl.out (Array.toList #[.int .u64 (levelV h av 0), .int .u64 (levelV h av 1), .int .u64 (levelV h av 2)]) 0 _ hB_11.out); replace K_ga := Lib.hid (Hb.farAll (vs := Array.toList #[.int .u64 (levelV h av 0), .int .u64 (levelV h av 1), .int .u64 (levelV h av 2)]) (o := 0) N_ga_gl.out K_ga.out); replace K_gt := Lib.hid (setCells_far' (vs := Array.toList #[.int .u64 (levelV h av 0), .int .u64 (levelV h av 1), .int .u64 (levelV h av 2)]) (o := 0) N_gt_gl.out K_gt.out); replace K_gr := Lib.hid (setCells_far' (vs := Array.toList #[.int .u64 (levelV h av 0), .int .u64 (levelV h av 1), .int .u64 (levelV h av 2)]) (o := 0) N_gr_gl.out K_gr.out); replace K_gl := Lib.hid (blk_putAll #[.int .u64 (levelV h av 0), .int .u64 (levelV h av 1), .int .u64 (levelV h av 2)] K_gl.out rfl); clear hB_11; generalize World.setCells w_10 gl 0 (Array.toList #[.int .u64 (levelV h av 0), .int .u64 (levelV h av 1), .int .u64 (levelV h av 2)]) = w_12 at K_ga K_gt K_gr K_gl hB_13 ⊢))
  clear c_ga_40 f_ga_40 c_ga_60 f_ga_60
  go_upto_region 4 with (first | ((with_reducible refine gate_dst (N := 32) rfl ?_); (first | (refine gate_guard (by kernel_rfl) ?_) | skip); refine Kd.event_run rfl (v := .agg (h).cs) (w1 := w_12) ?hb ?_; (case hb => exact exec_load_hart rfl rfl K_ga.out)))
  refine (HO.out _).mono ?_
  rintro e_14 w_15 ⟨rfl, hb⟩
  have hB_16 := Lib.hid (below_step hB_13.out hb)
  replace K_ga := Lib.hid (K_ga.out.below hb)
  replace K_gt := Lib.hid (blk_below K_gt.out hb)
  replace K_gr := Lib.hid (blk_below K_gr.out hb)
  replace K_gl := Lib.hid (blk_below K_gl.out hb)
  clear hb hB_13
  clear K_ga K_gt N_ga_gt N_ga_gr N_gt_gr N_ga_gl N_gt_gl G_ga G_gt G_gl N_gr_gl
  go_wp2
  refine wp_loop (fun a wr => ∃ (k : Nat) (ds : List Deferred) (u0 u1 u2 u3 u5 u7 u8 u9 u10 u11 u12 u13 u14 u15 u16 u17 u18 u19 u20 u21 u22 u23 u24 u25 u26 u27 u28 u29 u30 u31 u32 u33 u35 u36 u37 u38 u39 u40 u41 u42 u43 u44 u45 u46 u47 u48 u49 u50 : Value), a = { tmps := #[u0, u1, u2, u3, .pointer (some ⟨gr, 0, none⟩), u5, .pointer (some ⟨gl, 0, none⟩), u7, u8, u9, u10, u11, u12, u13, u14, u15, u16, u17, u18, u19, u20, u21, u22, u23, u24, u25, u26, u27, u28, u29, u30, u31, u32, u33, .int .i64 ((k : Int)), u35, u36, u37, u38, u39, u40, u41, u42, u43, u44, u45, u46, u47, u48, u49, u50], defers := ds } ∧ u33 = .agg #[.bool (openV h 0), .bool (openV h 1), .bool (openV h 2)] ∧ k ≤ 3 ∧ nextTo h av k = none ∧ Marks w.heap.size wr wr.heap.size ds ∧ (wr.heap[gl]? = some (.cells #[.int .u64 (levelV h av 0), .int .u64 (levelV h av 1), .int .u64 (levelV h av 2)] 36 (0, 0))) ∧ (wr.heap[gr]? = some (.cells #[.bool false, .int .u64 0, .int .u64 0, .int .u64 0, .int .u64 0, .bool false] 29 (0, 0))) ∧ Below w.heap.size w wr) (fun a _ => 3 - (intOf (a.tmps.getD 34 undef)).toNat) ?start ?round
  case start => exact ⟨0, [], _, _, _, _, _, _, _, _, _, _, _, _, _, _, _, _, _, _, _, _, _, _, _, _, _, _, _, _, _, _, _, _, _, _, _, _, _, _, _, _, _, _, _, _, _, _, _, _, rfl, rfl, by decide, rfl, trivial, K_gl.out, K_gr.out, hB_16.out⟩
  case round =>
    clear K_gl K_gr hB_16
    rintro a wr ⟨k, ds, u0, u1, u2, u3, u5, u7, u8, u9, u10, u11, u12, u13, u14, u15, u16, u17, u18, u19, u20, u21, u22, u23, u24, u25, u26, u27, u28, u29, u30, u31, u32, u33, u35, u36, u37, u38, u39, u40, u41, u42, u43, u44, u45, u46, u47, u48, u49, u50, rfl, h33, hk, hn, hm, hl, hr, hB⟩
    have K_gl := Lib.hid hl; have K_gr := Lib.hid hr; have HB := Lib.hid hB; have HM := Lib.hid hm; have HN := Lib.hid hn; clear hl hr hB hm hn
    subst h33
    rcases Nat.eq_or_lt_of_le hk with rfl | hk3
    · clear hk
      have hnx : nextO h av = none := HN.out
      have c_gr_0 := (show World.cell? _ ⟨gr, 0, none⟩ = some (.bool false) from (blk_cell K_gr.out 0).trans rfl); have f_gr_0 := blk_frozen K_gr.out 0
      have c_gr_1 := (show World.cell? _ ⟨gr, 1, none⟩ = some (.int .u64 0) from (blk_cell K_gr.out 1).trans rfl); have f_gr_1 := blk_frozen K_gr.out 1
      have c_gr_2 := (show World.cell? _ ⟨gr, 2, none⟩ = some (.int .u64 0) from (blk_cell K_gr.out 2).trans rfl); have f_gr_2 := blk_frozen K_gr.out 2
      have c_gr_3 := (show World.cell? _ ⟨gr, 3, none⟩ = some (.int .u64 0) from (blk_cell K_gr.out 3).trans rfl); have f_gr_3 := blk_frozen K_gr.out 3
      have c_gr_4 := (show World.cell? _ ⟨gr, 4, none⟩ = some (.int .u64 0) from (blk_cell K_gr.out 4).trans rfl); have f_gr_4 := blk_frozen K_gr.out 4
      have c_gr_5 := (show World.cell? _ ⟨gr, 5, none⟩ = some (.bool false) from (blk_cell K_gr.out 5).trans rfl); have f_gr_5 := blk_frozen K_gr.out 5
      go_wp2
      exact leaves_marks (n₀ := w.heap.size) (fun W => Below w.heap.size w W ∧ W.heap[gr]? = some (.cells (trapV none) 29 (0, 0))) (fun W D hk h0 hD => ⟨hk.1.trans (belowK_b (w := w) (Nat.le_refl _) W D _ _ h0 hD rfl rfl), (World.putObj_heap_other (fun e => by rw [← e, hk.2] at hD; cases hD)).trans hk.2⟩) (fun W hk => ⟨_, results_cell_row rfl _ _ gr 29 _ (0, 0) _ rfl hk.2 Tryd.underlying29 rfl (by kernel_rfl), by rw [hnx], hk.1⟩) _ _ _ (HM.out.others (keeps_setCells gr (trapV none).toList 0 _)) ⟨setCells_below G_gr.out (trapV none).toList 0 _ HB.out, blk_putAll (trapV none) K_gr.out rfl⟩
    · clear hk
      rcases (by omega : k = 0 ∨ k = 1 ∨ k = 2) with rfl | rfl | rfl
      · clear hk3
        rcases (Bool.eq_false_or_eq_true (openV h 0)).symm with ho | ho
        · have i0 : ∀ w', (Instr.index 37 (.agg #[.bool false, .bool (openV h 1), .bool (openV h 2)]) (.int .i64 0)).run Tryd.prog w' = .ok (.bool false) w' := fun w' => idx3_0 false (openV h 1) (openV h 2) w'
          go_wp2
          exact ⟨⟨1, ds, _, _, _, _, _, _, _, _, _, _, _, _, _, _, _, _, _, _, _, _, _, _, _, _, _, _, _, _, _, _, _, _, _, _, _, _, _, _, _, _, _, _, _, _, _, _, _, _, rfl, by rw [ho], by decide, (by show (nextTo h av 0).or (candV h av 0) = none; rw [HN.out, candV, ho]; rfl), HM.out, K_gl.out, K_gr.out, HB.out⟩, (show (2 : Nat) < 3 by decide)⟩
        · have i0 : ∀ w', (Instr.index 37 (.agg #[.bool true, .bool (openV h 1), .bool (openV h 2)]) (.int .i64 0)).run Tryd.prog w' = .ok (.bool true) w' := fun w' => idx3_0 true (openV h 1) (openV h 2) w'
          have c_gl_0 := (show World.cell? _ ⟨gl, 0, none⟩ = some (.int .u64 (levelV h av 0)) from (blk_cell K_gl.out 0).trans rfl); have f_gl_0 := blk_frozen K_gl.out 0
          go_wp2
          have KL := blk_alloc K_gl.out (.cells #[.int .u64 (levelV h av 0)] 22)
          have KR := blk_alloc K_gr.out (.cells #[.int .u64 (levelV h av 0)] 22)
          have KB := Below.alloc HB.out HB.out.size (.cells #[.int .u64 (levelV h av 0)] 22)
          have KM := HM.out.others (KeepsOthers.alloc wr (.cells #[.int .u64 (levelV h av 0)] 22))
          have KX := World.alloc_heap_new wr (.cells #[.int .u64 (levelV h av 0)] 22)
          have KS : wr.heap.size ≤ (wr.alloc (.cells #[.int .u64 (levelV h av 0)] 22)).heap.size := by simp
          generalize wr.alloc (.cells #[.int .u64 (levelV h av 0)] 22) = W0 at *
          have KC : W0.cell? ⟨wr.heap.size, 0, none⟩ = some (.int .u64 (levelV h av 0)) := (blk_cell KX 0).trans rfl
          replace KM := KM.up KS
          have KT := TabZ.from HT.out KB
          refine wpIn_wide.1 (wpIn_rangeFunc_ownF (F := Fence.wide) (n := 5) rfl (by decide) (gf := 24) (lb := #[.pointer (some ⟨wr.heap.size, 0, none⟩)]) rfl trivial (enters_of Tryd.func24 (by kernel_rfl) rfl)
            (order_stops 4 (by decide) wr.heap.size (levelV h av 0) (levelV_range h av 0) W0 KC KT) belowK_t (belowK_b (Nat.le_refl _)) (Below.refl _ _) (fun _ => rfl)
            (fun pre W => (pre = [] ∧ (W.heap[gl]? = some (.cells #[.int .u64 (levelV h av 0), .int .u64 (levelV h av 1), .int .u64 (levelV h av 2)] 36 (0, 0))) ∧ (W.heap[gr]? = some (.cells #[.bool false, .int .u64 0, .int .u64 0, .int .u64 0, .int .u64 0, .bool false] 29 (0, 0))) ∧ Marks w.heap.size W W0.heap.size ds) ∧ Below w.heap.size w W)
            (fun c pre W => ((c = .ret ∧ ∃ x : Int, pre = [x] ∧ W.heap[gr]? = some (.cells (trapV (some x)) 29 (0, 0))) ∧ Marks w.heap.size W W0.heap.size ds) ∧ Below w.heap.size w W)
            (OwnFrom.and (OwnFrom.and (pure_own _ (fun pre => pre = [])) (OwnFrom.and (blk_own gl _ _ _) (OwnFrom.and (blk_own gr _ _ _) (Marks.own (Nat.le_refl _))))) (ownFrom_below (Nat.le_refl _) KB.size))
            (fun c => OwnFrom.and (OwnFrom.and (fun s A B row hs hg hr => (by obtain ⟨e, x, hp, hb⟩ := hs; exact ⟨e, x, hp, (grownBy_keeps_cells hg (fun r e => (hr r e).2) hb rfl).trans hb⟩)) (Marks.own (Nat.le_refl _))) (ownFrom_below (Nat.le_refl _) KB.size))
            ⟨⟨rfl, KL, KR, KM⟩, KB⟩ (fun x => { tmps := #[u0, u1, u2, u3, .pointer (some ⟨gr, 0, none⟩), u5, .pointer (some ⟨gl, 0, none⟩), .int .i64 0, .bool true, .int .i64 x, u10, u11, u12, u13, u14, u15, u16, u17, u18, u19, u20, u21, u22, u23, u24, u25, u26, u27, u28, u29, u30, u31, u32, .agg #[.bool true, .bool (openV h 1), .bool (openV h 2)], .int .i64 0, .bool true, .int .i64 0, .bool true, .bool true, .bool false, .int .i64 0, .pointer (some ⟨gl, 0, none⟩), .int .u64 (levelV h av 0), .func (.func 24) #[] #[.pointer (some ⟨wr.heap.size, 0, none⟩)], .int .i64 x, u45, u46, u47, u48, u49, u50], defers := [] }) ?assign ?body ?done ?stop)
          case assign =>
            intro l x W K hK
            gi_wp2
            exact hK
          case body =>
            rintro l pre x W ⟨⟨rfl, hl, hr, hm⟩, hB⟩ _
            have c_gr_0 := (show World.cell? _ ⟨gr, 0, none⟩ = some (.bool false) from (blk_cell hr 0).trans rfl); have f_gr_0 := blk_frozen hr 0
            have c_gr_1 := (show World.cell? _ ⟨gr, 1, none⟩ = some (.int .u64 0) from (blk_cell hr 1).trans rfl); have f_gr_1 := blk_frozen hr 1
            have c_gr_2 := (show World.cell? _ ⟨gr, 2, none⟩ = some (.int .u64 0) from (blk_cell hr 2).trans rfl); have f_gr_2 := blk_frozen hr 2
            have c_gr_3 := (show World.cell? _ ⟨gr, 3, none⟩ = some (.int .u64 0) from (blk_cell hr 3).trans rfl); have f_gr_3 := blk_frozen hr 3
            have c_gr_4 := (show World.cell? _ ⟨gr, 4, none⟩ = some (.int .u64 0) from (blk_cell hr 4).trans rfl); have f_gr_4 := blk_frozen hr 4
            have c_gr_5 := (show World.cell? _ ⟨gr, 5, none⟩ = some (.bool false) from (blk_cell hr 5).trans rfl); have f_gr_5 := blk_frozen hr 5
            gi_wp2
            exact ⟨keeps_setCells gr (trapV (some x)).toList 0 W, ⟨⟨rfl, x, rfl, blk_putAll (trapV (some x)) hr rfl⟩, hm.others (keeps_setCells gr (trapV (some x)).toList 0 W)⟩, setCells_below G_gr.out (trapV (some x)).toList 0 W hB⟩
          case done =>
            rintro D ys W hD hS ⟨⟨rfl, hl, hr, hm⟩, hB⟩ hK
            have hpk : pickV (levelV h av 0) = none := hS.symm
            go_wp2
            exact ⟨⟨1, { target := .collected D, args := #[] } :: ds, _, _, _, _, _, _, _, _, _, _, _, _, _, _, _, _, _, _, _, _, _, _, _, _, _, _, _, _, _, _, _, _, _, _, _, _, _, _, _, _, _, _, _, _, _, _, _, _, rfl, by rw [ho], by decide, (by show (nextTo h av 0).or (candV h av 0) = none; rw [HN.out, candV, if_pos ho, hpk]; rfl), ⟨D, rfl, Nat.le_trans KB.size hD, (Array.getElem?_eq_some_iff.1 hK).1, hK, hm.up hD⟩, hl, hr, hB⟩, (show (2 : Nat) < 3 by decide)⟩
          case stop =>
            rintro D c pre W hD hSp ⟨⟨⟨rfl, x, rfl, hr⟩, hm⟩, hB⟩ hK
            have hnx : nextO h av = some x := nextTo_mono h av x 1 (by show (nextTo h av 0).or (candV h av 0) = some x; rw [HN.out, candV, if_pos ho, ← hSp.2]; rfl) 2
            gi_wp2
            exact leaves_marks (n₀ := w.heap.size) (fun W => Below w.heap.size w W ∧ W.heap[gr]? = some (.cells (trapV (some x)) 29 (0, 0))) (fun W D hk h0 hD => ⟨hk.1.trans (belowK_b (w := w) (Nat.le_refl _) W D _ _ h0 hD rfl rfl), (World.putObj_heap_other (fun e => by rw [← e, hk.2] at hD; cases hD)).trans hk.2⟩) (fun W hk => ⟨_, results_cell_row rfl _ _ gr 29 _ (0, 0) _ rfl hk.2 Tryd.underlying29 rfl (by kernel_rfl), by rw [hnx], hk.1⟩) _ _ _ ⟨D, rfl, Nat.le_trans KB.size hD, (Array.getElem?_eq_some_iff.1 hK).1, hK, hm.up hD⟩ ⟨hB, hr⟩
      · clear hk3
        rcases (Bool.eq_false_or_eq_true (openV h 1)).symm with ho | ho
        · have i0 : ∀ w', (Instr.index 37 (.agg #[.bool (openV h 0), .bool false, .bool (openV h 2)]) (.int .i64 1)).run Tryd.prog w' = .ok (.bool false) w' := fun w' => idx3_1 (openV h 0) false (openV h 2) w'
          go_wp2
          exact ⟨⟨2, ds, _, _, _, _, _, _, _, _, _, _, _, _, _, _, _, _, _, _, _, _, _, _, _, _, _, _, _, _, _, _, _, _, _, _, _, _, _, _, _, _, _, _, _, _, _, _, _, _, rfl, by rw [ho], by decide, (by show (nextTo h av 1).or (candV h av 1) = none; rw [HN.out, candV, ho]; rfl), HM.out, K_gl.out, K_gr.out, HB.out⟩, (show (1 : Nat) < 2 by decide)⟩
        · have i0 : ∀ w', (Instr.index 37 (.agg #[.bool (openV h 0), .bool true, .bool (openV h 2)]) (.int .i64 1)).run Tryd.prog w' = .ok (.bool true) w' := fun w' => idx3_1 (openV h 0) true (openV h 2) w'
          have c_gl_1 := (show World.cell? _ ⟨gl, 1, none⟩ = some (.int .u64 (levelV h av 1)) from (blk_cell K_gl.out 1).trans rfl); have f_gl_1 := blk_frozen K_gl.out 1
          go_wp2
          have KL := blk_alloc K_gl.out (.cells #[.int .u64 (levelV h av 1)] 22)
          have KR := blk_alloc K_gr.out (.cells #[.int .u64 (levelV h av 1)] 22)
          have KB := Below.alloc HB.out HB.out.size (.cells #[.int .u64 (levelV h av 1)] 22)
          have KM := HM.out.others (KeepsOthers.alloc wr (.cells #[.int .u64 (levelV h av 1)] 22))
          have KX := World.alloc_heap_new wr (.cells #[.int .u64 (levelV h av 1)] 22)
          have KS : wr.heap.size ≤ (wr.alloc (.cells #[.int .u64 (levelV h av 1)] 22)).heap.size := by simp
          generalize wr.alloc (.cells #[.int .u64 (levelV h av 1)] 22) = W0 at *
          have KC : W0.cell? ⟨wr.heap.size, 0, none⟩ = some (.int .u64 (levelV h av 1)) := (blk_cell KX 0).trans rfl
          replace KM := KM.up KS
          have KT := TabZ.from HT.out KB
          refine wpIn_wide.1 (wpIn_rangeFunc_ownF (F := Fence.wide) (n := 5) rfl (by decide) (gf := 24) (lb := #[.pointer (some ⟨wr.heap.size, 0, none⟩)]) rfl trivial (enters_of Tryd.func24 (by kernel_rfl) rfl)
            (order_stops 4 (by decide) wr.heap.size (levelV h av 1) (levelV_range h av 1) W0 KC KT) belowK_t (belowK_b (Nat.le_refl _)) (Below.refl _ _) (fun _ => rfl)
            (fun pre W => (pre = [] ∧ (W.heap[gl]? = some (.cells #[.int .u64 (levelV h av 0), .int .u64 (levelV h av 1), .int .u64 (levelV h av 2)] 36 (0, 0))) ∧ (W.heap[gr]? = some (.cells #[.bool false, .int .u64 0, .int .u64 0, .int .u64 0, .int .u64 0, .bool false] 29 (0, 0))) ∧ Marks w.heap.size W W0.heap.size ds) ∧ Below w.heap.size w W)
            (fun c pre W => ((c = .ret ∧ ∃ x : Int, pre = [x] ∧ W.heap[gr]? = some (.cells (trapV (some x)) 29 (0, 0))) ∧ Marks w.heap.size W W0.heap.size ds) ∧ Below w.heap.size w W)
            (OwnFrom.and (OwnFrom.and (pure_own _ (fun pre => pre = [])) (OwnFrom.and (blk_own gl _ _ _) (OwnFrom.and (blk_own gr _ _ _) (Marks.own (Nat.le_refl _))))) (ownFrom_below (Nat.le_refl _) KB.size))
            (fun c => OwnFrom.and (OwnFrom.and (fun s A B row hs hg hr => (by obtain ⟨e, x, hp, hb⟩ := hs; exact ⟨e, x, hp, (grownBy_keeps_cells hg (fun r e => (hr r e).2) hb rfl).trans hb⟩)) (Marks.own (Nat.le_refl _))) (ownFrom_below (Nat.le_refl _) KB.size))
            ⟨⟨rfl, KL, KR, KM⟩, KB⟩ (fun x => { tmps := #[u0, u1, u2, u3, .pointer (some ⟨gr, 0, none⟩), u5, .pointer (some ⟨gl, 0, none⟩), .int .i64 1, .bool true, .int .i64 x, u10, u11, u12, u13, u14, u15, u16, u17, u18, u19, u20, u21, u22, u23, u24, u25, u26, u27, u28, u29, u30, u31, u32, .agg #[.bool (openV h 0), .bool true, .bool (openV h 2)], .int .i64 1, .bool true, .int .i64 1, .bool true, .bool true, .bool false, .int .i64 1, .pointer (some ⟨gl, 1, none⟩), .int .u64 (levelV h av 1), .func (.func 24) #[] #[.pointer (some ⟨wr.heap.size, 0, none⟩)], .int .i64 x, u45, u46, u47, u48, u49, u50], defers := [] }) ?assign ?body ?done ?stop)
          case assign =>
            intro l x W K hK
            gi_wp2
            exact hK
          case body =>
            rintro l pre x W ⟨⟨rfl, hl, hr, hm⟩, hB⟩ _
            have c_gr_0 := (show World.cell? _ ⟨gr, 0, none⟩ = some (.bool false) from (blk_cell hr 0).trans rfl); have f_gr_0 := blk_frozen hr 0
            have c_gr_1 := (show World.cell? _ ⟨gr, 1, none⟩ = some (.int .u64 0) from (blk_cell hr 1).trans rfl); have f_gr_1 := blk_frozen hr 1
            have c_gr_2 := (show World.cell? _ ⟨gr, 2, none⟩ = some (.int .u64 0) from (blk_cell hr 2).trans rfl); have f_gr_2 := blk_frozen hr 2
            have c_gr_3 := (show World.cell? _ ⟨gr, 3, none⟩ = some (.int .u64 0) from (blk_cell hr 3).trans rfl); have f_gr_3 := blk_frozen hr 3
            have c_gr_4 := (show World.cell? _ ⟨gr, 4, none⟩ = some (.int .u64 0) from (blk_cell hr 4).trans rfl); have f_gr_4 := blk_frozen hr 4
            have c_gr_5 := (show World.cell? _ ⟨gr, 5, none⟩ = some (.bool false) from (blk_cell hr 5).trans rfl); have f_gr_5 := blk_frozen hr 5
            gi_wp2
            exact ⟨keeps_setCells gr (trapV (some x)).toList 0 W, ⟨⟨rfl, x, rfl, blk_putAll (trapV (some x)) hr rfl⟩, hm.others (keeps_setCells gr (trapV (some x)).toList 0 W)⟩, setCells_below G_gr.out (trapV (some x)).toList 0 W hB⟩
          case done =>
            rintro D ys W hD hS ⟨⟨rfl, hl, hr, hm⟩, hB⟩ hK
            have hpk : pickV (levelV h av 1) = none := hS.symm
            go_wp2
            exact ⟨⟨2, { target := .collected D, args := #[] } :: ds, _, _, _, _, _, _, _, _, _, _, _, _, _, _, _, _, _, _, _, _, _, _, _, _, _, _, _, _, _, _, _, _, _, _, _, _, _, _, _, _, _, _, _, _, _, _, _, _, rfl, by rw [ho], by decide, (by show (nextTo h av 1).or (candV h av 1) = none; rw [HN.out, candV, if_pos ho, hpk]; rfl), ⟨D, rfl, Nat.le_trans KB.size hD, (Array.getElem?_eq_some_iff.1 hK).1, hK, hm.up hD⟩, hl, hr, hB⟩, (show (1 : Nat) < 2 by decide)⟩
          case stop =>
            rintro D c pre W hD hSp ⟨⟨⟨rfl, x, rfl, hr⟩, hm⟩, hB⟩ hK
            have hnx : nextO h av = some x := nextTo_mono h av x 2 (by show (nextTo h av 1).or (candV h av 1) = some x; rw [HN.out, candV, if_pos ho, ← hSp.2]; rfl) 1
            gi_wp2
            exact leaves_marks (n₀ := w.heap.size) (fun W => Below w.heap.size w W ∧ W.heap[gr]? = some (.cells (trapV (some x)) 29 (0, 0))) (fun W D hk h0 hD => ⟨hk.1.trans (belowK_b (w := w) (Nat.le_refl _) W D _ _ h0 hD rfl rfl), (World.putObj_heap_other (fun e => by rw [← e, hk.2] at hD; cases hD)).trans hk.2⟩) (fun W hk => ⟨_, results_cell_row rfl _ _ gr 29 _ (0, 0) _ rfl hk.2 Tryd.underlying29 rfl (by kernel_rfl), by rw [hnx], hk.1⟩) _ _ _ ⟨D, rfl, Nat.le_trans KB.size hD, (Array.getElem?_eq_some_iff.1 hK).1, hK, hm.up hD⟩ ⟨hB, hr⟩
      · clear hk3
        rcases (Bool.eq_false_or_eq_true (openV h 2)).symm with ho | ho
        · have i0 : ∀ w', (Instr.index 37 (.agg #[.bool (openV h 0), .bool (openV h 1), .bool false]) (.int .i64 2)).run Tryd.prog w' = .ok (.bool false) w' := fun w' => idx3_2 (openV h 0) (openV h 1) false w'
          go_wp2
          exact ⟨⟨3, ds, _, _, _, _, _, _, _, _, _, _, _, _, _, _, _, _, _, _, _, _, _, _, _, _, _, _, _, _, _, _, _, _, _, _, _, _, _, _, _, _, _, _, _, _, _, _, _, _, rfl, by rw [ho], by decide, (by show (nextTo h av 2).or (candV h av 2) = none; rw [HN.out, candV, ho]; rfl), HM.out, K_gl.out, K_gr.out, HB.out⟩, (show (0 : Nat) < 1 by decide)⟩
        · have i0 : ∀ w', (Instr.index 37 (.agg #[.bool (openV h 0), .bool (openV h 1), .bool true]) (.int .i64 2)).run Tryd.prog w' = .ok (.bool true) w' := fun w' => idx3_2 (openV h 0) (openV h 1) true w'
          have c_gl_2 := (show World.cell? _ ⟨gl, 2, none⟩ = some (.int .u64 (levelV h av 2)) from (blk_cell K_gl.out 2).trans rfl); have f_gl_2 := blk_frozen K_gl.out 2
          go_wp2
          have KL := blk_alloc K_gl.out (.cells #[.int .u64 (levelV h av 2)] 22)
          have KR := blk_alloc K_gr.out (.cells #[.int .u64 (levelV h av 2)] 22)
          have KB := Below.alloc HB.out HB.out.size (.cells #[.int .u64 (levelV h av 2)] 22)
          have KM := HM.out.others (KeepsOthers.alloc wr (.cells #[.int .u64 (levelV h av 2)] 22))
          have KX := World.alloc_heap_new wr (.cells #[.int .u64 (levelV h av 2)] 22)
          have KS : wr.heap.size ≤ (wr.alloc (.cells #[.int .u64 (levelV h av 2)] 22)).heap.size := by simp
          generalize wr.alloc (.cells #[.int .u64 (levelV h av 2)] 22) = W0 at *
          have KC : W0.cell? ⟨wr.heap.size, 0, none⟩ = some (.int .u64 (levelV h av 2)) := (blk_cell KX 0).trans rfl
          replace KM := KM.up KS
          have KT := TabZ.from HT.out KB
          refine wpIn_wide.1 (wpIn_rangeFunc_ownF (F := Fence.wide) (n := 5) rfl (by decide) (gf := 24) (lb := #[.pointer (some ⟨wr.heap.size, 0, none⟩)]) rfl trivial (enters_of Tryd.func24 (by kernel_rfl) rfl)
            (order_stops 4 (by decide) wr.heap.size (levelV h av 2) (levelV_range h av 2) W0 KC KT) belowK_t (belowK_b (Nat.le_refl _)) (Below.refl _ _) (fun _ => rfl)
            (fun pre W => (pre = [] ∧ (W.heap[gl]? = some (.cells #[.int .u64 (levelV h av 0), .int .u64 (levelV h av 1), .int .u64 (levelV h av 2)] 36 (0, 0))) ∧ (W.heap[gr]? = some (.cells #[.bool false, .int .u64 0, .int .u64 0, .int .u64 0, .int .u64 0, .bool false] 29 (0, 0))) ∧ Marks w.heap.size W W0.heap.size ds) ∧ Below w.heap.size w W)
            (fun c pre W => ((c = .ret ∧ ∃ x : Int, pre = [x] ∧ W.heap[gr]? = some (.cells (trapV (some x)) 29 (0, 0))) ∧ Marks w.heap.size W W0.heap.size ds) ∧ Below w.heap.size w W)
            (OwnFrom.and (OwnFrom.and (pure_own _ (fun pre => pre = [])) (OwnFrom.and (blk_own gl _ _ _) (OwnFrom.and (blk_own gr _ _ _) (Marks.own (Nat.le_refl _))))) (ownFrom_below (Nat.le_refl _) KB.size))
            (fun c => OwnFrom.and (OwnFrom.and (fun s A B row hs hg hr => (by obtain ⟨e, x, hp, hb⟩ := hs; exact ⟨e, x, hp, (grownBy_keeps_cells hg (fun r e => (hr r e).2) hb rfl).trans hb⟩)) (Marks.own (Nat.le_refl _))) (ownFrom_below (Nat.le_refl _) KB.size))
            ⟨⟨rfl, KL, KR, KM⟩, KB⟩ (fun x => { tmps := #[u0, u1, u2, u3, .pointer (some ⟨gr, 0, none⟩), u5, .pointer (some ⟨gl, 0, none⟩), .int .i64 2, .bool true, .int .i64 x, u10, u11, u12, u13, u14, u15, u16, u17, u18, u19, u20, u21, u22, u23, u24, u25, u26, u27, u28, u29, u30, u31, u32, .agg #[.bool (openV h 0), .bool (openV h 1), .bool true], .int .i64 2, .bool true, .int .i64 2, .bool true, .bool true, .bool false, .int .i64 2, .pointer (some ⟨gl, 2, none⟩), .int .u64 (levelV h av 2), .func (.func 24) #[] #[.pointer (some ⟨wr.heap.size, 0, none⟩)], .int .i64 x, u45, u46, u47, u48, u49, u50], defers := [] }) ?assign ?body ?done ?stop)
          case assign =>
            intro l x W K hK
            gi_wp2
            exact hK
          case body =>
            rintro l pre x W ⟨⟨rfl, hl, hr, hm⟩, hB⟩ _
            have c_gr_0 := (show World.cell? _ ⟨gr, 0, none⟩ = some (.bool false) from (blk_cell hr 0).trans rfl); have f_gr_0 := blk_frozen hr 0
            have c_gr_1 := (show World.cell? _ ⟨gr, 1, none⟩ = some (.int .u64 0) from (blk_cell hr 1).trans rfl); have f_gr_1 := blk_frozen hr 1
            have c_gr_2 := (show World.cell? _ ⟨gr, 2, none⟩ = some (.int .u64 0) from (blk_cell hr 2).trans rfl); have f_gr_2 := blk_frozen hr 2
            have c_gr_3 := (show World.cell? _ ⟨gr, 3, none⟩ = some (.int .u64 0) from (blk_cell hr 3).trans rfl); have f_gr_3 := blk_frozen hr 3
            have c_gr_4 := (show World.cell? _ ⟨gr, 4, none⟩ = some (.int .u64 0) from (blk_cell hr 4).trans rfl); have f_gr_4 := blk_frozen hr 4
            have c_gr_5 := (show World.cell? _ ⟨gr, 5, none⟩ = some (.bool false) from (blk_cell hr 5).trans rfl); have f_gr_5 := blk_frozen hr 5
            gi_wp2
            exact ⟨keeps_setCells gr (trapV (some x)).toList 0 W, ⟨⟨rfl, x, rfl, blk_putAll (trapV (some x)) hr rfl⟩, hm.others (keeps_setCells gr (trapV (some x)).toList 0 W)⟩, setCells_below G_gr.out (trapV (some x)).toList 0 W hB⟩
          case done =>
            rintro D ys W hD hS ⟨⟨rfl, hl, hr, hm⟩, hB⟩ hK
            have hpk : pickV (levelV h av 2) = none := hS.symm
            go_wp2
            exact ⟨⟨3, { target := .collected D, args := #[] } :: ds, _, _, _, _, _, _, _, _, _, _, _, _, _, _, _, _, _, _, _, _, _, _, _, _, _, _, _, _, _, _, _, _, _, _, _, _, _, _, _, _, _, _, _, _, _, _, _, _, rfl, by rw [ho], by decide, (by show (nextTo h av 2).or (candV h av 2) = none; rw [HN.out, candV, if_pos ho, hpk]; rfl), ⟨D, rfl, Nat.le_trans KB.size hD, (Array.getElem?_eq_some_iff.1 hK).1, hK, hm.up hD⟩, hl, hr, hB⟩, (show (0 : Nat) < 1 by decide)⟩
          case stop =>
            rintro D c pre W hD hSp ⟨⟨⟨rfl, x, rfl, hr⟩, hm⟩, hB⟩ hK
            have hnx : nextO h av = some x := nextTo_mono h av x 3 (by show (nextTo h av 2).or (candV h av 2) = some x; rw [HN.out, candV, if_pos ho, ← hSp.2]; rfl) 0
            gi_wp2
            exact leaves_marks (n₀ := w.heap.size) (fun W => Below w.heap.size w W ∧ W.heap[gr]? = some (.cells (trapV (some x)) 29 (0, 0))) (fun W D hk h0 hD => ⟨hk.1.trans (belowK_b (w := w) (Nat.le_refl _) W D _ _ h0 hD rfl rfl), (World.putObj_heap_other (fun e => by rw [← e, hk.2] at hD; cases hD)).trans hk.2⟩) (fun W hk => ⟨_, results_cell_row rfl _ _ gr 29 _ (0, 0) _ rfl hk.2 Tryd.underlying29 rfl (by kernel_rfl), by rw [hnx], hk.1⟩) _ _ _ ⟨D, rfl, Nat.le_trans KB.size hD, (Array.getElem?_eq_some_iff.1 hK).1, hK, hm.up hD⟩ ⟨hB, hr⟩
end Go.Proofs.YtpbodidpcbodaaaDoor.Hx
