/- A guest's supervisor's own registers are the guest's. (By a program of this session.) -/
import Derived.Test.YtlopmcakfalkpaaDoorCViews
import Derived.Great.BuildSlice
set_option linter.unusedSimpArgs false
set_option linter.unusedVariables false
namespace Go.Proofs.YtlopmcakfalkpaaDoor.Hx
open Go.Proofs.YtlopmcakfalkpaaDoor.Bv Go.RowKit Go.Proofs.YtlopmcakfalkpaaDoor.Q Go.Proofs.YtlopmcakfalkpaaDoorW.PrintWords Go.Proofs.YtlopmcakfalkpaaDoorW.PrintLast Go.Proofs.YtlopmcakfalkpaaDoorW.PrintMore Go.Proofs.YtlopmcakfalkpaaDoor.Rg

theorem flat_event {P : Program} {ops : Array Oper} {rest : List Oper} {o : Oper} {a : Act} {W : World} {Q : Exit → Act → World → Prop} (hg : o.guard = none) (t e : TypeId) (len : Nat) (parts : Array (Nat × Operand)) (ho : o.op = .buildSlice t len parts)
    (k : IntKind) (zs : List Int) (hu : P.underlying t = some (.slice e)) (hsz : (P.info? e).map (·.size) = some 1) (hz : ((P.info? e).bind (·.zero)).isSome = true) (hlen : len = zs.length) (hpos : 0 < len) (hsmall : len ≤ 2 ^ 24)
    (hparts : parts.toList = (zs.zipIdx 0).map fun x => (x.2, Operand.const (Value.int k x.1)))
    (h : ∀ g, g = W.heap.size → ∀ w1, w1.heap[g]? = some (.cells (zs.map (Value.int k)).toArray e (0, 0)) → Below W.heap.size W w1 → wpList P ops Q rest (a.put o.dst (.slice (some ⟨g, 0, none⟩) len len)) w1) : wpList P ops Q (o :: rest) a W :=
  wpList_buildFlat hg t e len parts ho k zs hu hsz hz hlen hpos hsmall hparts (h _ rfl _ (blk_new W _) (below_alloc (Below.refl _ _) _))
theorem sl_index (n gs c k : Nat) (h : k < n) (W : World) : (Instr.indexAt 40 (.slice (some ⟨gs, 0, none⟩) n c) (.int .i64 (k : Int))).run Tryd.prog W = .ok (.pointer (some ⟨gs, k, none⟩)) W := by
  rw [run_indexAt_slice (h := by exact Tryd.underlying40), if_pos (by omega)]
  have e : (⟨gs, 0, none⟩ : Addr).add k = ⟨gs, k, none⟩ := by unfold Addr.add; split <;> simp_all
  show Result.ok (Value.pointer (some ((⟨gs, 0, none⟩ : Addr).add (k * 1)))) W = _
  rw [Nat.mul_one, e]
theorem wr64 {k n : Nat} (h : k < n) (hn : n < 1000) : wrap64 ((k : Int) + 1) = ((k + 1 : Nat) : Int) := by unfold wrap64; omega
theorem meas {k n : Nat} (h : k < n) (hn : n < 1000) : n - (intOf (Value.int .i64 (wrap64 ((k : Int) + 1)))).toNat < n - (intOf (Value.int .i64 (k : Int))).toNat := by
  rw [wr64 h hn]
  show n - (((k + 1 : Nat) : Int)).toNat < n - ((k : Int)).toNat
  rw [Int.toNat_natCast, Int.toNat_natCast]; omega
theorem pend_E (h : Ht) (la lb lc ld : Bool) (lg lt : Int) (a b : BitVec 64) (e42 : h.x 42 = U a) (e61 : h.x 61 = U b) : pendV h la lb lc ld lg lt = U ((a ||| b) ||| pl la lb lc ld (pendB h la lb lc ld lg lt 4) (pendB h la lb lc ld lg lt 5)) := by
  unfold pendV
  rw [e42, e61, or_u64, ofInt_U, ofInt_U]
  generalize (a ||| b) = x
  generalize hB : pendB h la lb lc ld lg lt = B
  have z0 : B 0 = la := by rw [← hB]; rfl
  have z1 : B 1 = lb := by rw [← hB]; rfl
  have z2 : B 2 = lc := by rw [← hB]; rfl
  have z3 : B 3 = ld := by rw [← hB]; rfl
  have h0 : pendTo (U x) B 0 = U x := rfl
  have h1 : pendTo (U x) B 1 = U (x ||| (if B 0 = true then 8#64 else 0#64)) := by
    show (if B 0 = true then Go.bits .or .u64 (pendTo (U x) B 0) 8 else pendTo (U x) B 0) = _
    rw [h0]; exact stp _ _ 8 8#64 rfl
  have h2 : pendTo (U x) B 2 = U ((x ||| (if B 0 = true then 8#64 else 0#64)) ||| (if B 1 = true then 128#64 else 0#64)) := by
    show (if B 1 = true then Go.bits .or .u64 (pendTo (U x) B 1) 128 else pendTo (U x) B 1) = _
    rw [h1]; exact stp _ _ 128 128#64 rfl
  have h3 : pendTo (U x) B 3 = U (((x ||| (if B 0 = true then 8#64 else 0#64)) ||| (if B 1 = true then 128#64 else 0#64)) ||| (if B 2 = true then 2048#64 else 0#64)) := by
    show (if B 2 = true then Go.bits .or .u64 (pendTo (U x) B 2) 2048 else pendTo (U x) B 2) = _
    rw [h2]; exact stp _ _ 2048 2048#64 rfl
  have h4 : pendTo (U x) B 4 = U ((((x ||| (if B 0 = true then 8#64 else 0#64)) ||| (if B 1 = true then 128#64 else 0#64)) ||| (if B 2 = true then 2048#64 else 0#64)) ||| (if B 3 = true then 512#64 else 0#64)) := by
    show (if B 3 = true then Go.bits .or .u64 (pendTo (U x) B 3) 512 else pendTo (U x) B 3) = _
    rw [h3]; exact stp _ _ 512 512#64 rfl
  have h5 : pendTo (U x) B 5 = U (((((x ||| (if B 0 = true then 8#64 else 0#64)) ||| (if B 1 = true then 128#64 else 0#64)) ||| (if B 2 = true then 2048#64 else 0#64)) ||| (if B 3 = true then 512#64 else 0#64)) ||| (if B 4 = true then 1024#64 else 0#64)) := by
    show (if B 4 = true then Go.bits .or .u64 (pendTo (U x) B 4) 1024 else pendTo (U x) B 4) = _
    rw [h4]; exact stp _ _ 1024 1024#64 rfl
  have h6 : pendTo (U x) B 6 = U ((((((x ||| (if B 0 = true then 8#64 else 0#64)) ||| (if B 1 = true then 128#64 else 0#64)) ||| (if B 2 = true then 2048#64 else 0#64)) ||| (if B 3 = true then 512#64 else 0#64)) ||| (if B 4 = true then 1024#64 else 0#64)) ||| (if B 5 = true then 4096#64 else 0#64)) := by
    show (if B 5 = true then Go.bits .or .u64 (pendTo (U x) B 5) 4096 else pendTo (U x) B 5) = _
    rw [h5]; exact stp _ _ 4096 4096#64 rfl
  rw [h6, z0, z1, z2, z3]
  congr 1
  unfold pl
  simp only [BitVec.or_assoc, BitVec.zero_or]
theorem wm_512 (f : Ht) (v : Int) : writeM f 512 v = f.set 68 (putV (f.x 68) 786722 v) := by kernel_rfl
theorem wm_517 (f : Ht) (v : Int) : writeM f 517 v = f.set 69 (putV (f.x 69) 18446744073709551613 v) := by kernel_rfl
theorem wm_576 (f : Ht) (v : Int) : writeM f 576 v = f.set 70 (putV (f.x 70) 18446744073709551615 v) := by kernel_rfl
theorem wm_577 (f : Ht) (v : Int) : writeM f 577 v = f.set 71 (putV (f.x 71) 18446744073709551612 v) := by kernel_rfl
theorem wm_578 (f : Ht) (v : Int) : writeM f 578 v = f.set 72 (putV (f.x 72) 18446744073709551615 v) := by kernel_rfl
theorem wm_579 (f : Ht) (v : Int) : writeM f 579 v = f.set 73 (putV (f.x 73) 18446744073709551615 v) := by kernel_rfl
theorem wm_640 (f : Ht) (v : Int) : writeM f 640 v = if modeV v = true then f.set 74 (putV (f.x 74) 18446744073709551615 v) else f := by kernel_rfl
theorem wm_580 (f : Ht) (v : Int) : writeM f 580 v = f.set 61 (putV (f.x 61) (Go.bits .and .u64 (f.x 60) 4) (shl1 v)) := by kernel_rfl
theorem wm_516 (f : Ht) (v : Int) : writeM f 516 v = f.set 41 (putV (f.x 41) (Go.bits .and .u64 (f.x 60) 1092) (shl1 v)) := by kernel_rfl

/-- A hart whose guest's supervisor runs. -/
abbrev gst (f : Ht) : Ht := { (f.set 33 1) with v := true }
def mineL : List Int := [256, 260, 261, 320, 321, 322, 323, 324, 384]
def itsL : List Int := [512, 516, 517, 576, 577, 578, 579, 580, 640]
def mine (k : Nat) : Int := mineL.getD k 0
def its (k : Nat) : Int := itsL.getD k 0
theorem mine_at : ∀ k, k < 9 → (#[.int .i64 256, .int .i64 260, .int .i64 261, .int .i64 320, .int .i64 321, .int .i64 322, .int .i64 323, .int .i64 324, .int .i64 384] : Array Value)[k]? = some (.int .i64 (mine k))
  | 0, _ => rfl
  | 1, _ => rfl
  | 2, _ => rfl
  | 3, _ => rfl
  | 4, _ => rfl
  | 5, _ => rfl
  | 6, _ => rfl
  | 7, _ => rfl
  | 8, _ => rfl
  | k + 9, h => by omega
theorem its_at : ∀ k, k < 9 → (#[.int .i64 512, .int .i64 516, .int .i64 517, .int .i64 576, .int .i64 577, .int .i64 578, .int .i64 579, .int .i64 580, .int .i64 640] : Array Value)[k]? = some (.int .i64 (its k))
  | 0, _ => rfl
  | 1, _ => rfl
  | 2, _ => rfl
  | 3, _ => rfl
  | 4, _ => rfl
  | 5, _ => rfl
  | 6, _ => rfl
  | 7, _ => rfl
  | 8, _ => rfl
  | k + 9, h => by omega
theorem g_read (f : Ht) (la lb lc ld : Bool) (lg lt : Int) : ∀ i, i < 9 → readV (gst f) la lb lc ld lg lt (mine i) = readV (host (gst f)) la lb lc ld lg lt (its i)
  | 0, _ => by kernel_rfl
  | 1, _ => by kernel_rfl
  | 2, _ => by kernel_rfl
  | 3, _ => by kernel_rfl
  | 4, _ => by kernel_rfl
  | 5, _ => by kernel_rfl
  | 6, _ => by kernel_rfl
  | 7, _ => by kernel_rfl
  | 8, _ => by kernel_rfl
  | k + 9, h => by omega
/-- What a write into the guest's register makes of the host. -/
theorem g_write (f : Ht) (v : Int) : ∀ i, i < 9 → writeV (gst f) (mine i) v = { writeV (host (gst f)) (its i) v with v := true } ∧ { writeV (gst f) (mine i) v with v := false } = writeV (host (gst f)) (its i) v
  | 0, _ => by
    rw [show writeV (gst f) (mine 0) v = writeM (gst f) 512 v by kernel_rfl, show writeV (host (gst f)) (its 0) v = writeM (host (gst f)) 512 v by kernel_rfl, wm_512, wm_512]
    exact ⟨rfl, rfl⟩
  | 1, _ => by
    rw [show writeV (gst f) (mine 1) v = writeM (gst f) 516 v by kernel_rfl, show writeV (host (gst f)) (its 1) v = writeM (host (gst f)) 516 v by kernel_rfl, wm_516, wm_516]
    exact ⟨rfl, rfl⟩
  | 2, _ => by
    rw [show writeV (gst f) (mine 2) v = writeM (gst f) 517 v by kernel_rfl, show writeV (host (gst f)) (its 2) v = writeM (host (gst f)) 517 v by kernel_rfl, wm_517, wm_517]
    exact ⟨rfl, rfl⟩
  | 3, _ => by
    rw [show writeV (gst f) (mine 3) v = writeM (gst f) 576 v by kernel_rfl, show writeV (host (gst f)) (its 3) v = writeM (host (gst f)) 576 v by kernel_rfl, wm_576, wm_576]
    exact ⟨rfl, rfl⟩
  | 4, _ => by
    rw [show writeV (gst f) (mine 4) v = writeM (gst f) 577 v by kernel_rfl, show writeV (host (gst f)) (its 4) v = writeM (host (gst f)) 577 v by kernel_rfl, wm_577, wm_577]
    exact ⟨rfl, rfl⟩
  | 5, _ => by
    rw [show writeV (gst f) (mine 5) v = writeM (gst f) 578 v by kernel_rfl, show writeV (host (gst f)) (its 5) v = writeM (host (gst f)) 578 v by kernel_rfl, wm_578, wm_578]
    exact ⟨rfl, rfl⟩
  | 6, _ => by
    rw [show writeV (gst f) (mine 6) v = writeM (gst f) 579 v by kernel_rfl, show writeV (host (gst f)) (its 6) v = writeM (host (gst f)) 579 v by kernel_rfl, wm_579, wm_579]
    exact ⟨rfl, rfl⟩
  | 7, _ => by
    rw [show writeV (gst f) (mine 7) v = writeM (gst f) 580 v by kernel_rfl, show writeV (host (gst f)) (its 7) v = writeM (host (gst f)) 580 v by kernel_rfl, wm_580, wm_580]
    exact ⟨rfl, rfl⟩
  | 8, _ => by
    rw [show writeV (gst f) (mine 8) v = writeM (gst f) 640 v by kernel_rfl, show writeV (host (gst f)) (its 8) v = writeM (host (gst f)) 640 v by kernel_rfl, wm_640, wm_640]
    split <;> exact ⟨rfl, rfl⟩
  | k + 9, h => by omega
theorem g_sie (a e s c : BitVec 64) : Go.bits .and .u64 (Go.bits .and .u64 (putV (U a) (Go.bits .and .u64 (U e) 1092) (U s)) 546) (U c) = Go.bits .and .u64 (Go.bits .and .u64 (U a) 546) (U c) := by
  rw [and_c e 1092, putV_U, and_c _ 546, and_c _ 546, and_UU, and_UU]
  congr 2
  show ((a &&& ~~~ (e &&& 1092#64)) ||| (s &&& (e &&& 1092#64))) &&& 546#64 = a &&& 546#64
  have hb := bit0 (a := 1092#64) (b := 546#64) (by decide)
  apply BitVec.eq_of_getLsbD_eq; intro i hi
  have h1 := hb i
  simp only [BitVec.getLsbD_and, BitVec.getLsbD_or, BitVec.getLsbD_not, hi, decide_true, Bool.true_and]
  revert h1
  cases a.getLsbD i <;> cases e.getLsbD i <;> cases s.getLsbD i <;> cases (1092#64).getLsbD i <;> cases (546#64).getLsbD i <;> decide
theorem g_sip (a b e s l : BitVec 64) : ((a ||| ((b &&& ~~~ (e &&& 4#64)) ||| (s &&& (e &&& 4#64)))) ||| l) &&& 546#64 = ((a ||| b) ||| l) &&& 546#64 := by
  have hb := bit0 (a := 4#64) (b := 546#64) (by decide)
  apply BitVec.eq_of_getLsbD_eq; intro i hi
  have h1 := hb i
  simp only [BitVec.getLsbD_and, BitVec.getLsbD_or, BitVec.getLsbD_not, hi, decide_true, Bool.true_and]
  revert h1
  cases a.getLsbD i <;> cases b.getLsbD i <;> cases e.getLsbD i <;> cases s.getLsbD i <;> cases l.getLsbD i <;> cases (4#64).getLsbD i <;> cases (546#64).getLsbD i <;> decide
theorem shl1_rng (v : Int) : 0 ≤ shl1 v ∧ shl1 v < 18446744073709551616 := by unfold shl1; rw [wrap_u64]; exact U_range _
/-- What the host reads as its own it reads still. -/
theorem g_after (f : Ht) (hw : f.wf) (v : Int) (la lb lc ld : Bool) (lg lt : Int) : ∀ i, i < 9 → ∀ k, k < 9 → readV (writeV (host (gst f)) (its i) v) la lb lc ld lg lt (mine k) = readV (host (gst f)) la lb lc ld lg lt (mine k) := by
  intro i hi k hk
  have hx : (gst f).x = (f.set 33 1).x := rfl
  have hi : i = 0 ∨ i = 1 ∨ i = 2 ∨ i = 3 ∨ i = 4 ∨ i = 5 ∨ i = 6 ∨ i = 7 ∨ i = 8 := by omega
  have hk : k = 0 ∨ k = 1 ∨ k = 2 ∨ k = 3 ∨ k = 4 ∨ k = 5 ∨ k = 6 ∨ k = 7 ∨ k = 8 := by omega
  rcases hi with rfl | rfl | rfl | rfl | rfl | rfl | rfl | rfl | rfl
  · rw [show writeV (host (gst f)) (its 0) v = writeM (host (gst f)) 512 v by kernel_rfl, wm_512]
    rcases hk with rfl | rfl | rfl | rfl | rfl | rfl | rfl | rfl | rfl <;> (show _ = _; kernel_rfl)
  · rw [show writeV (host (gst f)) (its 1) v = writeM (host (gst f)) 516 v by kernel_rfl, wm_516]
    rcases hk with rfl | rfl | rfl | rfl | rfl | rfl | rfl | rfl | rfl
    · show _ = _; kernel_rfl
    · show Go.bits .and .u64 (Go.bits .and .u64 (putV (f.x 41) (Go.bits .and .u64 (f.x 60) 1092) (shl1 v)) 546) (f.x 40) = Go.bits .and .u64 (Go.bits .and .u64 (f.x 41) 546) (f.x 40)
      obtain ⟨a, ea⟩ := U_of (hw.1 41).1 (hw.1 41).2
      obtain ⟨e, ee⟩ := U_of (hw.1 60).1 (hw.1 60).2
      obtain ⟨c, ec⟩ := U_of (hw.1 40).1 (hw.1 40).2
      obtain ⟨s, es⟩ := U_of (shl1_rng v).1 (shl1_rng v).2
      rw [ea, ee, ec, es]; exact g_sie a e s c
    · show _ = _; kernel_rfl
    · show _ = _; kernel_rfl
    · show _ = _; kernel_rfl
    · show _ = _; kernel_rfl
    · show _ = _; kernel_rfl
    · show _ = _; kernel_rfl
    · show _ = _; kernel_rfl
  · rw [show writeV (host (gst f)) (its 2) v = writeM (host (gst f)) 517 v by kernel_rfl, wm_517]
    rcases hk with rfl | rfl | rfl | rfl | rfl | rfl | rfl | rfl | rfl <;> (show _ = _; kernel_rfl)
  · rw [show writeV (host (gst f)) (its 3) v = writeM (host (gst f)) 576 v by kernel_rfl, wm_576]
    rcases hk with rfl | rfl | rfl | rfl | rfl | rfl | rfl | rfl | rfl <;> (show _ = _; kernel_rfl)
  · rw [show writeV (host (gst f)) (its 4) v = writeM (host (gst f)) 577 v by kernel_rfl, wm_577]
    rcases hk with rfl | rfl | rfl | rfl | rfl | rfl | rfl | rfl | rfl <;> (show _ = _; kernel_rfl)
  · rw [show writeV (host (gst f)) (its 5) v = writeM (host (gst f)) 578 v by kernel_rfl, wm_578]
    rcases hk with rfl | rfl | rfl | rfl | rfl | rfl | rfl | rfl | rfl <;> (show _ = _; kernel_rfl)
  · rw [show writeV (host (gst f)) (its 6) v = writeM (host (gst f)) 579 v by kernel_rfl, wm_579]
    rcases hk with rfl | rfl | rfl | rfl | rfl | rfl | rfl | rfl | rfl <;> (show _ = _; kernel_rfl)
  · rw [show writeV (host (gst f)) (its 7) v = writeM (host (gst f)) 580 v by kernel_rfl, wm_580]
    rcases hk with rfl | rfl | rfl | rfl | rfl | rfl | rfl | rfl | rfl
    · show _ = _; kernel_rfl
    · show _ = _; kernel_rfl
    · show _ = _; kernel_rfl
    · show _ = _; kernel_rfl
    · show _ = _; kernel_rfl
    · show _ = _; kernel_rfl
    · show _ = _; kernel_rfl
    · obtain ⟨a, ea⟩ := U_of (hw.1 42).1 (hw.1 42).2
      obtain ⟨b, eb⟩ := U_of (hw.1 61).1 (hw.1 61).2
      obtain ⟨e, ee⟩ := U_of (hw.1 60).1 (hw.1 60).2
      obtain ⟨s, es⟩ := U_of (shl1_rng v).1 (shl1_rng v).2
      have e1 : ((host (gst f)).set 61 (putV ((host (gst f)).x 61) (Go.bits .and .u64 ((host (gst f)).x 60) 4) (shl1 v))).x 61 = U ((b &&& ~~~ (e &&& 4#64)) ||| (s &&& (e &&& 4#64))) := by
        show putV (f.x 61) (Go.bits .and .u64 (f.x 60) 4) (shl1 v) = _
        rw [eb, ee, es, and_c e 4, putV_U]; rfl
      have p1 := pend_E ((host (gst f)).set 61 (putV ((host (gst f)).x 61) (Go.bits .and .u64 ((host (gst f)).x 60) 4) (shl1 v))) la lb lc ld lg lt a _ ea e1
      have p2 := pend_E (host (gst f)) la lb lc ld lg lt a b ea eb
      show Go.bits .and .u64 (Go.bits .and .u64 (pendV ((host (gst f)).set 61 (putV ((host (gst f)).x 61) (Go.bits .and .u64 ((host (gst f)).x 60) 4) (shl1 v))) la lb lc ld lg lt) 546) (f.x 40) = Go.bits .and .u64 (Go.bits .and .u64 (pendV (host (gst f)) la lb lc ld lg lt) 546) (f.x 40)
      rw [p1, p2, and_c _ 546, and_c _ 546]
      congr 2
      exact g_sip a b e s _
    · show _ = _; kernel_rfl
  · rw [show writeV (host (gst f)) (its 8) v = writeM (host (gst f)) 640 v by kernel_rfl, wm_640]
    split
    · rcases hk with rfl | rfl | rfl | rfl | rfl | rfl | rfl | rfl | rfl <;> (show _ = _; kernel_rfl)
    · rfl
end Go.Proofs.YtlopmcakfalkpaaDoor.Hx
