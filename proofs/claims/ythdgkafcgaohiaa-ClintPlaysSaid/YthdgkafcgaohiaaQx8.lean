/- Where the Lean function of a Go function gives a value, the Go call returns that value and changes nothing that was there: for every input. (By a program of this session, and by hand.) -/
import Derived.Test.YthdgkafcgaohiaaQx0
import Derived.Test.YthdgkafcgaohiaaQx1
import Derived.Test.YthdgkafcgaohiaaQx2
import Derived.Test.YthdgkafcgaohiaaQx3
import Derived.Test.YthdgkafcgaohiaaQx6
import Derived.Test.YthdgkafcgaohiaaQx7
namespace Go.Proofs.Ythdgkafcgaohiaa.Q
open Go.RowKit Go.Proofs.YthdgkafcgaohiaaW.PrintWords Go.Proofs.YthdgkafcgaohiaaW.PrintLast Go.Proofs.YthdgkafcgaohiaaW.PrintMore
attribute [local go_sem] max2_int min2_int max_two min_two max_three min_three max_four min_four   -- for this text's walks alone
set_option linter.unusedVariables false
set_option linter.unusedSimpArgs false

/-! ### mezzaninelaw04_ClintBack: by hand -/
section
/-- The acts of a list, where it lies. -/
def ActsAt (w : World) (a : Option Addr) (l : List (Int × Int × Int × Int)) : Prop :=
  ∀ i (h : i < l.length), ∃ x, a = some x ∧ w.cell? (x.add (i * 4)) = some (.int .i64 l[i].1) ∧ w.cell? ⟨(x.add (i * 4)).block, (x.add (i * 4)).off + 1, none⟩ = some (.int .u64 l[i].2.1) ∧ w.cell? ⟨(x.add (i * 4)).block, (x.add (i * 4)).off + 2, none⟩ = some (.int .i64 l[i].2.2.1) ∧ w.cell? ⟨(x.add (i * 4)).block, (x.add (i * 4)).off + 3, none⟩ = some (.int .u64 l[i].2.2.2) ∧ 0 ≤ l[i].2.2.2 ∧ l[i].2.2.2 < 18446744073709551616
theorem ActsAt.below {w w1 : World} {a : Option Addr} {l : List (Int × Int × Int × Int)} (h : ActsAt w a l) (hb : Below w.heap.size w w1) : ActsAt w1 a l := by
  intro i hi
  obtain ⟨x, e, c0, c1, c2, c3, r⟩ := h i hi
  refine ⟨x, e, ?_, ?_, ?_, ?_, r⟩
  · rw [hb.cell (World.block_lt_of_cell? w _ c0)]; exact c0
  · rw [hb.cell (World.block_lt_of_cell? w _ c1)]; exact c1
  · rw [hb.cell (World.block_lt_of_cell? w _ c2)]; exact c2
  · rw [hb.cell (World.block_lt_of_cell? w _ c3)]; exact c3
theorem acts_index (x : Addr) (n cap k : Nat) (h : k < n) (W : World) : (Instr.indexAt 22 (.slice (some x) n cap) (.int .i64 (k : Int))).run Try.prog W = .ok (.pointer (some (x.add (k * 4)))) W := by
  rw [run_indexAt_slice (h := by exact Try.underlying22), if_pos (by omega)]
  rfl
/-- What the closed forms say; shown beside the program. -/
structure Forms : Prop where
  wr : ∀ s c n off nn v, Rng s c n → 0 ≤ v → v < 18446744073709551616 → clint_Clint_Write.f 2 s c n off nn v = some (cw s c n off nn v)
  rwr : ∀ s c n off nn v, Rng s c n → 0 ≤ v → v < 18446744073709551616 → mezzanineref04_Clint_Write.f s c n off nn v = some (cw s c n off nn v)
  rd : ∀ s c n off nn, Rng s c n → clint_Clint_Read.f 2 s c n off nn = some (cr s c n off nn)
  rrd : ∀ s c n off nn, Rng s c n → mezzanineref04_Clint_Read.f s c n off nn = some (cr s c n off nn)
  orr : ∀ c v, 0 ≤ c → c < 18446744073709551616 → 0 ≤ v → v < 18446744073709551616 → Go.bits .or .u64 (IntKind.u64.wrap (c * 4294967296) / 4294967296) (IntKind.u64.wrap (v * 4294967296)) = v % 4294967296 * 4294967296 + c % 4294967296
  rng : ∀ s c n off nn v, Rng s c n → 0 ≤ v → v < 18446744073709551616 → Rng (cw s c n off nn v).2.1 (cw s c n off nn v).2.2.1 (cw s c n off nn v).2.2.2
theorem Rng.tick {s c n : Int} (r : Rng s c n) (v : Int) : Rng s c (IntKind.u64.wrap (n + v)) := by
  refine ⟨r.1, r.2.1, ?_⟩
  rw [IntKind.wrap_u64]; omega
set_option maxHeartbeats 16000000 in
set_option maxRecDepth 100000 in
theorem mezzaninelaw04_ClintBack.callsB (a : Option Addr) (cap : Nat) (l : List (Int × Int × Int × Int)) (at_ v : Int) (hl60 : l.length ≤ 60) (hat : 0 ≤ at_ ∧ at_ < 256) (v0 : 0 ≤ v) (v1 : v < 18446744073709551616) (w : World) (hrow : ActsAt w a l) (fm : Forms) :
    Calls Try.prog 7 #[.slice a l.length cap, .int .u8 at_, .int .u64 v] w fun e w' => e = .returned (.bool true) ∧ Below w.heap.size w w' := by
  have HR := Lib.hid hrow; have FM := Lib.hid fm; have AT := Lib.hid hat; have V0 := Lib.hid v0; have V1 := Lib.hid v1
  clear hrow fm hat v0 v1
  have d60 : decide ((l.length : Int) > 60) = false := decide_eq_false (by omega)
  have hu36 := Try.underlying36
  have hu29 := Try.underlying29
  have hu27 := Try.underlying27
  go_enter Try.func7, Try.ntmps7
  go_wp2_with fail
  refine (mezzaninelaw04_awake.calls true _ rfl).mono ?_
  rintro e1 w2 ⟨rfl, hb3⟩
  have hB4 := Lib.hid (hb3)
  clear hb3
  go_wp2_with fail
  refine (clint_New.calls 0 18446744073709551615 0 _ rfl).mono ?_
  rintro e5 w6 ⟨rfl, hb7⟩
  have hB8 := Lib.hid (below_step hB4.out hb7)
  clear hb7 hB4
  go_wp2_with fail
  have ha := Lib.hid (IsS29.new w w6 0 18446744073709551615 0 hB8.out)
  have hB9 := Lib.hid (Below.alloc hB8.out (Below.size hB8.out) (.cells #[.int .u32 0, .int .u64 18446744073709551615, .int .u64 0] 29))
  clear hB8
  generalize w6.alloc (.cells #[.int .u32 0, .int .u64 18446744073709551615, .int .u64 0] 29) = w10 at ha hB9 ⊢
  generalize w6.heap.size = ga at ha ⊢
  have ca_0 := cellS29_0 ha.out.1; have fa_0 := blk_frozen ha.out.1 0
  have ca_1 := cellS29_1 ha.out.1; have fa_1 := blk_frozen ha.out.1 1
  have ca_2 := cellS29_2 ha.out.1; have fa_2 := blk_frozen ha.out.1 2
  try clear ca_0 fa_0 ca_1 fa_1 ca_2 fa_2
  go_loopw [8] (fun v8 wr => ∃ (k : Nat) (s c n : Int), k ≤ l.length ∧ v8 = .int .i64 k ∧ IsS29 w wr ga s c n ∧ Rng s c n ∧ Below w.heap.size w wr) (fun v8 _ => l.length - (intOf v8).toNat)
  case atStart => exact ⟨0, 0, 18446744073709551615, 0, Nat.zero_le _, rfl, ha.out, ⟨⟨by decide, by decide⟩, ⟨by decide, by decide⟩, by decide, by decide⟩, hB9.out⟩
  case round =>
    clear ha hB9
    obtain ⟨k, s, c, n, hk, rfl, hi, hr, hb⟩ := hrel
    have RG := Lib.hid hr; have ha := Lib.hid hi; have HB := Lib.hid hb
    clear hr hi hb
    by_cases hlt : k < l.length
    · have d0 : decide ((k : Int) < (l.length : Int)) = true := decide_eq_true (by omega)
      obtain ⟨x, rfl, c0, c1, c2, c3, r0, r1⟩ := HR.out.below HB.out k hlt
      have hq : ∃ q, l[k] = q := ⟨_, rfl⟩
      obtain ⟨⟨xd, xo, xn, xv⟩, hq⟩ := hq
      rw [hq] at c0 c1 c2 c3 r0 r1
      dsimp only at c0 c1 c2 c3 r0 r1
      have R0 := Lib.hid r0; have R1 := Lib.hid r1; have HQ := Lib.hid hq
      clear r0 r1 c0 hq
      have hia := acts_index x l.length cap k hlt
      go_wp2_with fail
      refine start_ (n := 16) (S := fun w' => w'.cell? ⟨(x.add (k * 4)).block, (x.add (k * 4)).off + 1, none⟩ = some (.int .u64 xo) ∧ w'.cell? ⟨(x.add (k * 4)).block, (x.add (k * 4)).off + 2, none⟩ = some (.int .i64 xn) ∧ w'.cell? ⟨(x.add (k * 4)).block, (x.add (k * 4)).off + 3, none⟩ = some (.int .u64 xv)) (ds := [15]) #[false, false, false, false, false, false, false, false, false, false, false, false, false, false, false, false] (by kernel_rfl) rfl rfl ⟨c1, c2, c3⟩ (fun hHeld => ?_)
      replace ha := Lib.hid (IsS29.drew ha.out); replace HB := Lib.hid (below_drew1 HB.out)
      generalize World.drew wr = W1 at ha HB hHeld ⊢
      refine pure_ (i := 0) (N := some 30) (v := ?_) (a' := ?_) #[true, false, false, false, false, false, false, false, false, false, false, false, false, false, false, false] rfl rfl (by kernel_rfl) (fun _ _ _ h => h) (Or.inl ⟨by rfl, ?_⟩) ?_ ?_
      rotate_left
      · intro w'
        go_simp
        with_reducible rfl
      rotate_left
      · simp only [Act.put, List.setIfInBounds_toArray, List.set_cons_zero, List.set_cons_succ, i64_w, i32_w]
        rfl
      refine pure_ (i := 1) (N := some 31) (v := ?_) (a' := ?_) #[true, true, false, false, false, false, false, false, false, false, false, false, false, false, false, false] rfl rfl (by kernel_rfl) (fun _ _ _ h => h) (Or.inl ⟨by rfl, ?_⟩) ?_ ?_
      rotate_left
      · intro w'
        go_simp
        with_reducible rfl
      rotate_left
      · simp only [Act.put, List.setIfInBounds_toArray, List.set_cons_zero, List.set_cons_succ, i64_w, i32_w]
        rfl
      refine pure_ (i := 2) (N := some 32) (v := ?_) (a' := ?_) #[true, true, true, false, false, false, false, false, false, false, false, false, false, false, false, false] rfl rfl (by kernel_rfl) (fun _ _ _ h => h) (Or.inl ⟨by rfl, ?_⟩) ?_ ?_
      rotate_left
      · intro w'
        go_simp
        with_reducible rfl
      rotate_left
      · simp only [Act.put, List.setIfInBounds_toArray, List.set_cons_zero, List.set_cons_succ, i64_w, i32_w]
        rfl
      refine pure_ (i := 3) (N := some 33) (v := ?_) (a' := ?_) #[true, true, true, true, false, false, false, false, false, false, false, false, false, false, false, false] rfl rfl (by kernel_rfl) (fun _ _ _ h => h) (Or.inl ⟨by rfl, ?_⟩) ?_ ?_
      rotate_left
      · intro w'
        go_simp
        with_reducible rfl
      rotate_left
      · simp only [Act.put, List.setIfInBounds_toArray, List.set_cons_zero, List.set_cons_succ, i64_w, i32_w]
        rfl
      refine pure_ (i := 5) (N := some 35) (v := ?_) (a' := ?_) #[true, true, true, true, false, true, false, false, false, false, false, false, false, false, false, false] rfl rfl (by kernel_rfl) (fun _ _ _ h => h) (Or.inl ⟨by rfl, ?_⟩) ?_ ?_
      rotate_left
      · intro w'
        go_simp
        with_reducible rfl
      rotate_left
      · simp only [Act.put, List.setIfInBounds_toArray, List.set_cons_zero, List.set_cons_succ, i64_w, i32_w]
        rfl
      refine pure_ (i := 6) (N := some 36) (v := ?_) (a' := ?_) #[true, true, true, true, false, true, true, false, false, false, false, false, false, false, false, false] rfl rfl (by kernel_rfl) (fun _ _ _ h => h) (Or.inl ⟨by rfl, ?_⟩) ?_ ?_
      rotate_left
      · intro w'
        go_simp
        with_reducible rfl
      rotate_left
      · simp only [Act.put, List.setIfInBounds_toArray, List.set_cons_zero, List.set_cons_succ, i64_w, i32_w]
        rfl
      refine pure_ (i := 7) (N := some 37) (v := ?_) (a' := ?_) #[true, true, true, true, false, true, true, true, false, false, false, false, false, false, false, false] rfl rfl (by kernel_rfl) (fun _ _ _ h => h) (Or.inl ⟨by rfl, ?_⟩) ?_ ?_
      rotate_left
      · intro w'
        go_simp
        with_reducible rfl
      rotate_left
      · simp only [Act.put, List.setIfInBounds_toArray, List.set_cons_zero, List.set_cons_succ, i64_w, i32_w]
        rfl
      refine pure_ (i := 8) (N := some 38) (v := ?_) (a' := ?_) #[true, true, true, true, false, true, true, true, true, false, false, false, false, false, false, false] rfl rfl (by kernel_rfl) (fun _ _ _ h => h) (Or.inl ⟨by rfl, ?_⟩) ?_ ?_
      rotate_left
      · intro w'
        go_simp
        with_reducible rfl
      rotate_left
      · simp only [Act.put, List.setIfInBounds_toArray, List.set_cons_zero, List.set_cons_succ, i64_w, i32_w]
        rfl
      refine pure_ (i := 10) (N := some 40) (v := ?_) (a' := ?_) #[true, true, true, true, false, true, true, true, true, false, true, false, false, false, false, false] rfl rfl (by kernel_rfl) (fun _ _ _ h => h) (Or.inl ⟨by rfl, ?_⟩) ?_ ?_
      rotate_left
      · intro w'
        go_simp
        with_reducible rfl
      rotate_left
      · simp only [Act.put, List.setIfInBounds_toArray, List.set_cons_zero, List.set_cons_succ, i64_w, i32_w]
        rfl
      refine pure_ (i := 11) (N := some 41) (v := ?_) (a' := ?_) #[true, true, true, true, false, true, true, true, true, false, true, true, false, false, false, false] rfl rfl (by kernel_rfl) (fun _ _ _ h => h) (Or.inl ⟨by rfl, ?_⟩) ?_ ?_
      rotate_left
      · intro w'
        go_simp
        with_reducible rfl
      rotate_left
      · simp only [Act.put, List.setIfInBounds_toArray, List.set_cons_zero, List.set_cons_succ, i64_w, i32_w]
        rfl
      refine pure_ (i := 12) (N := some 42) (v := ?_) (a' := ?_) #[true, true, true, true, false, true, true, true, true, false, true, true, true, false, false, false] rfl rfl (by kernel_rfl) (fun _ _ _ h => h) (Or.inl ⟨by rfl, ?_⟩) ?_ ?_
      rotate_left
      · intro w'
        go_simp
        with_reducible rfl
      rotate_left
      · simp only [Act.put, List.setIfInBounds_toArray, List.set_cons_zero, List.set_cons_succ, i64_w, i32_w]
        rfl
      refine pure_ (i := 13) (N := some 43) (v := ?_) (a' := ?_) #[true, true, true, true, false, true, true, true, true, false, true, true, true, true, false, false] rfl rfl (by kernel_rfl) (fun _ _ _ h => h) (Or.inl ⟨by rfl, ?_⟩) ?_ ?_
      rotate_left
      · intro w'
        go_simp
        with_reducible rfl
      rotate_left
      · simp only [Act.put, List.setIfInBounds_toArray, List.set_cons_zero, List.set_cons_succ, i64_w, i32_w]
        rfl
      refine take_ (i := 4) (N := some 34) (v := ?_) (a' := ?_) #[true, true, true, true, true, true, true, true, true, false, true, true, true, true, false, false] rfl rfl (by kernel_rfl) (fun _ _ _ h => h) (Or.inl ⟨by rfl, ?_⟩) hHeld ?_ ?_
      rotate_left
      · rintro w' ⟨s0, s1, s2⟩
        go_simp
        with_reducible rfl
      rotate_left
      · simp only [Act.put, List.setIfInBounds_toArray, List.set_cons_zero, List.set_cons_succ, i64_w, i32_w]
        rfl
      refine take_ (i := 9) (N := some 39) (v := ?_) (a' := ?_) #[true, true, true, true, true, true, true, true, true, true, true, true, true, true, false, false] rfl rfl (by kernel_rfl) (fun _ _ _ h => h) (Or.inl ⟨by rfl, ?_⟩) hHeld ?_ ?_
      rotate_left
      · rintro w' ⟨s0, s1, s2⟩
        go_simp
        with_reducible rfl
      rotate_left
      · simp only [Act.put, List.setIfInBounds_toArray, List.set_cons_zero, List.set_cons_succ, i64_w, i32_w]
        rfl
      refine take_ (i := 14) (N := some 44) (v := ?_) (a' := ?_) #[true, true, true, true, true, true, true, true, true, true, true, true, true, true, true, false] rfl rfl (by kernel_rfl) (fun _ _ _ h => h) (Or.inl ⟨by rfl, ?_⟩) hHeld ?_ ?_
      rotate_left
      · rintro w' ⟨s0, s1, s2⟩
        go_simp
        with_reducible rfl
      rotate_left
      · simp only [Act.put, List.setIfInBounds_toArray, List.set_cons_zero, List.set_cons_succ, i64_w, i32_w]
        rfl
      refine last_ (i := 15) (N := some 45) #[true, true, true, true, true, true, true, true, true, true, true, true, true, true, true, true] rfl rfl (by kernel_rfl) (by decide) (fun K hK => ?_)
      refine goes_ Try.func11 (by kernel_rfl) rfl #[.pointer (some ⟨ga, 0, none⟩), .int .u64 xo, .int .i64 xn, .int .u64 xv] (by rfl) rfl rfl (by simp only [List.map_toArray, List.map_cons, List.map_nil]; rfl) ?_
      with_reducible refine (clint_Clint_Write.calls 2 ga s c n xo xn xv (cw s c n xo xn xv).1 (cw s c n xo xn xv).2.1 (cw s c n xo xn xv).2.2.1 (cw s c n xo xn xv).2.2.2 w _ ha.out HB.out (FM.out.wr s c n xo xn xv RG.out R0.out R1.out)).mono ?_
      rintro e5 w5 ⟨rfl, hi5, hb5, hk5⟩
      refine ⟨_, rfl, ?_⟩
      refine hK.out _ _ ?_
      clear hK K
      refine norm_ (a' := ?_) ?_ ?_
      rotate_left
      · show Act.put _ (some 45) _ = _
        simp only [Act.put, List.setIfInBounds_toArray, List.set_cons_zero, List.set_cons_succ, i64_w, i32_w]
        rfl
      refine done_ (by kernel_rfl) ?_
      have RG5 := Lib.hid (FM.out.rng s c n xo xn xv RG.out R0.out R1.out)
      clear c1 c2 c3 ha HB hHeld hk5
      obtain ⟨x_, e_, _, _, _, c3, _⟩ := HR.out.below hb5 k hlt
      cases e_
      rw [HQ.out] at c3
      dsimp only at c3
      have ha := Lib.hid hi5; have HB := Lib.hid hb5
      clear hi5 hb5
      have ca_0 := cellS29_0 ha.out.1; have fa_0 := blk_frozen ha.out.1 0
      have ca_1 := cellS29_1 ha.out.1; have fa_1 := blk_frozen ha.out.1 1
      have ca_2 := cellS29_2 ha.out.1; have fa_2 := blk_frozen ha.out.1 2
      go_wp2_with fail
      refine (clint_Clint_Tick.calls  ga (cw s c n xo xn xv).2.1 (cw s c n xo xn xv).2.2.1 (cw s c n xo xn xv).2.2.2 xv  (cw s c n xo xn xv).2.1 (cw s c n xo xn xv).2.2.1 (IntKind.u64.wrap ((cw s c n xo xn xv).2.2.2 + xv)) w _ ha.out HB.out rfl).mono ?_
      rintro e11 w12 ⟨rfl, hi15, hB13, hK14⟩
      try clear ca_0 fa_0 ca_1 fa_1 ca_2 fa_2
      replace ha := Lib.hid hi15
      clear hi15 hK14
      clear HB
      replace hB13 := Lib.hid hB13
      have ca_0 := cellS29_0 ha.out.1; have fa_0 := blk_frozen ha.out.1 0
      have ca_1 := cellS29_1 ha.out.1; have fa_1 := blk_frozen ha.out.1 1
      have ca_2 := cellS29_2 ha.out.1; have fa_2 := blk_frozen ha.out.1 2
      go_wp2
      go_roundw
      case rel => exact ⟨k + 1, _, _, _, by omega, by go_num, ha.out, RG5.out.tick xv, hB13.out⟩
      case measure => first | (simp [intOf]; done) | (simp [intOf]; omega)
    · obtain rfl : k = l.length := by omega
      have d0 : decide ((l.length : Int) < (l.length : Int)) = false := decide_eq_false (by omega)
      have ca_0 := cellS29_0 ha.out.1; have fa_0 := blk_frozen ha.out.1 0
      have ca_1 := cellS29_1 ha.out.1; have fa_1 := blk_frozen ha.out.1 1
      have ca_2 := cellS29_2 ha.out.1; have fa_2 := blk_frozen ha.out.1 2
      go_wp2_with fail
      refine (clint_Clint_Read.calls 2 s c n 16384 8 c true _ (FM.out.rd s c n 16384 8 RG.out)).mono ?_
      rintro e16 w17 ⟨rfl, hb18⟩
      try clear ca_0 fa_0 ca_1 fa_1 ca_2 fa_2
      have hB19 := Lib.hid (below_step HB.out hb18)
      replace ha := Lib.hid (IsS29.below ha.out hb18)
      clear hb18 HB
      have ca_0 := cellS29_0 ha.out.1; have fa_0 := blk_frozen ha.out.1 0
      have ca_1 := cellS29_1 ha.out.1; have fa_1 := blk_frozen ha.out.1 1
      have ca_2 := cellS29_2 ha.out.1; have fa_2 := blk_frozen ha.out.1 2
      go_wp2_with fail
      refine (clint_Clint_Read.calls 2 s c n 49144 8 n true _ (FM.out.rd s c n 49144 8 RG.out)).mono ?_
      rintro e20 w21 ⟨rfl, hb22⟩
      try clear ca_0 fa_0 ca_1 fa_1 ca_2 fa_2
      have hB23 := Lib.hid (below_step hB19.out hb22)
      replace ha := Lib.hid (IsS29.below ha.out hb22)
      clear hb22 hB19
      have ca_0 := cellS29_0 ha.out.1; have fa_0 := blk_frozen ha.out.1 0
      have ca_1 := cellS29_1 ha.out.1; have fa_1 := blk_frozen ha.out.1 1
      have ca_2 := cellS29_2 ha.out.1; have fa_2 := blk_frozen ha.out.1 2
      go_wp2_with fail
      refine (clint_Clint_Msip.calls s c n (s == 1) _ rfl).mono ?_
      rintro e24 w25 ⟨rfl, hb26⟩
      try clear ca_0 fa_0 ca_1 fa_1 ca_2 fa_2
      have hB27 := Lib.hid (below_step hB23.out hb26)
      replace ha := Lib.hid (IsS29.below ha.out hb26)
      clear hb26 hB23
      have ca_0 := cellS29_0 ha.out.1; have fa_0 := blk_frozen ha.out.1 0
      have ca_1 := cellS29_1 ha.out.1; have fa_1 := blk_frozen ha.out.1 1
      have ca_2 := cellS29_2 ha.out.1; have fa_2 := blk_frozen ha.out.1 2
      go_wp2_with fail
      refine (clint_times_Time.calls c n n _ rfl).mono ?_
      rintro e28 w29 ⟨rfl, hb30⟩
      try clear ca_0 fa_0 ca_1 fa_1 ca_2 fa_2
      have hB31 := Lib.hid (below_step hB27.out hb30)
      replace ha := Lib.hid (IsS29.below ha.out hb30)
      clear hb30 hB27
      have ca_0 := cellS29_0 ha.out.1; have fa_0 := blk_frozen ha.out.1 0
      have ca_1 := cellS29_1 ha.out.1; have fa_1 := blk_frozen ha.out.1 1
      have ca_2 := cellS29_2 ha.out.1; have fa_2 := blk_frozen ha.out.1 2
      have h4 : Int.tmod at_ 4 = 0 ∨ Int.tmod at_ 4 = 1 ∨ Int.tmod at_ 4 = 2 ∨ Int.tmod at_ 4 = 3 := by have := AT.out; rw [Int.tmod_eq_emod_of_nonneg this.1]; omega
      rcases h4 with h4 | h4 | h4 | h4
      · have hm : Int.tmod v 2 = v % 2 := Int.tmod_eq_emod_of_nonneg V0.out
        go_wp2_with fail
        refine (clint_Clint_Write.calls 2 ga s c n 0 4 v true (v % 2) c n w _ ha.out hB31.out (FM.out.wr s c n 0 4 v RG.out V0.out V1.out)).mono ?_
        rintro e32 w33 ⟨rfl, hi36, hB34, hK35⟩
        try clear ca_0 fa_0 ca_1 fa_1 ca_2 fa_2
        replace ha := Lib.hid hi36
        clear hi36 hK35
        clear hB31
        replace hB34 := Lib.hid hB34
        have ca_0 := cellS29_0 ha.out.1; have fa_0 := blk_frozen ha.out.1 0
        have ca_1 := cellS29_1 ha.out.1; have fa_1 := blk_frozen ha.out.1 1
        have ca_2 := cellS29_2 ha.out.1; have fa_2 := blk_frozen ha.out.1 2
        have RG2 := Lib.hid (FM.out.rng s c n 0 4 v RG.out V0.out V1.out)
        go_wp2_with fail
        refine (clint_Clint_Msip.calls (v % 2) c n ((v % 2) == 1) _ rfl).mono ?_
        rintro e37 w38 ⟨rfl, hb39⟩
        try clear ca_0 fa_0 ca_1 fa_1 ca_2 fa_2
        have hB40 := Lib.hid (below_step hB34.out hb39)
        replace ha := Lib.hid (IsS29.below ha.out hb39)
        clear hb39 hB34
        have ca_0 := cellS29_0 ha.out.1; have fa_0 := blk_frozen ha.out.1 0
        have ca_1 := cellS29_1 ha.out.1; have fa_1 := blk_frozen ha.out.1 1
        have ca_2 := cellS29_2 ha.out.1; have fa_2 := blk_frozen ha.out.1 2
        go_wp2_with fail
        refine (clint_Clint_Msip.calls (v % 2) c n ((v % 2) == 1) _ rfl).mono ?_
        rintro e41 w42 ⟨rfl, hb43⟩
        try clear ca_0 fa_0 ca_1 fa_1 ca_2 fa_2
        have hB44 := Lib.hid (below_step hB40.out hb43)
        replace ha := Lib.hid (IsS29.below ha.out hb43)
        clear hb43 hB40
        have ca_0 := cellS29_0 ha.out.1; have fa_0 := blk_frozen ha.out.1 0
        have ca_1 := cellS29_1 ha.out.1; have fa_1 := blk_frozen ha.out.1 1
        have ca_2 := cellS29_2 ha.out.1; have fa_2 := blk_frozen ha.out.1 2
        have dS : (IntKind.u64.wrap (n % 4294967296 + IntKind.u64.wrap (n / 4294967296 * 4294967296)) == n) = true := by rw [beq_iff_eq, IntKind.wrap_u64, IntKind.wrap_u64]; obtain ⟨q0, q1⟩ : 0 ≤ n ∧ n < 18446744073709551616 := RG2.out.2.2; omega
        go_wp2_with fail
        refine (clint_Clint_Read.calls 2 (v % 2) c n 16384 8 c true _ (FM.out.rd (v % 2) c n 16384 8 RG2.out)).mono ?_
        rintro e45 w46 ⟨rfl, hb47⟩
        try clear ca_0 fa_0 ca_1 fa_1 ca_2 fa_2
        have hB48 := Lib.hid (below_step hB44.out hb47)
        replace ha := Lib.hid (IsS29.below ha.out hb47)
        clear hb47 hB44
        have ca_0 := cellS29_0 ha.out.1; have fa_0 := blk_frozen ha.out.1 0
        have ca_1 := cellS29_1 ha.out.1; have fa_1 := blk_frozen ha.out.1 1
        have ca_2 := cellS29_2 ha.out.1; have fa_2 := blk_frozen ha.out.1 2
        go_wp2_with fail
        refine (clint_Clint_Read.calls 2 (v % 2) c n 49144 4 (n % 4294967296) true _ (FM.out.rd (v % 2) c n 49144 4 RG2.out)).mono ?_
        rintro e49 w50 ⟨rfl, hb51⟩
        try clear ca_0 fa_0 ca_1 fa_1 ca_2 fa_2
        have hB52 := Lib.hid (below_step hB48.out hb51)
        replace ha := Lib.hid (IsS29.below ha.out hb51)
        clear hb51 hB48
        have ca_0 := cellS29_0 ha.out.1; have fa_0 := blk_frozen ha.out.1 0
        have ca_1 := cellS29_1 ha.out.1; have fa_1 := blk_frozen ha.out.1 1
        have ca_2 := cellS29_2 ha.out.1; have fa_2 := blk_frozen ha.out.1 2
        go_wp2_with fail
        refine (clint_Clint_Read.calls 2 (v % 2) c n 49148 4 (n / 4294967296) true _ (FM.out.rd (v % 2) c n 49148 4 RG2.out)).mono ?_
        rintro e53 w54 ⟨rfl, hb55⟩
        try clear ca_0 fa_0 ca_1 fa_1 ca_2 fa_2
        have hB56 := Lib.hid (below_step hB52.out hb55)
        replace ha := Lib.hid (IsS29.below ha.out hb55)
        clear hb55 hB52
        have ca_0 := cellS29_0 ha.out.1; have fa_0 := blk_frozen ha.out.1 0
        have ca_1 := cellS29_1 ha.out.1; have fa_1 := blk_frozen ha.out.1 1
        have ca_2 := cellS29_2 ha.out.1; have fa_2 := blk_frozen ha.out.1 2
        go_wp2_with fail
        refine (clint_times_Time.calls c n n _ rfl).mono ?_
        rintro e57 w58 ⟨rfl, hb59⟩
        try clear ca_0 fa_0 ca_1 fa_1 ca_2 fa_2
        have hB60 := Lib.hid (below_step hB56.out hb59)
        replace ha := Lib.hid (IsS29.below ha.out hb59)
        clear hb59 hB56
        have ca_0 := cellS29_0 ha.out.1; have fa_0 := blk_frozen ha.out.1 0
        have ca_1 := cellS29_1 ha.out.1; have fa_1 := blk_frozen ha.out.1 1
        have ca_2 := cellS29_2 ha.out.1; have fa_2 := blk_frozen ha.out.1 2
        go_wp2_with fail
        refine (clint_Clint_Msip.calls (v % 2) c n ((v % 2) == 1) _ rfl).mono ?_
        rintro e61 w62 ⟨rfl, hb63⟩
        try clear ca_0 fa_0 ca_1 fa_1 ca_2 fa_2
        have hB64 := Lib.hid (below_step hB60.out hb63)
        replace ha := Lib.hid (IsS29.below ha.out hb63)
        clear hb63 hB60
        have ca_0 := cellS29_0 ha.out.1; have fa_0 := blk_frozen ha.out.1 0
        have ca_1 := cellS29_1 ha.out.1; have fa_1 := blk_frozen ha.out.1 1
        have ca_2 := cellS29_2 ha.out.1; have fa_2 := blk_frozen ha.out.1 2
        go_wp2_with fail
        refine (clint_times_Mtip.calls c n (decide (n ≥ c)) _ rfl).mono ?_
        rintro e65 w66 ⟨rfl, hb67⟩
        try clear ca_0 fa_0 ca_1 fa_1 ca_2 fa_2
        have hB68 := Lib.hid (below_step hB64.out hb67)
        replace ha := Lib.hid (IsS29.below ha.out hb67)
        clear hb67 hB64
        have ca_0 := cellS29_0 ha.out.1; have fa_0 := blk_frozen ha.out.1 0
        have ca_1 := cellS29_1 ha.out.1; have fa_1 := blk_frozen ha.out.1 1
        have ca_2 := cellS29_2 ha.out.1; have fa_2 := blk_frozen ha.out.1 2
        go_wp2
        go_ret
        exact ⟨rfl, hB68.out⟩
      · skip
        go_wp2_with fail
        refine (clint_Clint_Write.calls 2 ga s c n 16384 8 v true s v n w _ ha.out hB31.out (FM.out.wr s c n 16384 8 v RG.out V0.out V1.out)).mono ?_
        rintro e32 w33 ⟨rfl, hi36, hB34, hK35⟩
        try clear ca_0 fa_0 ca_1 fa_1 ca_2 fa_2
        replace ha := Lib.hid hi36
        clear hi36 hK35
        clear hB31
        replace hB34 := Lib.hid hB34
        have ca_0 := cellS29_0 ha.out.1; have fa_0 := blk_frozen ha.out.1 0
        have ca_1 := cellS29_1 ha.out.1; have fa_1 := blk_frozen ha.out.1 1
        have ca_2 := cellS29_2 ha.out.1; have fa_2 := blk_frozen ha.out.1 2
        have RG2 := Lib.hid (FM.out.rng s c n 16384 8 v RG.out V0.out V1.out)
        have dS : (IntKind.u64.wrap (n % 4294967296 + IntKind.u64.wrap (n / 4294967296 * 4294967296)) == n) = true := by rw [beq_iff_eq, IntKind.wrap_u64, IntKind.wrap_u64]; obtain ⟨q0, q1⟩ : 0 ≤ n ∧ n < 18446744073709551616 := RG2.out.2.2; omega
        go_wp2_with fail
        refine (clint_Clint_Read.calls 2 s v n 16384 8 v true _ (FM.out.rd s v n 16384 8 RG2.out)).mono ?_
        rintro e37 w38 ⟨rfl, hb39⟩
        try clear ca_0 fa_0 ca_1 fa_1 ca_2 fa_2
        have hB40 := Lib.hid (below_step hB34.out hb39)
        replace ha := Lib.hid (IsS29.below ha.out hb39)
        clear hb39 hB34
        have ca_0 := cellS29_0 ha.out.1; have fa_0 := blk_frozen ha.out.1 0
        have ca_1 := cellS29_1 ha.out.1; have fa_1 := blk_frozen ha.out.1 1
        have ca_2 := cellS29_2 ha.out.1; have fa_2 := blk_frozen ha.out.1 2
        go_wp2_with fail
        refine (clint_Clint_Read.calls 2 s v n 49144 4 (n % 4294967296) true _ (FM.out.rd s v n 49144 4 RG2.out)).mono ?_
        rintro e41 w42 ⟨rfl, hb43⟩
        try clear ca_0 fa_0 ca_1 fa_1 ca_2 fa_2
        have hB44 := Lib.hid (below_step hB40.out hb43)
        replace ha := Lib.hid (IsS29.below ha.out hb43)
        clear hb43 hB40
        have ca_0 := cellS29_0 ha.out.1; have fa_0 := blk_frozen ha.out.1 0
        have ca_1 := cellS29_1 ha.out.1; have fa_1 := blk_frozen ha.out.1 1
        have ca_2 := cellS29_2 ha.out.1; have fa_2 := blk_frozen ha.out.1 2
        go_wp2_with fail
        refine (clint_Clint_Read.calls 2 s v n 49148 4 (n / 4294967296) true _ (FM.out.rd s v n 49148 4 RG2.out)).mono ?_
        rintro e45 w46 ⟨rfl, hb47⟩
        try clear ca_0 fa_0 ca_1 fa_1 ca_2 fa_2
        have hB48 := Lib.hid (below_step hB44.out hb47)
        replace ha := Lib.hid (IsS29.below ha.out hb47)
        clear hb47 hB44
        have ca_0 := cellS29_0 ha.out.1; have fa_0 := blk_frozen ha.out.1 0
        have ca_1 := cellS29_1 ha.out.1; have fa_1 := blk_frozen ha.out.1 1
        have ca_2 := cellS29_2 ha.out.1; have fa_2 := blk_frozen ha.out.1 2
        go_wp2_with fail
        refine (clint_times_Time.calls v n n _ rfl).mono ?_
        rintro e49 w50 ⟨rfl, hb51⟩
        try clear ca_0 fa_0 ca_1 fa_1 ca_2 fa_2
        have hB52 := Lib.hid (below_step hB48.out hb51)
        replace ha := Lib.hid (IsS29.below ha.out hb51)
        clear hb51 hB48
        have ca_0 := cellS29_0 ha.out.1; have fa_0 := blk_frozen ha.out.1 0
        have ca_1 := cellS29_1 ha.out.1; have fa_1 := blk_frozen ha.out.1 1
        have ca_2 := cellS29_2 ha.out.1; have fa_2 := blk_frozen ha.out.1 2
        go_wp2_with fail
        refine (clint_Clint_Msip.calls s v n (s == 1) _ rfl).mono ?_
        rintro e53 w54 ⟨rfl, hb55⟩
        try clear ca_0 fa_0 ca_1 fa_1 ca_2 fa_2
        have hB56 := Lib.hid (below_step hB52.out hb55)
        replace ha := Lib.hid (IsS29.below ha.out hb55)
        clear hb55 hB52
        have ca_0 := cellS29_0 ha.out.1; have fa_0 := blk_frozen ha.out.1 0
        have ca_1 := cellS29_1 ha.out.1; have fa_1 := blk_frozen ha.out.1 1
        have ca_2 := cellS29_2 ha.out.1; have fa_2 := blk_frozen ha.out.1 2
        go_wp2_with fail
        refine (clint_times_Mtip.calls v n (decide (n ≥ v)) _ rfl).mono ?_
        rintro e57 w58 ⟨rfl, hb59⟩
        try clear ca_0 fa_0 ca_1 fa_1 ca_2 fa_2
        have hB60 := Lib.hid (below_step hB56.out hb59)
        replace ha := Lib.hid (IsS29.below ha.out hb59)
        clear hb59 hB56
        have ca_0 := cellS29_0 ha.out.1; have fa_0 := blk_frozen ha.out.1 0
        have ca_1 := cellS29_1 ha.out.1; have fa_1 := blk_frozen ha.out.1 1
        have ca_2 := cellS29_2 ha.out.1; have fa_2 := blk_frozen ha.out.1 2
        go_wp2
        go_ret
        exact ⟨rfl, hB60.out⟩
      · have hv0 : 0 ≤ v / 4294967296 := by have := V0.out; omega
        have hv1 : v / 4294967296 < 18446744073709551616 := by have := V1.out; omega
        have VH0 := Lib.hid hv0; have VH1 := Lib.hid hv1
        clear hv0 hv1
        go_wp2_with fail
        refine (clint_Clint_Write.calls 2 ga s c n 49148 4 (v / 4294967296) true s c (v / 4294967296 % 4294967296 * 4294967296 + n % 4294967296) w _ ha.out hB31.out (FM.out.wr s c n 49148 4 (v / 4294967296) RG.out VH0.out VH1.out)).mono ?_
        rintro e32 w33 ⟨rfl, hi36, hB34, hK35⟩
        try clear ca_0 fa_0 ca_1 fa_1 ca_2 fa_2
        replace ha := Lib.hid hi36
        clear hi36 hK35
        clear hB31
        replace hB34 := Lib.hid hB34
        have ca_0 := cellS29_0 ha.out.1; have fa_0 := blk_frozen ha.out.1 0
        have ca_1 := cellS29_1 ha.out.1; have fa_1 := blk_frozen ha.out.1 1
        have ca_2 := cellS29_2 ha.out.1; have fa_2 := blk_frozen ha.out.1 2
        have RG1 := Lib.hid (FM.out.rng s c n 49148 4 (v / 4294967296) RG.out VH0.out VH1.out)
        have hN := Lib.hid (show (v / 4294967296 % 4294967296 * 4294967296 + n % 4294967296) / 4294967296 * 4294967296 + v % 4294967296 = v by have := V0.out; have := V1.out; omega)
        go_wp2_with fail
        refine (clint_Clint_Write.calls 2 ga s c (v / 4294967296 % 4294967296 * 4294967296 + n % 4294967296) 49144 4 v true s c v w _ ha.out hB34.out ((FM.out.wr s c (v / 4294967296 % 4294967296 * 4294967296 + n % 4294967296) 49144 4 v RG1.out V0.out V1.out).trans (congrArg some (show cw s c (v / 4294967296 % 4294967296 * 4294967296 + n % 4294967296) 49144 4 v = (true, s, c, v) from by show (true, s, c, (v / 4294967296 % 4294967296 * 4294967296 + n % 4294967296) / 4294967296 * 4294967296 + v % 4294967296) = _; rw [hN.out])))).mono ?_
        rintro e37 w38 ⟨rfl, hi41, hB39, hK40⟩
        try clear ca_0 fa_0 ca_1 fa_1 ca_2 fa_2
        replace ha := Lib.hid hi41
        clear hi41 hK40
        clear hB34
        replace hB39 := Lib.hid hB39
        have ca_0 := cellS29_0 ha.out.1; have fa_0 := blk_frozen ha.out.1 0
        have ca_1 := cellS29_1 ha.out.1; have fa_1 := blk_frozen ha.out.1 1
        have ca_2 := cellS29_2 ha.out.1; have fa_2 := blk_frozen ha.out.1 2
        have RG2 := Lib.hid (show Rng s c v from ⟨RG.out.1, RG.out.2.1, V0.out, V1.out⟩)
        have dS : (IntKind.u64.wrap (v % 4294967296 + IntKind.u64.wrap (v / 4294967296 * 4294967296)) == v) = true := by rw [beq_iff_eq, IntKind.wrap_u64, IntKind.wrap_u64]; obtain ⟨q0, q1⟩ : 0 ≤ v ∧ v < 18446744073709551616 := RG2.out.2.2; omega
        go_wp2_with fail
        refine (clint_Clint_Read.calls 2 s c v 16384 8 c true _ (FM.out.rd s c v 16384 8 RG2.out)).mono ?_
        rintro e42 w43 ⟨rfl, hb44⟩
        try clear ca_0 fa_0 ca_1 fa_1 ca_2 fa_2
        have hB45 := Lib.hid (below_step hB39.out hb44)
        replace ha := Lib.hid (IsS29.below ha.out hb44)
        clear hb44 hB39
        have ca_0 := cellS29_0 ha.out.1; have fa_0 := blk_frozen ha.out.1 0
        have ca_1 := cellS29_1 ha.out.1; have fa_1 := blk_frozen ha.out.1 1
        have ca_2 := cellS29_2 ha.out.1; have fa_2 := blk_frozen ha.out.1 2
        go_wp2_with fail
        refine (clint_Clint_Read.calls 2 s c v 49144 4 (v % 4294967296) true _ (FM.out.rd s c v 49144 4 RG2.out)).mono ?_
        rintro e46 w47 ⟨rfl, hb48⟩
        try clear ca_0 fa_0 ca_1 fa_1 ca_2 fa_2
        have hB49 := Lib.hid (below_step hB45.out hb48)
        replace ha := Lib.hid (IsS29.below ha.out hb48)
        clear hb48 hB45
        have ca_0 := cellS29_0 ha.out.1; have fa_0 := blk_frozen ha.out.1 0
        have ca_1 := cellS29_1 ha.out.1; have fa_1 := blk_frozen ha.out.1 1
        have ca_2 := cellS29_2 ha.out.1; have fa_2 := blk_frozen ha.out.1 2
        go_wp2_with fail
        refine (clint_Clint_Read.calls 2 s c v 49148 4 (v / 4294967296) true _ (FM.out.rd s c v 49148 4 RG2.out)).mono ?_
        rintro e50 w51 ⟨rfl, hb52⟩
        try clear ca_0 fa_0 ca_1 fa_1 ca_2 fa_2
        have hB53 := Lib.hid (below_step hB49.out hb52)
        replace ha := Lib.hid (IsS29.below ha.out hb52)
        clear hb52 hB49
        have ca_0 := cellS29_0 ha.out.1; have fa_0 := blk_frozen ha.out.1 0
        have ca_1 := cellS29_1 ha.out.1; have fa_1 := blk_frozen ha.out.1 1
        have ca_2 := cellS29_2 ha.out.1; have fa_2 := blk_frozen ha.out.1 2
        go_wp2_with fail
        refine (clint_times_Time.calls c v v _ rfl).mono ?_
        rintro e54 w55 ⟨rfl, hb56⟩
        try clear ca_0 fa_0 ca_1 fa_1 ca_2 fa_2
        have hB57 := Lib.hid (below_step hB53.out hb56)
        replace ha := Lib.hid (IsS29.below ha.out hb56)
        clear hb56 hB53
        have ca_0 := cellS29_0 ha.out.1; have fa_0 := blk_frozen ha.out.1 0
        have ca_1 := cellS29_1 ha.out.1; have fa_1 := blk_frozen ha.out.1 1
        have ca_2 := cellS29_2 ha.out.1; have fa_2 := blk_frozen ha.out.1 2
        go_wp2_with fail
        refine (clint_Clint_Msip.calls s c v (s == 1) _ rfl).mono ?_
        rintro e58 w59 ⟨rfl, hb60⟩
        try clear ca_0 fa_0 ca_1 fa_1 ca_2 fa_2
        have hB61 := Lib.hid (below_step hB57.out hb60)
        replace ha := Lib.hid (IsS29.below ha.out hb60)
        clear hb60 hB57
        have ca_0 := cellS29_0 ha.out.1; have fa_0 := blk_frozen ha.out.1 0
        have ca_1 := cellS29_1 ha.out.1; have fa_1 := blk_frozen ha.out.1 1
        have ca_2 := cellS29_2 ha.out.1; have fa_2 := blk_frozen ha.out.1 2
        go_wp2_with fail
        refine (clint_times_Mtip.calls c v (decide (v ≥ c)) _ rfl).mono ?_
        rintro e62 w63 ⟨rfl, hb64⟩
        try clear ca_0 fa_0 ca_1 fa_1 ca_2 fa_2
        have hB65 := Lib.hid (below_step hB61.out hb64)
        replace ha := Lib.hid (IsS29.below ha.out hb64)
        clear hb64 hB61
        have ca_0 := cellS29_0 ha.out.1; have fa_0 := blk_frozen ha.out.1 0
        have ca_1 := cellS29_1 ha.out.1; have fa_1 := blk_frozen ha.out.1 1
        have ca_2 := cellS29_2 ha.out.1; have fa_2 := blk_frozen ha.out.1 2
        go_wp2
        go_ret
        exact ⟨rfl, hB65.out⟩
      · have hC := FM.out.orr c v RG.out.2.1.1 RG.out.2.1.2 V0.out V1.out
        go_wp2_with fail
        refine (clint_Clint_Write.calls 2 ga s c n 16388 4 v true s (v % 4294967296 * 4294967296 + c % 4294967296) n w _ ha.out hB31.out (FM.out.wr s c n 16388 4 v RG.out V0.out V1.out)).mono ?_
        rintro e32 w33 ⟨rfl, hi36, hB34, hK35⟩
        try clear ca_0 fa_0 ca_1 fa_1 ca_2 fa_2
        replace ha := Lib.hid hi36
        clear hi36 hK35
        clear hB31
        replace hB34 := Lib.hid hB34
        have ca_0 := cellS29_0 ha.out.1; have fa_0 := blk_frozen ha.out.1 0
        have ca_1 := cellS29_1 ha.out.1; have fa_1 := blk_frozen ha.out.1 1
        have ca_2 := cellS29_2 ha.out.1; have fa_2 := blk_frozen ha.out.1 2
        have RG2 := Lib.hid (FM.out.rng s c n 16388 4 v RG.out V0.out V1.out)
        have dS : (IntKind.u64.wrap (n % 4294967296 + IntKind.u64.wrap (n / 4294967296 * 4294967296)) == n) = true := by rw [beq_iff_eq, IntKind.wrap_u64, IntKind.wrap_u64]; obtain ⟨q0, q1⟩ : 0 ≤ n ∧ n < 18446744073709551616 := RG2.out.2.2; omega
        go_wp2_with fail
        refine (clint_Clint_Read.calls 2 s (v % 4294967296 * 4294967296 + c % 4294967296) n 16384 8 (v % 4294967296 * 4294967296 + c % 4294967296) true _ (FM.out.rd s (v % 4294967296 * 4294967296 + c % 4294967296) n 16384 8 RG2.out)).mono ?_
        rintro e37 w38 ⟨rfl, hb39⟩
        try clear ca_0 fa_0 ca_1 fa_1 ca_2 fa_2
        have hB40 := Lib.hid (below_step hB34.out hb39)
        replace ha := Lib.hid (IsS29.below ha.out hb39)
        clear hb39 hB34
        have ca_0 := cellS29_0 ha.out.1; have fa_0 := blk_frozen ha.out.1 0
        have ca_1 := cellS29_1 ha.out.1; have fa_1 := blk_frozen ha.out.1 1
        have ca_2 := cellS29_2 ha.out.1; have fa_2 := blk_frozen ha.out.1 2
        go_wp2_with fail
        refine (clint_Clint_Read.calls 2 s (v % 4294967296 * 4294967296 + c % 4294967296) n 49144 4 (n % 4294967296) true _ (FM.out.rd s (v % 4294967296 * 4294967296 + c % 4294967296) n 49144 4 RG2.out)).mono ?_
        rintro e41 w42 ⟨rfl, hb43⟩
        try clear ca_0 fa_0 ca_1 fa_1 ca_2 fa_2
        have hB44 := Lib.hid (below_step hB40.out hb43)
        replace ha := Lib.hid (IsS29.below ha.out hb43)
        clear hb43 hB40
        have ca_0 := cellS29_0 ha.out.1; have fa_0 := blk_frozen ha.out.1 0
        have ca_1 := cellS29_1 ha.out.1; have fa_1 := blk_frozen ha.out.1 1
        have ca_2 := cellS29_2 ha.out.1; have fa_2 := blk_frozen ha.out.1 2
        go_wp2_with fail
        refine (clint_Clint_Read.calls 2 s (v % 4294967296 * 4294967296 + c % 4294967296) n 49148 4 (n / 4294967296) true _ (FM.out.rd s (v % 4294967296 * 4294967296 + c % 4294967296) n 49148 4 RG2.out)).mono ?_
        rintro e45 w46 ⟨rfl, hb47⟩
        try clear ca_0 fa_0 ca_1 fa_1 ca_2 fa_2
        have hB48 := Lib.hid (below_step hB44.out hb47)
        replace ha := Lib.hid (IsS29.below ha.out hb47)
        clear hb47 hB44
        have ca_0 := cellS29_0 ha.out.1; have fa_0 := blk_frozen ha.out.1 0
        have ca_1 := cellS29_1 ha.out.1; have fa_1 := blk_frozen ha.out.1 1
        have ca_2 := cellS29_2 ha.out.1; have fa_2 := blk_frozen ha.out.1 2
        go_wp2_with fail
        refine (clint_times_Time.calls (v % 4294967296 * 4294967296 + c % 4294967296) n n _ rfl).mono ?_
        rintro e49 w50 ⟨rfl, hb51⟩
        try clear ca_0 fa_0 ca_1 fa_1 ca_2 fa_2
        have hB52 := Lib.hid (below_step hB48.out hb51)
        replace ha := Lib.hid (IsS29.below ha.out hb51)
        clear hb51 hB48
        have ca_0 := cellS29_0 ha.out.1; have fa_0 := blk_frozen ha.out.1 0
        have ca_1 := cellS29_1 ha.out.1; have fa_1 := blk_frozen ha.out.1 1
        have ca_2 := cellS29_2 ha.out.1; have fa_2 := blk_frozen ha.out.1 2
        go_wp2_with fail
        refine (clint_Clint_Msip.calls s (v % 4294967296 * 4294967296 + c % 4294967296) n (s == 1) _ rfl).mono ?_
        rintro e53 w54 ⟨rfl, hb55⟩
        try clear ca_0 fa_0 ca_1 fa_1 ca_2 fa_2
        have hB56 := Lib.hid (below_step hB52.out hb55)
        replace ha := Lib.hid (IsS29.below ha.out hb55)
        clear hb55 hB52
        have ca_0 := cellS29_0 ha.out.1; have fa_0 := blk_frozen ha.out.1 0
        have ca_1 := cellS29_1 ha.out.1; have fa_1 := blk_frozen ha.out.1 1
        have ca_2 := cellS29_2 ha.out.1; have fa_2 := blk_frozen ha.out.1 2
        go_wp2_with fail
        refine (clint_times_Mtip.calls (v % 4294967296 * 4294967296 + c % 4294967296) n (decide (n ≥ (v % 4294967296 * 4294967296 + c % 4294967296))) _ rfl).mono ?_
        rintro e57 w58 ⟨rfl, hb59⟩
        try clear ca_0 fa_0 ca_1 fa_1 ca_2 fa_2
        have hB60 := Lib.hid (below_step hB56.out hb59)
        replace ha := Lib.hid (IsS29.below ha.out hb59)
        clear hb59 hB56
        have ca_0 := cellS29_0 ha.out.1; have fa_0 := blk_frozen ha.out.1 0
        have ca_1 := cellS29_1 ha.out.1; have fa_1 := blk_frozen ha.out.1 1
        have ca_2 := cellS29_2 ha.out.1; have fa_2 := blk_frozen ha.out.1 2
        go_wp2
        go_ret
        exact ⟨rfl, hB60.out⟩
def mezzaninelaw04_ClintBack.Pure : Prop := Forms
end

end Go.Proofs.Ythdgkafcgaohiaa.Q
