/- A clint that is written, read and ticks, in whatever order, tells what the document says; so does the zero one. -/
import Derived.Test.YthdgkafcgaohiaaQx8
import Derived.Test.YthdgkafcgaohiaaQx7
import Derived.Test.YthdgkafcgaohiaaQx4
import Derived.Test.YthdgkafcgaohiaaQx3
import Derived.Test.YthdgkafcgaohiaaQActs
set_option linter.unusedSimpArgs false
set_option linter.unusedVariables false
namespace Go.Proofs.Ythdgkafcgaohiaa.Pure
open Go.RowKit Go.Proofs.Ythdgkafcgaohiaa.Q Go.Proofs.YthdgkafcgaohiaaW.PrintWords Go.Proofs.YthdgkafcgaohiaaW.PrintLast Go.Proofs.YthdgkafcgaohiaaW.PrintMore Go.Proofs.Ythdgkafcgaohiaa.Bv Go.Proofs.Ythdgkafcgaohiaa.QC
/-- An act in a variable of its own. -/
def IsS36 (w0 W : World) (g : Nat) (f0 f1 f2 f3 : Int) : Prop := W.heap[g]? = some (.cells #[.int .i64 f0, .int .u64 f1, .int .i64 f2, .int .u64 f3] 36 (0, 0)) ∧ w0.heap.size ≤ g
theorem IsS36.below {w0 W : World} {g : Nat} {f0 f1 f2 f3 : Int} {W1 : World} (h : IsS36 w0 W g f0 f1 f2 f3) (hw : Below W.heap.size W W1) : IsS36 w0 W1 g f0 f1 f2 f3 := ⟨blk_below h.1 hw, h.2⟩
theorem IsS36.drew {w0 W : World} {g : Nat} {f0 f1 f2 f3 : Int} (h : IsS36 w0 W g f0 f1 f2 f3) : IsS36 w0 W.drew g f0 f1 f2 f3 := h
theorem IsS36.alloc {w0 W : World} {g : Nat} {f0 f1 f2 f3 : Int} (h : IsS36 w0 W g f0 f1 f2 f3) (o : Obj) : IsS36 w0 (W.alloc o) g f0 f1 f2 f3 := h.below (below_alloc (Below.refl _ _) o)
theorem IsS36.lt {w0 W : World} {g : Nat} {f0 f1 f2 f3 : Int} (h : IsS36 w0 W g f0 f1 f2 f3) : g < W.heap.size := (Array.getElem?_eq_some_iff.1 h.1).1
theorem IsS36.new (w0 W : World) (f0 f1 f2 f3 : Int) (hB : Below w0.heap.size w0 W) : IsS36 w0 (W.alloc (.cells #[.int .i64 f0, .int .u64 f1, .int .i64 f2, .int .u64 f3] 36)) W.heap.size f0 f1 f2 f3 := ⟨by simpa using heap_alloc_new W _, hB.size⟩
theorem cellS36_0 {W : World} {g : Nat} {f0 f1 f2 f3 : Int} (h : W.heap[g]? = some (.cells #[.int .i64 f0, .int .u64 f1, .int .i64 f2, .int .u64 f3] 36 (0, 0))) : W.cell? ⟨g, 0, none⟩ = some (.int .i64 f0) := (blk_cell h 0).trans rfl
theorem cellS36_1 {W : World} {g : Nat} {f0 f1 f2 f3 : Int} (h : W.heap[g]? = some (.cells #[.int .i64 f0, .int .u64 f1, .int .i64 f2, .int .u64 f3] 36 (0, 0))) : W.cell? ⟨g, 1, none⟩ = some (.int .u64 f1) := (blk_cell h 1).trans rfl
theorem cellS36_2 {W : World} {g : Nat} {f0 f1 f2 f3 : Int} (h : W.heap[g]? = some (.cells #[.int .i64 f0, .int .u64 f1, .int .i64 f2, .int .u64 f3] 36 (0, 0))) : W.cell? ⟨g, 2, none⟩ = some (.int .i64 f2) := (blk_cell h 2).trans rfl
theorem cellS36_3 {W : World} {g : Nat} {f0 f1 f2 f3 : Int} (h : W.heap[g]? = some (.cells #[.int .i64 f0, .int .u64 f1, .int .i64 f2, .int .u64 f3] 36 (0, 0))) : W.cell? ⟨g, 3, none⟩ = some (.int .u64 f3) := (blk_cell h 3).trans rfl
set_option maxHeartbeats 32000000 in
set_option maxRecDepth 100000 in
theorem ClintPlays (a : Option Addr) (cap : Nat) (l : List (Int × Int × Int × Int)) (zero : Bool) (w : World) (hrow : ActsAt w a l) :
    Calls Try.prog 6 #[.slice a l.length cap, .bool zero] w fun e w' => e = .returned (.bool true) ∧ Below w.heap.size w w' := by
  by_cases h : l.length ≤ 200
  rotate_left
  · have d60 : decide ((l.length : Int) > 200) = true := decide_eq_true (by omega)
    clear hrow h
    go_enter Try.func6, Try.ntmps6
    go_wp2_with fail
    refine (mezzaninelaw04_awake.calls true _ rfl).mono ?_
    rintro e1 w2 ⟨rfl, hb3⟩
    have hB4 := Lib.hid hb3
    clear hb3
    go_wp2
    go_ret
    exact ⟨rfl, hB4.out⟩
  have HR := Lib.hid hrow; have FM := Lib.hid forms
  clear hrow
  have d60 : decide ((l.length : Int) > 200) = false := decide_eq_false (by omega)
  obtain ⟨hz29, hi29⟩ := zero_of_info clint_zero
  obtain ⟨hz32, hi32⟩ := zero_of_info clint_zero32
  have HI29 := Lib.hid hi29; have HI32 := Lib.hid hi32
  clear hi29 hi32
  have hu36 := Try.underlying36
  have hu32 := Try.underlying32
  have hu29 := Try.underlying29
  have hu27 := Try.underlying27
  go_enter Try.func6, Try.ntmps6
  cases zero
  · skip
    go_wp2_with fail
    refine (mezzaninelaw04_awake.calls true _ rfl).mono ?_
    rintro e1 w2 ⟨rfl, hb3⟩
    have hB4 := Lib.hid (hb3)
    clear hb3
    go_wp2_with fail
    refine (clint_New.calls 0 18446744073709551615 0 _ rfl).mono ?_
    rintro e5 w6 ⟨rfl, hb7⟩
    have hB8 := Lib.hid (below_step hB4.out hb7)
    clear hb7 hB4
    go_wp2_with fail
    have ha := Lib.hid (IsS29.new w w6 0 18446744073709551615 0 hB8.out)
    have hB9 := Lib.hid (Below.alloc hB8.out (Below.size hB8.out) (.cells #[.int .u32 0, .int .u64 18446744073709551615, .int .u64 0] 29))
    clear hB8
    generalize w6.alloc (.cells #[.int .u32 0, .int .u64 18446744073709551615, .int .u64 0] 29) = w10 at ha hB9 ⊢
    generalize w6.heap.size = ga at ha ⊢
    have ca_0 := cellS29_0 ha.out.1; have fa_0 := blk_frozen ha.out.1 0
    have ca_1 := cellS29_1 ha.out.1; have fa_1 := blk_frozen ha.out.1 1
    have ca_2 := cellS29_2 ha.out.1; have fa_2 := blk_frozen ha.out.1 2
    refine (mezzanineref04_New.calls 0 18446744073709551615 0 _ rfl).mono ?_
    rintro e11 w12 ⟨rfl, hb13⟩
    try clear ca_0 fa_0 ca_1 fa_1 ca_2 fa_2
    have hB14 := Lib.hid (below_step hB9.out hb13)
    replace ha := Lib.hid (IsS29.below ha.out hb13)
    clear hb13 hB9
    have ca_0 := cellS29_0 ha.out.1; have fa_0 := blk_frozen ha.out.1 0
    have ca_1 := cellS29_1 ha.out.1; have fa_1 := blk_frozen ha.out.1 1
    have ca_2 := cellS29_2 ha.out.1; have fa_2 := blk_frozen ha.out.1 2
    go_upto_region 7 with fail
    try clear ca_0 fa_0 ca_1 fa_1 ca_2 fa_2
    have hb := Lib.hid (IsS32.new w w12 0 18446744073709551615 0 hB14.out)
    have hB15 := Lib.hid (Below.alloc hB14.out (Below.size hB14.out) (.cells #[.int .u64 0, .int .u64 18446744073709551615, .int .u64 0] 32))
    have nab := Lib.hid (Nat.ne_of_lt ha.out.lt)
    replace ha := Lib.hid (IsS29.alloc ha.out (.cells #[.int .u64 0, .int .u64 18446744073709551615, .int .u64 0] 32))
    clear hB14
    generalize w12.alloc (.cells #[.int .u64 0, .int .u64 18446744073709551615, .int .u64 0] 32) = w16 at hb hB15 ha ⊢
    generalize w12.heap.size = gb at hb nab ⊢
    have ca_0 := cellS29_0 ha.out.1; have fa_0 := blk_frozen ha.out.1 0
    have ca_1 := cellS29_1 ha.out.1; have fa_1 := blk_frozen ha.out.1 1
    have ca_2 := cellS29_2 ha.out.1; have fa_2 := blk_frozen ha.out.1 2
    have cb_0 := cellS32_0 hb.out.1; have fb_0 := blk_frozen hb.out.1 0
    have cb_1 := cellS32_1 hb.out.1; have fb_1 := blk_frozen hb.out.1 1
    have cb_2 := cellS32_2 hb.out.1; have fb_2 := blk_frozen hb.out.1 2
    go_wp2_with fail
    try clear ca_0 fa_0 ca_1 fa_1 ca_2 fa_2 cb_0 fb_0 cb_1 fb_1 cb_2 fb_2
    go_loopw [7] (fun v7 wr => ∃ (k : Nat) (s c n : Int), k ≤ l.length ∧ v7 = .int .i64 k ∧ IsS29 w wr ga s c n ∧ IsS32 w wr gb s c n ∧ Rng s c n ∧ Below w.heap.size w wr) (fun v7 _ => l.length - (intOf v7).toNat)
    case atStart => exact ⟨0, 0, 18446744073709551615, 0, Nat.zero_le _, rfl, ha.out, hb.out, ⟨⟨by decide, by decide⟩, ⟨by decide, by decide⟩, by decide, by decide⟩, hB15.out⟩
    case round =>
      clear ha hb hB15
      obtain ⟨k, s, c, n, hk, rfl, hi, hi2, hr, hbw⟩ := hrel
      have RG := Lib.hid hr; have ha := Lib.hid hi; have hb := Lib.hid hi2; have HB := Lib.hid hbw
      clear hr hi hi2 hbw
      by_cases hlt : k < l.length
      · have d0 : decide ((k : Int) < (l.length : Int)) = true := decide_eq_true (by omega)
        obtain ⟨x, rfl, c0, c1, c2, c3, r0, r1⟩ := HR.out.below HB.out k hlt
        have hq : ∃ q, l[k] = q := ⟨_, rfl⟩
        obtain ⟨⟨xd, xo, xn, xv⟩, hq⟩ := hq
        rw [hq] at c0 c1 c2 c3 r0 r1
        dsimp only at c0 c1 c2 c3 r0 r1
        have R0 := Lib.hid r0; have R1 := Lib.hid r1; have HQ := Lib.hid hq
        clear r0 r1 hq
        have hia := acts_index x l.length cap k hlt
        go_upto_region 14 with fail
        try clear ca_0 fa_0 ca_1 fa_1 ca_2 fa_2 cb_0 fb_0 cb_1 fb_1 cb_2 fb_2
        have hx := Lib.hid (IsS36.new w wr xd xo xn xv HB.out)
        have hB17 := Lib.hid (Below.alloc HB.out (Below.size HB.out) (.cells #[.int .i64 xd, .int .u64 xo, .int .i64 xn, .int .u64 xv] 36))
        have nax := Lib.hid (Nat.ne_of_lt ha.out.lt)
        replace ha := Lib.hid (IsS29.alloc ha.out (.cells #[.int .i64 xd, .int .u64 xo, .int .i64 xn, .int .u64 xv] 36))
        have nbx := Lib.hid (Nat.ne_of_lt hb.out.lt)
        replace hb := Lib.hid (IsS32.alloc hb.out (.cells #[.int .i64 xd, .int .u64 xo, .int .i64 xn, .int .u64 xv] 36))
        clear HB
        generalize wr.alloc (.cells #[.int .i64 xd, .int .u64 xo, .int .i64 xn, .int .u64 xv] 36) = w18 at hx hB17 ha hb ⊢
        generalize wr.heap.size = gx at hx nax nbx ⊢
        have ca_0 := cellS29_0 ha.out.1; have fa_0 := blk_frozen ha.out.1 0
        have ca_1 := cellS29_1 ha.out.1; have fa_1 := blk_frozen ha.out.1 1
        have ca_2 := cellS29_2 ha.out.1; have fa_2 := blk_frozen ha.out.1 2
        have cb_0 := cellS32_0 hb.out.1; have fb_0 := blk_frozen hb.out.1 0
        have cb_1 := cellS32_1 hb.out.1; have fb_1 := blk_frozen hb.out.1 1
        have cb_2 := cellS32_2 hb.out.1; have fb_2 := blk_frozen hb.out.1 2
        have cx_0 := cellS36_0 hx.out.1; have fx_0 := blk_frozen hx.out.1 0
        have cx_1 := cellS36_1 hx.out.1; have fx_1 := blk_frozen hx.out.1 1
        have cx_2 := cellS36_2 hx.out.1; have fx_2 := blk_frozen hx.out.1 2
        have cx_3 := cellS36_3 hx.out.1; have fx_3 := blk_frozen hx.out.1 3
        clear c0 c1 c2 c3 hia
        have dxx : ∀ b : Bool, (b != b) = false := by intro b; cases b <;> rfl
        have dii : ∀ z : Int, (z != z) = false := fun z => bne_self_eq_false z
        by_cases h0 : xd = 0
        · subst h0
          have d9 := dxx (cw s c n xo xn xv).1
          go_wp2_with fail
          refine (clint_Clint_Write.calls 2 ga s c n xo xn xv (cw s c n xo xn xv).1 (cw s c n xo xn xv).2.1 (cw s c n xo xn xv).2.2.1 (cw s c n xo xn xv).2.2.2 w _ ha.out hB17.out (FM.out.wr s c n xo xn xv RG.out R0.out R1.out)).mono ?_
          rintro e19 w20 ⟨rfl, hi23, hB21, hK22⟩
          try clear ca_0 fa_0 ca_1 fa_1 ca_2 fa_2 cb_0 fb_0 cb_1 fb_1 cb_2 fb_2 cx_0 fx_0 cx_1 fx_1 cx_2 fx_2 cx_3 fx_3
          replace hb := Lib.hid (⟨hK22.blk hb.out.1 (Ne.symm nab.out) (by simp), hb.out.2⟩ : IsS32 w w20 gb s c n)
          replace hx := Lib.hid (⟨hK22.blk hx.out.1 (Ne.symm nax.out) (by simp), hx.out.2⟩ : IsS36 w w20 gx 0 xo xn xv)
          replace ha := Lib.hid hi23
          clear hi23 hK22
          clear hB17
          replace hB21 := Lib.hid hB21
          have ca_0 := cellS29_0 ha.out.1; have fa_0 := blk_frozen ha.out.1 0
          have ca_1 := cellS29_1 ha.out.1; have fa_1 := blk_frozen ha.out.1 1
          have ca_2 := cellS29_2 ha.out.1; have fa_2 := blk_frozen ha.out.1 2
          have cb_0 := cellS32_0 hb.out.1; have fb_0 := blk_frozen hb.out.1 0
          have cb_1 := cellS32_1 hb.out.1; have fb_1 := blk_frozen hb.out.1 1
          have cb_2 := cellS32_2 hb.out.1; have fb_2 := blk_frozen hb.out.1 2
          have cx_0 := cellS36_0 hx.out.1; have fx_0 := blk_frozen hx.out.1 0
          have cx_1 := cellS36_1 hx.out.1; have fx_1 := blk_frozen hx.out.1 1
          have cx_2 := cellS36_2 hx.out.1; have fx_2 := blk_frozen hx.out.1 2
          have cx_3 := cellS36_3 hx.out.1; have fx_3 := blk_frozen hx.out.1 3
          go_wp2_with fail
          refine (mezzanineref04_Clint_Write.calls  gb s c n xo xn xv (cw s c n xo xn xv).1 (cw s c n xo xn xv).2.1 (cw s c n xo xn xv).2.2.1 (cw s c n xo xn xv).2.2.2 w _ hb.out hB21.out (FM.out.rwr s c n xo xn xv RG.out R0.out R1.out)).mono ?_
          rintro e24 w25 ⟨rfl, hi28, hB26, hK27⟩
          try clear ca_0 fa_0 ca_1 fa_1 ca_2 fa_2 cb_0 fb_0 cb_1 fb_1 cb_2 fb_2 cx_0 fx_0 cx_1 fx_1 cx_2 fx_2 cx_3 fx_3
          replace ha := Lib.hid (⟨hK27.blk ha.out.1 nab.out (by simp), ha.out.2⟩ : IsS29 w w25 ga (cw s c n xo xn xv).2.1 (cw s c n xo xn xv).2.2.1 (cw s c n xo xn xv).2.2.2)
          replace hx := Lib.hid (⟨hK27.blk hx.out.1 (Ne.symm nbx.out) (by simp), hx.out.2⟩ : IsS36 w w25 gx 0 xo xn xv)
          replace hb := Lib.hid hi28
          clear hi28 hK27
          clear hB21
          replace hB26 := Lib.hid hB26
          have ca_0 := cellS29_0 ha.out.1; have fa_0 := blk_frozen ha.out.1 0
          have ca_1 := cellS29_1 ha.out.1; have fa_1 := blk_frozen ha.out.1 1
          have ca_2 := cellS29_2 ha.out.1; have fa_2 := blk_frozen ha.out.1 2
          have cb_0 := cellS32_0 hb.out.1; have fb_0 := blk_frozen hb.out.1 0
          have cb_1 := cellS32_1 hb.out.1; have fb_1 := blk_frozen hb.out.1 1
          have cb_2 := cellS32_2 hb.out.1; have fb_2 := blk_frozen hb.out.1 2
          have cx_0 := cellS36_0 hx.out.1; have fx_0 := blk_frozen hx.out.1 0
          have cx_1 := cellS36_1 hx.out.1; have fx_1 := blk_frozen hx.out.1 1
          have cx_2 := cellS36_2 hx.out.1; have fx_2 := blk_frozen hx.out.1 2
          have cx_3 := cellS36_3 hx.out.1; have fx_3 := blk_frozen hx.out.1 3
          have RG2 := Lib.hid (FM.out.rng s c n xo xn xv RG.out R0.out R1.out)
          go_upto_region 31 with fail
          try clear ca_0 fa_0 ca_1 fa_1 ca_2 fa_2 cb_0 fb_0 cb_1 fb_1 cb_2 fb_2 cx_0 fx_0 cx_1 fx_1 cx_2 fx_2 cx_3 fx_3
          clear hx
          generalize (cw s c n xo xn xv).2.1 = s2 at ha hb RG2
          generalize (cw s c n xo xn xv).2.2.1 = c2 at ha hb RG2
          generalize (cw s c n xo xn xv).2.2.2 = n2 at ha hb RG2
          have d1 := dii n2; have d2 := dxx (s2 == 1); have d3 := dxx (decide (n2 ≥ c2))
          refine start_ (n := 21) (S := fun w' => w'.cell? ⟨ga, 0, none⟩ = some (.int .u32 s2) ∧ w'.cell? ⟨ga, 1, none⟩ = some (.int .u64 c2) ∧ w'.cell? ⟨ga, 2, none⟩ = some (.int .u64 n2) ∧ w'.cell? ⟨gb, 0, none⟩ = some (.int .u64 s2) ∧ w'.cell? ⟨gb, 1, none⟩ = some (.int .u64 c2) ∧ w'.cell? ⟨gb, 2, none⟩ = some (.int .u64 n2)) (ds := []) #[false, false, false, false, false, false, false, false, false, false, false, false, false, false, false, false, false, false, false, false, false] (by kernel_rfl) rfl rfl ⟨cellS29_0 ha.out.1, cellS29_1 ha.out.1, cellS29_2 ha.out.1, cellS32_0 hb.out.1, cellS32_1 hb.out.1, cellS32_2 hb.out.1⟩ (fun hHeld => ?_)
          replace ha := Lib.hid (IsS29.drew ha.out); replace hb := Lib.hid (IsS32.drew hb.out); replace hB26 := Lib.hid (below_drew1 hB26.out)
          generalize World.drew w25 = wd44 at ha hb hB26 hHeld ⊢
          refine pure_ (i := 0) (N := some 98) (v := ?_) (a' := ?_) #[true, false, false, false, false, false, false, false, false, false, false, false, false, false, false, false, false, false, false, false, false] rfl rfl (by kernel_rfl) (fun _ _ _ h => h) (Or.inl ⟨by rfl, ?_⟩) ?_ ?_
          rotate_left
          · intro w'
            go_simp
            with_reducible rfl
          rotate_left
          · simp only [Act.put, List.setIfInBounds_toArray, List.set_cons_zero, List.set_cons_succ, i64_w, i32_w]
            rfl
          refine pure_ (i := 3) (N := some 101) (v := ?_) (a' := ?_) #[true, false, false, true, false, false, false, false, false, false, false, false, false, false, false, false, false, false, false, false, false] rfl rfl (by kernel_rfl) (fun _ _ _ h => h) (Or.inl ⟨by rfl, ?_⟩) ?_ ?_
          rotate_left
          · intro w'
            go_simp
            with_reducible rfl
          rotate_left
          · simp only [Act.put, List.setIfInBounds_toArray, List.set_cons_zero, List.set_cons_succ, i64_w, i32_w]
            rfl
          refine take_ (i := 1) (N := some 99) (v := ?_) (a' := ?_) #[true, true, false, true, false, false, false, false, false, false, false, false, false, false, false, false, false, false, false, false, false] rfl rfl (by kernel_rfl) (fun _ _ _ h => h) (Or.inl ⟨by rfl, ?_⟩) hHeld ?_ ?_
          rotate_left
          · rintro w' ⟨s0, s1, s2, s3, s4, s5⟩
            go_simp
            with_reducible rfl
          rotate_left
          · simp only [Act.put, List.setIfInBounds_toArray, List.set_cons_zero, List.set_cons_succ, i64_w, i32_w]
            rfl
          refine take_ (i := 4) (N := some 102) (v := ?_) (a' := ?_) #[true, true, false, true, true, false, false, false, false, false, false, false, false, false, false, false, false, false, false, false, false] rfl rfl (by kernel_rfl) (fun _ _ _ h => h) (Or.inl ⟨by rfl, ?_⟩) hHeld ?_ ?_
          rotate_left
          · rintro w' ⟨s0, s1, s2, s3, s4, s5⟩
            go_simp
            with_reducible rfl
          rotate_left
          · simp only [Act.put, List.setIfInBounds_toArray, List.set_cons_zero, List.set_cons_succ, i64_w, i32_w]
            rfl
          refine one_ (i := 2) (N := some 100) #[true, true, true, true, true, false, false, false, false, false, false, false, false, false, false, false, false, false, false, false, false] rfl rfl (by kernel_rfl) (by decide) (fun K hK => ?_)
          refine goes_ Try.func16 (by kernel_rfl) rfl #[.agg #[.int .u64 c2, .int .u64 n2]] (by rfl) rfl rfl (by simp only [List.map_toArray, List.map_cons, List.map_nil]; rfl) ?_
          with_reducible refine (clint_times_Time.calls c2 n2 n2 _ rfl).mono ?_
          rintro e29 w30 ⟨rfl, hb_⟩
          refine ⟨_, rfl, ?_⟩
          have s_0 := pw_cell_below hb_ hHeld.1
          have s_1 := pw_cell_below hb_ hHeld.2.1
          have s_2 := pw_cell_below hb_ hHeld.2.2.1
          have s_3 := pw_cell_below hb_ hHeld.2.2.2.1
          have s_4 := pw_cell_below hb_ hHeld.2.2.2.2.1
          have s_5 := pw_cell_below hb_ hHeld.2.2.2.2.2
          replace ha := Lib.hid (IsS29.below ha.out hb_); replace hb := Lib.hid (IsS32.below hb.out hb_); have hB31 := Lib.hid (below_step hB26.out hb_)
          clear hb_ hHeld hB26
          refine hK.out _ _ ⟨s_0, s_1, s_2, s_3, s_4, s_5⟩ (fun hHeld => ?_)
          clear hK K
          refine norm_ (a' := ?_) ?_ ?_
          rotate_left
          · show Act.put _ (some 100) _ = _
            simp only [Act.put, List.setIfInBounds_toArray, List.set_cons_zero, List.set_cons_succ, i64_w, i32_w]
            rfl
          refine pure_ (i := 5) (N := some 103) (v := ?_) (a' := ?_) #[true, true, true, true, true, true, false, false, false, false, false, false, false, false, false, false, false, false, false, false, false] rfl rfl (by kernel_rfl) (fun _ _ _ h => h) (Or.inl ⟨by rfl, ?_⟩) ?_ ?_
          rotate_left
          · intro w'
            go_simp
            with_reducible rfl
          rotate_left
          · simp only [Act.put, List.setIfInBounds_toArray, List.set_cons_zero, List.set_cons_succ, i64_w, i32_w]
            rfl
          refine pure_ (i := 6) (N := some 104) (v := ?_) (a' := ?_) #[true, true, true, true, true, true, true, false, false, false, false, false, false, false, false, false, false, false, false, false, false] rfl rfl (by kernel_rfl) (fun _ _ _ h => h) (Or.inl ⟨by rfl, ?_⟩) ?_ ?_
          rotate_left
          · intro w'
            go_simp
            with_reducible rfl
          rotate_left
          · simp only [Act.put, List.setIfInBounds_toArray, List.set_cons_zero, List.set_cons_succ, i64_w, i32_w]
            rfl
          refine take_ (i := 7) (N := some 105) (v := ?_) (a' := ?_) #[true, true, true, true, true, true, true, true, false, false, false, false, false, false, false, false, false, false, false, false, false] rfl rfl (by kernel_rfl) (fun _ _ _ h => h) (Or.inl ⟨by rfl, ?_⟩) hHeld ?_ ?_
          rotate_left
          · rintro w' ⟨s0, s1, s2, s3, s4, s5⟩
            go_simp
            with_reducible rfl
          rotate_left
          · simp only [Act.put, List.setIfInBounds_toArray, List.set_cons_zero, List.set_cons_succ, i64_w, i32_w]
            rfl
          refine take_ (i := 9) (N := some 107) (v := ?_) (a' := ?_) #[true, true, true, true, true, true, true, true, false, true, false, false, false, false, false, false, false, false, false, false, false] rfl rfl (by kernel_rfl) (fun _ _ _ h => h) (Or.inl ⟨by rfl, ?_⟩) hHeld ?_ ?_
          rotate_left
          · rintro w' ⟨s0, s1, s2, s3, s4, s5⟩
            go_simp
            with_reducible rfl
          rotate_left
          · simp only [Act.put, List.setIfInBounds_toArray, List.set_cons_zero, List.set_cons_succ, i64_w, i32_w]
            rfl
          refine one_ (i := 8) (N := some 106) #[true, true, true, true, true, true, true, true, true, true, false, false, false, false, false, false, false, false, false, false, false] rfl rfl (by kernel_rfl) (by decide) (fun K hK => ?_)
          refine goes_ Try.func18 (by kernel_rfl) rfl #[.agg #[.int .u32 s2, .int .u64 c2, .int .u64 n2]] (by rfl) rfl rfl (by simp only [List.map_toArray, List.map_cons, List.map_nil]; rfl) ?_
          with_reducible refine (clint_Clint_Msip.calls s2 c2 n2 (s2 == 1) _ rfl).mono ?_
          rintro e32 w33 ⟨rfl, hb_⟩
          refine ⟨_, rfl, ?_⟩
          have s_0 := pw_cell_below hb_ hHeld.1
          have s_1 := pw_cell_below hb_ hHeld.2.1
          have s_2 := pw_cell_below hb_ hHeld.2.2.1
          have s_3 := pw_cell_below hb_ hHeld.2.2.2.1
          have s_4 := pw_cell_below hb_ hHeld.2.2.2.2.1
          have s_5 := pw_cell_below hb_ hHeld.2.2.2.2.2
          replace ha := Lib.hid (IsS29.below ha.out hb_); replace hb := Lib.hid (IsS32.below hb.out hb_); have hB34 := Lib.hid (below_step hB31.out hb_)
          clear hb_ hHeld hB31
          refine hK.out _ _ ⟨s_0, s_1, s_2, s_3, s_4, s_5⟩ (fun hHeld => ?_)
          clear hK K
          refine norm_ (a' := ?_) ?_ ?_
          rotate_left
          · show Act.put _ (some 106) _ = _
            simp only [Act.put, List.setIfInBounds_toArray, List.set_cons_zero, List.set_cons_succ, i64_w, i32_w]
            rfl
          refine one_ (i := 10) (N := some 108) #[true, true, true, true, true, true, true, true, true, true, true, false, false, false, false, false, false, false, false, false, false] rfl rfl (by kernel_rfl) (by decide) (fun K hK => ?_)
          refine goes_ Try.func20 (by kernel_rfl) rfl #[.agg #[.int .u64 s2, .int .u64 c2, .int .u64 n2]] (by rfl) rfl rfl (by simp only [List.map_toArray, List.map_cons, List.map_nil]; rfl) ?_
          with_reducible refine (mezzanineref04_Clint_Msip.calls s2 c2 n2 (s2 == 1) _ rfl).mono ?_
          rintro e35 w36 ⟨rfl, hb_⟩
          refine ⟨_, rfl, ?_⟩
          have s_0 := pw_cell_below hb_ hHeld.1
          have s_1 := pw_cell_below hb_ hHeld.2.1
          have s_2 := pw_cell_below hb_ hHeld.2.2.1
          have s_3 := pw_cell_below hb_ hHeld.2.2.2.1
          have s_4 := pw_cell_below hb_ hHeld.2.2.2.2.1
          have s_5 := pw_cell_below hb_ hHeld.2.2.2.2.2
          replace ha := Lib.hid (IsS29.below ha.out hb_); replace hb := Lib.hid (IsS32.below hb.out hb_); have hB37 := Lib.hid (below_step hB34.out hb_)
          clear hb_ hHeld hB34
          refine hK.out _ _ ⟨s_0, s_1, s_2, s_3, s_4, s_5⟩ (fun hHeld => ?_)
          clear hK K
          refine norm_ (a' := ?_) ?_ ?_
          rotate_left
          · show Act.put _ (some 108) _ = _
            simp only [Act.put, List.setIfInBounds_toArray, List.set_cons_zero, List.set_cons_succ, i64_w, i32_w]
            rfl
          refine pure_ (i := 11) (N := some 109) (v := ?_) (a' := ?_) #[true, true, true, true, true, true, true, true, true, true, true, true, false, false, false, false, false, false, false, false, false] rfl rfl (by kernel_rfl) (fun _ _ _ h => h) (Or.inl ⟨by rfl, ?_⟩) ?_ ?_
          rotate_left
          · intro w'
            go_simp
            with_reducible rfl
          rotate_left
          · simp only [Act.put, List.setIfInBounds_toArray, List.set_cons_zero, List.set_cons_succ, i64_w, i32_w]
            rfl
          refine pure_ (i := 12) (N := some 110) (v := ?_) (a' := ?_) #[true, true, true, true, true, true, true, true, true, true, true, true, true, false, false, false, false, false, false, false, false] rfl rfl (by kernel_rfl) (fun _ _ _ h => h) (Or.inl ⟨by rfl, ?_⟩) ?_ ?_
          rotate_left
          · intro w'
            go_simp
            with_reducible rfl
          rotate_left
          · simp only [Act.put, List.setIfInBounds_toArray, List.set_cons_zero, List.set_cons_succ, i64_w, i32_w]
            rfl
          refine pure_ (i := 13) (N := some 111) (v := ?_) (a' := ?_) #[true, true, true, true, true, true, true, true, true, true, true, true, true, true, false, false, false, false, false, false, false] rfl rfl (by kernel_rfl) (fun _ _ _ h => h) (Or.inl ⟨by rfl, ?_⟩) ?_ ?_
          rotate_left
          · intro w'
            go_simp
            with_reducible rfl
          rotate_left
          · simp only [Act.put, List.setIfInBounds_toArray, List.set_cons_zero, List.set_cons_succ, i64_w, i32_w]
            rfl
          refine pure_ (i := 14) (N := some 112) (v := ?_) (a' := ?_) #[true, true, true, true, true, true, true, true, true, true, true, true, true, true, true, false, false, false, false, false, false] rfl rfl (by kernel_rfl) (fun _ _ _ h => h) (Or.inl ⟨by rfl, ?_⟩) ?_ ?_
          rotate_left
          · intro w'
            go_simp
            with_reducible rfl
          rotate_left
          · simp only [Act.put, List.setIfInBounds_toArray, List.set_cons_zero, List.set_cons_succ, i64_w, i32_w]
            rfl
          refine take_ (i := 15) (N := some 113) (v := ?_) (a' := ?_) #[true, true, true, true, true, true, true, true, true, true, true, true, true, true, true, true, false, false, false, false, false] rfl rfl (by kernel_rfl) (fun _ _ _ h => h) (Or.inl ⟨by rfl, ?_⟩) hHeld ?_ ?_
          rotate_left
          · rintro w' ⟨s0, s1, s2, s3, s4, s5⟩
            go_simp
            with_reducible rfl
          rotate_left
          · simp only [Act.put, List.setIfInBounds_toArray, List.set_cons_zero, List.set_cons_succ, i64_w, i32_w]
            rfl
          refine take_ (i := 17) (N := some 115) (v := ?_) (a' := ?_) #[true, true, true, true, true, true, true, true, true, true, true, true, true, true, true, true, false, true, false, false, false] rfl rfl (by kernel_rfl) (fun _ _ _ h => h) (Or.inl ⟨by rfl, ?_⟩) hHeld ?_ ?_
          rotate_left
          · rintro w' ⟨s0, s1, s2, s3, s4, s5⟩
            go_simp
            with_reducible rfl
          rotate_left
          · simp only [Act.put, List.setIfInBounds_toArray, List.set_cons_zero, List.set_cons_succ, i64_w, i32_w]
            rfl
          refine one_ (i := 16) (N := some 114) #[true, true, true, true, true, true, true, true, true, true, true, true, true, true, true, true, true, true, false, false, false] rfl rfl (by kernel_rfl) (by decide) (fun K hK => ?_)
          refine goes_ Try.func15 (by kernel_rfl) rfl #[.agg #[.int .u64 c2, .int .u64 n2]] (by rfl) rfl rfl (by simp only [List.map_toArray, List.map_cons, List.map_nil]; rfl) ?_
          with_reducible refine (clint_times_Mtip.calls c2 n2 (decide (n2 ≥ c2)) _ rfl).mono ?_
          rintro e38 w39 ⟨rfl, hb_⟩
          refine ⟨_, rfl, ?_⟩
          have s_0 := pw_cell_below hb_ hHeld.1
          have s_1 := pw_cell_below hb_ hHeld.2.1
          have s_2 := pw_cell_below hb_ hHeld.2.2.1
          have s_3 := pw_cell_below hb_ hHeld.2.2.2.1
          have s_4 := pw_cell_below hb_ hHeld.2.2.2.2.1
          have s_5 := pw_cell_below hb_ hHeld.2.2.2.2.2
          replace ha := Lib.hid (IsS29.below ha.out hb_); replace hb := Lib.hid (IsS32.below hb.out hb_); have hB40 := Lib.hid (below_step hB37.out hb_)
          clear hb_ hHeld hB37
          refine hK.out _ _ ⟨s_0, s_1, s_2, s_3, s_4, s_5⟩ (fun hHeld => ?_)
          clear hK K
          refine norm_ (a' := ?_) ?_ ?_
          rotate_left
          · show Act.put _ (some 114) _ = _
            simp only [Act.put, List.setIfInBounds_toArray, List.set_cons_zero, List.set_cons_succ, i64_w, i32_w]
            rfl
          refine one_ (i := 18) (N := some 116) #[true, true, true, true, true, true, true, true, true, true, true, true, true, true, true, true, true, true, true, false, false] rfl rfl (by kernel_rfl) (by decide) (fun K hK => ?_)
          refine goes_ Try.func21 (by kernel_rfl) rfl #[.agg #[.int .u64 s2, .int .u64 c2, .int .u64 n2]] (by rfl) rfl rfl (by simp only [List.map_toArray, List.map_cons, List.map_nil]; rfl) ?_
          with_reducible refine (mezzanineref04_Clint_Mtip.calls s2 c2 n2 (decide (n2 ≥ c2)) _ rfl).mono ?_
          rintro e41 w42 ⟨rfl, hb_⟩
          refine ⟨_, rfl, ?_⟩
          have s_0 := pw_cell_below hb_ hHeld.1
          have s_1 := pw_cell_below hb_ hHeld.2.1
          have s_2 := pw_cell_below hb_ hHeld.2.2.1
          have s_3 := pw_cell_below hb_ hHeld.2.2.2.1
          have s_4 := pw_cell_below hb_ hHeld.2.2.2.2.1
          have s_5 := pw_cell_below hb_ hHeld.2.2.2.2.2
          replace ha := Lib.hid (IsS29.below ha.out hb_); replace hb := Lib.hid (IsS32.below hb.out hb_); have hB43 := Lib.hid (below_step hB40.out hb_)
          clear hb_ hHeld hB40
          refine hK.out _ _ ⟨s_0, s_1, s_2, s_3, s_4, s_5⟩ (fun hHeld => ?_)
          clear hK K
          refine norm_ (a' := ?_) ?_ ?_
          rotate_left
          · show Act.put _ (some 116) _ = _
            simp only [Act.put, List.setIfInBounds_toArray, List.set_cons_zero, List.set_cons_succ, i64_w, i32_w]
            rfl
          refine pure_ (i := 19) (N := some 117) (v := ?_) (a' := ?_) #[true, true, true, true, true, true, true, true, true, true, true, true, true, true, true, true, true, true, true, true, false] rfl rfl (by kernel_rfl) (fun _ _ _ h => h) (Or.inl ⟨by rfl, ?_⟩) ?_ ?_
          rotate_left
          · intro w'
            go_simp
            with_reducible rfl
          rotate_left
          · simp only [Act.put, List.setIfInBounds_toArray, List.set_cons_zero, List.set_cons_succ, i64_w, i32_w]
            rfl
          refine pure_ (i := 20) (N := some 118) (v := ?_) (a' := ?_) #[true, true, true, true, true, true, true, true, true, true, true, true, true, true, true, true, true, true, true, true, true] rfl rfl (by kernel_rfl) (fun _ _ _ h => h) (Or.inl ⟨by rfl, ?_⟩) ?_ ?_
          rotate_left
          · intro w'
            go_simp
            with_reducible rfl
          rotate_left
          · simp only [Act.put, List.setIfInBounds_toArray, List.set_cons_zero, List.set_cons_succ, i64_w, i32_w]
            rfl
          refine done_ (by kernel_rfl) ?_
          go_wp2
          go_roundw
          case rel => exact ⟨k + 1, _, _, _, by omega, by go_num, ha.out, hb.out, RG2.out, hB43.out⟩
          case measure => first | (simp [intOf]; done) | (simp [intOf]; omega)
        have e0 : (xd == 0) = false := beq_eq_false_iff_ne.2 h0
        by_cases h1 : xd = 1
        · subst h1
          have d9 := dii (cr s c n xo xn).1; have d8 := dxx (cr s c n xo xn).2
          go_wp2_with fail
          refine (clint_Clint_Read.calls 2 s c n xo xn (cr s c n xo xn).1 (cr s c n xo xn).2 _ (FM.out.rd s c n xo xn RG.out)).mono ?_
          rintro e19 w20 ⟨rfl, hb21⟩
          try clear ca_0 fa_0 ca_1 fa_1 ca_2 fa_2 cb_0 fb_0 cb_1 fb_1 cb_2 fb_2 cx_0 fx_0 cx_1 fx_1 cx_2 fx_2 cx_3 fx_3
          have hB22 := Lib.hid (below_step hB17.out hb21)
          replace ha := Lib.hid (IsS29.below ha.out hb21)
          replace hb := Lib.hid (IsS32.below hb.out hb21)
          replace hx := Lib.hid (IsS36.below hx.out hb21)
          clear hb21 hB17
          have ca_0 := cellS29_0 ha.out.1; have fa_0 := blk_frozen ha.out.1 0
          have ca_1 := cellS29_1 ha.out.1; have fa_1 := blk_frozen ha.out.1 1
          have ca_2 := cellS29_2 ha.out.1; have fa_2 := blk_frozen ha.out.1 2
          have cb_0 := cellS32_0 hb.out.1; have fb_0 := blk_frozen hb.out.1 0
          have cb_1 := cellS32_1 hb.out.1; have fb_1 := blk_frozen hb.out.1 1
          have cb_2 := cellS32_2 hb.out.1; have fb_2 := blk_frozen hb.out.1 2
          have cx_0 := cellS36_0 hx.out.1; have fx_0 := blk_frozen hx.out.1 0
          have cx_1 := cellS36_1 hx.out.1; have fx_1 := blk_frozen hx.out.1 1
          have cx_2 := cellS36_2 hx.out.1; have fx_2 := blk_frozen hx.out.1 2
          have cx_3 := cellS36_3 hx.out.1; have fx_3 := blk_frozen hx.out.1 3
          go_wp2_with fail
          refine (mezzanineref04_Clint_Read.calls s c n xo xn (cr s c n xo xn).1 (cr s c n xo xn).2 _ (FM.out.rrd s c n xo xn RG.out)).mono ?_
          rintro e23 w24 ⟨rfl, hb25⟩
          try clear ca_0 fa_0 ca_1 fa_1 ca_2 fa_2 cb_0 fb_0 cb_1 fb_1 cb_2 fb_2 cx_0 fx_0 cx_1 fx_1 cx_2 fx_2 cx_3 fx_3
          have hB26 := Lib.hid (below_step hB22.out hb25)
          replace ha := Lib.hid (IsS29.below ha.out hb25)
          replace hb := Lib.hid (IsS32.below hb.out hb25)
          replace hx := Lib.hid (IsS36.below hx.out hb25)
          clear hb25 hB22
          have ca_0 := cellS29_0 ha.out.1; have fa_0 := blk_frozen ha.out.1 0
          have ca_1 := cellS29_1 ha.out.1; have fa_1 := blk_frozen ha.out.1 1
          have ca_2 := cellS29_2 ha.out.1; have fa_2 := blk_frozen ha.out.1 2
          have cb_0 := cellS32_0 hb.out.1; have fb_0 := blk_frozen hb.out.1 0
          have cb_1 := cellS32_1 hb.out.1; have fb_1 := blk_frozen hb.out.1 1
          have cb_2 := cellS32_2 hb.out.1; have fb_2 := blk_frozen hb.out.1 2
          have cx_0 := cellS36_0 hx.out.1; have fx_0 := blk_frozen hx.out.1 0
          have cx_1 := cellS36_1 hx.out.1; have fx_1 := blk_frozen hx.out.1 1
          have cx_2 := cellS36_2 hx.out.1; have fx_2 := blk_frozen hx.out.1 2
          have cx_3 := cellS36_3 hx.out.1; have fx_3 := blk_frozen hx.out.1 3
          have RG2 := RG
          go_upto_region 31 with fail
          try clear ca_0 fa_0 ca_1 fa_1 ca_2 fa_2 cb_0 fb_0 cb_1 fb_1 cb_2 fb_2 cx_0 fx_0 cx_1 fx_1 cx_2 fx_2 cx_3 fx_3
          clear hx
          have d1 := dii n; have d2 := dxx (s == 1); have d3 := dxx (decide (n ≥ c))
          refine start_ (n := 21) (S := fun w' => w'.cell? ⟨ga, 0, none⟩ = some (.int .u32 s) ∧ w'.cell? ⟨ga, 1, none⟩ = some (.int .u64 c) ∧ w'.cell? ⟨ga, 2, none⟩ = some (.int .u64 n) ∧ w'.cell? ⟨gb, 0, none⟩ = some (.int .u64 s) ∧ w'.cell? ⟨gb, 1, none⟩ = some (.int .u64 c) ∧ w'.cell? ⟨gb, 2, none⟩ = some (.int .u64 n)) (ds := []) #[false, false, false, false, false, false, false, false, false, false, false, false, false, false, false, false, false, false, false, false, false] (by kernel_rfl) rfl rfl ⟨cellS29_0 ha.out.1, cellS29_1 ha.out.1, cellS29_2 ha.out.1, cellS32_0 hb.out.1, cellS32_1 hb.out.1, cellS32_2 hb.out.1⟩ (fun hHeld => ?_)
          replace ha := Lib.hid (IsS29.drew ha.out); replace hb := Lib.hid (IsS32.drew hb.out); replace hB26 := Lib.hid (below_drew1 hB26.out)
          generalize World.drew w24 = wd42 at ha hb hB26 hHeld ⊢
          refine pure_ (i := 0) (N := some 98) (v := ?_) (a' := ?_) #[true, false, false, false, false, false, false, false, false, false, false, false, false, false, false, false, false, false, false, false, false] rfl rfl (by kernel_rfl) (fun _ _ _ h => h) (Or.inl ⟨by rfl, ?_⟩) ?_ ?_
          rotate_left
          · intro w'
            go_simp
            with_reducible rfl
          rotate_left
          · simp only [Act.put, List.setIfInBounds_toArray, List.set_cons_zero, List.set_cons_succ, i64_w, i32_w]
            rfl
          refine pure_ (i := 3) (N := some 101) (v := ?_) (a' := ?_) #[true, false, false, true, false, false, false, false, false, false, false, false, false, false, false, false, false, false, false, false, false] rfl rfl (by kernel_rfl) (fun _ _ _ h => h) (Or.inl ⟨by rfl, ?_⟩) ?_ ?_
          rotate_left
          · intro w'
            go_simp
            with_reducible rfl
          rotate_left
          · simp only [Act.put, List.setIfInBounds_toArray, List.set_cons_zero, List.set_cons_succ, i64_w, i32_w]
            rfl
          refine take_ (i := 1) (N := some 99) (v := ?_) (a' := ?_) #[true, true, false, true, false, false, false, false, false, false, false, false, false, false, false, false, false, false, false, false, false] rfl rfl (by kernel_rfl) (fun _ _ _ h => h) (Or.inl ⟨by rfl, ?_⟩) hHeld ?_ ?_
          rotate_left
          · rintro w' ⟨s0, s1, s2, s3, s4, s5⟩
            go_simp
            with_reducible rfl
          rotate_left
          · simp only [Act.put, List.setIfInBounds_toArray, List.set_cons_zero, List.set_cons_succ, i64_w, i32_w]
            rfl
          refine take_ (i := 4) (N := some 102) (v := ?_) (a' := ?_) #[true, true, false, true, true, false, false, false, false, false, false, false, false, false, false, false, false, false, false, false, false] rfl rfl (by kernel_rfl) (fun _ _ _ h => h) (Or.inl ⟨by rfl, ?_⟩) hHeld ?_ ?_
          rotate_left
          · rintro w' ⟨s0, s1, s2, s3, s4, s5⟩
            go_simp
            with_reducible rfl
          rotate_left
          · simp only [Act.put, List.setIfInBounds_toArray, List.set_cons_zero, List.set_cons_succ, i64_w, i32_w]
            rfl
          refine one_ (i := 2) (N := some 100) #[true, true, true, true, true, false, false, false, false, false, false, false, false, false, false, false, false, false, false, false, false] rfl rfl (by kernel_rfl) (by decide) (fun K hK => ?_)
          refine goes_ Try.func16 (by kernel_rfl) rfl #[.agg #[.int .u64 c, .int .u64 n]] (by rfl) rfl rfl (by simp only [List.map_toArray, List.map_cons, List.map_nil]; rfl) ?_
          with_reducible refine (clint_times_Time.calls c n n _ rfl).mono ?_
          rintro e27 w28 ⟨rfl, hb_⟩
          refine ⟨_, rfl, ?_⟩
          have s_0 := pw_cell_below hb_ hHeld.1
          have s_1 := pw_cell_below hb_ hHeld.2.1
          have s_2 := pw_cell_below hb_ hHeld.2.2.1
          have s_3 := pw_cell_below hb_ hHeld.2.2.2.1
          have s_4 := pw_cell_below hb_ hHeld.2.2.2.2.1
          have s_5 := pw_cell_below hb_ hHeld.2.2.2.2.2
          replace ha := Lib.hid (IsS29.below ha.out hb_); replace hb := Lib.hid (IsS32.below hb.out hb_); have hB29 := Lib.hid (below_step hB26.out hb_)
          clear hb_ hHeld hB26
          refine hK.out _ _ ⟨s_0, s_1, s_2, s_3, s_4, s_5⟩ (fun hHeld => ?_)
          clear hK K
          refine norm_ (a' := ?_) ?_ ?_
          rotate_left
          · show Act.put _ (some 100) _ = _
            simp only [Act.put, List.setIfInBounds_toArray, List.set_cons_zero, List.set_cons_succ, i64_w, i32_w]
            rfl
          refine pure_ (i := 5) (N := some 103) (v := ?_) (a' := ?_) #[true, true, true, true, true, true, false, false, false, false, false, false, false, false, false, false, false, false, false, false, false] rfl rfl (by kernel_rfl) (fun _ _ _ h => h) (Or.inl ⟨by rfl, ?_⟩) ?_ ?_
          rotate_left
          · intro w'
            go_simp
            with_reducible rfl
          rotate_left
          · simp only [Act.put, List.setIfInBounds_toArray, List.set_cons_zero, List.set_cons_succ, i64_w, i32_w]
            rfl
          refine pure_ (i := 6) (N := some 104) (v := ?_) (a' := ?_) #[true, true, true, true, true, true, true, false, false, false, false, false, false, false, false, false, false, false, false, false, false] rfl rfl (by kernel_rfl) (fun _ _ _ h => h) (Or.inl ⟨by rfl, ?_⟩) ?_ ?_
          rotate_left
          · intro w'
            go_simp
            with_reducible rfl
          rotate_left
          · simp only [Act.put, List.setIfInBounds_toArray, List.set_cons_zero, List.set_cons_succ, i64_w, i32_w]
            rfl
          refine take_ (i := 7) (N := some 105) (v := ?_) (a' := ?_) #[true, true, true, true, true, true, true, true, false, false, false, false, false, false, false, false, false, false, false, false, false] rfl rfl (by kernel_rfl) (fun _ _ _ h => h) (Or.inl ⟨by rfl, ?_⟩) hHeld ?_ ?_
          rotate_left
          · rintro w' ⟨s0, s1, s2, s3, s4, s5⟩
            go_simp
            with_reducible rfl
          rotate_left
          · simp only [Act.put, List.setIfInBounds_toArray, List.set_cons_zero, List.set_cons_succ, i64_w, i32_w]
            rfl
          refine take_ (i := 9) (N := some 107) (v := ?_) (a' := ?_) #[true, true, true, true, true, true, true, true, false, true, false, false, false, false, false, false, false, false, false, false, false] rfl rfl (by kernel_rfl) (fun _ _ _ h => h) (Or.inl ⟨by rfl, ?_⟩) hHeld ?_ ?_
          rotate_left
          · rintro w' ⟨s0, s1, s2, s3, s4, s5⟩
            go_simp
            with_reducible rfl
          rotate_left
          · simp only [Act.put, List.setIfInBounds_toArray, List.set_cons_zero, List.set_cons_succ, i64_w, i32_w]
            rfl
          refine one_ (i := 8) (N := some 106) #[true, true, true, true, true, true, true, true, true, true, false, false, false, false, false, false, false, false, false, false, false] rfl rfl (by kernel_rfl) (by decide) (fun K hK => ?_)
          refine goes_ Try.func18 (by kernel_rfl) rfl #[.agg #[.int .u32 s, .int .u64 c, .int .u64 n]] (by rfl) rfl rfl (by simp only [List.map_toArray, List.map_cons, List.map_nil]; rfl) ?_
          with_reducible refine (clint_Clint_Msip.calls s c n (s == 1) _ rfl).mono ?_
          rintro e30 w31 ⟨rfl, hb_⟩
          refine ⟨_, rfl, ?_⟩
          have s_0 := pw_cell_below hb_ hHeld.1
          have s_1 := pw_cell_below hb_ hHeld.2.1
          have s_2 := pw_cell_below hb_ hHeld.2.2.1
          have s_3 := pw_cell_below hb_ hHeld.2.2.2.1
          have s_4 := pw_cell_below hb_ hHeld.2.2.2.2.1
          have s_5 := pw_cell_below hb_ hHeld.2.2.2.2.2
          replace ha := Lib.hid (IsS29.below ha.out hb_); replace hb := Lib.hid (IsS32.below hb.out hb_); have hB32 := Lib.hid (below_step hB29.out hb_)
          clear hb_ hHeld hB29
          refine hK.out _ _ ⟨s_0, s_1, s_2, s_3, s_4, s_5⟩ (fun hHeld => ?_)
          clear hK K
          refine norm_ (a' := ?_) ?_ ?_
          rotate_left
          · show Act.put _ (some 106) _ = _
            simp only [Act.put, List.setIfInBounds_toArray, List.set_cons_zero, List.set_cons_succ, i64_w, i32_w]
            rfl
          refine one_ (i := 10) (N := some 108) #[true, true, true, true, true, true, true, true, true, true, true, false, false, false, false, false, false, false, false, false, false] rfl rfl (by kernel_rfl) (by decide) (fun K hK => ?_)
          refine goes_ Try.func20 (by kernel_rfl) rfl #[.agg #[.int .u64 s, .int .u64 c, .int .u64 n]] (by rfl) rfl rfl (by simp only [List.map_toArray, List.map_cons, List.map_nil]; rfl) ?_
          with_reducible refine (mezzanineref04_Clint_Msip.calls s c n (s == 1) _ rfl).mono ?_
          rintro e33 w34 ⟨rfl, hb_⟩
          refine ⟨_, rfl, ?_⟩
          have s_0 := pw_cell_below hb_ hHeld.1
          have s_1 := pw_cell_below hb_ hHeld.2.1
          have s_2 := pw_cell_below hb_ hHeld.2.2.1
          have s_3 := pw_cell_below hb_ hHeld.2.2.2.1
          have s_4 := pw_cell_below hb_ hHeld.2.2.2.2.1
          have s_5 := pw_cell_below hb_ hHeld.2.2.2.2.2
          replace ha := Lib.hid (IsS29.below ha.out hb_); replace hb := Lib.hid (IsS32.below hb.out hb_); have hB35 := Lib.hid (below_step hB32.out hb_)
          clear hb_ hHeld hB32
          refine hK.out _ _ ⟨s_0, s_1, s_2, s_3, s_4, s_5⟩ (fun hHeld => ?_)
          clear hK K
          refine norm_ (a' := ?_) ?_ ?_
          rotate_left
          · show Act.put _ (some 108) _ = _
            simp only [Act.put, List.setIfInBounds_toArray, List.set_cons_zero, List.set_cons_succ, i64_w, i32_w]
            rfl
          refine pure_ (i := 11) (N := some 109) (v := ?_) (a' := ?_) #[true, true, true, true, true, true, true, true, true, true, true, true, false, false, false, false, false, false, false, false, false] rfl rfl (by kernel_rfl) (fun _ _ _ h => h) (Or.inl ⟨by rfl, ?_⟩) ?_ ?_
          rotate_left
          · intro w'
            go_simp
            with_reducible rfl
          rotate_left
          · simp only [Act.put, List.setIfInBounds_toArray, List.set_cons_zero, List.set_cons_succ, i64_w, i32_w]
            rfl
          refine pure_ (i := 12) (N := some 110) (v := ?_) (a' := ?_) #[true, true, true, true, true, true, true, true, true, true, true, true, true, false, false, false, false, false, false, false, false] rfl rfl (by kernel_rfl) (fun _ _ _ h => h) (Or.inl ⟨by rfl, ?_⟩) ?_ ?_
          rotate_left
          · intro w'
            go_simp
            with_reducible rfl
          rotate_left
          · simp only [Act.put, List.setIfInBounds_toArray, List.set_cons_zero, List.set_cons_succ, i64_w, i32_w]
            rfl
          refine pure_ (i := 13) (N := some 111) (v := ?_) (a' := ?_) #[true, true, true, true, true, true, true, true, true, true, true, true, true, true, false, false, false, false, false, false, false] rfl rfl (by kernel_rfl) (fun _ _ _ h => h) (Or.inl ⟨by rfl, ?_⟩) ?_ ?_
          rotate_left
          · intro w'
            go_simp
            with_reducible rfl
          rotate_left
          · simp only [Act.put, List.setIfInBounds_toArray, List.set_cons_zero, List.set_cons_succ, i64_w, i32_w]
            rfl
          refine pure_ (i := 14) (N := some 112) (v := ?_) (a' := ?_) #[true, true, true, true, true, true, true, true, true, true, true, true, true, true, true, false, false, false, false, false, false] rfl rfl (by kernel_rfl) (fun _ _ _ h => h) (Or.inl ⟨by rfl, ?_⟩) ?_ ?_
          rotate_left
          · intro w'
            go_simp
            with_reducible rfl
          rotate_left
          · simp only [Act.put, List.setIfInBounds_toArray, List.set_cons_zero, List.set_cons_succ, i64_w, i32_w]
            rfl
          refine take_ (i := 15) (N := some 113) (v := ?_) (a' := ?_) #[true, true, true, true, true, true, true, true, true, true, true, true, true, true, true, true, false, false, false, false, false] rfl rfl (by kernel_rfl) (fun _ _ _ h => h) (Or.inl ⟨by rfl, ?_⟩) hHeld ?_ ?_
          rotate_left
          · rintro w' ⟨s0, s1, s2, s3, s4, s5⟩
            go_simp
            with_reducible rfl
          rotate_left
          · simp only [Act.put, List.setIfInBounds_toArray, List.set_cons_zero, List.set_cons_succ, i64_w, i32_w]
            rfl
          refine take_ (i := 17) (N := some 115) (v := ?_) (a' := ?_) #[true, true, true, true, true, true, true, true, true, true, true, true, true, true, true, true, false, true, false, false, false] rfl rfl (by kernel_rfl) (fun _ _ _ h => h) (Or.inl ⟨by rfl, ?_⟩) hHeld ?_ ?_
          rotate_left
          · rintro w' ⟨s0, s1, s2, s3, s4, s5⟩
            go_simp
            with_reducible rfl
          rotate_left
          · simp only [Act.put, List.setIfInBounds_toArray, List.set_cons_zero, List.set_cons_succ, i64_w, i32_w]
            rfl
          refine one_ (i := 16) (N := some 114) #[true, true, true, true, true, true, true, true, true, true, true, true, true, true, true, true, true, true, false, false, false] rfl rfl (by kernel_rfl) (by decide) (fun K hK => ?_)
          refine goes_ Try.func15 (by kernel_rfl) rfl #[.agg #[.int .u64 c, .int .u64 n]] (by rfl) rfl rfl (by simp only [List.map_toArray, List.map_cons, List.map_nil]; rfl) ?_
          with_reducible refine (clint_times_Mtip.calls c n (decide (n ≥ c)) _ rfl).mono ?_
          rintro e36 w37 ⟨rfl, hb_⟩
          refine ⟨_, rfl, ?_⟩
          have s_0 := pw_cell_below hb_ hHeld.1
          have s_1 := pw_cell_below hb_ hHeld.2.1
          have s_2 := pw_cell_below hb_ hHeld.2.2.1
          have s_3 := pw_cell_below hb_ hHeld.2.2.2.1
          have s_4 := pw_cell_below hb_ hHeld.2.2.2.2.1
          have s_5 := pw_cell_below hb_ hHeld.2.2.2.2.2
          replace ha := Lib.hid (IsS29.below ha.out hb_); replace hb := Lib.hid (IsS32.below hb.out hb_); have hB38 := Lib.hid (below_step hB35.out hb_)
          clear hb_ hHeld hB35
          refine hK.out _ _ ⟨s_0, s_1, s_2, s_3, s_4, s_5⟩ (fun hHeld => ?_)
          clear hK K
          refine norm_ (a' := ?_) ?_ ?_
          rotate_left
          · show Act.put _ (some 114) _ = _
            simp only [Act.put, List.setIfInBounds_toArray, List.set_cons_zero, List.set_cons_succ, i64_w, i32_w]
            rfl
          refine one_ (i := 18) (N := some 116) #[true, true, true, true, true, true, true, true, true, true, true, true, true, true, true, true, true, true, true, false, false] rfl rfl (by kernel_rfl) (by decide) (fun K hK => ?_)
          refine goes_ Try.func21 (by kernel_rfl) rfl #[.agg #[.int .u64 s, .int .u64 c, .int .u64 n]] (by rfl) rfl rfl (by simp only [List.map_toArray, List.map_cons, List.map_nil]; rfl) ?_
          with_reducible refine (mezzanineref04_Clint_Mtip.calls s c n (decide (n ≥ c)) _ rfl).mono ?_
          rintro e39 w40 ⟨rfl, hb_⟩
          refine ⟨_, rfl, ?_⟩
          have s_0 := pw_cell_below hb_ hHeld.1
          have s_1 := pw_cell_below hb_ hHeld.2.1
          have s_2 := pw_cell_below hb_ hHeld.2.2.1
          have s_3 := pw_cell_below hb_ hHeld.2.2.2.1
          have s_4 := pw_cell_below hb_ hHeld.2.2.2.2.1
          have s_5 := pw_cell_below hb_ hHeld.2.2.2.2.2
          replace ha := Lib.hid (IsS29.below ha.out hb_); replace hb := Lib.hid (IsS32.below hb.out hb_); have hB41 := Lib.hid (below_step hB38.out hb_)
          clear hb_ hHeld hB38
          refine hK.out _ _ ⟨s_0, s_1, s_2, s_3, s_4, s_5⟩ (fun hHeld => ?_)
          clear hK K
          refine norm_ (a' := ?_) ?_ ?_
          rotate_left
          · show Act.put _ (some 116) _ = _
            simp only [Act.put, List.setIfInBounds_toArray, List.set_cons_zero, List.set_cons_succ, i64_w, i32_w]
            rfl
          refine pure_ (i := 19) (N := some 117) (v := ?_) (a' := ?_) #[true, true, true, true, true, true, true, true, true, true, true, true, true, true, true, true, true, true, true, true, false] rfl rfl (by kernel_rfl) (fun _ _ _ h => h) (Or.inl ⟨by rfl, ?_⟩) ?_ ?_
          rotate_left
          · intro w'
            go_simp
            with_reducible rfl
          rotate_left
          · simp only [Act.put, List.setIfInBounds_toArray, List.set_cons_zero, List.set_cons_succ, i64_w, i32_w]
            rfl
          refine pure_ (i := 20) (N := some 118) (v := ?_) (a' := ?_) #[true, true, true, true, true, true, true, true, true, true, true, true, true, true, true, true, true, true, true, true, true] rfl rfl (by kernel_rfl) (fun _ _ _ h => h) (Or.inl ⟨by rfl, ?_⟩) ?_ ?_
          rotate_left
          · intro w'
            go_simp
            with_reducible rfl
          rotate_left
          · simp only [Act.put, List.setIfInBounds_toArray, List.set_cons_zero, List.set_cons_succ, i64_w, i32_w]
            rfl
          refine done_ (by kernel_rfl) ?_
          go_wp2
          go_roundw
          case rel => exact ⟨k + 1, _, _, _, by omega, by go_num, ha.out, hb.out, RG2.out, hB41.out⟩
          case measure => first | (simp [intOf]; done) | (simp [intOf]; omega)
        have e1 : (xd == 1) = false := beq_eq_false_iff_ne.2 h1
        by_cases h2 : xd = 2
        · subst h2
          go_wp2_with fail
          refine (clint_Clint_Tick.calls  ga s c n xv  s c (IntKind.u64.wrap (n + xv)) w _ ha.out hB17.out rfl).mono ?_
          rintro e19 w20 ⟨rfl, hi23, hB21, hK22⟩
          try clear ca_0 fa_0 ca_1 fa_1 ca_2 fa_2 cb_0 fb_0 cb_1 fb_1 cb_2 fb_2 cx_0 fx_0 cx_1 fx_1 cx_2 fx_2 cx_3 fx_3
          replace hb := Lib.hid (⟨hK22.blk hb.out.1 (Ne.symm nab.out) (by simp), hb.out.2⟩ : IsS32 w w20 gb s c n)
          replace hx := Lib.hid (⟨hK22.blk hx.out.1 (Ne.symm nax.out) (by simp), hx.out.2⟩ : IsS36 w w20 gx 2 xo xn xv)
          replace ha := Lib.hid hi23
          clear hi23 hK22
          clear hB17
          replace hB21 := Lib.hid hB21
          have ca_0 := cellS29_0 ha.out.1; have fa_0 := blk_frozen ha.out.1 0
          have ca_1 := cellS29_1 ha.out.1; have fa_1 := blk_frozen ha.out.1 1
          have ca_2 := cellS29_2 ha.out.1; have fa_2 := blk_frozen ha.out.1 2
          have cb_0 := cellS32_0 hb.out.1; have fb_0 := blk_frozen hb.out.1 0
          have cb_1 := cellS32_1 hb.out.1; have fb_1 := blk_frozen hb.out.1 1
          have cb_2 := cellS32_2 hb.out.1; have fb_2 := blk_frozen hb.out.1 2
          have cx_0 := cellS36_0 hx.out.1; have fx_0 := blk_frozen hx.out.1 0
          have cx_1 := cellS36_1 hx.out.1; have fx_1 := blk_frozen hx.out.1 1
          have cx_2 := cellS36_2 hx.out.1; have fx_2 := blk_frozen hx.out.1 2
          have cx_3 := cellS36_3 hx.out.1; have fx_3 := blk_frozen hx.out.1 3
          go_wp2_with fail
          refine (mezzanineref04_Clint_Tick.calls  gb s c n xv  s c (IntKind.u64.wrap (n + xv)) w _ hb.out hB21.out rfl).mono ?_
          rintro e24 w25 ⟨rfl, hi28, hB26, hK27⟩
          try clear ca_0 fa_0 ca_1 fa_1 ca_2 fa_2 cb_0 fb_0 cb_1 fb_1 cb_2 fb_2 cx_0 fx_0 cx_1 fx_1 cx_2 fx_2 cx_3 fx_3
          replace ha := Lib.hid (⟨hK27.blk ha.out.1 nab.out (by simp), ha.out.2⟩ : IsS29 w w25 ga s c (IntKind.u64.wrap (n + xv)))
          replace hx := Lib.hid (⟨hK27.blk hx.out.1 (Ne.symm nbx.out) (by simp), hx.out.2⟩ : IsS36 w w25 gx 2 xo xn xv)
          replace hb := Lib.hid hi28
          clear hi28 hK27
          clear hB21
          replace hB26 := Lib.hid hB26
          have ca_0 := cellS29_0 ha.out.1; have fa_0 := blk_frozen ha.out.1 0
          have ca_1 := cellS29_1 ha.out.1; have fa_1 := blk_frozen ha.out.1 1
          have ca_2 := cellS29_2 ha.out.1; have fa_2 := blk_frozen ha.out.1 2
          have cb_0 := cellS32_0 hb.out.1; have fb_0 := blk_frozen hb.out.1 0
          have cb_1 := cellS32_1 hb.out.1; have fb_1 := blk_frozen hb.out.1 1
          have cb_2 := cellS32_2 hb.out.1; have fb_2 := blk_frozen hb.out.1 2
          have cx_0 := cellS36_0 hx.out.1; have fx_0 := blk_frozen hx.out.1 0
          have cx_1 := cellS36_1 hx.out.1; have fx_1 := blk_frozen hx.out.1 1
          have cx_2 := cellS36_2 hx.out.1; have fx_2 := blk_frozen hx.out.1 2
          have cx_3 := cellS36_3 hx.out.1; have fx_3 := blk_frozen hx.out.1 3
          have RG2 := Lib.hid (RG.out.tick xv)
          go_upto_region 31 with fail
          try clear ca_0 fa_0 ca_1 fa_1 ca_2 fa_2 cb_0 fb_0 cb_1 fb_1 cb_2 fb_2 cx_0 fx_0 cx_1 fx_1 cx_2 fx_2 cx_3 fx_3
          clear hx
          generalize (IntKind.u64.wrap (n + xv)) = n2 at ha hb RG2
          have d1 := dii n2; have d2 := dxx (s == 1); have d3 := dxx (decide (n2 ≥ c))
          refine start_ (n := 21) (S := fun w' => w'.cell? ⟨ga, 0, none⟩ = some (.int .u32 s) ∧ w'.cell? ⟨ga, 1, none⟩ = some (.int .u64 c) ∧ w'.cell? ⟨ga, 2, none⟩ = some (.int .u64 n2) ∧ w'.cell? ⟨gb, 0, none⟩ = some (.int .u64 s) ∧ w'.cell? ⟨gb, 1, none⟩ = some (.int .u64 c) ∧ w'.cell? ⟨gb, 2, none⟩ = some (.int .u64 n2)) (ds := []) #[false, false, false, false, false, false, false, false, false, false, false, false, false, false, false, false, false, false, false, false, false] (by kernel_rfl) rfl rfl ⟨cellS29_0 ha.out.1, cellS29_1 ha.out.1, cellS29_2 ha.out.1, cellS32_0 hb.out.1, cellS32_1 hb.out.1, cellS32_2 hb.out.1⟩ (fun hHeld => ?_)
          replace ha := Lib.hid (IsS29.drew ha.out); replace hb := Lib.hid (IsS32.drew hb.out); replace hB26 := Lib.hid (below_drew1 hB26.out)
          generalize World.drew w25 = wd44 at ha hb hB26 hHeld ⊢
          refine pure_ (i := 0) (N := some 98) (v := ?_) (a' := ?_) #[true, false, false, false, false, false, false, false, false, false, false, false, false, false, false, false, false, false, false, false, false] rfl rfl (by kernel_rfl) (fun _ _ _ h => h) (Or.inl ⟨by rfl, ?_⟩) ?_ ?_
          rotate_left
          · intro w'
            go_simp
            with_reducible rfl
          rotate_left
          · simp only [Act.put, List.setIfInBounds_toArray, List.set_cons_zero, List.set_cons_succ, i64_w, i32_w]
            rfl
          refine pure_ (i := 3) (N := some 101) (v := ?_) (a' := ?_) #[true, false, false, true, false, false, false, false, false, false, false, false, false, false, false, false, false, false, false, false, false] rfl rfl (by kernel_rfl) (fun _ _ _ h => h) (Or.inl ⟨by rfl, ?_⟩) ?_ ?_
          rotate_left
          · intro w'
            go_simp
            with_reducible rfl
          rotate_left
          · simp only [Act.put, List.setIfInBounds_toArray, List.set_cons_zero, List.set_cons_succ, i64_w, i32_w]
            rfl
          refine take_ (i := 1) (N := some 99) (v := ?_) (a' := ?_) #[true, true, false, true, false, false, false, false, false, false, false, false, false, false, false, false, false, false, false, false, false] rfl rfl (by kernel_rfl) (fun _ _ _ h => h) (Or.inl ⟨by rfl, ?_⟩) hHeld ?_ ?_
          rotate_left
          · rintro w' ⟨s0, s1, s2, s3, s4, s5⟩
            go_simp
            with_reducible rfl
          rotate_left
          · simp only [Act.put, List.setIfInBounds_toArray, List.set_cons_zero, List.set_cons_succ, i64_w, i32_w]
            rfl
          refine take_ (i := 4) (N := some 102) (v := ?_) (a' := ?_) #[true, true, false, true, true, false, false, false, false, false, false, false, false, false, false, false, false, false, false, false, false] rfl rfl (by kernel_rfl) (fun _ _ _ h => h) (Or.inl ⟨by rfl, ?_⟩) hHeld ?_ ?_
          rotate_left
          · rintro w' ⟨s0, s1, s2, s3, s4, s5⟩
            go_simp
            with_reducible rfl
          rotate_left
          · simp only [Act.put, List.setIfInBounds_toArray, List.set_cons_zero, List.set_cons_succ, i64_w, i32_w]
            rfl
          refine one_ (i := 2) (N := some 100) #[true, true, true, true, true, false, false, false, false, false, false, false, false, false, false, false, false, false, false, false, false] rfl rfl (by kernel_rfl) (by decide) (fun K hK => ?_)
          refine goes_ Try.func16 (by kernel_rfl) rfl #[.agg #[.int .u64 c, .int .u64 n2]] (by rfl) rfl rfl (by simp only [List.map_toArray, List.map_cons, List.map_nil]; rfl) ?_
          with_reducible refine (clint_times_Time.calls c n2 n2 _ rfl).mono ?_
          rintro e29 w30 ⟨rfl, hb_⟩
          refine ⟨_, rfl, ?_⟩
          have s_0 := pw_cell_below hb_ hHeld.1
          have s_1 := pw_cell_below hb_ hHeld.2.1
          have s_2 := pw_cell_below hb_ hHeld.2.2.1
          have s_3 := pw_cell_below hb_ hHeld.2.2.2.1
          have s_4 := pw_cell_below hb_ hHeld.2.2.2.2.1
          have s_5 := pw_cell_below hb_ hHeld.2.2.2.2.2
          replace ha := Lib.hid (IsS29.below ha.out hb_); replace hb := Lib.hid (IsS32.below hb.out hb_); have hB31 := Lib.hid (below_step hB26.out hb_)
          clear hb_ hHeld hB26
          refine hK.out _ _ ⟨s_0, s_1, s_2, s_3, s_4, s_5⟩ (fun hHeld => ?_)
          clear hK K
          refine norm_ (a' := ?_) ?_ ?_
          rotate_left
          · show Act.put _ (some 100) _ = _
            simp only [Act.put, List.setIfInBounds_toArray, List.set_cons_zero, List.set_cons_succ, i64_w, i32_w]
            rfl
          refine pure_ (i := 5) (N := some 103) (v := ?_) (a' := ?_) #[true, true, true, true, true, true, false, false, false, false, false, false, false, false, false, false, false, false, false, false, false] rfl rfl (by kernel_rfl) (fun _ _ _ h => h) (Or.inl ⟨by rfl, ?_⟩) ?_ ?_
          rotate_left
          · intro w'
            go_simp
            with_reducible rfl
          rotate_left
          · simp only [Act.put, List.setIfInBounds_toArray, List.set_cons_zero, List.set_cons_succ, i64_w, i32_w]
            rfl
          refine pure_ (i := 6) (N := some 104) (v := ?_) (a' := ?_) #[true, true, true, true, true, true, true, false, false, false, false, false, false, false, false, false, false, false, false, false, false] rfl rfl (by kernel_rfl) (fun _ _ _ h => h) (Or.inl ⟨by rfl, ?_⟩) ?_ ?_
          rotate_left
          · intro w'
            go_simp
            with_reducible rfl
          rotate_left
          · simp only [Act.put, List.setIfInBounds_toArray, List.set_cons_zero, List.set_cons_succ, i64_w, i32_w]
            rfl
          refine take_ (i := 7) (N := some 105) (v := ?_) (a' := ?_) #[true, true, true, true, true, true, true, true, false, false, false, false, false, false, false, false, false, false, false, false, false] rfl rfl (by kernel_rfl) (fun _ _ _ h => h) (Or.inl ⟨by rfl, ?_⟩) hHeld ?_ ?_
          rotate_left
          · rintro w' ⟨s0, s1, s2, s3, s4, s5⟩
            go_simp
            with_reducible rfl
          rotate_left
          · simp only [Act.put, List.setIfInBounds_toArray, List.set_cons_zero, List.set_cons_succ, i64_w, i32_w]
            rfl
          refine take_ (i := 9) (N := some 107) (v := ?_) (a' := ?_) #[true, true, true, true, true, true, true, true, false, true, false, false, false, false, false, false, false, false, false, false, false] rfl rfl (by kernel_rfl) (fun _ _ _ h => h) (Or.inl ⟨by rfl, ?_⟩) hHeld ?_ ?_
          rotate_left
          · rintro w' ⟨s0, s1, s2, s3, s4, s5⟩
            go_simp
            with_reducible rfl
          rotate_left
          · simp only [Act.put, List.setIfInBounds_toArray, List.set_cons_zero, List.set_cons_succ, i64_w, i32_w]
            rfl
          refine one_ (i := 8) (N := some 106) #[true, true, true, true, true, true, true, true, true, true, false, false, false, false, false, false, false, false, false, false, false] rfl rfl (by kernel_rfl) (by decide) (fun K hK => ?_)
          refine goes_ Try.func18 (by kernel_rfl) rfl #[.agg #[.int .u32 s, .int .u64 c, .int .u64 n2]] (by rfl) rfl rfl (by simp only [List.map_toArray, List.map_cons, List.map_nil]; rfl) ?_
          with_reducible refine (clint_Clint_Msip.calls s c n2 (s == 1) _ rfl).mono ?_
          rintro e32 w33 ⟨rfl, hb_⟩
          refine ⟨_, rfl, ?_⟩
          have s_0 := pw_cell_below hb_ hHeld.1
          have s_1 := pw_cell_below hb_ hHeld.2.1
          have s_2 := pw_cell_below hb_ hHeld.2.2.1
          have s_3 := pw_cell_below hb_ hHeld.2.2.2.1
          have s_4 := pw_cell_below hb_ hHeld.2.2.2.2.1
          have s_5 := pw_cell_below hb_ hHeld.2.2.2.2.2
          replace ha := Lib.hid (IsS29.below ha.out hb_); replace hb := Lib.hid (IsS32.below hb.out hb_); have hB34 := Lib.hid (below_step hB31.out hb_)
          clear hb_ hHeld hB31
          refine hK.out _ _ ⟨s_0, s_1, s_2, s_3, s_4, s_5⟩ (fun hHeld => ?_)
          clear hK K
          refine norm_ (a' := ?_) ?_ ?_
          rotate_left
          · show Act.put _ (some 106) _ = _
            simp only [Act.put, List.setIfInBounds_toArray, List.set_cons_zero, List.set_cons_succ, i64_w, i32_w]
            rfl
          refine one_ (i := 10) (N := some 108) #[true, true, true, true, true, true, true, true, true, true, true, false, false, false, false, false, false, false, false, false, false] rfl rfl (by kernel_rfl) (by decide) (fun K hK => ?_)
          refine goes_ Try.func20 (by kernel_rfl) rfl #[.agg #[.int .u64 s, .int .u64 c, .int .u64 n2]] (by rfl) rfl rfl (by simp only [List.map_toArray, List.map_cons, List.map_nil]; rfl) ?_
          with_reducible refine (mezzanineref04_Clint_Msip.calls s c n2 (s == 1) _ rfl).mono ?_
          rintro e35 w36 ⟨rfl, hb_⟩
          refine ⟨_, rfl, ?_⟩
          have s_0 := pw_cell_below hb_ hHeld.1
          have s_1 := pw_cell_below hb_ hHeld.2.1
          have s_2 := pw_cell_below hb_ hHeld.2.2.1
          have s_3 := pw_cell_below hb_ hHeld.2.2.2.1
          have s_4 := pw_cell_below hb_ hHeld.2.2.2.2.1
          have s_5 := pw_cell_below hb_ hHeld.2.2.2.2.2
          replace ha := Lib.hid (IsS29.below ha.out hb_); replace hb := Lib.hid (IsS32.below hb.out hb_); have hB37 := Lib.hid (below_step hB34.out hb_)
          clear hb_ hHeld hB34
          refine hK.out _ _ ⟨s_0, s_1, s_2, s_3, s_4, s_5⟩ (fun hHeld => ?_)
          clear hK K
          refine norm_ (a' := ?_) ?_ ?_
          rotate_left
          · show Act.put _ (some 108) _ = _
            simp only [Act.put, List.setIfInBounds_toArray, List.set_cons_zero, List.set_cons_succ, i64_w, i32_w]
            rfl
          refine pure_ (i := 11) (N := some 109) (v := ?_) (a' := ?_) #[true, true, true, true, true, true, true, true, true, true, true, true, false, false, false, false, false, false, false, false, false] rfl rfl (by kernel_rfl) (fun _ _ _ h => h) (Or.inl ⟨by rfl, ?_⟩) ?_ ?_
          rotate_left
          · intro w'
            go_simp
            with_reducible rfl
          rotate_left
          · simp only [Act.put, List.setIfInBounds_toArray, List.set_cons_zero, List.set_cons_succ, i64_w, i32_w]
            rfl
          refine pure_ (i := 12) (N := some 110) (v := ?_) (a' := ?_) #[true, true, true, true, true, true, true, true, true, true, true, true, true, false, false, false, false, false, false, false, false] rfl rfl (by kernel_rfl) (fun _ _ _ h => h) (Or.inl ⟨by rfl, ?_⟩) ?_ ?_
          rotate_left
          · intro w'
            go_simp
            with_reducible rfl
          rotate_left
          · simp only [Act.put, List.setIfInBounds_toArray, List.set_cons_zero, List.set_cons_succ, i64_w, i32_w]
            rfl
          refine pure_ (i := 13) (N := some 111) (v := ?_) (a' := ?_) #[true, true, true, true, true, true, true, true, true, true, true, true, true, true, false, false, false, false, false, false, false] rfl rfl (by kernel_rfl) (fun _ _ _ h => h) (Or.inl ⟨by rfl, ?_⟩) ?_ ?_
          rotate_left
          · intro w'
            go_simp
            with_reducible rfl
          rotate_left
          · simp only [Act.put, List.setIfInBounds_toArray, List.set_cons_zero, List.set_cons_succ, i64_w, i32_w]
            rfl
          refine pure_ (i := 14) (N := some 112) (v := ?_) (a' := ?_) #[true, true, true, true, true, true, true, true, true, true, true, true, true, true, true, false, false, false, false, false, false] rfl rfl (by kernel_rfl) (fun _ _ _ h => h) (Or.inl ⟨by rfl, ?_⟩) ?_ ?_
          rotate_left
          · intro w'
            go_simp
            with_reducible rfl
          rotate_left
          · simp only [Act.put, List.setIfInBounds_toArray, List.set_cons_zero, List.set_cons_succ, i64_w, i32_w]
            rfl
          refine take_ (i := 15) (N := some 113) (v := ?_) (a' := ?_) #[true, true, true, true, true, true, true, true, true, true, true, true, true, true, true, true, false, false, false, false, false] rfl rfl (by kernel_rfl) (fun _ _ _ h => h) (Or.inl ⟨by rfl, ?_⟩) hHeld ?_ ?_
          rotate_left
          · rintro w' ⟨s0, s1, s2, s3, s4, s5⟩
            go_simp
            with_reducible rfl
          rotate_left
          · simp only [Act.put, List.setIfInBounds_toArray, List.set_cons_zero, List.set_cons_succ, i64_w, i32_w]
            rfl
          refine take_ (i := 17) (N := some 115) (v := ?_) (a' := ?_) #[true, true, true, true, true, true, true, true, true, true, true, true, true, true, true, true, false, true, false, false, false] rfl rfl (by kernel_rfl) (fun _ _ _ h => h) (Or.inl ⟨by rfl, ?_⟩) hHeld ?_ ?_
          rotate_left
          · rintro w' ⟨s0, s1, s2, s3, s4, s5⟩
            go_simp
            with_reducible rfl
          rotate_left
          · simp only [Act.put, List.setIfInBounds_toArray, List.set_cons_zero, List.set_cons_succ, i64_w, i32_w]
            rfl
          refine one_ (i := 16) (N := some 114) #[true, true, true, true, true, true, true, true, true, true, true, true, true, true, true, true, true, true, false, false, false] rfl rfl (by kernel_rfl) (by decide) (fun K hK => ?_)
          refine goes_ Try.func15 (by kernel_rfl) rfl #[.agg #[.int .u64 c, .int .u64 n2]] (by rfl) rfl rfl (by simp only [List.map_toArray, List.map_cons, List.map_nil]; rfl) ?_
          with_reducible refine (clint_times_Mtip.calls c n2 (decide (n2 ≥ c)) _ rfl).mono ?_
          rintro e38 w39 ⟨rfl, hb_⟩
          refine ⟨_, rfl, ?_⟩
          have s_0 := pw_cell_below hb_ hHeld.1
          have s_1 := pw_cell_below hb_ hHeld.2.1
          have s_2 := pw_cell_below hb_ hHeld.2.2.1
          have s_3 := pw_cell_below hb_ hHeld.2.2.2.1
          have s_4 := pw_cell_below hb_ hHeld.2.2.2.2.1
          have s_5 := pw_cell_below hb_ hHeld.2.2.2.2.2
          replace ha := Lib.hid (IsS29.below ha.out hb_); replace hb := Lib.hid (IsS32.below hb.out hb_); have hB40 := Lib.hid (below_step hB37.out hb_)
          clear hb_ hHeld hB37
          refine hK.out _ _ ⟨s_0, s_1, s_2, s_3, s_4, s_5⟩ (fun hHeld => ?_)
          clear hK K
          refine norm_ (a' := ?_) ?_ ?_
          rotate_left
          · show Act.put _ (some 114) _ = _
            simp only [Act.put, List.setIfInBounds_toArray, List.set_cons_zero, List.set_cons_succ, i64_w, i32_w]
            rfl
          refine one_ (i := 18) (N := some 116) #[true, true, true, true, true, true, true, true, true, true, true, true, true, true, true, true, true, true, true, false, false] rfl rfl (by kernel_rfl) (by decide) (fun K hK => ?_)
          refine goes_ Try.func21 (by kernel_rfl) rfl #[.agg #[.int .u64 s, .int .u64 c, .int .u64 n2]] (by rfl) rfl rfl (by simp only [List.map_toArray, List.map_cons, List.map_nil]; rfl) ?_
          with_reducible refine (mezzanineref04_Clint_Mtip.calls s c n2 (decide (n2 ≥ c)) _ rfl).mono ?_
          rintro e41 w42 ⟨rfl, hb_⟩
          refine ⟨_, rfl, ?_⟩
          have s_0 := pw_cell_below hb_ hHeld.1
          have s_1 := pw_cell_below hb_ hHeld.2.1
          have s_2 := pw_cell_below hb_ hHeld.2.2.1
          have s_3 := pw_cell_below hb_ hHeld.2.2.2.1
          have s_4 := pw_cell_below hb_ hHeld.2.2.2.2.1
          have s_5 := pw_cell_below hb_ hHeld.2.2.2.2.2
          replace ha := Lib.hid (IsS29.below ha.out hb_); replace hb := Lib.hid (IsS32.below hb.out hb_); have hB43 := Lib.hid (below_step hB40.out hb_)
          clear hb_ hHeld hB40
          refine hK.out _ _ ⟨s_0, s_1, s_2, s_3, s_4, s_5⟩ (fun hHeld => ?_)
          clear hK K
          refine norm_ (a' := ?_) ?_ ?_
          rotate_left
          · show Act.put _ (some 116) _ = _
            simp only [Act.put, List.setIfInBounds_toArray, List.set_cons_zero, List.set_cons_succ, i64_w, i32_w]
            rfl
          refine pure_ (i := 19) (N := some 117) (v := ?_) (a' := ?_) #[true, true, true, true, true, true, true, true, true, true, true, true, true, true, true, true, true, true, true, true, false] rfl rfl (by kernel_rfl) (fun _ _ _ h => h) (Or.inl ⟨by rfl, ?_⟩) ?_ ?_
          rotate_left
          · intro w'
            go_simp
            with_reducible rfl
          rotate_left
          · simp only [Act.put, List.setIfInBounds_toArray, List.set_cons_zero, List.set_cons_succ, i64_w, i32_w]
            rfl
          refine pure_ (i := 20) (N := some 118) (v := ?_) (a' := ?_) #[true, true, true, true, true, true, true, true, true, true, true, true, true, true, true, true, true, true, true, true, true] rfl rfl (by kernel_rfl) (fun _ _ _ h => h) (Or.inl ⟨by rfl, ?_⟩) ?_ ?_
          rotate_left
          · intro w'
            go_simp
            with_reducible rfl
          rotate_left
          · simp only [Act.put, List.setIfInBounds_toArray, List.set_cons_zero, List.set_cons_succ, i64_w, i32_w]
            rfl
          refine done_ (by kernel_rfl) ?_
          go_wp2
          go_roundw
          case rel => exact ⟨k + 1, _, _, _, by omega, by go_num, ha.out, hb.out, RG2.out, hB43.out⟩
          case measure => first | (simp [intOf]; done) | (simp [intOf]; omega)
        have e2 : (xd == 2) = false := beq_eq_false_iff_ne.2 h2
        by_cases h3 : xd = 3
        · subst h3
          go_upto_region 29 with fail
          try clear ca_0 fa_0 ca_1 fa_1 ca_2 fa_2 cb_0 fb_0 cb_1 fb_1 cb_2 fb_2 cx_0 fx_0 cx_1 fx_1 cx_2 fx_2
          have ho := Lib.hid (IsS29.new w w18 s c n hB17.out)
          have hB19 := Lib.hid (Below.alloc hB17.out (Below.size hB17.out) (.cells #[.int .u32 s, .int .u64 c, .int .u64 n] 29))
          have nao := Lib.hid (Nat.ne_of_lt ha.out.lt)
          replace ha := Lib.hid (IsS29.alloc ha.out (.cells #[.int .u32 s, .int .u64 c, .int .u64 n] 29))
          have nbo := Lib.hid (Nat.ne_of_lt hb.out.lt)
          replace hb := Lib.hid (IsS32.alloc hb.out (.cells #[.int .u32 s, .int .u64 c, .int .u64 n] 29))
          have nxo := Lib.hid (Nat.ne_of_lt hx.out.lt)
          replace hx := Lib.hid (IsS36.alloc hx.out (.cells #[.int .u32 s, .int .u64 c, .int .u64 n] 29))
          clear hB17
          generalize w18.alloc (.cells #[.int .u32 s, .int .u64 c, .int .u64 n] 29) = w20 at ho hB19 ha hb hx ⊢
          generalize w18.heap.size = go at ho nao nbo nxo ⊢
          have ca_0 := cellS29_0 ha.out.1; have fa_0 := blk_frozen ha.out.1 0
          have ca_1 := cellS29_1 ha.out.1; have fa_1 := blk_frozen ha.out.1 1
          have ca_2 := cellS29_2 ha.out.1; have fa_2 := blk_frozen ha.out.1 2
          have cb_0 := cellS32_0 hb.out.1; have fb_0 := blk_frozen hb.out.1 0
          have cb_1 := cellS32_1 hb.out.1; have fb_1 := blk_frozen hb.out.1 1
          have cb_2 := cellS32_2 hb.out.1; have fb_2 := blk_frozen hb.out.1 2
          have cx_0 := cellS36_0 hx.out.1; have fx_0 := blk_frozen hx.out.1 0
          have cx_1 := cellS36_1 hx.out.1; have fx_1 := blk_frozen hx.out.1 1
          have cx_2 := cellS36_2 hx.out.1; have fx_2 := blk_frozen hx.out.1 2
          have cx_3 := cellS36_3 hx.out.1; have fx_3 := blk_frozen hx.out.1 3
          have co_0 := cellS29_0 ho.out.1; have fo_0 := blk_frozen ho.out.1 0
          have co_1 := cellS29_1 ho.out.1; have fo_1 := blk_frozen ho.out.1 1
          have co_2 := cellS29_2 ho.out.1; have fo_2 := blk_frozen ho.out.1 2
          go_wp2_with fail
          refine (clint_Clint_Write.calls 2 go s c n 16384 8 xv true s xv n w _ ho.out hB19.out (FM.out.wr s c n 16384 8 xv RG.out R0.out R1.out)).mono ?_
          rintro e21 w22 ⟨rfl, hi25, hB23, hK24⟩
          try clear ca_0 fa_0 ca_1 fa_1 ca_2 fa_2 cb_0 fb_0 cb_1 fb_1 cb_2 fb_2 cx_0 fx_0 cx_1 fx_1 cx_2 fx_2 cx_3 fx_3 co_0 fo_0 co_1 fo_1 co_2 fo_2
          replace ha := Lib.hid (⟨hK24.blk ha.out.1 nao.out (by simp), ha.out.2⟩ : IsS29 w w22 ga s c n)
          replace hb := Lib.hid (⟨hK24.blk hb.out.1 nbo.out (by simp), hb.out.2⟩ : IsS32 w w22 gb s c n)
          replace hx := Lib.hid (⟨hK24.blk hx.out.1 nxo.out (by simp), hx.out.2⟩ : IsS36 w w22 gx 3 xo xn xv)
          replace ho := Lib.hid hi25
          clear hi25 hK24
          clear hB19
          replace hB23 := Lib.hid hB23
          have ca_0 := cellS29_0 ha.out.1; have fa_0 := blk_frozen ha.out.1 0
          have ca_1 := cellS29_1 ha.out.1; have fa_1 := blk_frozen ha.out.1 1
          have ca_2 := cellS29_2 ha.out.1; have fa_2 := blk_frozen ha.out.1 2
          have cb_0 := cellS32_0 hb.out.1; have fb_0 := blk_frozen hb.out.1 0
          have cb_1 := cellS32_1 hb.out.1; have fb_1 := blk_frozen hb.out.1 1
          have cb_2 := cellS32_2 hb.out.1; have fb_2 := blk_frozen hb.out.1 2
          have cx_0 := cellS36_0 hx.out.1; have fx_0 := blk_frozen hx.out.1 0
          have cx_1 := cellS36_1 hx.out.1; have fx_1 := blk_frozen hx.out.1 1
          have cx_2 := cellS36_2 hx.out.1; have fx_2 := blk_frozen hx.out.1 2
          have cx_3 := cellS36_3 hx.out.1; have fx_3 := blk_frozen hx.out.1 3
          have co_0 := cellS29_0 ho.out.1; have fo_0 := blk_frozen ho.out.1 0
          have co_1 := cellS29_1 ho.out.1; have fo_1 := blk_frozen ho.out.1 1
          have co_2 := cellS29_2 ho.out.1; have fo_2 := blk_frozen ho.out.1 2
          go_wp2_with fail
          refine (clint_Clint_Tick.calls  go s xv n 1  s xv (IntKind.u64.wrap (n + 1)) w _ ho.out hB23.out rfl).mono ?_
          rintro e26 w27 ⟨rfl, hi30, hB28, hK29⟩
          try clear ca_0 fa_0 ca_1 fa_1 ca_2 fa_2 cb_0 fb_0 cb_1 fb_1 cb_2 fb_2 cx_0 fx_0 cx_1 fx_1 cx_2 fx_2 cx_3 fx_3 co_0 fo_0 co_1 fo_1 co_2 fo_2
          replace ha := Lib.hid (⟨hK29.blk ha.out.1 nao.out (by simp), ha.out.2⟩ : IsS29 w w27 ga s c n)
          replace hb := Lib.hid (⟨hK29.blk hb.out.1 nbo.out (by simp), hb.out.2⟩ : IsS32 w w27 gb s c n)
          replace hx := Lib.hid (⟨hK29.blk hx.out.1 nxo.out (by simp), hx.out.2⟩ : IsS36 w w27 gx 3 xo xn xv)
          replace ho := Lib.hid hi30
          clear hi30 hK29
          clear hB23
          replace hB28 := Lib.hid hB28
          have ca_0 := cellS29_0 ha.out.1; have fa_0 := blk_frozen ha.out.1 0
          have ca_1 := cellS29_1 ha.out.1; have fa_1 := blk_frozen ha.out.1 1
          have ca_2 := cellS29_2 ha.out.1; have fa_2 := blk_frozen ha.out.1 2
          have cb_0 := cellS32_0 hb.out.1; have fb_0 := blk_frozen hb.out.1 0
          have cb_1 := cellS32_1 hb.out.1; have fb_1 := blk_frozen hb.out.1 1
          have cb_2 := cellS32_2 hb.out.1; have fb_2 := blk_frozen hb.out.1 2
          have cx_0 := cellS36_0 hx.out.1; have fx_0 := blk_frozen hx.out.1 0
          have cx_1 := cellS36_1 hx.out.1; have fx_1 := blk_frozen hx.out.1 1
          have cx_2 := cellS36_2 hx.out.1; have fx_2 := blk_frozen hx.out.1 2
          have cx_3 := cellS36_3 hx.out.1; have fx_3 := blk_frozen hx.out.1 3
          have co_0 := cellS29_0 ho.out.1; have fo_0 := blk_frozen ho.out.1 0
          have co_1 := cellS29_1 ho.out.1; have fo_1 := blk_frozen ho.out.1 1
          have co_2 := cellS29_2 ho.out.1; have fo_2 := blk_frozen ho.out.1 2
          have RG2 := RG
          go_upto_region 31 with fail
          try clear ca_0 fa_0 ca_1 fa_1 ca_2 fa_2 cb_0 fb_0 cb_1 fb_1 cb_2 fb_2 cx_0 fx_0 cx_1 fx_1 cx_2 fx_2 cx_3 fx_3 co_0 fo_0 co_1 fo_1 co_2 fo_2
          clear hx
          clear ho
          have d1 := dii n; have d2 := dxx (s == 1); have d3 := dxx (decide (n ≥ c))
          refine start_ (n := 21) (S := fun w' => w'.cell? ⟨ga, 0, none⟩ = some (.int .u32 s) ∧ w'.cell? ⟨ga, 1, none⟩ = some (.int .u64 c) ∧ w'.cell? ⟨ga, 2, none⟩ = some (.int .u64 n) ∧ w'.cell? ⟨gb, 0, none⟩ = some (.int .u64 s) ∧ w'.cell? ⟨gb, 1, none⟩ = some (.int .u64 c) ∧ w'.cell? ⟨gb, 2, none⟩ = some (.int .u64 n)) (ds := []) #[false, false, false, false, false, false, false, false, false, false, false, false, false, false, false, false, false, false, false, false, false] (by kernel_rfl) rfl rfl ⟨cellS29_0 ha.out.1, cellS29_1 ha.out.1, cellS29_2 ha.out.1, cellS32_0 hb.out.1, cellS32_1 hb.out.1, cellS32_2 hb.out.1⟩ (fun hHeld => ?_)
          replace ha := Lib.hid (IsS29.drew ha.out); replace hb := Lib.hid (IsS32.drew hb.out); replace hB28 := Lib.hid (below_drew1 hB28.out)
          generalize World.drew w27 = wd46 at ha hb hB28 hHeld ⊢
          refine pure_ (i := 0) (N := some 98) (v := ?_) (a' := ?_) #[true, false, false, false, false, false, false, false, false, false, false, false, false, false, false, false, false, false, false, false, false] rfl rfl (by kernel_rfl) (fun _ _ _ h => h) (Or.inl ⟨by rfl, ?_⟩) ?_ ?_
          rotate_left
          · intro w'
            go_simp
            with_reducible rfl
          rotate_left
          · simp only [Act.put, List.setIfInBounds_toArray, List.set_cons_zero, List.set_cons_succ, i64_w, i32_w]
            rfl
          refine pure_ (i := 3) (N := some 101) (v := ?_) (a' := ?_) #[true, false, false, true, false, false, false, false, false, false, false, false, false, false, false, false, false, false, false, false, false] rfl rfl (by kernel_rfl) (fun _ _ _ h => h) (Or.inl ⟨by rfl, ?_⟩) ?_ ?_
          rotate_left
          · intro w'
            go_simp
            with_reducible rfl
          rotate_left
          · simp only [Act.put, List.setIfInBounds_toArray, List.set_cons_zero, List.set_cons_succ, i64_w, i32_w]
            rfl
          refine take_ (i := 1) (N := some 99) (v := ?_) (a' := ?_) #[true, true, false, true, false, false, false, false, false, false, false, false, false, false, false, false, false, false, false, false, false] rfl rfl (by kernel_rfl) (fun _ _ _ h => h) (Or.inl ⟨by rfl, ?_⟩) hHeld ?_ ?_
          rotate_left
          · rintro w' ⟨s0, s1, s2, s3, s4, s5⟩
            go_simp
            with_reducible rfl
          rotate_left
          · simp only [Act.put, List.setIfInBounds_toArray, List.set_cons_zero, List.set_cons_succ, i64_w, i32_w]
            rfl
          refine take_ (i := 4) (N := some 102) (v := ?_) (a' := ?_) #[true, true, false, true, true, false, false, false, false, false, false, false, false, false, false, false, false, false, false, false, false] rfl rfl (by kernel_rfl) (fun _ _ _ h => h) (Or.inl ⟨by rfl, ?_⟩) hHeld ?_ ?_
          rotate_left
          · rintro w' ⟨s0, s1, s2, s3, s4, s5⟩
            go_simp
            with_reducible rfl
          rotate_left
          · simp only [Act.put, List.setIfInBounds_toArray, List.set_cons_zero, List.set_cons_succ, i64_w, i32_w]
            rfl
          refine one_ (i := 2) (N := some 100) #[true, true, true, true, true, false, false, false, false, false, false, false, false, false, false, false, false, false, false, false, false] rfl rfl (by kernel_rfl) (by decide) (fun K hK => ?_)
          refine goes_ Try.func16 (by kernel_rfl) rfl #[.agg #[.int .u64 c, .int .u64 n]] (by rfl) rfl rfl (by simp only [List.map_toArray, List.map_cons, List.map_nil]; rfl) ?_
          with_reducible refine (clint_times_Time.calls c n n _ rfl).mono ?_
          rintro e31 w32 ⟨rfl, hb_⟩
          refine ⟨_, rfl, ?_⟩
          have s_0 := pw_cell_below hb_ hHeld.1
          have s_1 := pw_cell_below hb_ hHeld.2.1
          have s_2 := pw_cell_below hb_ hHeld.2.2.1
          have s_3 := pw_cell_below hb_ hHeld.2.2.2.1
          have s_4 := pw_cell_below hb_ hHeld.2.2.2.2.1
          have s_5 := pw_cell_below hb_ hHeld.2.2.2.2.2
          replace ha := Lib.hid (IsS29.below ha.out hb_); replace hb := Lib.hid (IsS32.below hb.out hb_); have hB33 := Lib.hid (below_step hB28.out hb_)
          clear hb_ hHeld hB28
          refine hK.out _ _ ⟨s_0, s_1, s_2, s_3, s_4, s_5⟩ (fun hHeld => ?_)
          clear hK K
          refine norm_ (a' := ?_) ?_ ?_
          rotate_left
          · show Act.put _ (some 100) _ = _
            simp only [Act.put, List.setIfInBounds_toArray, List.set_cons_zero, List.set_cons_succ, i64_w, i32_w]
            rfl
          refine pure_ (i := 5) (N := some 103) (v := ?_) (a' := ?_) #[true, true, true, true, true, true, false, false, false, false, false, false, false, false, false, false, false, false, false, false, false] rfl rfl (by kernel_rfl) (fun _ _ _ h => h) (Or.inl ⟨by rfl, ?_⟩) ?_ ?_
          rotate_left
          · intro w'
            go_simp
            with_reducible rfl
          rotate_left
          · simp only [Act.put, List.setIfInBounds_toArray, List.set_cons_zero, List.set_cons_succ, i64_w, i32_w]
            rfl
          refine pure_ (i := 6) (N := some 104) (v := ?_) (a' := ?_) #[true, true, true, true, true, true, true, false, false, false, false, false, false, false, false, false, false, false, false, false, false] rfl rfl (by kernel_rfl) (fun _ _ _ h => h) (Or.inl ⟨by rfl, ?_⟩) ?_ ?_
          rotate_left
          · intro w'
            go_simp
            with_reducible rfl
          rotate_left
          · simp only [Act.put, List.setIfInBounds_toArray, List.set_cons_zero, List.set_cons_succ, i64_w, i32_w]
            rfl
          refine take_ (i := 7) (N := some 105) (v := ?_) (a' := ?_) #[true, true, true, true, true, true, true, true, false, false, false, false, false, false, false, false, false, false, false, false, false] rfl rfl (by kernel_rfl) (fun _ _ _ h => h) (Or.inl ⟨by rfl, ?_⟩) hHeld ?_ ?_
          rotate_left
          · rintro w' ⟨s0, s1, s2, s3, s4, s5⟩
            go_simp
            with_reducible rfl
          rotate_left
          · simp only [Act.put, List.setIfInBounds_toArray, List.set_cons_zero, List.set_cons_succ, i64_w, i32_w]
            rfl
          refine take_ (i := 9) (N := some 107) (v := ?_) (a' := ?_) #[true, true, true, true, true, true, true, true, false, true, false, false, false, false, false, false, false, false, false, false, false] rfl rfl (by kernel_rfl) (fun _ _ _ h => h) (Or.inl ⟨by rfl, ?_⟩) hHeld ?_ ?_
          rotate_left
          · rintro w' ⟨s0, s1, s2, s3, s4, s5⟩
            go_simp
            with_reducible rfl
          rotate_left
          · simp only [Act.put, List.setIfInBounds_toArray, List.set_cons_zero, List.set_cons_succ, i64_w, i32_w]
            rfl
          refine one_ (i := 8) (N := some 106) #[true, true, true, true, true, true, true, true, true, true, false, false, false, false, false, false, false, false, false, false, false] rfl rfl (by kernel_rfl) (by decide) (fun K hK => ?_)
          refine goes_ Try.func18 (by kernel_rfl) rfl #[.agg #[.int .u32 s, .int .u64 c, .int .u64 n]] (by rfl) rfl rfl (by simp only [List.map_toArray, List.map_cons, List.map_nil]; rfl) ?_
          with_reducible refine (clint_Clint_Msip.calls s c n (s == 1) _ rfl).mono ?_
          rintro e34 w35 ⟨rfl, hb_⟩
          refine ⟨_, rfl, ?_⟩
          have s_0 := pw_cell_below hb_ hHeld.1
          have s_1 := pw_cell_below hb_ hHeld.2.1
          have s_2 := pw_cell_below hb_ hHeld.2.2.1
          have s_3 := pw_cell_below hb_ hHeld.2.2.2.1
          have s_4 := pw_cell_below hb_ hHeld.2.2.2.2.1
          have s_5 := pw_cell_below hb_ hHeld.2.2.2.2.2
          replace ha := Lib.hid (IsS29.below ha.out hb_); replace hb := Lib.hid (IsS32.below hb.out hb_); have hB36 := Lib.hid (below_step hB33.out hb_)
          clear hb_ hHeld hB33
          refine hK.out _ _ ⟨s_0, s_1, s_2, s_3, s_4, s_5⟩ (fun hHeld => ?_)
          clear hK K
          refine norm_ (a' := ?_) ?_ ?_
          rotate_left
          · show Act.put _ (some 106) _ = _
            simp only [Act.put, List.setIfInBounds_toArray, List.set_cons_zero, List.set_cons_succ, i64_w, i32_w]
            rfl
          refine one_ (i := 10) (N := some 108) #[true, true, true, true, true, true, true, true, true, true, true, false, false, false, false, false, false, false, false, false, false] rfl rfl (by kernel_rfl) (by decide) (fun K hK => ?_)
          refine goes_ Try.func20 (by kernel_rfl) rfl #[.agg #[.int .u64 s, .int .u64 c, .int .u64 n]] (by rfl) rfl rfl (by simp only [List.map_toArray, List.map_cons, List.map_nil]; rfl) ?_
          with_reducible refine (mezzanineref04_Clint_Msip.calls s c n (s == 1) _ rfl).mono ?_
          rintro e37 w38 ⟨rfl, hb_⟩
          refine ⟨_, rfl, ?_⟩
          have s_0 := pw_cell_below hb_ hHeld.1
          have s_1 := pw_cell_below hb_ hHeld.2.1
          have s_2 := pw_cell_below hb_ hHeld.2.2.1
          have s_3 := pw_cell_below hb_ hHeld.2.2.2.1
          have s_4 := pw_cell_below hb_ hHeld.2.2.2.2.1
          have s_5 := pw_cell_below hb_ hHeld.2.2.2.2.2
          replace ha := Lib.hid (IsS29.below ha.out hb_); replace hb := Lib.hid (IsS32.below hb.out hb_); have hB39 := Lib.hid (below_step hB36.out hb_)
          clear hb_ hHeld hB36
          refine hK.out _ _ ⟨s_0, s_1, s_2, s_3, s_4, s_5⟩ (fun hHeld => ?_)
          clear hK K
          refine norm_ (a' := ?_) ?_ ?_
          rotate_left
          · show Act.put _ (some 108) _ = _
            simp only [Act.put, List.setIfInBounds_toArray, List.set_cons_zero, List.set_cons_succ, i64_w, i32_w]
            rfl
          refine pure_ (i := 11) (N := some 109) (v := ?_) (a' := ?_) #[true, true, true, true, true, true, true, true, true, true, true, true, false, false, false, false, false, false, false, false, false] rfl rfl (by kernel_rfl) (fun _ _ _ h => h) (Or.inl ⟨by rfl, ?_⟩) ?_ ?_
          rotate_left
          · intro w'
            go_simp
            with_reducible rfl
          rotate_left
          · simp only [Act.put, List.setIfInBounds_toArray, List.set_cons_zero, List.set_cons_succ, i64_w, i32_w]
            rfl
          refine pure_ (i := 12) (N := some 110) (v := ?_) (a' := ?_) #[true, true, true, true, true, true, true, true, true, true, true, true, true, false, false, false, false, false, false, false, false] rfl rfl (by kernel_rfl) (fun _ _ _ h => h) (Or.inl ⟨by rfl, ?_⟩) ?_ ?_
          rotate_left
          · intro w'
            go_simp
            with_reducible rfl
          rotate_left
          · simp only [Act.put, List.setIfInBounds_toArray, List.set_cons_zero, List.set_cons_succ, i64_w, i32_w]
            rfl
          refine pure_ (i := 13) (N := some 111) (v := ?_) (a' := ?_) #[true, true, true, true, true, true, true, true, true, true, true, true, true, true, false, false, false, false, false, false, false] rfl rfl (by kernel_rfl) (fun _ _ _ h => h) (Or.inl ⟨by rfl, ?_⟩) ?_ ?_
          rotate_left
          · intro w'
            go_simp
            with_reducible rfl
          rotate_left
          · simp only [Act.put, List.setIfInBounds_toArray, List.set_cons_zero, List.set_cons_succ, i64_w, i32_w]
            rfl
          refine pure_ (i := 14) (N := some 112) (v := ?_) (a' := ?_) #[true, true, true, true, true, true, true, true, true, true, true, true, true, true, true, false, false, false, false, false, false] rfl rfl (by kernel_rfl) (fun _ _ _ h => h) (Or.inl ⟨by rfl, ?_⟩) ?_ ?_
          rotate_left
          · intro w'
            go_simp
            with_reducible rfl
          rotate_left
          · simp only [Act.put, List.setIfInBounds_toArray, List.set_cons_zero, List.set_cons_succ, i64_w, i32_w]
            rfl
          refine take_ (i := 15) (N := some 113) (v := ?_) (a' := ?_) #[true, true, true, true, true, true, true, true, true, true, true, true, true, true, true, true, false, false, false, false, false] rfl rfl (by kernel_rfl) (fun _ _ _ h => h) (Or.inl ⟨by rfl, ?_⟩) hHeld ?_ ?_
          rotate_left
          · rintro w' ⟨s0, s1, s2, s3, s4, s5⟩
            go_simp
            with_reducible rfl
          rotate_left
          · simp only [Act.put, List.setIfInBounds_toArray, List.set_cons_zero, List.set_cons_succ, i64_w, i32_w]
            rfl
          refine take_ (i := 17) (N := some 115) (v := ?_) (a' := ?_) #[true, true, true, true, true, true, true, true, true, true, true, true, true, true, true, true, false, true, false, false, false] rfl rfl (by kernel_rfl) (fun _ _ _ h => h) (Or.inl ⟨by rfl, ?_⟩) hHeld ?_ ?_
          rotate_left
          · rintro w' ⟨s0, s1, s2, s3, s4, s5⟩
            go_simp
            with_reducible rfl
          rotate_left
          · simp only [Act.put, List.setIfInBounds_toArray, List.set_cons_zero, List.set_cons_succ, i64_w, i32_w]
            rfl
          refine one_ (i := 16) (N := some 114) #[true, true, true, true, true, true, true, true, true, true, true, true, true, true, true, true, true, true, false, false, false] rfl rfl (by kernel_rfl) (by decide) (fun K hK => ?_)
          refine goes_ Try.func15 (by kernel_rfl) rfl #[.agg #[.int .u64 c, .int .u64 n]] (by rfl) rfl rfl (by simp only [List.map_toArray, List.map_cons, List.map_nil]; rfl) ?_
          with_reducible refine (clint_times_Mtip.calls c n (decide (n ≥ c)) _ rfl).mono ?_
          rintro e40 w41 ⟨rfl, hb_⟩
          refine ⟨_, rfl, ?_⟩
          have s_0 := pw_cell_below hb_ hHeld.1
          have s_1 := pw_cell_below hb_ hHeld.2.1
          have s_2 := pw_cell_below hb_ hHeld.2.2.1
          have s_3 := pw_cell_below hb_ hHeld.2.2.2.1
          have s_4 := pw_cell_below hb_ hHeld.2.2.2.2.1
          have s_5 := pw_cell_below hb_ hHeld.2.2.2.2.2
          replace ha := Lib.hid (IsS29.below ha.out hb_); replace hb := Lib.hid (IsS32.below hb.out hb_); have hB42 := Lib.hid (below_step hB39.out hb_)
          clear hb_ hHeld hB39
          refine hK.out _ _ ⟨s_0, s_1, s_2, s_3, s_4, s_5⟩ (fun hHeld => ?_)
          clear hK K
          refine norm_ (a' := ?_) ?_ ?_
          rotate_left
          · show Act.put _ (some 114) _ = _
            simp only [Act.put, List.setIfInBounds_toArray, List.set_cons_zero, List.set_cons_succ, i64_w, i32_w]
            rfl
          refine one_ (i := 18) (N := some 116) #[true, true, true, true, true, true, true, true, true, true, true, true, true, true, true, true, true, true, true, false, false] rfl rfl (by kernel_rfl) (by decide) (fun K hK => ?_)
          refine goes_ Try.func21 (by kernel_rfl) rfl #[.agg #[.int .u64 s, .int .u64 c, .int .u64 n]] (by rfl) rfl rfl (by simp only [List.map_toArray, List.map_cons, List.map_nil]; rfl) ?_
          with_reducible refine (mezzanineref04_Clint_Mtip.calls s c n (decide (n ≥ c)) _ rfl).mono ?_
          rintro e43 w44 ⟨rfl, hb_⟩
          refine ⟨_, rfl, ?_⟩
          have s_0 := pw_cell_below hb_ hHeld.1
          have s_1 := pw_cell_below hb_ hHeld.2.1
          have s_2 := pw_cell_below hb_ hHeld.2.2.1
          have s_3 := pw_cell_below hb_ hHeld.2.2.2.1
          have s_4 := pw_cell_below hb_ hHeld.2.2.2.2.1
          have s_5 := pw_cell_below hb_ hHeld.2.2.2.2.2
          replace ha := Lib.hid (IsS29.below ha.out hb_); replace hb := Lib.hid (IsS32.below hb.out hb_); have hB45 := Lib.hid (below_step hB42.out hb_)
          clear hb_ hHeld hB42
          refine hK.out _ _ ⟨s_0, s_1, s_2, s_3, s_4, s_5⟩ (fun hHeld => ?_)
          clear hK K
          refine norm_ (a' := ?_) ?_ ?_
          rotate_left
          · show Act.put _ (some 116) _ = _
            simp only [Act.put, List.setIfInBounds_toArray, List.set_cons_zero, List.set_cons_succ, i64_w, i32_w]
            rfl
          refine pure_ (i := 19) (N := some 117) (v := ?_) (a' := ?_) #[true, true, true, true, true, true, true, true, true, true, true, true, true, true, true, true, true, true, true, true, false] rfl rfl (by kernel_rfl) (fun _ _ _ h => h) (Or.inl ⟨by rfl, ?_⟩) ?_ ?_
          rotate_left
          · intro w'
            go_simp
            with_reducible rfl
          rotate_left
          · simp only [Act.put, List.setIfInBounds_toArray, List.set_cons_zero, List.set_cons_succ, i64_w, i32_w]
            rfl
          refine pure_ (i := 20) (N := some 118) (v := ?_) (a' := ?_) #[true, true, true, true, true, true, true, true, true, true, true, true, true, true, true, true, true, true, true, true, true] rfl rfl (by kernel_rfl) (fun _ _ _ h => h) (Or.inl ⟨by rfl, ?_⟩) ?_ ?_
          rotate_left
          · intro w'
            go_simp
            with_reducible rfl
          rotate_left
          · simp only [Act.put, List.setIfInBounds_toArray, List.set_cons_zero, List.set_cons_succ, i64_w, i32_w]
            rfl
          refine done_ (by kernel_rfl) ?_
          go_wp2
          go_roundw
          case rel => exact ⟨k + 1, _, _, _, by omega, by go_num, ha.out, hb.out, RG2.out, hB45.out⟩
          case measure => first | (simp [intOf]; done) | (simp [intOf]; omega)
        have e3 : (xd == 3) = false := beq_eq_false_iff_ne.2 h3
        clear h0 h1 h2 h3
        have RG2 := RG
        go_upto_region 31 with fail
        try clear ca_0 fa_0 ca_1 fa_1 ca_2 fa_2 cb_0 fb_0 cb_1 fb_1 cb_2 fb_2 cx_0 fx_0 cx_1 fx_1 cx_2 fx_2 cx_3 fx_3
        clear hx
        have d1 := dii n; have d2 := dxx (s == 1); have d3 := dxx (decide (n ≥ c))
        refine start_ (n := 21) (S := fun w' => w'.cell? ⟨ga, 0, none⟩ = some (.int .u32 s) ∧ w'.cell? ⟨ga, 1, none⟩ = some (.int .u64 c) ∧ w'.cell? ⟨ga, 2, none⟩ = some (.int .u64 n) ∧ w'.cell? ⟨gb, 0, none⟩ = some (.int .u64 s) ∧ w'.cell? ⟨gb, 1, none⟩ = some (.int .u64 c) ∧ w'.cell? ⟨gb, 2, none⟩ = some (.int .u64 n)) (ds := []) #[false, false, false, false, false, false, false, false, false, false, false, false, false, false, false, false, false, false, false, false, false] (by kernel_rfl) rfl rfl ⟨cellS29_0 ha.out.1, cellS29_1 ha.out.1, cellS29_2 ha.out.1, cellS32_0 hb.out.1, cellS32_1 hb.out.1, cellS32_2 hb.out.1⟩ (fun hHeld => ?_)
        replace ha := Lib.hid (IsS29.drew ha.out); replace hb := Lib.hid (IsS32.drew hb.out); replace hB17 := Lib.hid (below_drew1 hB17.out)
        generalize World.drew w18 = wd34 at ha hb hB17 hHeld ⊢
        refine pure_ (i := 0) (N := some 98) (v := ?_) (a' := ?_) #[true, false, false, false, false, false, false, false, false, false, false, false, false, false, false, false, false, false, false, false, false] rfl rfl (by kernel_rfl) (fun _ _ _ h => h) (Or.inl ⟨by rfl, ?_⟩) ?_ ?_
        rotate_left
        · intro w'
          go_simp
          with_reducible rfl
        rotate_left
        · simp only [Act.put, List.setIfInBounds_toArray, List.set_cons_zero, List.set_cons_succ, i64_w, i32_w]
          rfl
        refine pure_ (i := 3) (N := some 101) (v := ?_) (a' := ?_) #[true, false, false, true, false, false, false, false, false, false, false, false, false, false, false, false, false, false, false, false, false] rfl rfl (by kernel_rfl) (fun _ _ _ h => h) (Or.inl ⟨by rfl, ?_⟩) ?_ ?_
        rotate_left
        · intro w'
          go_simp
          with_reducible rfl
        rotate_left
        · simp only [Act.put, List.setIfInBounds_toArray, List.set_cons_zero, List.set_cons_succ, i64_w, i32_w]
          rfl
        refine take_ (i := 1) (N := some 99) (v := ?_) (a' := ?_) #[true, true, false, true, false, false, false, false, false, false, false, false, false, false, false, false, false, false, false, false, false] rfl rfl (by kernel_rfl) (fun _ _ _ h => h) (Or.inl ⟨by rfl, ?_⟩) hHeld ?_ ?_
        rotate_left
        · rintro w' ⟨s0, s1, s2, s3, s4, s5⟩
          go_simp
          with_reducible rfl
        rotate_left
        · simp only [Act.put, List.setIfInBounds_toArray, List.set_cons_zero, List.set_cons_succ, i64_w, i32_w]
          rfl
        refine take_ (i := 4) (N := some 102) (v := ?_) (a' := ?_) #[true, true, false, true, true, false, false, false, false, false, false, false, false, false, false, false, false, false, false, false, false] rfl rfl (by kernel_rfl) (fun _ _ _ h => h) (Or.inl ⟨by rfl, ?_⟩) hHeld ?_ ?_
        rotate_left
        · rintro w' ⟨s0, s1, s2, s3, s4, s5⟩
          go_simp
          with_reducible rfl
        rotate_left
        · simp only [Act.put, List.setIfInBounds_toArray, List.set_cons_zero, List.set_cons_succ, i64_w, i32_w]
          rfl
        refine one_ (i := 2) (N := some 100) #[true, true, true, true, true, false, false, false, false, false, false, false, false, false, false, false, false, false, false, false, false] rfl rfl (by kernel_rfl) (by decide) (fun K hK => ?_)
        refine goes_ Try.func16 (by kernel_rfl) rfl #[.agg #[.int .u64 c, .int .u64 n]] (by rfl) rfl rfl (by simp only [List.map_toArray, List.map_cons, List.map_nil]; rfl) ?_
        with_reducible refine (clint_times_Time.calls c n n _ rfl).mono ?_
        rintro e19 w20 ⟨rfl, hb_⟩
        refine ⟨_, rfl, ?_⟩
        have s_0 := pw_cell_below hb_ hHeld.1
        have s_1 := pw_cell_below hb_ hHeld.2.1
        have s_2 := pw_cell_below hb_ hHeld.2.2.1
        have s_3 := pw_cell_below hb_ hHeld.2.2.2.1
        have s_4 := pw_cell_below hb_ hHeld.2.2.2.2.1
        have s_5 := pw_cell_below hb_ hHeld.2.2.2.2.2
        replace ha := Lib.hid (IsS29.below ha.out hb_); replace hb := Lib.hid (IsS32.below hb.out hb_); have hB21 := Lib.hid (below_step hB17.out hb_)
        clear hb_ hHeld hB17
        refine hK.out _ _ ⟨s_0, s_1, s_2, s_3, s_4, s_5⟩ (fun hHeld => ?_)
        clear hK K
        refine norm_ (a' := ?_) ?_ ?_
        rotate_left
        · show Act.put _ (some 100) _ = _
          simp only [Act.put, List.setIfInBounds_toArray, List.set_cons_zero, List.set_cons_succ, i64_w, i32_w]
          rfl
        refine pure_ (i := 5) (N := some 103) (v := ?_) (a' := ?_) #[true, true, true, true, true, true, false, false, false, false, false, false, false, false, false, false, false, false, false, false, false] rfl rfl (by kernel_rfl) (fun _ _ _ h => h) (Or.inl ⟨by rfl, ?_⟩) ?_ ?_
        rotate_left
        · intro w'
          go_simp
          with_reducible rfl
        rotate_left
        · simp only [Act.put, List.setIfInBounds_toArray, List.set_cons_zero, List.set_cons_succ, i64_w, i32_w]
          rfl
        refine pure_ (i := 6) (N := some 104) (v := ?_) (a' := ?_) #[true, true, true, true, true, true, true, false, false, false, false, false, false, false, false, false, false, false, false, false, false] rfl rfl (by kernel_rfl) (fun _ _ _ h => h) (Or.inl ⟨by rfl, ?_⟩) ?_ ?_
        rotate_left
        · intro w'
          go_simp
          with_reducible rfl
        rotate_left
        · simp only [Act.put, List.setIfInBounds_toArray, List.set_cons_zero, List.set_cons_succ, i64_w, i32_w]
          rfl
        refine take_ (i := 7) (N := some 105) (v := ?_) (a' := ?_) #[true, true, true, true, true, true, true, true, false, false, false, false, false, false, false, false, false, false, false, false, false] rfl rfl (by kernel_rfl) (fun _ _ _ h => h) (Or.inl ⟨by rfl, ?_⟩) hHeld ?_ ?_
        rotate_left
        · rintro w' ⟨s0, s1, s2, s3, s4, s5⟩
          go_simp
          with_reducible rfl
        rotate_left
        · simp only [Act.put, List.setIfInBounds_toArray, List.set_cons_zero, List.set_cons_succ, i64_w, i32_w]
          rfl
        refine take_ (i := 9) (N := some 107) (v := ?_) (a' := ?_) #[true, true, true, true, true, true, true, true, false, true, false, false, false, false, false, false, false, false, false, false, false] rfl rfl (by kernel_rfl) (fun _ _ _ h => h) (Or.inl ⟨by rfl, ?_⟩) hHeld ?_ ?_
        rotate_left
        · rintro w' ⟨s0, s1, s2, s3, s4, s5⟩
          go_simp
          with_reducible rfl
        rotate_left
        · simp only [Act.put, List.setIfInBounds_toArray, List.set_cons_zero, List.set_cons_succ, i64_w, i32_w]
          rfl
        refine one_ (i := 8) (N := some 106) #[true, true, true, true, true, true, true, true, true, true, false, false, false, false, false, false, false, false, false, false, false] rfl rfl (by kernel_rfl) (by decide) (fun K hK => ?_)
        refine goes_ Try.func18 (by kernel_rfl) rfl #[.agg #[.int .u32 s, .int .u64 c, .int .u64 n]] (by rfl) rfl rfl (by simp only [List.map_toArray, List.map_cons, List.map_nil]; rfl) ?_
        with_reducible refine (clint_Clint_Msip.calls s c n (s == 1) _ rfl).mono ?_
        rintro e22 w23 ⟨rfl, hb_⟩
        refine ⟨_, rfl, ?_⟩
        have s_0 := pw_cell_below hb_ hHeld.1
        have s_1 := pw_cell_below hb_ hHeld.2.1
        have s_2 := pw_cell_below hb_ hHeld.2.2.1
        have s_3 := pw_cell_below hb_ hHeld.2.2.2.1
        have s_4 := pw_cell_below hb_ hHeld.2.2.2.2.1
        have s_5 := pw_cell_below hb_ hHeld.2.2.2.2.2
        replace ha := Lib.hid (IsS29.below ha.out hb_); replace hb := Lib.hid (IsS32.below hb.out hb_); have hB24 := Lib.hid (below_step hB21.out hb_)
        clear hb_ hHeld hB21
        refine hK.out _ _ ⟨s_0, s_1, s_2, s_3, s_4, s_5⟩ (fun hHeld => ?_)
        clear hK K
        refine norm_ (a' := ?_) ?_ ?_
        rotate_left
        · show Act.put _ (some 106) _ = _
          simp only [Act.put, List.setIfInBounds_toArray, List.set_cons_zero, List.set_cons_succ, i64_w, i32_w]
          rfl
        refine one_ (i := 10) (N := some 108) #[true, true, true, true, true, true, true, true, true, true, true, false, false, false, false, false, false, false, false, false, false] rfl rfl (by kernel_rfl) (by decide) (fun K hK => ?_)
        refine goes_ Try.func20 (by kernel_rfl) rfl #[.agg #[.int .u64 s, .int .u64 c, .int .u64 n]] (by rfl) rfl rfl (by simp only [List.map_toArray, List.map_cons, List.map_nil]; rfl) ?_
        with_reducible refine (mezzanineref04_Clint_Msip.calls s c n (s == 1) _ rfl).mono ?_
        rintro e25 w26 ⟨rfl, hb_⟩
        refine ⟨_, rfl, ?_⟩
        have s_0 := pw_cell_below hb_ hHeld.1
        have s_1 := pw_cell_below hb_ hHeld.2.1
        have s_2 := pw_cell_below hb_ hHeld.2.2.1
        have s_3 := pw_cell_below hb_ hHeld.2.2.2.1
        have s_4 := pw_cell_below hb_ hHeld.2.2.2.2.1
        have s_5 := pw_cell_below hb_ hHeld.2.2.2.2.2
        replace ha := Lib.hid (IsS29.below ha.out hb_); replace hb := Lib.hid (IsS32.below hb.out hb_); have hB27 := Lib.hid (below_step hB24.out hb_)
        clear hb_ hHeld hB24
        refine hK.out _ _ ⟨s_0, s_1, s_2, s_3, s_4, s_5⟩ (fun hHeld => ?_)
        clear hK K
        refine norm_ (a' := ?_) ?_ ?_
        rotate_left
        · show Act.put _ (some 108) _ = _
          simp only [Act.put, List.setIfInBounds_toArray, List.set_cons_zero, List.set_cons_succ, i64_w, i32_w]
          rfl
        refine pure_ (i := 11) (N := some 109) (v := ?_) (a' := ?_) #[true, true, true, true, true, true, true, true, true, true, true, true, false, false, false, false, false, false, false, false, false] rfl rfl (by kernel_rfl) (fun _ _ _ h => h) (Or.inl ⟨by rfl, ?_⟩) ?_ ?_
        rotate_left
        · intro w'
          go_simp
          with_reducible rfl
        rotate_left
        · simp only [Act.put, List.setIfInBounds_toArray, List.set_cons_zero, List.set_cons_succ, i64_w, i32_w]
          rfl
        refine pure_ (i := 12) (N := some 110) (v := ?_) (a' := ?_) #[true, true, true, true, true, true, true, true, true, true, true, true, true, false, false, false, false, false, false, false, false] rfl rfl (by kernel_rfl) (fun _ _ _ h => h) (Or.inl ⟨by rfl, ?_⟩) ?_ ?_
        rotate_left
        · intro w'
          go_simp
          with_reducible rfl
        rotate_left
        · simp only [Act.put, List.setIfInBounds_toArray, List.set_cons_zero, List.set_cons_succ, i64_w, i32_w]
          rfl
        refine pure_ (i := 13) (N := some 111) (v := ?_) (a' := ?_) #[true, true, true, true, true, true, true, true, true, true, true, true, true, true, false, false, false, false, false, false, false] rfl rfl (by kernel_rfl) (fun _ _ _ h => h) (Or.inl ⟨by rfl, ?_⟩) ?_ ?_
        rotate_left
        · intro w'
          go_simp
          with_reducible rfl
        rotate_left
        · simp only [Act.put, List.setIfInBounds_toArray, List.set_cons_zero, List.set_cons_succ, i64_w, i32_w]
          rfl
        refine pure_ (i := 14) (N := some 112) (v := ?_) (a' := ?_) #[true, true, true, true, true, true, true, true, true, true, true, true, true, true, true, false, false, false, false, false, false] rfl rfl (by kernel_rfl) (fun _ _ _ h => h) (Or.inl ⟨by rfl, ?_⟩) ?_ ?_
        rotate_left
        · intro w'
          go_simp
          with_reducible rfl
        rotate_left
        · simp only [Act.put, List.setIfInBounds_toArray, List.set_cons_zero, List.set_cons_succ, i64_w, i32_w]
          rfl
        refine take_ (i := 15) (N := some 113) (v := ?_) (a' := ?_) #[true, true, true, true, true, true, true, true, true, true, true, true, true, true, true, true, false, false, false, false, false] rfl rfl (by kernel_rfl) (fun _ _ _ h => h) (Or.inl ⟨by rfl, ?_⟩) hHeld ?_ ?_
        rotate_left
        · rintro w' ⟨s0, s1, s2, s3, s4, s5⟩
          go_simp
          with_reducible rfl
        rotate_left
        · simp only [Act.put, List.setIfInBounds_toArray, List.set_cons_zero, List.set_cons_succ, i64_w, i32_w]
          rfl
        refine take_ (i := 17) (N := some 115) (v := ?_) (a' := ?_) #[true, true, true, true, true, true, true, true, true, true, true, true, true, true, true, true, false, true, false, false, false] rfl rfl (by kernel_rfl) (fun _ _ _ h => h) (Or.inl ⟨by rfl, ?_⟩) hHeld ?_ ?_
        rotate_left
        · rintro w' ⟨s0, s1, s2, s3, s4, s5⟩
          go_simp
          with_reducible rfl
        rotate_left
        · simp only [Act.put, List.setIfInBounds_toArray, List.set_cons_zero, List.set_cons_succ, i64_w, i32_w]
          rfl
        refine one_ (i := 16) (N := some 114) #[true, true, true, true, true, true, true, true, true, true, true, true, true, true, true, true, true, true, false, false, false] rfl rfl (by kernel_rfl) (by decide) (fun K hK => ?_)
        refine goes_ Try.func15 (by kernel_rfl) rfl #[.agg #[.int .u64 c, .int .u64 n]] (by rfl) rfl rfl (by simp only [List.map_toArray, List.map_cons, List.map_nil]; rfl) ?_
        with_reducible refine (clint_times_Mtip.calls c n (decide (n ≥ c)) _ rfl).mono ?_
        rintro e28 w29 ⟨rfl, hb_⟩
        refine ⟨_, rfl, ?_⟩
        have s_0 := pw_cell_below hb_ hHeld.1
        have s_1 := pw_cell_below hb_ hHeld.2.1
        have s_2 := pw_cell_below hb_ hHeld.2.2.1
        have s_3 := pw_cell_below hb_ hHeld.2.2.2.1
        have s_4 := pw_cell_below hb_ hHeld.2.2.2.2.1
        have s_5 := pw_cell_below hb_ hHeld.2.2.2.2.2
        replace ha := Lib.hid (IsS29.below ha.out hb_); replace hb := Lib.hid (IsS32.below hb.out hb_); have hB30 := Lib.hid (below_step hB27.out hb_)
        clear hb_ hHeld hB27
        refine hK.out _ _ ⟨s_0, s_1, s_2, s_3, s_4, s_5⟩ (fun hHeld => ?_)
        clear hK K
        refine norm_ (a' := ?_) ?_ ?_
        rotate_left
        · show Act.put _ (some 114) _ = _
          simp only [Act.put, List.setIfInBounds_toArray, List.set_cons_zero, List.set_cons_succ, i64_w, i32_w]
          rfl
        refine one_ (i := 18) (N := some 116) #[true, true, true, true, true, true, true, true, true, true, true, true, true, true, true, true, true, true, true, false, false] rfl rfl (by kernel_rfl) (by decide) (fun K hK => ?_)
        refine goes_ Try.func21 (by kernel_rfl) rfl #[.agg #[.int .u64 s, .int .u64 c, .int .u64 n]] (by rfl) rfl rfl (by simp only [List.map_toArray, List.map_cons, List.map_nil]; rfl) ?_
        with_reducible refine (mezzanineref04_Clint_Mtip.calls s c n (decide (n ≥ c)) _ rfl).mono ?_
        rintro e31 w32 ⟨rfl, hb_⟩
        refine ⟨_, rfl, ?_⟩
        have s_0 := pw_cell_below hb_ hHeld.1
        have s_1 := pw_cell_below hb_ hHeld.2.1
        have s_2 := pw_cell_below hb_ hHeld.2.2.1
        have s_3 := pw_cell_below hb_ hHeld.2.2.2.1
        have s_4 := pw_cell_below hb_ hHeld.2.2.2.2.1
        have s_5 := pw_cell_below hb_ hHeld.2.2.2.2.2
        replace ha := Lib.hid (IsS29.below ha.out hb_); replace hb := Lib.hid (IsS32.below hb.out hb_); have hB33 := Lib.hid (below_step hB30.out hb_)
        clear hb_ hHeld hB30
        refine hK.out _ _ ⟨s_0, s_1, s_2, s_3, s_4, s_5⟩ (fun hHeld => ?_)
        clear hK K
        refine norm_ (a' := ?_) ?_ ?_
        rotate_left
        · show Act.put _ (some 116) _ = _
          simp only [Act.put, List.setIfInBounds_toArray, List.set_cons_zero, List.set_cons_succ, i64_w, i32_w]
          rfl
        refine pure_ (i := 19) (N := some 117) (v := ?_) (a' := ?_) #[true, true, true, true, true, true, true, true, true, true, true, true, true, true, true, true, true, true, true, true, false] rfl rfl (by kernel_rfl) (fun _ _ _ h => h) (Or.inl ⟨by rfl, ?_⟩) ?_ ?_
        rotate_left
        · intro w'
          go_simp
          with_reducible rfl
        rotate_left
        · simp only [Act.put, List.setIfInBounds_toArray, List.set_cons_zero, List.set_cons_succ, i64_w, i32_w]
          rfl
        refine pure_ (i := 20) (N := some 118) (v := ?_) (a' := ?_) #[true, true, true, true, true, true, true, true, true, true, true, true, true, true, true, true, true, true, true, true, true] rfl rfl (by kernel_rfl) (fun _ _ _ h => h) (Or.inl ⟨by rfl, ?_⟩) ?_ ?_
        rotate_left
        · intro w'
          go_simp
          with_reducible rfl
        rotate_left
        · simp only [Act.put, List.setIfInBounds_toArray, List.set_cons_zero, List.set_cons_succ, i64_w, i32_w]
          rfl
        refine done_ (by kernel_rfl) ?_
        go_wp2
        go_roundw
        case rel => exact ⟨k + 1, _, _, _, by omega, by go_num, ha.out, hb.out, RG2.out, hB33.out⟩
        case measure => first | (simp [intOf]; done) | (simp [intOf]; omega)
      · obtain rfl : k = l.length := by omega
        have d0 : decide ((l.length : Int) < (l.length : Int)) = false := decide_eq_false (by omega)
        go_wp2
        go_ret
        exact ⟨rfl, HB.out⟩
  · skip
    go_wp2_with fail
    refine (mezzaninelaw04_awake.calls true _ rfl).mono ?_
    rintro e1 w2 ⟨rfl, hb3⟩
    have hB4 := Lib.hid (hb3)
    clear hb3
    go_wp2_with fail
    refine (clint_New.calls 0 18446744073709551615 0 _ rfl).mono ?_
    rintro e5 w6 ⟨rfl, hb7⟩
    have hB8 := Lib.hid (below_step hB4.out hb7)
    clear hb7 hB4
    go_wp2_with fail
    have ha := Lib.hid (IsS29.new w w6 0 18446744073709551615 0 hB8.out)
    have hB9 := Lib.hid (Below.alloc hB8.out (Below.size hB8.out) (.cells #[.int .u32 0, .int .u64 18446744073709551615, .int .u64 0] 29))
    clear hB8
    generalize w6.alloc (.cells #[.int .u32 0, .int .u64 18446744073709551615, .int .u64 0] 29) = w10 at ha hB9 ⊢
    generalize w6.heap.size = ga at ha ⊢
    have ca_0 := cellS29_0 ha.out.1; have fa_0 := blk_frozen ha.out.1 0
    have ca_1 := cellS29_1 ha.out.1; have fa_1 := blk_frozen ha.out.1 1
    have ca_2 := cellS29_2 ha.out.1; have fa_2 := blk_frozen ha.out.1 2
    refine (mezzanineref04_New.calls 0 18446744073709551615 0 _ rfl).mono ?_
    rintro e11 w12 ⟨rfl, hb13⟩
    try clear ca_0 fa_0 ca_1 fa_1 ca_2 fa_2
    have hB14 := Lib.hid (below_step hB9.out hb13)
    replace ha := Lib.hid (IsS29.below ha.out hb13)
    clear hb13 hB9
    have ca_0 := cellS29_0 ha.out.1; have fa_0 := blk_frozen ha.out.1 0
    have ca_1 := cellS29_1 ha.out.1; have fa_1 := blk_frozen ha.out.1 1
    have ca_2 := cellS29_2 ha.out.1; have fa_2 := blk_frozen ha.out.1 2
    go_upto_region 7 with fail
    try clear ca_0 fa_0 ca_1 fa_1 ca_2 fa_2
    have hb := Lib.hid (IsS32.new w w12 0 18446744073709551615 0 hB14.out)
    have hB15 := Lib.hid (Below.alloc hB14.out (Below.size hB14.out) (.cells #[.int .u64 0, .int .u64 18446744073709551615, .int .u64 0] 32))
    have nab := Lib.hid (Nat.ne_of_lt ha.out.lt)
    replace ha := Lib.hid (IsS29.alloc ha.out (.cells #[.int .u64 0, .int .u64 18446744073709551615, .int .u64 0] 32))
    clear hB14
    generalize w12.alloc (.cells #[.int .u64 0, .int .u64 18446744073709551615, .int .u64 0] 32) = w16 at hb hB15 ha ⊢
    generalize w12.heap.size = gb at hb nab ⊢
    have ca_0 := cellS29_0 ha.out.1; have fa_0 := blk_frozen ha.out.1 0
    have ca_1 := cellS29_1 ha.out.1; have fa_1 := blk_frozen ha.out.1 1
    have ca_2 := cellS29_2 ha.out.1; have fa_2 := blk_frozen ha.out.1 2
    have cb_0 := cellS32_0 hb.out.1; have fb_0 := blk_frozen hb.out.1 0
    have cb_1 := cellS32_1 hb.out.1; have fb_1 := blk_frozen hb.out.1 1
    have cb_2 := cellS32_2 hb.out.1; have fb_2 := blk_frozen hb.out.1 2
    go_upto_region 9 with fail
    try clear ca_0 fa_0 ca_1 fa_1 ca_2 fa_2 cb_0 fb_0 cb_1 fb_1 cb_2 fb_2
    have hB18 := Lib.hid (below_set (j := 2) (v := .int .u64 0) (below_set (j := 1) (v := .int .u64 0) (below_set (j := 0) (v := .int .u32 0) hB15.out ha.out.2) ha.out.2) ha.out.2)
    replace hb := Lib.hid ((((hb.out.far (p := ⟨ga, 0, none⟩) (Ne.symm nab.out) (.int .u32 0)).far (p := ⟨ga, 1, none⟩) (Ne.symm nab.out) (.int .u64 0)).far (p := ⟨ga, 2, none⟩) (Ne.symm nab.out) (.int .u64 0)))
    replace ha := Lib.hid (((ha.out.set_0 0).set_1 0).set_2 0)
    clear hB15
    generalize ((w16.setCell ⟨ga, 0, none⟩ (.int .u32 0)).setCell ⟨ga, 1, none⟩ (.int .u64 0)).setCell ⟨ga, 2, none⟩ (.int .u64 0) = w17 at ha hb hB18 ⊢
    have ca_0 := cellS29_0 ha.out.1; have fa_0 := blk_frozen ha.out.1 0
    have ca_1 := cellS29_1 ha.out.1; have fa_1 := blk_frozen ha.out.1 1
    have ca_2 := cellS29_2 ha.out.1; have fa_2 := blk_frozen ha.out.1 2
    have cb_0 := cellS32_0 hb.out.1; have fb_0 := blk_frozen hb.out.1 0
    have cb_1 := cellS32_1 hb.out.1; have fb_1 := blk_frozen hb.out.1 1
    have cb_2 := cellS32_2 hb.out.1; have fb_2 := blk_frozen hb.out.1 2
    go_upto_region 10 with fail
    try clear ca_0 fa_0 ca_1 fa_1 ca_2 fa_2 cb_0 fb_0 cb_1 fb_1 cb_2 fb_2
    have hB20 := Lib.hid (below_set (j := 2) (v := .int .u64 0) (below_set (j := 1) (v := .int .u64 0) (below_set (j := 0) (v := .int .u64 0) hB18.out hb.out.2) hb.out.2) hb.out.2)
    replace ha := Lib.hid ((((ha.out.far (p := ⟨gb, 0, none⟩) nab.out (.int .u64 0)).far (p := ⟨gb, 1, none⟩) nab.out (.int .u64 0)).far (p := ⟨gb, 2, none⟩) nab.out (.int .u64 0)))
    replace hb := Lib.hid (((hb.out.set_0 0).set_1 0).set_2 0)
    clear hB18
    generalize ((w17.setCell ⟨gb, 0, none⟩ (.int .u64 0)).setCell ⟨gb, 1, none⟩ (.int .u64 0)).setCell ⟨gb, 2, none⟩ (.int .u64 0) = w19 at ha hb hB20 ⊢
    go_wp2_with fail
    go_loopw [7] (fun v7 wr => ∃ (k : Nat) (s c n : Int), k ≤ l.length ∧ v7 = .int .i64 k ∧ IsS29 w wr ga s c n ∧ IsS32 w wr gb s c n ∧ Rng s c n ∧ Below w.heap.size w wr) (fun v7 _ => l.length - (intOf v7).toNat)
    case atStart => exact ⟨0, 0, 0, 0, Nat.zero_le _, rfl, ha.out, hb.out, ⟨⟨by decide, by decide⟩, ⟨by decide, by decide⟩, by decide, by decide⟩, hB20.out⟩
    case round =>
      clear ha hb hB20
      obtain ⟨k, s, c, n, hk, rfl, hi, hi2, hr, hbw⟩ := hrel
      have RG := Lib.hid hr; have ha := Lib.hid hi; have hb := Lib.hid hi2; have HB := Lib.hid hbw
      clear hr hi hi2 hbw
      by_cases hlt : k < l.length
      · have d0 : decide ((k : Int) < (l.length : Int)) = true := decide_eq_true (by omega)
        obtain ⟨x, rfl, c0, c1, c2, c3, r0, r1⟩ := HR.out.below HB.out k hlt
        have hq : ∃ q, l[k] = q := ⟨_, rfl⟩
        obtain ⟨⟨xd, xo, xn, xv⟩, hq⟩ := hq
        rw [hq] at c0 c1 c2 c3 r0 r1
        dsimp only at c0 c1 c2 c3 r0 r1
        have R0 := Lib.hid r0; have R1 := Lib.hid r1; have HQ := Lib.hid hq
        clear r0 r1 hq
        have hia := acts_index x l.length cap k hlt
        go_upto_region 14 with fail
        try clear ca_0 fa_0 ca_1 fa_1 ca_2 fa_2 cb_0 fb_0 cb_1 fb_1 cb_2 fb_2
        have hx := Lib.hid (IsS36.new w wr xd xo xn xv HB.out)
        have hB21 := Lib.hid (Below.alloc HB.out (Below.size HB.out) (.cells #[.int .i64 xd, .int .u64 xo, .int .i64 xn, .int .u64 xv] 36))
        have nax := Lib.hid (Nat.ne_of_lt ha.out.lt)
        replace ha := Lib.hid (IsS29.alloc ha.out (.cells #[.int .i64 xd, .int .u64 xo, .int .i64 xn, .int .u64 xv] 36))
        have nbx := Lib.hid (Nat.ne_of_lt hb.out.lt)
        replace hb := Lib.hid (IsS32.alloc hb.out (.cells #[.int .i64 xd, .int .u64 xo, .int .i64 xn, .int .u64 xv] 36))
        clear HB
        generalize wr.alloc (.cells #[.int .i64 xd, .int .u64 xo, .int .i64 xn, .int .u64 xv] 36) = w22 at hx hB21 ha hb ⊢
        generalize wr.heap.size = gx at hx nax nbx ⊢
        have ca_0 := cellS29_0 ha.out.1; have fa_0 := blk_frozen ha.out.1 0
        have ca_1 := cellS29_1 ha.out.1; have fa_1 := blk_frozen ha.out.1 1
        have ca_2 := cellS29_2 ha.out.1; have fa_2 := blk_frozen ha.out.1 2
        have cb_0 := cellS32_0 hb.out.1; have fb_0 := blk_frozen hb.out.1 0
        have cb_1 := cellS32_1 hb.out.1; have fb_1 := blk_frozen hb.out.1 1
        have cb_2 := cellS32_2 hb.out.1; have fb_2 := blk_frozen hb.out.1 2
        have cx_0 := cellS36_0 hx.out.1; have fx_0 := blk_frozen hx.out.1 0
        have cx_1 := cellS36_1 hx.out.1; have fx_1 := blk_frozen hx.out.1 1
        have cx_2 := cellS36_2 hx.out.1; have fx_2 := blk_frozen hx.out.1 2
        have cx_3 := cellS36_3 hx.out.1; have fx_3 := blk_frozen hx.out.1 3
        clear c0 c1 c2 c3 hia
        have dxx : ∀ b : Bool, (b != b) = false := by intro b; cases b <;> rfl
        have dii : ∀ z : Int, (z != z) = false := fun z => bne_self_eq_false z
        by_cases h0 : xd = 0
        · subst h0
          have d9 := dxx (cw s c n xo xn xv).1
          go_wp2_with fail
          refine (clint_Clint_Write.calls 2 ga s c n xo xn xv (cw s c n xo xn xv).1 (cw s c n xo xn xv).2.1 (cw s c n xo xn xv).2.2.1 (cw s c n xo xn xv).2.2.2 w _ ha.out hB21.out (FM.out.wr s c n xo xn xv RG.out R0.out R1.out)).mono ?_
          rintro e23 w24 ⟨rfl, hi27, hB25, hK26⟩
          try clear ca_0 fa_0 ca_1 fa_1 ca_2 fa_2 cb_0 fb_0 cb_1 fb_1 cb_2 fb_2 cx_0 fx_0 cx_1 fx_1 cx_2 fx_2 cx_3 fx_3
          replace hb := Lib.hid (⟨hK26.blk hb.out.1 (Ne.symm nab.out) (by simp), hb.out.2⟩ : IsS32 w w24 gb s c n)
          replace hx := Lib.hid (⟨hK26.blk hx.out.1 (Ne.symm nax.out) (by simp), hx.out.2⟩ : IsS36 w w24 gx 0 xo xn xv)
          replace ha := Lib.hid hi27
          clear hi27 hK26
          clear hB21
          replace hB25 := Lib.hid hB25
          have ca_0 := cellS29_0 ha.out.1; have fa_0 := blk_frozen ha.out.1 0
          have ca_1 := cellS29_1 ha.out.1; have fa_1 := blk_frozen ha.out.1 1
          have ca_2 := cellS29_2 ha.out.1; have fa_2 := blk_frozen ha.out.1 2
          have cb_0 := cellS32_0 hb.out.1; have fb_0 := blk_frozen hb.out.1 0
          have cb_1 := cellS32_1 hb.out.1; have fb_1 := blk_frozen hb.out.1 1
          have cb_2 := cellS32_2 hb.out.1; have fb_2 := blk_frozen hb.out.1 2
          have cx_0 := cellS36_0 hx.out.1; have fx_0 := blk_frozen hx.out.1 0
          have cx_1 := cellS36_1 hx.out.1; have fx_1 := blk_frozen hx.out.1 1
          have cx_2 := cellS36_2 hx.out.1; have fx_2 := blk_frozen hx.out.1 2
          have cx_3 := cellS36_3 hx.out.1; have fx_3 := blk_frozen hx.out.1 3
          go_wp2_with fail
          refine (mezzanineref04_Clint_Write.calls  gb s c n xo xn xv (cw s c n xo xn xv).1 (cw s c n xo xn xv).2.1 (cw s c n xo xn xv).2.2.1 (cw s c n xo xn xv).2.2.2 w _ hb.out hB25.out (FM.out.rwr s c n xo xn xv RG.out R0.out R1.out)).mono ?_
          rintro e28 w29 ⟨rfl, hi32, hB30, hK31⟩
          try clear ca_0 fa_0 ca_1 fa_1 ca_2 fa_2 cb_0 fb_0 cb_1 fb_1 cb_2 fb_2 cx_0 fx_0 cx_1 fx_1 cx_2 fx_2 cx_3 fx_3
          replace ha := Lib.hid (⟨hK31.blk ha.out.1 nab.out (by simp), ha.out.2⟩ : IsS29 w w29 ga (cw s c n xo xn xv).2.1 (cw s c n xo xn xv).2.2.1 (cw s c n xo xn xv).2.2.2)
          replace hx := Lib.hid (⟨hK31.blk hx.out.1 (Ne.symm nbx.out) (by simp), hx.out.2⟩ : IsS36 w w29 gx 0 xo xn xv)
          replace hb := Lib.hid hi32
          clear hi32 hK31
          clear hB25
          replace hB30 := Lib.hid hB30
          have ca_0 := cellS29_0 ha.out.1; have fa_0 := blk_frozen ha.out.1 0
          have ca_1 := cellS29_1 ha.out.1; have fa_1 := blk_frozen ha.out.1 1
          have ca_2 := cellS29_2 ha.out.1; have fa_2 := blk_frozen ha.out.1 2
          have cb_0 := cellS32_0 hb.out.1; have fb_0 := blk_frozen hb.out.1 0
          have cb_1 := cellS32_1 hb.out.1; have fb_1 := blk_frozen hb.out.1 1
          have cb_2 := cellS32_2 hb.out.1; have fb_2 := blk_frozen hb.out.1 2
          have cx_0 := cellS36_0 hx.out.1; have fx_0 := blk_frozen hx.out.1 0
          have cx_1 := cellS36_1 hx.out.1; have fx_1 := blk_frozen hx.out.1 1
          have cx_2 := cellS36_2 hx.out.1; have fx_2 := blk_frozen hx.out.1 2
          have cx_3 := cellS36_3 hx.out.1; have fx_3 := blk_frozen hx.out.1 3
          have RG2 := Lib.hid (FM.out.rng s c n xo xn xv RG.out R0.out R1.out)
          go_upto_region 31 with fail
          try clear ca_0 fa_0 ca_1 fa_1 ca_2 fa_2 cb_0 fb_0 cb_1 fb_1 cb_2 fb_2 cx_0 fx_0 cx_1 fx_1 cx_2 fx_2 cx_3 fx_3
          clear hx
          generalize (cw s c n xo xn xv).2.1 = s2 at ha hb RG2
          generalize (cw s c n xo xn xv).2.2.1 = c2 at ha hb RG2
          generalize (cw s c n xo xn xv).2.2.2 = n2 at ha hb RG2
          have d1 := dii n2; have d2 := dxx (s2 == 1); have d3 := dxx (decide (n2 ≥ c2))
          refine start_ (n := 21) (S := fun w' => w'.cell? ⟨ga, 0, none⟩ = some (.int .u32 s2) ∧ w'.cell? ⟨ga, 1, none⟩ = some (.int .u64 c2) ∧ w'.cell? ⟨ga, 2, none⟩ = some (.int .u64 n2) ∧ w'.cell? ⟨gb, 0, none⟩ = some (.int .u64 s2) ∧ w'.cell? ⟨gb, 1, none⟩ = some (.int .u64 c2) ∧ w'.cell? ⟨gb, 2, none⟩ = some (.int .u64 n2)) (ds := []) #[false, false, false, false, false, false, false, false, false, false, false, false, false, false, false, false, false, false, false, false, false] (by kernel_rfl) rfl rfl ⟨cellS29_0 ha.out.1, cellS29_1 ha.out.1, cellS29_2 ha.out.1, cellS32_0 hb.out.1, cellS32_1 hb.out.1, cellS32_2 hb.out.1⟩ (fun hHeld => ?_)
          replace ha := Lib.hid (IsS29.drew ha.out); replace hb := Lib.hid (IsS32.drew hb.out); replace hB30 := Lib.hid (below_drew1 hB30.out)
          generalize World.drew w29 = wd48 at ha hb hB30 hHeld ⊢
          refine pure_ (i := 0) (N := some 98) (v := ?_) (a' := ?_) #[true, false, false, false, false, false, false, false, false, false, false, false, false, false, false, false, false, false, false, false, false] rfl rfl (by kernel_rfl) (fun _ _ _ h => h) (Or.inl ⟨by rfl, ?_⟩) ?_ ?_
          rotate_left
          · intro w'
            go_simp
            with_reducible rfl
          rotate_left
          · simp only [Act.put, List.setIfInBounds_toArray, List.set_cons_zero, List.set_cons_succ, i64_w, i32_w]
            rfl
          refine pure_ (i := 3) (N := some 101) (v := ?_) (a' := ?_) #[true, false, false, true, false, false, false, false, false, false, false, false, false, false, false, false, false, false, false, false, false] rfl rfl (by kernel_rfl) (fun _ _ _ h => h) (Or.inl ⟨by rfl, ?_⟩) ?_ ?_
          rotate_left
          · intro w'
            go_simp
            with_reducible rfl
          rotate_left
          · simp only [Act.put, List.setIfInBounds_toArray, List.set_cons_zero, List.set_cons_succ, i64_w, i32_w]
            rfl
          refine take_ (i := 1) (N := some 99) (v := ?_) (a' := ?_) #[true, true, false, true, false, false, false, false, false, false, false, false, false, false, false, false, false, false, false, false, false] rfl rfl (by kernel_rfl) (fun _ _ _ h => h) (Or.inl ⟨by rfl, ?_⟩) hHeld ?_ ?_
          rotate_left
          · rintro w' ⟨s0, s1, s2, s3, s4, s5⟩
            go_simp
            with_reducible rfl
          rotate_left
          · simp only [Act.put, List.setIfInBounds_toArray, List.set_cons_zero, List.set_cons_succ, i64_w, i32_w]
            rfl
          refine take_ (i := 4) (N := some 102) (v := ?_) (a' := ?_) #[true, true, false, true, true, false, false, false, false, false, false, false, false, false, false, false, false, false, false, false, false] rfl rfl (by kernel_rfl) (fun _ _ _ h => h) (Or.inl ⟨by rfl, ?_⟩) hHeld ?_ ?_
          rotate_left
          · rintro w' ⟨s0, s1, s2, s3, s4, s5⟩
            go_simp
            with_reducible rfl
          rotate_left
          · simp only [Act.put, List.setIfInBounds_toArray, List.set_cons_zero, List.set_cons_succ, i64_w, i32_w]
            rfl
          refine one_ (i := 2) (N := some 100) #[true, true, true, true, true, false, false, false, false, false, false, false, false, false, false, false, false, false, false, false, false] rfl rfl (by kernel_rfl) (by decide) (fun K hK => ?_)
          refine goes_ Try.func16 (by kernel_rfl) rfl #[.agg #[.int .u64 c2, .int .u64 n2]] (by rfl) rfl rfl (by simp only [List.map_toArray, List.map_cons, List.map_nil]; rfl) ?_
          with_reducible refine (clint_times_Time.calls c2 n2 n2 _ rfl).mono ?_
          rintro e33 w34 ⟨rfl, hb_⟩
          refine ⟨_, rfl, ?_⟩
          have s_0 := pw_cell_below hb_ hHeld.1
          have s_1 := pw_cell_below hb_ hHeld.2.1
          have s_2 := pw_cell_below hb_ hHeld.2.2.1
          have s_3 := pw_cell_below hb_ hHeld.2.2.2.1
          have s_4 := pw_cell_below hb_ hHeld.2.2.2.2.1
          have s_5 := pw_cell_below hb_ hHeld.2.2.2.2.2
          replace ha := Lib.hid (IsS29.below ha.out hb_); replace hb := Lib.hid (IsS32.below hb.out hb_); have hB35 := Lib.hid (below_step hB30.out hb_)
          clear hb_ hHeld hB30
          refine hK.out _ _ ⟨s_0, s_1, s_2, s_3, s_4, s_5⟩ (fun hHeld => ?_)
          clear hK K
          refine norm_ (a' := ?_) ?_ ?_
          rotate_left
          · show Act.put _ (some 100) _ = _
            simp only [Act.put, List.setIfInBounds_toArray, List.set_cons_zero, List.set_cons_succ, i64_w, i32_w]
            rfl
          refine pure_ (i := 5) (N := some 103) (v := ?_) (a' := ?_) #[true, true, true, true, true, true, false, false, false, false, false, false, false, false, false, false, false, false, false, false, false] rfl rfl (by kernel_rfl) (fun _ _ _ h => h) (Or.inl ⟨by rfl, ?_⟩) ?_ ?_
          rotate_left
          · intro w'
            go_simp
            with_reducible rfl
          rotate_left
          · simp only [Act.put, List.setIfInBounds_toArray, List.set_cons_zero, List.set_cons_succ, i64_w, i32_w]
            rfl
          refine pure_ (i := 6) (N := some 104) (v := ?_) (a' := ?_) #[true, true, true, true, true, true, true, false, false, false, false, false, false, false, false, false, false, false, false, false, false] rfl rfl (by kernel_rfl) (fun _ _ _ h => h) (Or.inl ⟨by rfl, ?_⟩) ?_ ?_
          rotate_left
          · intro w'
            go_simp
            with_reducible rfl
          rotate_left
          · simp only [Act.put, List.setIfInBounds_toArray, List.set_cons_zero, List.set_cons_succ, i64_w, i32_w]
            rfl
          refine take_ (i := 7) (N := some 105) (v := ?_) (a' := ?_) #[true, true, true, true, true, true, true, true, false, false, false, false, false, false, false, false, false, false, false, false, false] rfl rfl (by kernel_rfl) (fun _ _ _ h => h) (Or.inl ⟨by rfl, ?_⟩) hHeld ?_ ?_
          rotate_left
          · rintro w' ⟨s0, s1, s2, s3, s4, s5⟩
            go_simp
            with_reducible rfl
          rotate_left
          · simp only [Act.put, List.setIfInBounds_toArray, List.set_cons_zero, List.set_cons_succ, i64_w, i32_w]
            rfl
          refine take_ (i := 9) (N := some 107) (v := ?_) (a' := ?_) #[true, true, true, true, true, true, true, true, false, true, false, false, false, false, false, false, false, false, false, false, false] rfl rfl (by kernel_rfl) (fun _ _ _ h => h) (Or.inl ⟨by rfl, ?_⟩) hHeld ?_ ?_
          rotate_left
          · rintro w' ⟨s0, s1, s2, s3, s4, s5⟩
            go_simp
            with_reducible rfl
          rotate_left
          · simp only [Act.put, List.setIfInBounds_toArray, List.set_cons_zero, List.set_cons_succ, i64_w, i32_w]
            rfl
          refine one_ (i := 8) (N := some 106) #[true, true, true, true, true, true, true, true, true, true, false, false, false, false, false, false, false, false, false, false, false] rfl rfl (by kernel_rfl) (by decide) (fun K hK => ?_)
          refine goes_ Try.func18 (by kernel_rfl) rfl #[.agg #[.int .u32 s2, .int .u64 c2, .int .u64 n2]] (by rfl) rfl rfl (by simp only [List.map_toArray, List.map_cons, List.map_nil]; rfl) ?_
          with_reducible refine (clint_Clint_Msip.calls s2 c2 n2 (s2 == 1) _ rfl).mono ?_
          rintro e36 w37 ⟨rfl, hb_⟩
          refine ⟨_, rfl, ?_⟩
          have s_0 := pw_cell_below hb_ hHeld.1
          have s_1 := pw_cell_below hb_ hHeld.2.1
          have s_2 := pw_cell_below hb_ hHeld.2.2.1
          have s_3 := pw_cell_below hb_ hHeld.2.2.2.1
          have s_4 := pw_cell_below hb_ hHeld.2.2.2.2.1
          have s_5 := pw_cell_below hb_ hHeld.2.2.2.2.2
          replace ha := Lib.hid (IsS29.below ha.out hb_); replace hb := Lib.hid (IsS32.below hb.out hb_); have hB38 := Lib.hid (below_step hB35.out hb_)
          clear hb_ hHeld hB35
          refine hK.out _ _ ⟨s_0, s_1, s_2, s_3, s_4, s_5⟩ (fun hHeld => ?_)
          clear hK K
          refine norm_ (a' := ?_) ?_ ?_
          rotate_left
          · show Act.put _ (some 106) _ = _
            simp only [Act.put, List.setIfInBounds_toArray, List.set_cons_zero, List.set_cons_succ, i64_w, i32_w]
            rfl
          refine one_ (i := 10) (N := some 108) #[true, true, true, true, true, true, true, true, true, true, true, false, false, false, false, false, false, false, false, false, false] rfl rfl (by kernel_rfl) (by decide) (fun K hK => ?_)
          refine goes_ Try.func20 (by kernel_rfl) rfl #[.agg #[.int .u64 s2, .int .u64 c2, .int .u64 n2]] (by rfl) rfl rfl (by simp only [List.map_toArray, List.map_cons, List.map_nil]; rfl) ?_
          with_reducible refine (mezzanineref04_Clint_Msip.calls s2 c2 n2 (s2 == 1) _ rfl).mono ?_
          rintro e39 w40 ⟨rfl, hb_⟩
          refine ⟨_, rfl, ?_⟩
          have s_0 := pw_cell_below hb_ hHeld.1
          have s_1 := pw_cell_below hb_ hHeld.2.1
          have s_2 := pw_cell_below hb_ hHeld.2.2.1
          have s_3 := pw_cell_below hb_ hHeld.2.2.2.1
          have s_4 := pw_cell_below hb_ hHeld.2.2.2.2.1
          have s_5 := pw_cell_below hb_ hHeld.2.2.2.2.2
          replace ha := Lib.hid (IsS29.below ha.out hb_); replace hb := Lib.hid (IsS32.below hb.out hb_); have hB41 := Lib.hid (below_step hB38.out hb_)
          clear hb_ hHeld hB38
          refine hK.out _ _ ⟨s_0, s_1, s_2, s_3, s_4, s_5⟩ (fun hHeld => ?_)
          clear hK K
          refine norm_ (a' := ?_) ?_ ?_
          rotate_left
          · show Act.put _ (some 108) _ = _
            simp only [Act.put, List.setIfInBounds_toArray, List.set_cons_zero, List.set_cons_succ, i64_w, i32_w]
            rfl
          refine pure_ (i := 11) (N := some 109) (v := ?_) (a' := ?_) #[true, true, true, true, true, true, true, true, true, true, true, true, false, false, false, false, false, false, false, false, false] rfl rfl (by kernel_rfl) (fun _ _ _ h => h) (Or.inl ⟨by rfl, ?_⟩) ?_ ?_
          rotate_left
          · intro w'
            go_simp
            with_reducible rfl
          rotate_left
          · simp only [Act.put, List.setIfInBounds_toArray, List.set_cons_zero, List.set_cons_succ, i64_w, i32_w]
            rfl
          refine pure_ (i := 12) (N := some 110) (v := ?_) (a' := ?_) #[true, true, true, true, true, true, true, true, true, true, true, true, true, false, false, false, false, false, false, false, false] rfl rfl (by kernel_rfl) (fun _ _ _ h => h) (Or.inl ⟨by rfl, ?_⟩) ?_ ?_
          rotate_left
          · intro w'
            go_simp
            with_reducible rfl
          rotate_left
          · simp only [Act.put, List.setIfInBounds_toArray, List.set_cons_zero, List.set_cons_succ, i64_w, i32_w]
            rfl
          refine pure_ (i := 13) (N := some 111) (v := ?_) (a' := ?_) #[true, true, true, true, true, true, true, true, true, true, true, true, true, true, false, false, false, false, false, false, false] rfl rfl (by kernel_rfl) (fun _ _ _ h => h) (Or.inl ⟨by rfl, ?_⟩) ?_ ?_
          rotate_left
          · intro w'
            go_simp
            with_reducible rfl
          rotate_left
          · simp only [Act.put, List.setIfInBounds_toArray, List.set_cons_zero, List.set_cons_succ, i64_w, i32_w]
            rfl
          refine pure_ (i := 14) (N := some 112) (v := ?_) (a' := ?_) #[true, true, true, true, true, true, true, true, true, true, true, true, true, true, true, false, false, false, false, false, false] rfl rfl (by kernel_rfl) (fun _ _ _ h => h) (Or.inl ⟨by rfl, ?_⟩) ?_ ?_
          rotate_left
          · intro w'
            go_simp
            with_reducible rfl
          rotate_left
          · simp only [Act.put, List.setIfInBounds_toArray, List.set_cons_zero, List.set_cons_succ, i64_w, i32_w]
            rfl
          refine take_ (i := 15) (N := some 113) (v := ?_) (a' := ?_) #[true, true, true, true, true, true, true, true, true, true, true, true, true, true, true, true, false, false, false, false, false] rfl rfl (by kernel_rfl) (fun _ _ _ h => h) (Or.inl ⟨by rfl, ?_⟩) hHeld ?_ ?_
          rotate_left
          · rintro w' ⟨s0, s1, s2, s3, s4, s5⟩
            go_simp
            with_reducible rfl
          rotate_left
          · simp only [Act.put, List.setIfInBounds_toArray, List.set_cons_zero, List.set_cons_succ, i64_w, i32_w]
            rfl
          refine take_ (i := 17) (N := some 115) (v := ?_) (a' := ?_) #[true, true, true, true, true, true, true, true, true, true, true, true, true, true, true, true, false, true, false, false, false] rfl rfl (by kernel_rfl) (fun _ _ _ h => h) (Or.inl ⟨by rfl, ?_⟩) hHeld ?_ ?_
          rotate_left
          · rintro w' ⟨s0, s1, s2, s3, s4, s5⟩
            go_simp
            with_reducible rfl
          rotate_left
          · simp only [Act.put, List.setIfInBounds_toArray, List.set_cons_zero, List.set_cons_succ, i64_w, i32_w]
            rfl
          refine one_ (i := 16) (N := some 114) #[true, true, true, true, true, true, true, true, true, true, true, true, true, true, true, true, true, true, false, false, false] rfl rfl (by kernel_rfl) (by decide) (fun K hK => ?_)
          refine goes_ Try.func15 (by kernel_rfl) rfl #[.agg #[.int .u64 c2, .int .u64 n2]] (by rfl) rfl rfl (by simp only [List.map_toArray, List.map_cons, List.map_nil]; rfl) ?_
          with_reducible refine (clint_times_Mtip.calls c2 n2 (decide (n2 ≥ c2)) _ rfl).mono ?_
          rintro e42 w43 ⟨rfl, hb_⟩
          refine ⟨_, rfl, ?_⟩
          have s_0 := pw_cell_below hb_ hHeld.1
          have s_1 := pw_cell_below hb_ hHeld.2.1
          have s_2 := pw_cell_below hb_ hHeld.2.2.1
          have s_3 := pw_cell_below hb_ hHeld.2.2.2.1
          have s_4 := pw_cell_below hb_ hHeld.2.2.2.2.1
          have s_5 := pw_cell_below hb_ hHeld.2.2.2.2.2
          replace ha := Lib.hid (IsS29.below ha.out hb_); replace hb := Lib.hid (IsS32.below hb.out hb_); have hB44 := Lib.hid (below_step hB41.out hb_)
          clear hb_ hHeld hB41
          refine hK.out _ _ ⟨s_0, s_1, s_2, s_3, s_4, s_5⟩ (fun hHeld => ?_)
          clear hK K
          refine norm_ (a' := ?_) ?_ ?_
          rotate_left
          · show Act.put _ (some 114) _ = _
            simp only [Act.put, List.setIfInBounds_toArray, List.set_cons_zero, List.set_cons_succ, i64_w, i32_w]
            rfl
          refine one_ (i := 18) (N := some 116) #[true, true, true, true, true, true, true, true, true, true, true, true, true, true, true, true, true, true, true, false, false] rfl rfl (by kernel_rfl) (by decide) (fun K hK => ?_)
          refine goes_ Try.func21 (by kernel_rfl) rfl #[.agg #[.int .u64 s2, .int .u64 c2, .int .u64 n2]] (by rfl) rfl rfl (by simp only [List.map_toArray, List.map_cons, List.map_nil]; rfl) ?_
          with_reducible refine (mezzanineref04_Clint_Mtip.calls s2 c2 n2 (decide (n2 ≥ c2)) _ rfl).mono ?_
          rintro e45 w46 ⟨rfl, hb_⟩
          refine ⟨_, rfl, ?_⟩
          have s_0 := pw_cell_below hb_ hHeld.1
          have s_1 := pw_cell_below hb_ hHeld.2.1
          have s_2 := pw_cell_below hb_ hHeld.2.2.1
          have s_3 := pw_cell_below hb_ hHeld.2.2.2.1
          have s_4 := pw_cell_below hb_ hHeld.2.2.2.2.1
          have s_5 := pw_cell_below hb_ hHeld.2.2.2.2.2
          replace ha := Lib.hid (IsS29.below ha.out hb_); replace hb := Lib.hid (IsS32.below hb.out hb_); have hB47 := Lib.hid (below_step hB44.out hb_)
          clear hb_ hHeld hB44
          refine hK.out _ _ ⟨s_0, s_1, s_2, s_3, s_4, s_5⟩ (fun hHeld => ?_)
          clear hK K
          refine norm_ (a' := ?_) ?_ ?_
          rotate_left
          · show Act.put _ (some 116) _ = _
            simp only [Act.put, List.setIfInBounds_toArray, List.set_cons_zero, List.set_cons_succ, i64_w, i32_w]
            rfl
          refine pure_ (i := 19) (N := some 117) (v := ?_) (a' := ?_) #[true, true, true, true, true, true, true, true, true, true, true, true, true, true, true, true, true, true, true, true, false] rfl rfl (by kernel_rfl) (fun _ _ _ h => h) (Or.inl ⟨by rfl, ?_⟩) ?_ ?_
          rotate_left
          · intro w'
            go_simp
            with_reducible rfl
          rotate_left
          · simp only [Act.put, List.setIfInBounds_toArray, List.set_cons_zero, List.set_cons_succ, i64_w, i32_w]
            rfl
          refine pure_ (i := 20) (N := some 118) (v := ?_) (a' := ?_) #[true, true, true, true, true, true, true, true, true, true, true, true, true, true, true, true, true, true, true, true, true] rfl rfl (by kernel_rfl) (fun _ _ _ h => h) (Or.inl ⟨by rfl, ?_⟩) ?_ ?_
          rotate_left
          · intro w'
            go_simp
            with_reducible rfl
          rotate_left
          · simp only [Act.put, List.setIfInBounds_toArray, List.set_cons_zero, List.set_cons_succ, i64_w, i32_w]
            rfl
          refine done_ (by kernel_rfl) ?_
          go_wp2
          go_roundw
          case rel => exact ⟨k + 1, _, _, _, by omega, by go_num, ha.out, hb.out, RG2.out, hB47.out⟩
          case measure => first | (simp [intOf]; done) | (simp [intOf]; omega)
        have e0 : (xd == 0) = false := beq_eq_false_iff_ne.2 h0
        by_cases h1 : xd = 1
        · subst h1
          have d9 := dii (cr s c n xo xn).1; have d8 := dxx (cr s c n xo xn).2
          go_wp2_with fail
          refine (clint_Clint_Read.calls 2 s c n xo xn (cr s c n xo xn).1 (cr s c n xo xn).2 _ (FM.out.rd s c n xo xn RG.out)).mono ?_
          rintro e23 w24 ⟨rfl, hb25⟩
          try clear ca_0 fa_0 ca_1 fa_1 ca_2 fa_2 cb_0 fb_0 cb_1 fb_1 cb_2 fb_2 cx_0 fx_0 cx_1 fx_1 cx_2 fx_2 cx_3 fx_3
          have hB26 := Lib.hid (below_step hB21.out hb25)
          replace ha := Lib.hid (IsS29.below ha.out hb25)
          replace hb := Lib.hid (IsS32.below hb.out hb25)
          replace hx := Lib.hid (IsS36.below hx.out hb25)
          clear hb25 hB21
          have ca_0 := cellS29_0 ha.out.1; have fa_0 := blk_frozen ha.out.1 0
          have ca_1 := cellS29_1 ha.out.1; have fa_1 := blk_frozen ha.out.1 1
          have ca_2 := cellS29_2 ha.out.1; have fa_2 := blk_frozen ha.out.1 2
          have cb_0 := cellS32_0 hb.out.1; have fb_0 := blk_frozen hb.out.1 0
          have cb_1 := cellS32_1 hb.out.1; have fb_1 := blk_frozen hb.out.1 1
          have cb_2 := cellS32_2 hb.out.1; have fb_2 := blk_frozen hb.out.1 2
          have cx_0 := cellS36_0 hx.out.1; have fx_0 := blk_frozen hx.out.1 0
          have cx_1 := cellS36_1 hx.out.1; have fx_1 := blk_frozen hx.out.1 1
          have cx_2 := cellS36_2 hx.out.1; have fx_2 := blk_frozen hx.out.1 2
          have cx_3 := cellS36_3 hx.out.1; have fx_3 := blk_frozen hx.out.1 3
          go_wp2_with fail
          refine (mezzanineref04_Clint_Read.calls s c n xo xn (cr s c n xo xn).1 (cr s c n xo xn).2 _ (FM.out.rrd s c n xo xn RG.out)).mono ?_
          rintro e27 w28 ⟨rfl, hb29⟩
          try clear ca_0 fa_0 ca_1 fa_1 ca_2 fa_2 cb_0 fb_0 cb_1 fb_1 cb_2 fb_2 cx_0 fx_0 cx_1 fx_1 cx_2 fx_2 cx_3 fx_3
          have hB30 := Lib.hid (below_step hB26.out hb29)
          replace ha := Lib.hid (IsS29.below ha.out hb29)
          replace hb := Lib.hid (IsS32.below hb.out hb29)
          replace hx := Lib.hid (IsS36.below hx.out hb29)
          clear hb29 hB26
          have ca_0 := cellS29_0 ha.out.1; have fa_0 := blk_frozen ha.out.1 0
          have ca_1 := cellS29_1 ha.out.1; have fa_1 := blk_frozen ha.out.1 1
          have ca_2 := cellS29_2 ha.out.1; have fa_2 := blk_frozen ha.out.1 2
          have cb_0 := cellS32_0 hb.out.1; have fb_0 := blk_frozen hb.out.1 0
          have cb_1 := cellS32_1 hb.out.1; have fb_1 := blk_frozen hb.out.1 1
          have cb_2 := cellS32_2 hb.out.1; have fb_2 := blk_frozen hb.out.1 2
          have cx_0 := cellS36_0 hx.out.1; have fx_0 := blk_frozen hx.out.1 0
          have cx_1 := cellS36_1 hx.out.1; have fx_1 := blk_frozen hx.out.1 1
          have cx_2 := cellS36_2 hx.out.1; have fx_2 := blk_frozen hx.out.1 2
          have cx_3 := cellS36_3 hx.out.1; have fx_3 := blk_frozen hx.out.1 3
          have RG2 := RG
          go_upto_region 31 with fail
          try clear ca_0 fa_0 ca_1 fa_1 ca_2 fa_2 cb_0 fb_0 cb_1 fb_1 cb_2 fb_2 cx_0 fx_0 cx_1 fx_1 cx_2 fx_2 cx_3 fx_3
          clear hx
          have d1 := dii n; have d2 := dxx (s == 1); have d3 := dxx (decide (n ≥ c))
          refine start_ (n := 21) (S := fun w' => w'.cell? ⟨ga, 0, none⟩ = some (.int .u32 s) ∧ w'.cell? ⟨ga, 1, none⟩ = some (.int .u64 c) ∧ w'.cell? ⟨ga, 2, none⟩ = some (.int .u64 n) ∧ w'.cell? ⟨gb, 0, none⟩ = some (.int .u64 s) ∧ w'.cell? ⟨gb, 1, none⟩ = some (.int .u64 c) ∧ w'.cell? ⟨gb, 2, none⟩ = some (.int .u64 n)) (ds := []) #[false, false, false, false, false, false, false, false, false, false, false, false, false, false, false, false, false, false, false, false, false] (by kernel_rfl) rfl rfl ⟨cellS29_0 ha.out.1, cellS29_1 ha.out.1, cellS29_2 ha.out.1, cellS32_0 hb.out.1, cellS32_1 hb.out.1, cellS32_2 hb.out.1⟩ (fun hHeld => ?_)
          replace ha := Lib.hid (IsS29.drew ha.out); replace hb := Lib.hid (IsS32.drew hb.out); replace hB30 := Lib.hid (below_drew1 hB30.out)
          generalize World.drew w28 = wd46 at ha hb hB30 hHeld ⊢
          refine pure_ (i := 0) (N := some 98) (v := ?_) (a' := ?_) #[true, false, false, false, false, false, false, false, false, false, false, false, false, false, false, false, false, false, false, false, false] rfl rfl (by kernel_rfl) (fun _ _ _ h => h) (Or.inl ⟨by rfl, ?_⟩) ?_ ?_
          rotate_left
          · intro w'
            go_simp
            with_reducible rfl
          rotate_left
          · simp only [Act.put, List.setIfInBounds_toArray, List.set_cons_zero, List.set_cons_succ, i64_w, i32_w]
            rfl
          refine pure_ (i := 3) (N := some 101) (v := ?_) (a' := ?_) #[true, false, false, true, false, false, false, false, false, false, false, false, false, false, false, false, false, false, false, false, false] rfl rfl (by kernel_rfl) (fun _ _ _ h => h) (Or.inl ⟨by rfl, ?_⟩) ?_ ?_
          rotate_left
          · intro w'
            go_simp
            with_reducible rfl
          rotate_left
          · simp only [Act.put, List.setIfInBounds_toArray, List.set_cons_zero, List.set_cons_succ, i64_w, i32_w]
            rfl
          refine take_ (i := 1) (N := some 99) (v := ?_) (a' := ?_) #[true, true, false, true, false, false, false, false, false, false, false, false, false, false, false, false, false, false, false, false, false] rfl rfl (by kernel_rfl) (fun _ _ _ h => h) (Or.inl ⟨by rfl, ?_⟩) hHeld ?_ ?_
          rotate_left
          · rintro w' ⟨s0, s1, s2, s3, s4, s5⟩
            go_simp
            with_reducible rfl
          rotate_left
          · simp only [Act.put, List.setIfInBounds_toArray, List.set_cons_zero, List.set_cons_succ, i64_w, i32_w]
            rfl
          refine take_ (i := 4) (N := some 102) (v := ?_) (a' := ?_) #[true, true, false, true, true, false, false, false, false, false, false, false, false, false, false, false, false, false, false, false, false] rfl rfl (by kernel_rfl) (fun _ _ _ h => h) (Or.inl ⟨by rfl, ?_⟩) hHeld ?_ ?_
          rotate_left
          · rintro w' ⟨s0, s1, s2, s3, s4, s5⟩
            go_simp
            with_reducible rfl
          rotate_left
          · simp only [Act.put, List.setIfInBounds_toArray, List.set_cons_zero, List.set_cons_succ, i64_w, i32_w]
            rfl
          refine one_ (i := 2) (N := some 100) #[true, true, true, true, true, false, false, false, false, false, false, false, false, false, false, false, false, false, false, false, false] rfl rfl (by kernel_rfl) (by decide) (fun K hK => ?_)
          refine goes_ Try.func16 (by kernel_rfl) rfl #[.agg #[.int .u64 c, .int .u64 n]] (by rfl) rfl rfl (by simp only [List.map_toArray, List.map_cons, List.map_nil]; rfl) ?_
          with_reducible refine (clint_times_Time.calls c n n _ rfl).mono ?_
          rintro e31 w32 ⟨rfl, hb_⟩
          refine ⟨_, rfl, ?_⟩
          have s_0 := pw_cell_below hb_ hHeld.1
          have s_1 := pw_cell_below hb_ hHeld.2.1
          have s_2 := pw_cell_below hb_ hHeld.2.2.1
          have s_3 := pw_cell_below hb_ hHeld.2.2.2.1
          have s_4 := pw_cell_below hb_ hHeld.2.2.2.2.1
          have s_5 := pw_cell_below hb_ hHeld.2.2.2.2.2
          replace ha := Lib.hid (IsS29.below ha.out hb_); replace hb := Lib.hid (IsS32.below hb.out hb_); have hB33 := Lib.hid (below_step hB30.out hb_)
          clear hb_ hHeld hB30
          refine hK.out _ _ ⟨s_0, s_1, s_2, s_3, s_4, s_5⟩ (fun hHeld => ?_)
          clear hK K
          refine norm_ (a' := ?_) ?_ ?_
          rotate_left
          · show Act.put _ (some 100) _ = _
            simp only [Act.put, List.setIfInBounds_toArray, List.set_cons_zero, List.set_cons_succ, i64_w, i32_w]
            rfl
          refine pure_ (i := 5) (N := some 103) (v := ?_) (a' := ?_) #[true, true, true, true, true, true, false, false, false, false, false, false, false, false, false, false, false, false, false, false, false] rfl rfl (by kernel_rfl) (fun _ _ _ h => h) (Or.inl ⟨by rfl, ?_⟩) ?_ ?_
          rotate_left
          · intro w'
            go_simp
            with_reducible rfl
          rotate_left
          · simp only [Act.put, List.setIfInBounds_toArray, List.set_cons_zero, List.set_cons_succ, i64_w, i32_w]
            rfl
          refine pure_ (i := 6) (N := some 104) (v := ?_) (a' := ?_) #[true, true, true, true, true, true, true, false, false, false, false, false, false, false, false, false, false, false, false, false, false] rfl rfl (by kernel_rfl) (fun _ _ _ h => h) (Or.inl ⟨by rfl, ?_⟩) ?_ ?_
          rotate_left
          · intro w'
            go_simp
            with_reducible rfl
          rotate_left
          · simp only [Act.put, List.setIfInBounds_toArray, List.set_cons_zero, List.set_cons_succ, i64_w, i32_w]
            rfl
          refine take_ (i := 7) (N := some 105) (v := ?_) (a' := ?_) #[true, true, true, true, true, true, true, true, false, false, false, false, false, false, false, false, false, false, false, false, false] rfl rfl (by kernel_rfl) (fun _ _ _ h => h) (Or.inl ⟨by rfl, ?_⟩) hHeld ?_ ?_
          rotate_left
          · rintro w' ⟨s0, s1, s2, s3, s4, s5⟩
            go_simp
            with_reducible rfl
          rotate_left
          · simp only [Act.put, List.setIfInBounds_toArray, List.set_cons_zero, List.set_cons_succ, i64_w, i32_w]
            rfl
          refine take_ (i := 9) (N := some 107) (v := ?_) (a' := ?_) #[true, true, true, true, true, true, true, true, false, true, false, false, false, false, false, false, false, false, false, false, false] rfl rfl (by kernel_rfl) (fun _ _ _ h => h) (Or.inl ⟨by rfl, ?_⟩) hHeld ?_ ?_
          rotate_left
          · rintro w' ⟨s0, s1, s2, s3, s4, s5⟩
            go_simp
            with_reducible rfl
          rotate_left
          · simp only [Act.put, List.setIfInBounds_toArray, List.set_cons_zero, List.set_cons_succ, i64_w, i32_w]
            rfl
          refine one_ (i := 8) (N := some 106) #[true, true, true, true, true, true, true, true, true, true, false, false, false, false, false, false, false, false, false, false, false] rfl rfl (by kernel_rfl) (by decide) (fun K hK => ?_)
          refine goes_ Try.func18 (by kernel_rfl) rfl #[.agg #[.int .u32 s, .int .u64 c, .int .u64 n]] (by rfl) rfl rfl (by simp only [List.map_toArray, List.map_cons, List.map_nil]; rfl) ?_
          with_reducible refine (clint_Clint_Msip.calls s c n (s == 1) _ rfl).mono ?_
          rintro e34 w35 ⟨rfl, hb_⟩
          refine ⟨_, rfl, ?_⟩
          have s_0 := pw_cell_below hb_ hHeld.1
          have s_1 := pw_cell_below hb_ hHeld.2.1
          have s_2 := pw_cell_below hb_ hHeld.2.2.1
          have s_3 := pw_cell_below hb_ hHeld.2.2.2.1
          have s_4 := pw_cell_below hb_ hHeld.2.2.2.2.1
          have s_5 := pw_cell_below hb_ hHeld.2.2.2.2.2
          replace ha := Lib.hid (IsS29.below ha.out hb_); replace hb := Lib.hid (IsS32.below hb.out hb_); have hB36 := Lib.hid (below_step hB33.out hb_)
          clear hb_ hHeld hB33
          refine hK.out _ _ ⟨s_0, s_1, s_2, s_3, s_4, s_5⟩ (fun hHeld => ?_)
          clear hK K
          refine norm_ (a' := ?_) ?_ ?_
          rotate_left
          · show Act.put _ (some 106) _ = _
            simp only [Act.put, List.setIfInBounds_toArray, List.set_cons_zero, List.set_cons_succ, i64_w, i32_w]
            rfl
          refine one_ (i := 10) (N := some 108) #[true, true, true, true, true, true, true, true, true, true, true, false, false, false, false, false, false, false, false, false, false] rfl rfl (by kernel_rfl) (by decide) (fun K hK => ?_)
          refine goes_ Try.func20 (by kernel_rfl) rfl #[.agg #[.int .u64 s, .int .u64 c, .int .u64 n]] (by rfl) rfl rfl (by simp only [List.map_toArray, List.map_cons, List.map_nil]; rfl) ?_
          with_reducible refine (mezzanineref04_Clint_Msip.calls s c n (s == 1) _ rfl).mono ?_
          rintro e37 w38 ⟨rfl, hb_⟩
          refine ⟨_, rfl, ?_⟩
          have s_0 := pw_cell_below hb_ hHeld.1
          have s_1 := pw_cell_below hb_ hHeld.2.1
          have s_2 := pw_cell_below hb_ hHeld.2.2.1
          have s_3 := pw_cell_below hb_ hHeld.2.2.2.1
          have s_4 := pw_cell_below hb_ hHeld.2.2.2.2.1
          have s_5 := pw_cell_below hb_ hHeld.2.2.2.2.2
          replace ha := Lib.hid (IsS29.below ha.out hb_); replace hb := Lib.hid (IsS32.below hb.out hb_); have hB39 := Lib.hid (below_step hB36.out hb_)
          clear hb_ hHeld hB36
          refine hK.out _ _ ⟨s_0, s_1, s_2, s_3, s_4, s_5⟩ (fun hHeld => ?_)
          clear hK K
          refine norm_ (a' := ?_) ?_ ?_
          rotate_left
          · show Act.put _ (some 108) _ = _
            simp only [Act.put, List.setIfInBounds_toArray, List.set_cons_zero, List.set_cons_succ, i64_w, i32_w]
            rfl
          refine pure_ (i := 11) (N := some 109) (v := ?_) (a' := ?_) #[true, true, true, true, true, true, true, true, true, true, true, true, false, false, false, false, false, false, false, false, false] rfl rfl (by kernel_rfl) (fun _ _ _ h => h) (Or.inl ⟨by rfl, ?_⟩) ?_ ?_
          rotate_left
          · intro w'
            go_simp
            with_reducible rfl
          rotate_left
          · simp only [Act.put, List.setIfInBounds_toArray, List.set_cons_zero, List.set_cons_succ, i64_w, i32_w]
            rfl
          refine pure_ (i := 12) (N := some 110) (v := ?_) (a' := ?_) #[true, true, true, true, true, true, true, true, true, true, true, true, true, false, false, false, false, false, false, false, false] rfl rfl (by kernel_rfl) (fun _ _ _ h => h) (Or.inl ⟨by rfl, ?_⟩) ?_ ?_
          rotate_left
          · intro w'
            go_simp
            with_reducible rfl
          rotate_left
          · simp only [Act.put, List.setIfInBounds_toArray, List.set_cons_zero, List.set_cons_succ, i64_w, i32_w]
            rfl
          refine pure_ (i := 13) (N := some 111) (v := ?_) (a' := ?_) #[true, true, true, true, true, true, true, true, true, true, true, true, true, true, false, false, false, false, false, false, false] rfl rfl (by kernel_rfl) (fun _ _ _ h => h) (Or.inl ⟨by rfl, ?_⟩) ?_ ?_
          rotate_left
          · intro w'
            go_simp
            with_reducible rfl
          rotate_left
          · simp only [Act.put, List.setIfInBounds_toArray, List.set_cons_zero, List.set_cons_succ, i64_w, i32_w]
            rfl
          refine pure_ (i := 14) (N := some 112) (v := ?_) (a' := ?_) #[true, true, true, true, true, true, true, true, true, true, true, true, true, true, true, false, false, false, false, false, false] rfl rfl (by kernel_rfl) (fun _ _ _ h => h) (Or.inl ⟨by rfl, ?_⟩) ?_ ?_
          rotate_left
          · intro w'
            go_simp
            with_reducible rfl
          rotate_left
          · simp only [Act.put, List.setIfInBounds_toArray, List.set_cons_zero, List.set_cons_succ, i64_w, i32_w]
            rfl
          refine take_ (i := 15) (N := some 113) (v := ?_) (a' := ?_) #[true, true, true, true, true, true, true, true, true, true, true, true, true, true, true, true, false, false, false, false, false] rfl rfl (by kernel_rfl) (fun _ _ _ h => h) (Or.inl ⟨by rfl, ?_⟩) hHeld ?_ ?_
          rotate_left
          · rintro w' ⟨s0, s1, s2, s3, s4, s5⟩
            go_simp
            with_reducible rfl
          rotate_left
          · simp only [Act.put, List.setIfInBounds_toArray, List.set_cons_zero, List.set_cons_succ, i64_w, i32_w]
            rfl
          refine take_ (i := 17) (N := some 115) (v := ?_) (a' := ?_) #[true, true, true, true, true, true, true, true, true, true, true, true, true, true, true, true, false, true, false, false, false] rfl rfl (by kernel_rfl) (fun _ _ _ h => h) (Or.inl ⟨by rfl, ?_⟩) hHeld ?_ ?_
          rotate_left
          · rintro w' ⟨s0, s1, s2, s3, s4, s5⟩
            go_simp
            with_reducible rfl
          rotate_left
          · simp only [Act.put, List.setIfInBounds_toArray, List.set_cons_zero, List.set_cons_succ, i64_w, i32_w]
            rfl
          refine one_ (i := 16) (N := some 114) #[true, true, true, true, true, true, true, true, true, true, true, true, true, true, true, true, true, true, false, false, false] rfl rfl (by kernel_rfl) (by decide) (fun K hK => ?_)
          refine goes_ Try.func15 (by kernel_rfl) rfl #[.agg #[.int .u64 c, .int .u64 n]] (by rfl) rfl rfl (by simp only [List.map_toArray, List.map_cons, List.map_nil]; rfl) ?_
          with_reducible refine (clint_times_Mtip.calls c n (decide (n ≥ c)) _ rfl).mono ?_
          rintro e40 w41 ⟨rfl, hb_⟩
          refine ⟨_, rfl, ?_⟩
          have s_0 := pw_cell_below hb_ hHeld.1
          have s_1 := pw_cell_below hb_ hHeld.2.1
          have s_2 := pw_cell_below hb_ hHeld.2.2.1
          have s_3 := pw_cell_below hb_ hHeld.2.2.2.1
          have s_4 := pw_cell_below hb_ hHeld.2.2.2.2.1
          have s_5 := pw_cell_below hb_ hHeld.2.2.2.2.2
          replace ha := Lib.hid (IsS29.below ha.out hb_); replace hb := Lib.hid (IsS32.below hb.out hb_); have hB42 := Lib.hid (below_step hB39.out hb_)
          clear hb_ hHeld hB39
          refine hK.out _ _ ⟨s_0, s_1, s_2, s_3, s_4, s_5⟩ (fun hHeld => ?_)
          clear hK K
          refine norm_ (a' := ?_) ?_ ?_
          rotate_left
          · show Act.put _ (some 114) _ = _
            simp only [Act.put, List.setIfInBounds_toArray, List.set_cons_zero, List.set_cons_succ, i64_w, i32_w]
            rfl
          refine one_ (i := 18) (N := some 116) #[true, true, true, true, true, true, true, true, true, true, true, true, true, true, true, true, true, true, true, false, false] rfl rfl (by kernel_rfl) (by decide) (fun K hK => ?_)
          refine goes_ Try.func21 (by kernel_rfl) rfl #[.agg #[.int .u64 s, .int .u64 c, .int .u64 n]] (by rfl) rfl rfl (by simp only [List.map_toArray, List.map_cons, List.map_nil]; rfl) ?_
          with_reducible refine (mezzanineref04_Clint_Mtip.calls s c n (decide (n ≥ c)) _ rfl).mono ?_
          rintro e43 w44 ⟨rfl, hb_⟩
          refine ⟨_, rfl, ?_⟩
          have s_0 := pw_cell_below hb_ hHeld.1
          have s_1 := pw_cell_below hb_ hHeld.2.1
          have s_2 := pw_cell_below hb_ hHeld.2.2.1
          have s_3 := pw_cell_below hb_ hHeld.2.2.2.1
          have s_4 := pw_cell_below hb_ hHeld.2.2.2.2.1
          have s_5 := pw_cell_below hb_ hHeld.2.2.2.2.2
          replace ha := Lib.hid (IsS29.below ha.out hb_); replace hb := Lib.hid (IsS32.below hb.out hb_); have hB45 := Lib.hid (below_step hB42.out hb_)
          clear hb_ hHeld hB42
          refine hK.out _ _ ⟨s_0, s_1, s_2, s_3, s_4, s_5⟩ (fun hHeld => ?_)
          clear hK K
          refine norm_ (a' := ?_) ?_ ?_
          rotate_left
          · show Act.put _ (some 116) _ = _
            simp only [Act.put, List.setIfInBounds_toArray, List.set_cons_zero, List.set_cons_succ, i64_w, i32_w]
            rfl
          refine pure_ (i := 19) (N := some 117) (v := ?_) (a' := ?_) #[true, true, true, true, true, true, true, true, true, true, true, true, true, true, true, true, true, true, true, true, false] rfl rfl (by kernel_rfl) (fun _ _ _ h => h) (Or.inl ⟨by rfl, ?_⟩) ?_ ?_
          rotate_left
          · intro w'
            go_simp
            with_reducible rfl
          rotate_left
          · simp only [Act.put, List.setIfInBounds_toArray, List.set_cons_zero, List.set_cons_succ, i64_w, i32_w]
            rfl
          refine pure_ (i := 20) (N := some 118) (v := ?_) (a' := ?_) #[true, true, true, true, true, true, true, true, true, true, true, true, true, true, true, true, true, true, true, true, true] rfl rfl (by kernel_rfl) (fun _ _ _ h => h) (Or.inl ⟨by rfl, ?_⟩) ?_ ?_
          rotate_left
          · intro w'
            go_simp
            with_reducible rfl
          rotate_left
          · simp only [Act.put, List.setIfInBounds_toArray, List.set_cons_zero, List.set_cons_succ, i64_w, i32_w]
            rfl
          refine done_ (by kernel_rfl) ?_
          go_wp2
          go_roundw
          case rel => exact ⟨k + 1, _, _, _, by omega, by go_num, ha.out, hb.out, RG2.out, hB45.out⟩
          case measure => first | (simp [intOf]; done) | (simp [intOf]; omega)
        have e1 : (xd == 1) = false := beq_eq_false_iff_ne.2 h1
        by_cases h2 : xd = 2
        · subst h2
          go_wp2_with fail
          refine (clint_Clint_Tick.calls  ga s c n xv  s c (IntKind.u64.wrap (n + xv)) w _ ha.out hB21.out rfl).mono ?_
          rintro e23 w24 ⟨rfl, hi27, hB25, hK26⟩
          try clear ca_0 fa_0 ca_1 fa_1 ca_2 fa_2 cb_0 fb_0 cb_1 fb_1 cb_2 fb_2 cx_0 fx_0 cx_1 fx_1 cx_2 fx_2 cx_3 fx_3
          replace hb := Lib.hid (⟨hK26.blk hb.out.1 (Ne.symm nab.out) (by simp), hb.out.2⟩ : IsS32 w w24 gb s c n)
          replace hx := Lib.hid (⟨hK26.blk hx.out.1 (Ne.symm nax.out) (by simp), hx.out.2⟩ : IsS36 w w24 gx 2 xo xn xv)
          replace ha := Lib.hid hi27
          clear hi27 hK26
          clear hB21
          replace hB25 := Lib.hid hB25
          have ca_0 := cellS29_0 ha.out.1; have fa_0 := blk_frozen ha.out.1 0
          have ca_1 := cellS29_1 ha.out.1; have fa_1 := blk_frozen ha.out.1 1
          have ca_2 := cellS29_2 ha.out.1; have fa_2 := blk_frozen ha.out.1 2
          have cb_0 := cellS32_0 hb.out.1; have fb_0 := blk_frozen hb.out.1 0
          have cb_1 := cellS32_1 hb.out.1; have fb_1 := blk_frozen hb.out.1 1
          have cb_2 := cellS32_2 hb.out.1; have fb_2 := blk_frozen hb.out.1 2
          have cx_0 := cellS36_0 hx.out.1; have fx_0 := blk_frozen hx.out.1 0
          have cx_1 := cellS36_1 hx.out.1; have fx_1 := blk_frozen hx.out.1 1
          have cx_2 := cellS36_2 hx.out.1; have fx_2 := blk_frozen hx.out.1 2
          have cx_3 := cellS36_3 hx.out.1; have fx_3 := blk_frozen hx.out.1 3
          go_wp2_with fail
          refine (mezzanineref04_Clint_Tick.calls  gb s c n xv  s c (IntKind.u64.wrap (n + xv)) w _ hb.out hB25.out rfl).mono ?_
          rintro e28 w29 ⟨rfl, hi32, hB30, hK31⟩
          try clear ca_0 fa_0 ca_1 fa_1 ca_2 fa_2 cb_0 fb_0 cb_1 fb_1 cb_2 fb_2 cx_0 fx_0 cx_1 fx_1 cx_2 fx_2 cx_3 fx_3
          replace ha := Lib.hid (⟨hK31.blk ha.out.1 nab.out (by simp), ha.out.2⟩ : IsS29 w w29 ga s c (IntKind.u64.wrap (n + xv)))
          replace hx := Lib.hid (⟨hK31.blk hx.out.1 (Ne.symm nbx.out) (by simp), hx.out.2⟩ : IsS36 w w29 gx 2 xo xn xv)
          replace hb := Lib.hid hi32
          clear hi32 hK31
          clear hB25
          replace hB30 := Lib.hid hB30
          have ca_0 := cellS29_0 ha.out.1; have fa_0 := blk_frozen ha.out.1 0
          have ca_1 := cellS29_1 ha.out.1; have fa_1 := blk_frozen ha.out.1 1
          have ca_2 := cellS29_2 ha.out.1; have fa_2 := blk_frozen ha.out.1 2
          have cb_0 := cellS32_0 hb.out.1; have fb_0 := blk_frozen hb.out.1 0
          have cb_1 := cellS32_1 hb.out.1; have fb_1 := blk_frozen hb.out.1 1
          have cb_2 := cellS32_2 hb.out.1; have fb_2 := blk_frozen hb.out.1 2
          have cx_0 := cellS36_0 hx.out.1; have fx_0 := blk_frozen hx.out.1 0
          have cx_1 := cellS36_1 hx.out.1; have fx_1 := blk_frozen hx.out.1 1
          have cx_2 := cellS36_2 hx.out.1; have fx_2 := blk_frozen hx.out.1 2
          have cx_3 := cellS36_3 hx.out.1; have fx_3 := blk_frozen hx.out.1 3
          have RG2 := Lib.hid (RG.out.tick xv)
          go_upto_region 31 with fail
          try clear ca_0 fa_0 ca_1 fa_1 ca_2 fa_2 cb_0 fb_0 cb_1 fb_1 cb_2 fb_2 cx_0 fx_0 cx_1 fx_1 cx_2 fx_2 cx_3 fx_3
          clear hx
          generalize (IntKind.u64.wrap (n + xv)) = n2 at ha hb RG2
          have d1 := dii n2; have d2 := dxx (s == 1); have d3 := dxx (decide (n2 ≥ c))
          refine start_ (n := 21) (S := fun w' => w'.cell? ⟨ga, 0, none⟩ = some (.int .u32 s) ∧ w'.cell? ⟨ga, 1, none⟩ = some (.int .u64 c) ∧ w'.cell? ⟨ga, 2, none⟩ = some (.int .u64 n2) ∧ w'.cell? ⟨gb, 0, none⟩ = some (.int .u64 s) ∧ w'.cell? ⟨gb, 1, none⟩ = some (.int .u64 c) ∧ w'.cell? ⟨gb, 2, none⟩ = some (.int .u64 n2)) (ds := []) #[false, false, false, false, false, false, false, false, false, false, false, false, false, false, false, false, false, false, false, false, false] (by kernel_rfl) rfl rfl ⟨cellS29_0 ha.out.1, cellS29_1 ha.out.1, cellS29_2 ha.out.1, cellS32_0 hb.out.1, cellS32_1 hb.out.1, cellS32_2 hb.out.1⟩ (fun hHeld => ?_)
          replace ha := Lib.hid (IsS29.drew ha.out); replace hb := Lib.hid (IsS32.drew hb.out); replace hB30 := Lib.hid (below_drew1 hB30.out)
          generalize World.drew w29 = wd48 at ha hb hB30 hHeld ⊢
          refine pure_ (i := 0) (N := some 98) (v := ?_) (a' := ?_) #[true, false, false, false, false, false, false, false, false, false, false, false, false, false, false, false, false, false, false, false, false] rfl rfl (by kernel_rfl) (fun _ _ _ h => h) (Or.inl ⟨by rfl, ?_⟩) ?_ ?_
          rotate_left
          · intro w'
            go_simp
            with_reducible rfl
          rotate_left
          · simp only [Act.put, List.setIfInBounds_toArray, List.set_cons_zero, List.set_cons_succ, i64_w, i32_w]
            rfl
          refine pure_ (i := 3) (N := some 101) (v := ?_) (a' := ?_) #[true, false, false, true, false, false, false, false, false, false, false, false, false, false, false, false, false, false, false, false, false] rfl rfl (by kernel_rfl) (fun _ _ _ h => h) (Or.inl ⟨by rfl, ?_⟩) ?_ ?_
          rotate_left
          · intro w'
            go_simp
            with_reducible rfl
          rotate_left
          · simp only [Act.put, List.setIfInBounds_toArray, List.set_cons_zero, List.set_cons_succ, i64_w, i32_w]
            rfl
          refine take_ (i := 1) (N := some 99) (v := ?_) (a' := ?_) #[true, true, false, true, false, false, false, false, false, false, false, false, false, false, false, false, false, false, false, false, false] rfl rfl (by kernel_rfl) (fun _ _ _ h => h) (Or.inl ⟨by rfl, ?_⟩) hHeld ?_ ?_
          rotate_left
          · rintro w' ⟨s0, s1, s2, s3, s4, s5⟩
            go_simp
            with_reducible rfl
          rotate_left
          · simp only [Act.put, List.setIfInBounds_toArray, List.set_cons_zero, List.set_cons_succ, i64_w, i32_w]
            rfl
          refine take_ (i := 4) (N := some 102) (v := ?_) (a' := ?_) #[true, true, false, true, true, false, false, false, false, false, false, false, false, false, false, false, false, false, false, false, false] rfl rfl (by kernel_rfl) (fun _ _ _ h => h) (Or.inl ⟨by rfl, ?_⟩) hHeld ?_ ?_
          rotate_left
          · rintro w' ⟨s0, s1, s2, s3, s4, s5⟩
            go_simp
            with_reducible rfl
          rotate_left
          · simp only [Act.put, List.setIfInBounds_toArray, List.set_cons_zero, List.set_cons_succ, i64_w, i32_w]
            rfl
          refine one_ (i := 2) (N := some 100) #[true, true, true, true, true, false, false, false, false, false, false, false, false, false, false, false, false, false, false, false, false] rfl rfl (by kernel_rfl) (by decide) (fun K hK => ?_)
          refine goes_ Try.func16 (by kernel_rfl) rfl #[.agg #[.int .u64 c, .int .u64 n2]] (by rfl) rfl rfl (by simp only [List.map_toArray, List.map_cons, List.map_nil]; rfl) ?_
          with_reducible refine (clint_times_Time.calls c n2 n2 _ rfl).mono ?_
          rintro e33 w34 ⟨rfl, hb_⟩
          refine ⟨_, rfl, ?_⟩
          have s_0 := pw_cell_below hb_ hHeld.1
          have s_1 := pw_cell_below hb_ hHeld.2.1
          have s_2 := pw_cell_below hb_ hHeld.2.2.1
          have s_3 := pw_cell_below hb_ hHeld.2.2.2.1
          have s_4 := pw_cell_below hb_ hHeld.2.2.2.2.1
          have s_5 := pw_cell_below hb_ hHeld.2.2.2.2.2
          replace ha := Lib.hid (IsS29.below ha.out hb_); replace hb := Lib.hid (IsS32.below hb.out hb_); have hB35 := Lib.hid (below_step hB30.out hb_)
          clear hb_ hHeld hB30
          refine hK.out _ _ ⟨s_0, s_1, s_2, s_3, s_4, s_5⟩ (fun hHeld => ?_)
          clear hK K
          refine norm_ (a' := ?_) ?_ ?_
          rotate_left
          · show Act.put _ (some 100) _ = _
            simp only [Act.put, List.setIfInBounds_toArray, List.set_cons_zero, List.set_cons_succ, i64_w, i32_w]
            rfl
          refine pure_ (i := 5) (N := some 103) (v := ?_) (a' := ?_) #[true, true, true, true, true, true, false, false, false, false, false, false, false, false, false, false, false, false, false, false, false] rfl rfl (by kernel_rfl) (fun _ _ _ h => h) (Or.inl ⟨by rfl, ?_⟩) ?_ ?_
          rotate_left
          · intro w'
            go_simp
            with_reducible rfl
          rotate_left
          · simp only [Act.put, List.setIfInBounds_toArray, List.set_cons_zero, List.set_cons_succ, i64_w, i32_w]
            rfl
          refine pure_ (i := 6) (N := some 104) (v := ?_) (a' := ?_) #[true, true, true, true, true, true, true, false, false, false, false, false, false, false, false, false, false, false, false, false, false] rfl rfl (by kernel_rfl) (fun _ _ _ h => h) (Or.inl ⟨by rfl, ?_⟩) ?_ ?_
          rotate_left
          · intro w'
            go_simp
            with_reducible rfl
          rotate_left
          · simp only [Act.put, List.setIfInBounds_toArray, List.set_cons_zero, List.set_cons_succ, i64_w, i32_w]
            rfl
          refine take_ (i := 7) (N := some 105) (v := ?_) (a' := ?_) #[true, true, true, true, true, true, true, true, false, false, false, false, false, false, false, false, false, false, false, false, false] rfl rfl (by kernel_rfl) (fun _ _ _ h => h) (Or.inl ⟨by rfl, ?_⟩) hHeld ?_ ?_
          rotate_left
          · rintro w' ⟨s0, s1, s2, s3, s4, s5⟩
            go_simp
            with_reducible rfl
          rotate_left
          · simp only [Act.put, List.setIfInBounds_toArray, List.set_cons_zero, List.set_cons_succ, i64_w, i32_w]
            rfl
          refine take_ (i := 9) (N := some 107) (v := ?_) (a' := ?_) #[true, true, true, true, true, true, true, true, false, true, false, false, false, false, false, false, false, false, false, false, false] rfl rfl (by kernel_rfl) (fun _ _ _ h => h) (Or.inl ⟨by rfl, ?_⟩) hHeld ?_ ?_
          rotate_left
          · rintro w' ⟨s0, s1, s2, s3, s4, s5⟩
            go_simp
            with_reducible rfl
          rotate_left
          · simp only [Act.put, List.setIfInBounds_toArray, List.set_cons_zero, List.set_cons_succ, i64_w, i32_w]
            rfl
          refine one_ (i := 8) (N := some 106) #[true, true, true, true, true, true, true, true, true, true, false, false, false, false, false, false, false, false, false, false, false] rfl rfl (by kernel_rfl) (by decide) (fun K hK => ?_)
          refine goes_ Try.func18 (by kernel_rfl) rfl #[.agg #[.int .u32 s, .int .u64 c, .int .u64 n2]] (by rfl) rfl rfl (by simp only [List.map_toArray, List.map_cons, List.map_nil]; rfl) ?_
          with_reducible refine (clint_Clint_Msip.calls s c n2 (s == 1) _ rfl).mono ?_
          rintro e36 w37 ⟨rfl, hb_⟩
          refine ⟨_, rfl, ?_⟩
          have s_0 := pw_cell_below hb_ hHeld.1
          have s_1 := pw_cell_below hb_ hHeld.2.1
          have s_2 := pw_cell_below hb_ hHeld.2.2.1
          have s_3 := pw_cell_below hb_ hHeld.2.2.2.1
          have s_4 := pw_cell_below hb_ hHeld.2.2.2.2.1
          have s_5 := pw_cell_below hb_ hHeld.2.2.2.2.2
          replace ha := Lib.hid (IsS29.below ha.out hb_); replace hb := Lib.hid (IsS32.below hb.out hb_); have hB38 := Lib.hid (below_step hB35.out hb_)
          clear hb_ hHeld hB35
          refine hK.out _ _ ⟨s_0, s_1, s_2, s_3, s_4, s_5⟩ (fun hHeld => ?_)
          clear hK K
          refine norm_ (a' := ?_) ?_ ?_
          rotate_left
          · show Act.put _ (some 106) _ = _
            simp only [Act.put, List.setIfInBounds_toArray, List.set_cons_zero, List.set_cons_succ, i64_w, i32_w]
            rfl
          refine one_ (i := 10) (N := some 108) #[true, true, true, true, true, true, true, true, true, true, true, false, false, false, false, false, false, false, false, false, false] rfl rfl (by kernel_rfl) (by decide) (fun K hK => ?_)
          refine goes_ Try.func20 (by kernel_rfl) rfl #[.agg #[.int .u64 s, .int .u64 c, .int .u64 n2]] (by rfl) rfl rfl (by simp only [List.map_toArray, List.map_cons, List.map_nil]; rfl) ?_
          with_reducible refine (mezzanineref04_Clint_Msip.calls s c n2 (s == 1) _ rfl).mono ?_
          rintro e39 w40 ⟨rfl, hb_⟩
          refine ⟨_, rfl, ?_⟩
          have s_0 := pw_cell_below hb_ hHeld.1
          have s_1 := pw_cell_below hb_ hHeld.2.1
          have s_2 := pw_cell_below hb_ hHeld.2.2.1
          have s_3 := pw_cell_below hb_ hHeld.2.2.2.1
          have s_4 := pw_cell_below hb_ hHeld.2.2.2.2.1
          have s_5 := pw_cell_below hb_ hHeld.2.2.2.2.2
          replace ha := Lib.hid (IsS29.below ha.out hb_); replace hb := Lib.hid (IsS32.below hb.out hb_); have hB41 := Lib.hid (below_step hB38.out hb_)
          clear hb_ hHeld hB38
          refine hK.out _ _ ⟨s_0, s_1, s_2, s_3, s_4, s_5⟩ (fun hHeld => ?_)
          clear hK K
          refine norm_ (a' := ?_) ?_ ?_
          rotate_left
          · show Act.put _ (some 108) _ = _
            simp only [Act.put, List.setIfInBounds_toArray, List.set_cons_zero, List.set_cons_succ, i64_w, i32_w]
            rfl
          refine pure_ (i := 11) (N := some 109) (v := ?_) (a' := ?_) #[true, true, true, true, true, true, true, true, true, true, true, true, false, false, false, false, false, false, false, false, false] rfl rfl (by kernel_rfl) (fun _ _ _ h => h) (Or.inl ⟨by rfl, ?_⟩) ?_ ?_
          rotate_left
          · intro w'
            go_simp
            with_reducible rfl
          rotate_left
          · simp only [Act.put, List.setIfInBounds_toArray, List.set_cons_zero, List.set_cons_succ, i64_w, i32_w]
            rfl
          refine pure_ (i := 12) (N := some 110) (v := ?_) (a' := ?_) #[true, true, true, true, true, true, true, true, true, true, true, true, true, false, false, false, false, false, false, false, false] rfl rfl (by kernel_rfl) (fun _ _ _ h => h) (Or.inl ⟨by rfl, ?_⟩) ?_ ?_
          rotate_left
          · intro w'
            go_simp
            with_reducible rfl
          rotate_left
          · simp only [Act.put, List.setIfInBounds_toArray, List.set_cons_zero, List.set_cons_succ, i64_w, i32_w]
            rfl
          refine pure_ (i := 13) (N := some 111) (v := ?_) (a' := ?_) #[true, true, true, true, true, true, true, true, true, true, true, true, true, true, false, false, false, false, false, false, false] rfl rfl (by kernel_rfl) (fun _ _ _ h => h) (Or.inl ⟨by rfl, ?_⟩) ?_ ?_
          rotate_left
          · intro w'
            go_simp
            with_reducible rfl
          rotate_left
          · simp only [Act.put, List.setIfInBounds_toArray, List.set_cons_zero, List.set_cons_succ, i64_w, i32_w]
            rfl
          refine pure_ (i := 14) (N := some 112) (v := ?_) (a' := ?_) #[true, true, true, true, true, true, true, true, true, true, true, true, true, true, true, false, false, false, false, false, false] rfl rfl (by kernel_rfl) (fun _ _ _ h => h) (Or.inl ⟨by rfl, ?_⟩) ?_ ?_
          rotate_left
          · intro w'
            go_simp
            with_reducible rfl
          rotate_left
          · simp only [Act.put, List.setIfInBounds_toArray, List.set_cons_zero, List.set_cons_succ, i64_w, i32_w]
            rfl
          refine take_ (i := 15) (N := some 113) (v := ?_) (a' := ?_) #[true, true, true, true, true, true, true, true, true, true, true, true, true, true, true, true, false, false, false, false, false] rfl rfl (by kernel_rfl) (fun _ _ _ h => h) (Or.inl ⟨by rfl, ?_⟩) hHeld ?_ ?_
          rotate_left
          · rintro w' ⟨s0, s1, s2, s3, s4, s5⟩
            go_simp
            with_reducible rfl
          rotate_left
          · simp only [Act.put, List.setIfInBounds_toArray, List.set_cons_zero, List.set_cons_succ, i64_w, i32_w]
            rfl
          refine take_ (i := 17) (N := some 115) (v := ?_) (a' := ?_) #[true, true, true, true, true, true, true, true, true, true, true, true, true, true, true, true, false, true, false, false, false] rfl rfl (by kernel_rfl) (fun _ _ _ h => h) (Or.inl ⟨by rfl, ?_⟩) hHeld ?_ ?_
          rotate_left
          · rintro w' ⟨s0, s1, s2, s3, s4, s5⟩
            go_simp
            with_reducible rfl
          rotate_left
          · simp only [Act.put, List.setIfInBounds_toArray, List.set_cons_zero, List.set_cons_succ, i64_w, i32_w]
            rfl
          refine one_ (i := 16) (N := some 114) #[true, true, true, true, true, true, true, true, true, true, true, true, true, true, true, true, true, true, false, false, false] rfl rfl (by kernel_rfl) (by decide) (fun K hK => ?_)
          refine goes_ Try.func15 (by kernel_rfl) rfl #[.agg #[.int .u64 c, .int .u64 n2]] (by rfl) rfl rfl (by simp only [List.map_toArray, List.map_cons, List.map_nil]; rfl) ?_
          with_reducible refine (clint_times_Mtip.calls c n2 (decide (n2 ≥ c)) _ rfl).mono ?_
          rintro e42 w43 ⟨rfl, hb_⟩
          refine ⟨_, rfl, ?_⟩
          have s_0 := pw_cell_below hb_ hHeld.1
          have s_1 := pw_cell_below hb_ hHeld.2.1
          have s_2 := pw_cell_below hb_ hHeld.2.2.1
          have s_3 := pw_cell_below hb_ hHeld.2.2.2.1
          have s_4 := pw_cell_below hb_ hHeld.2.2.2.2.1
          have s_5 := pw_cell_below hb_ hHeld.2.2.2.2.2
          replace ha := Lib.hid (IsS29.below ha.out hb_); replace hb := Lib.hid (IsS32.below hb.out hb_); have hB44 := Lib.hid (below_step hB41.out hb_)
          clear hb_ hHeld hB41
          refine hK.out _ _ ⟨s_0, s_1, s_2, s_3, s_4, s_5⟩ (fun hHeld => ?_)
          clear hK K
          refine norm_ (a' := ?_) ?_ ?_
          rotate_left
          · show Act.put _ (some 114) _ = _
            simp only [Act.put, List.setIfInBounds_toArray, List.set_cons_zero, List.set_cons_succ, i64_w, i32_w]
            rfl
          refine one_ (i := 18) (N := some 116) #[true, true, true, true, true, true, true, true, true, true, true, true, true, true, true, true, true, true, true, false, false] rfl rfl (by kernel_rfl) (by decide) (fun K hK => ?_)
          refine goes_ Try.func21 (by kernel_rfl) rfl #[.agg #[.int .u64 s, .int .u64 c, .int .u64 n2]] (by rfl) rfl rfl (by simp only [List.map_toArray, List.map_cons, List.map_nil]; rfl) ?_
          with_reducible refine (mezzanineref04_Clint_Mtip.calls s c n2 (decide (n2 ≥ c)) _ rfl).mono ?_
          rintro e45 w46 ⟨rfl, hb_⟩
          refine ⟨_, rfl, ?_⟩
          have s_0 := pw_cell_below hb_ hHeld.1
          have s_1 := pw_cell_below hb_ hHeld.2.1
          have s_2 := pw_cell_below hb_ hHeld.2.2.1
          have s_3 := pw_cell_below hb_ hHeld.2.2.2.1
          have s_4 := pw_cell_below hb_ hHeld.2.2.2.2.1
          have s_5 := pw_cell_below hb_ hHeld.2.2.2.2.2
          replace ha := Lib.hid (IsS29.below ha.out hb_); replace hb := Lib.hid (IsS32.below hb.out hb_); have hB47 := Lib.hid (below_step hB44.out hb_)
          clear hb_ hHeld hB44
          refine hK.out _ _ ⟨s_0, s_1, s_2, s_3, s_4, s_5⟩ (fun hHeld => ?_)
          clear hK K
          refine norm_ (a' := ?_) ?_ ?_
          rotate_left
          · show Act.put _ (some 116) _ = _
            simp only [Act.put, List.setIfInBounds_toArray, List.set_cons_zero, List.set_cons_succ, i64_w, i32_w]
            rfl
          refine pure_ (i := 19) (N := some 117) (v := ?_) (a' := ?_) #[true, true, true, true, true, true, true, true, true, true, true, true, true, true, true, true, true, true, true, true, false] rfl rfl (by kernel_rfl) (fun _ _ _ h => h) (Or.inl ⟨by rfl, ?_⟩) ?_ ?_
          rotate_left
          · intro w'
            go_simp
            with_reducible rfl
          rotate_left
          · simp only [Act.put, List.setIfInBounds_toArray, List.set_cons_zero, List.set_cons_succ, i64_w, i32_w]
            rfl
          refine pure_ (i := 20) (N := some 118) (v := ?_) (a' := ?_) #[true, true, true, true, true, true, true, true, true, true, true, true, true, true, true, true, true, true, true, true, true] rfl rfl (by kernel_rfl) (fun _ _ _ h => h) (Or.inl ⟨by rfl, ?_⟩) ?_ ?_
          rotate_left
          · intro w'
            go_simp
            with_reducible rfl
          rotate_left
          · simp only [Act.put, List.setIfInBounds_toArray, List.set_cons_zero, List.set_cons_succ, i64_w, i32_w]
            rfl
          refine done_ (by kernel_rfl) ?_
          go_wp2
          go_roundw
          case rel => exact ⟨k + 1, _, _, _, by omega, by go_num, ha.out, hb.out, RG2.out, hB47.out⟩
          case measure => first | (simp [intOf]; done) | (simp [intOf]; omega)
        have e2 : (xd == 2) = false := beq_eq_false_iff_ne.2 h2
        by_cases h3 : xd = 3
        · subst h3
          go_upto_region 29 with fail
          try clear ca_0 fa_0 ca_1 fa_1 ca_2 fa_2 cb_0 fb_0 cb_1 fb_1 cb_2 fb_2 cx_0 fx_0 cx_1 fx_1 cx_2 fx_2
          have ho := Lib.hid (IsS29.new w w22 s c n hB21.out)
          have hB23 := Lib.hid (Below.alloc hB21.out (Below.size hB21.out) (.cells #[.int .u32 s, .int .u64 c, .int .u64 n] 29))
          have nao := Lib.hid (Nat.ne_of_lt ha.out.lt)
          replace ha := Lib.hid (IsS29.alloc ha.out (.cells #[.int .u32 s, .int .u64 c, .int .u64 n] 29))
          have nbo := Lib.hid (Nat.ne_of_lt hb.out.lt)
          replace hb := Lib.hid (IsS32.alloc hb.out (.cells #[.int .u32 s, .int .u64 c, .int .u64 n] 29))
          have nxo := Lib.hid (Nat.ne_of_lt hx.out.lt)
          replace hx := Lib.hid (IsS36.alloc hx.out (.cells #[.int .u32 s, .int .u64 c, .int .u64 n] 29))
          clear hB21
          generalize w22.alloc (.cells #[.int .u32 s, .int .u64 c, .int .u64 n] 29) = w24 at ho hB23 ha hb hx ⊢
          generalize w22.heap.size = go at ho nao nbo nxo ⊢
          have ca_0 := cellS29_0 ha.out.1; have fa_0 := blk_frozen ha.out.1 0
          have ca_1 := cellS29_1 ha.out.1; have fa_1 := blk_frozen ha.out.1 1
          have ca_2 := cellS29_2 ha.out.1; have fa_2 := blk_frozen ha.out.1 2
          have cb_0 := cellS32_0 hb.out.1; have fb_0 := blk_frozen hb.out.1 0
          have cb_1 := cellS32_1 hb.out.1; have fb_1 := blk_frozen hb.out.1 1
          have cb_2 := cellS32_2 hb.out.1; have fb_2 := blk_frozen hb.out.1 2
          have cx_0 := cellS36_0 hx.out.1; have fx_0 := blk_frozen hx.out.1 0
          have cx_1 := cellS36_1 hx.out.1; have fx_1 := blk_frozen hx.out.1 1
          have cx_2 := cellS36_2 hx.out.1; have fx_2 := blk_frozen hx.out.1 2
          have cx_3 := cellS36_3 hx.out.1; have fx_3 := blk_frozen hx.out.1 3
          have co_0 := cellS29_0 ho.out.1; have fo_0 := blk_frozen ho.out.1 0
          have co_1 := cellS29_1 ho.out.1; have fo_1 := blk_frozen ho.out.1 1
          have co_2 := cellS29_2 ho.out.1; have fo_2 := blk_frozen ho.out.1 2
          go_wp2_with fail
          refine (clint_Clint_Write.calls 2 go s c n 16384 8 xv true s xv n w _ ho.out hB23.out (FM.out.wr s c n 16384 8 xv RG.out R0.out R1.out)).mono ?_
          rintro e25 w26 ⟨rfl, hi29, hB27, hK28⟩
          try clear ca_0 fa_0 ca_1 fa_1 ca_2 fa_2 cb_0 fb_0 cb_1 fb_1 cb_2 fb_2 cx_0 fx_0 cx_1 fx_1 cx_2 fx_2 cx_3 fx_3 co_0 fo_0 co_1 fo_1 co_2 fo_2
          replace ha := Lib.hid (⟨hK28.blk ha.out.1 nao.out (by simp), ha.out.2⟩ : IsS29 w w26 ga s c n)
          replace hb := Lib.hid (⟨hK28.blk hb.out.1 nbo.out (by simp), hb.out.2⟩ : IsS32 w w26 gb s c n)
          replace hx := Lib.hid (⟨hK28.blk hx.out.1 nxo.out (by simp), hx.out.2⟩ : IsS36 w w26 gx 3 xo xn xv)
          replace ho := Lib.hid hi29
          clear hi29 hK28
          clear hB23
          replace hB27 := Lib.hid hB27
          have ca_0 := cellS29_0 ha.out.1; have fa_0 := blk_frozen ha.out.1 0
          have ca_1 := cellS29_1 ha.out.1; have fa_1 := blk_frozen ha.out.1 1
          have ca_2 := cellS29_2 ha.out.1; have fa_2 := blk_frozen ha.out.1 2
          have cb_0 := cellS32_0 hb.out.1; have fb_0 := blk_frozen hb.out.1 0
          have cb_1 := cellS32_1 hb.out.1; have fb_1 := blk_frozen hb.out.1 1
          have cb_2 := cellS32_2 hb.out.1; have fb_2 := blk_frozen hb.out.1 2
          have cx_0 := cellS36_0 hx.out.1; have fx_0 := blk_frozen hx.out.1 0
          have cx_1 := cellS36_1 hx.out.1; have fx_1 := blk_frozen hx.out.1 1
          have cx_2 := cellS36_2 hx.out.1; have fx_2 := blk_frozen hx.out.1 2
          have cx_3 := cellS36_3 hx.out.1; have fx_3 := blk_frozen hx.out.1 3
          have co_0 := cellS29_0 ho.out.1; have fo_0 := blk_frozen ho.out.1 0
          have co_1 := cellS29_1 ho.out.1; have fo_1 := blk_frozen ho.out.1 1
          have co_2 := cellS29_2 ho.out.1; have fo_2 := blk_frozen ho.out.1 2
          go_wp2_with fail
          refine (clint_Clint_Tick.calls  go s xv n 1  s xv (IntKind.u64.wrap (n + 1)) w _ ho.out hB27.out rfl).mono ?_
          rintro e30 w31 ⟨rfl, hi34, hB32, hK33⟩
          try clear ca_0 fa_0 ca_1 fa_1 ca_2 fa_2 cb_0 fb_0 cb_1 fb_1 cb_2 fb_2 cx_0 fx_0 cx_1 fx_1 cx_2 fx_2 cx_3 fx_3 co_0 fo_0 co_1 fo_1 co_2 fo_2
          replace ha := Lib.hid (⟨hK33.blk ha.out.1 nao.out (by simp), ha.out.2⟩ : IsS29 w w31 ga s c n)
          replace hb := Lib.hid (⟨hK33.blk hb.out.1 nbo.out (by simp), hb.out.2⟩ : IsS32 w w31 gb s c n)
          replace hx := Lib.hid (⟨hK33.blk hx.out.1 nxo.out (by simp), hx.out.2⟩ : IsS36 w w31 gx 3 xo xn xv)
          replace ho := Lib.hid hi34
          clear hi34 hK33
          clear hB27
          replace hB32 := Lib.hid hB32
          have ca_0 := cellS29_0 ha.out.1; have fa_0 := blk_frozen ha.out.1 0
          have ca_1 := cellS29_1 ha.out.1; have fa_1 := blk_frozen ha.out.1 1
          have ca_2 := cellS29_2 ha.out.1; have fa_2 := blk_frozen ha.out.1 2
          have cb_0 := cellS32_0 hb.out.1; have fb_0 := blk_frozen hb.out.1 0
          have cb_1 := cellS32_1 hb.out.1; have fb_1 := blk_frozen hb.out.1 1
          have cb_2 := cellS32_2 hb.out.1; have fb_2 := blk_frozen hb.out.1 2
          have cx_0 := cellS36_0 hx.out.1; have fx_0 := blk_frozen hx.out.1 0
          have cx_1 := cellS36_1 hx.out.1; have fx_1 := blk_frozen hx.out.1 1
          have cx_2 := cellS36_2 hx.out.1; have fx_2 := blk_frozen hx.out.1 2
          have cx_3 := cellS36_3 hx.out.1; have fx_3 := blk_frozen hx.out.1 3
          have co_0 := cellS29_0 ho.out.1; have fo_0 := blk_frozen ho.out.1 0
          have co_1 := cellS29_1 ho.out.1; have fo_1 := blk_frozen ho.out.1 1
          have co_2 := cellS29_2 ho.out.1; have fo_2 := blk_frozen ho.out.1 2
          have RG2 := RG
          go_upto_region 31 with fail
          try clear ca_0 fa_0 ca_1 fa_1 ca_2 fa_2 cb_0 fb_0 cb_1 fb_1 cb_2 fb_2 cx_0 fx_0 cx_1 fx_1 cx_2 fx_2 cx_3 fx_3 co_0 fo_0 co_1 fo_1 co_2 fo_2
          clear hx
          clear ho
          have d1 := dii n; have d2 := dxx (s == 1); have d3 := dxx (decide (n ≥ c))
          refine start_ (n := 21) (S := fun w' => w'.cell? ⟨ga, 0, none⟩ = some (.int .u32 s) ∧ w'.cell? ⟨ga, 1, none⟩ = some (.int .u64 c) ∧ w'.cell? ⟨ga, 2, none⟩ = some (.int .u64 n) ∧ w'.cell? ⟨gb, 0, none⟩ = some (.int .u64 s) ∧ w'.cell? ⟨gb, 1, none⟩ = some (.int .u64 c) ∧ w'.cell? ⟨gb, 2, none⟩ = some (.int .u64 n)) (ds := []) #[false, false, false, false, false, false, false, false, false, false, false, false, false, false, false, false, false, false, false, false, false] (by kernel_rfl) rfl rfl ⟨cellS29_0 ha.out.1, cellS29_1 ha.out.1, cellS29_2 ha.out.1, cellS32_0 hb.out.1, cellS32_1 hb.out.1, cellS32_2 hb.out.1⟩ (fun hHeld => ?_)
          replace ha := Lib.hid (IsS29.drew ha.out); replace hb := Lib.hid (IsS32.drew hb.out); replace hB32 := Lib.hid (below_drew1 hB32.out)
          generalize World.drew w31 = wd50 at ha hb hB32 hHeld ⊢
          refine pure_ (i := 0) (N := some 98) (v := ?_) (a' := ?_) #[true, false, false, false, false, false, false, false, false, false, false, false, false, false, false, false, false, false, false, false, false] rfl rfl (by kernel_rfl) (fun _ _ _ h => h) (Or.inl ⟨by rfl, ?_⟩) ?_ ?_
          rotate_left
          · intro w'
            go_simp
            with_reducible rfl
          rotate_left
          · simp only [Act.put, List.setIfInBounds_toArray, List.set_cons_zero, List.set_cons_succ, i64_w, i32_w]
            rfl
          refine pure_ (i := 3) (N := some 101) (v := ?_) (a' := ?_) #[true, false, false, true, false, false, false, false, false, false, false, false, false, false, false, false, false, false, false, false, false] rfl rfl (by kernel_rfl) (fun _ _ _ h => h) (Or.inl ⟨by rfl, ?_⟩) ?_ ?_
          rotate_left
          · intro w'
            go_simp
            with_reducible rfl
          rotate_left
          · simp only [Act.put, List.setIfInBounds_toArray, List.set_cons_zero, List.set_cons_succ, i64_w, i32_w]
            rfl
          refine take_ (i := 1) (N := some 99) (v := ?_) (a' := ?_) #[true, true, false, true, false, false, false, false, false, false, false, false, false, false, false, false, false, false, false, false, false] rfl rfl (by kernel_rfl) (fun _ _ _ h => h) (Or.inl ⟨by rfl, ?_⟩) hHeld ?_ ?_
          rotate_left
          · rintro w' ⟨s0, s1, s2, s3, s4, s5⟩
            go_simp
            with_reducible rfl
          rotate_left
          · simp only [Act.put, List.setIfInBounds_toArray, List.set_cons_zero, List.set_cons_succ, i64_w, i32_w]
            rfl
          refine take_ (i := 4) (N := some 102) (v := ?_) (a' := ?_) #[true, true, false, true, true, false, false, false, false, false, false, false, false, false, false, false, false, false, false, false, false] rfl rfl (by kernel_rfl) (fun _ _ _ h => h) (Or.inl ⟨by rfl, ?_⟩) hHeld ?_ ?_
          rotate_left
          · rintro w' ⟨s0, s1, s2, s3, s4, s5⟩
            go_simp
            with_reducible rfl
          rotate_left
          · simp only [Act.put, List.setIfInBounds_toArray, List.set_cons_zero, List.set_cons_succ, i64_w, i32_w]
            rfl
          refine one_ (i := 2) (N := some 100) #[true, true, true, true, true, false, false, false, false, false, false, false, false, false, false, false, false, false, false, false, false] rfl rfl (by kernel_rfl) (by decide) (fun K hK => ?_)
          refine goes_ Try.func16 (by kernel_rfl) rfl #[.agg #[.int .u64 c, .int .u64 n]] (by rfl) rfl rfl (by simp only [List.map_toArray, List.map_cons, List.map_nil]; rfl) ?_
          with_reducible refine (clint_times_Time.calls c n n _ rfl).mono ?_
          rintro e35 w36 ⟨rfl, hb_⟩
          refine ⟨_, rfl, ?_⟩
          have s_0 := pw_cell_below hb_ hHeld.1
          have s_1 := pw_cell_below hb_ hHeld.2.1
          have s_2 := pw_cell_below hb_ hHeld.2.2.1
          have s_3 := pw_cell_below hb_ hHeld.2.2.2.1
          have s_4 := pw_cell_below hb_ hHeld.2.2.2.2.1
          have s_5 := pw_cell_below hb_ hHeld.2.2.2.2.2
          replace ha := Lib.hid (IsS29.below ha.out hb_); replace hb := Lib.hid (IsS32.below hb.out hb_); have hB37 := Lib.hid (below_step hB32.out hb_)
          clear hb_ hHeld hB32
          refine hK.out _ _ ⟨s_0, s_1, s_2, s_3, s_4, s_5⟩ (fun hHeld => ?_)
          clear hK K
          refine norm_ (a' := ?_) ?_ ?_
          rotate_left
          · show Act.put _ (some 100) _ = _
            simp only [Act.put, List.setIfInBounds_toArray, List.set_cons_zero, List.set_cons_succ, i64_w, i32_w]
            rfl
          refine pure_ (i := 5) (N := some 103) (v := ?_) (a' := ?_) #[true, true, true, true, true, true, false, false, false, false, false, false, false, false, false, false, false, false, false, false, false] rfl rfl (by kernel_rfl) (fun _ _ _ h => h) (Or.inl ⟨by rfl, ?_⟩) ?_ ?_
          rotate_left
          · intro w'
            go_simp
            with_reducible rfl
          rotate_left
          · simp only [Act.put, List.setIfInBounds_toArray, List.set_cons_zero, List.set_cons_succ, i64_w, i32_w]
            rfl
          refine pure_ (i := 6) (N := some 104) (v := ?_) (a' := ?_) #[true, true, true, true, true, true, true, false, false, false, false, false, false, false, false, false, false, false, false, false, false] rfl rfl (by kernel_rfl) (fun _ _ _ h => h) (Or.inl ⟨by rfl, ?_⟩) ?_ ?_
          rotate_left
          · intro w'
            go_simp
            with_reducible rfl
          rotate_left
          · simp only [Act.put, List.setIfInBounds_toArray, List.set_cons_zero, List.set_cons_succ, i64_w, i32_w]
            rfl
          refine take_ (i := 7) (N := some 105) (v := ?_) (a' := ?_) #[true, true, true, true, true, true, true, true, false, false, false, false, false, false, false, false, false, false, false, false, false] rfl rfl (by kernel_rfl) (fun _ _ _ h => h) (Or.inl ⟨by rfl, ?_⟩) hHeld ?_ ?_
          rotate_left
          · rintro w' ⟨s0, s1, s2, s3, s4, s5⟩
            go_simp
            with_reducible rfl
          rotate_left
          · simp only [Act.put, List.setIfInBounds_toArray, List.set_cons_zero, List.set_cons_succ, i64_w, i32_w]
            rfl
          refine take_ (i := 9) (N := some 107) (v := ?_) (a' := ?_) #[true, true, true, true, true, true, true, true, false, true, false, false, false, false, false, false, false, false, false, false, false] rfl rfl (by kernel_rfl) (fun _ _ _ h => h) (Or.inl ⟨by rfl, ?_⟩) hHeld ?_ ?_
          rotate_left
          · rintro w' ⟨s0, s1, s2, s3, s4, s5⟩
            go_simp
            with_reducible rfl
          rotate_left
          · simp only [Act.put, List.setIfInBounds_toArray, List.set_cons_zero, List.set_cons_succ, i64_w, i32_w]
            rfl
          refine one_ (i := 8) (N := some 106) #[true, true, true, true, true, true, true, true, true, true, false, false, false, false, false, false, false, false, false, false, false] rfl rfl (by kernel_rfl) (by decide) (fun K hK => ?_)
          refine goes_ Try.func18 (by kernel_rfl) rfl #[.agg #[.int .u32 s, .int .u64 c, .int .u64 n]] (by rfl) rfl rfl (by simp only [List.map_toArray, List.map_cons, List.map_nil]; rfl) ?_
          with_reducible refine (clint_Clint_Msip.calls s c n (s == 1) _ rfl).mono ?_
          rintro e38 w39 ⟨rfl, hb_⟩
          refine ⟨_, rfl, ?_⟩
          have s_0 := pw_cell_below hb_ hHeld.1
          have s_1 := pw_cell_below hb_ hHeld.2.1
          have s_2 := pw_cell_below hb_ hHeld.2.2.1
          have s_3 := pw_cell_below hb_ hHeld.2.2.2.1
          have s_4 := pw_cell_below hb_ hHeld.2.2.2.2.1
          have s_5 := pw_cell_below hb_ hHeld.2.2.2.2.2
          replace ha := Lib.hid (IsS29.below ha.out hb_); replace hb := Lib.hid (IsS32.below hb.out hb_); have hB40 := Lib.hid (below_step hB37.out hb_)
          clear hb_ hHeld hB37
          refine hK.out _ _ ⟨s_0, s_1, s_2, s_3, s_4, s_5⟩ (fun hHeld => ?_)
          clear hK K
          refine norm_ (a' := ?_) ?_ ?_
          rotate_left
          · show Act.put _ (some 106) _ = _
            simp only [Act.put, List.setIfInBounds_toArray, List.set_cons_zero, List.set_cons_succ, i64_w, i32_w]
            rfl
          refine one_ (i := 10) (N := some 108) #[true, true, true, true, true, true, true, true, true, true, true, false, false, false, false, false, false, false, false, false, false] rfl rfl (by kernel_rfl) (by decide) (fun K hK => ?_)
          refine goes_ Try.func20 (by kernel_rfl) rfl #[.agg #[.int .u64 s, .int .u64 c, .int .u64 n]] (by rfl) rfl rfl (by simp only [List.map_toArray, List.map_cons, List.map_nil]; rfl) ?_
          with_reducible refine (mezzanineref04_Clint_Msip.calls s c n (s == 1) _ rfl).mono ?_
          rintro e41 w42 ⟨rfl, hb_⟩
          refine ⟨_, rfl, ?_⟩
          have s_0 := pw_cell_below hb_ hHeld.1
          have s_1 := pw_cell_below hb_ hHeld.2.1
          have s_2 := pw_cell_below hb_ hHeld.2.2.1
          have s_3 := pw_cell_below hb_ hHeld.2.2.2.1
          have s_4 := pw_cell_below hb_ hHeld.2.2.2.2.1
          have s_5 := pw_cell_below hb_ hHeld.2.2.2.2.2
          replace ha := Lib.hid (IsS29.below ha.out hb_); replace hb := Lib.hid (IsS32.below hb.out hb_); have hB43 := Lib.hid (below_step hB40.out hb_)
          clear hb_ hHeld hB40
          refine hK.out _ _ ⟨s_0, s_1, s_2, s_3, s_4, s_5⟩ (fun hHeld => ?_)
          clear hK K
          refine norm_ (a' := ?_) ?_ ?_
          rotate_left
          · show Act.put _ (some 108) _ = _
            simp only [Act.put, List.setIfInBounds_toArray, List.set_cons_zero, List.set_cons_succ, i64_w, i32_w]
            rfl
          refine pure_ (i := 11) (N := some 109) (v := ?_) (a' := ?_) #[true, true, true, true, true, true, true, true, true, true, true, true, false, false, false, false, false, false, false, false, false] rfl rfl (by kernel_rfl) (fun _ _ _ h => h) (Or.inl ⟨by rfl, ?_⟩) ?_ ?_
          rotate_left
          · intro w'
            go_simp
            with_reducible rfl
          rotate_left
          · simp only [Act.put, List.setIfInBounds_toArray, List.set_cons_zero, List.set_cons_succ, i64_w, i32_w]
            rfl
          refine pure_ (i := 12) (N := some 110) (v := ?_) (a' := ?_) #[true, true, true, true, true, true, true, true, true, true, true, true, true, false, false, false, false, false, false, false, false] rfl rfl (by kernel_rfl) (fun _ _ _ h => h) (Or.inl ⟨by rfl, ?_⟩) ?_ ?_
          rotate_left
          · intro w'
            go_simp
            with_reducible rfl
          rotate_left
          · simp only [Act.put, List.setIfInBounds_toArray, List.set_cons_zero, List.set_cons_succ, i64_w, i32_w]
            rfl
          refine pure_ (i := 13) (N := some 111) (v := ?_) (a' := ?_) #[true, true, true, true, true, true, true, true, true, true, true, true, true, true, false, false, false, false, false, false, false] rfl rfl (by kernel_rfl) (fun _ _ _ h => h) (Or.inl ⟨by rfl, ?_⟩) ?_ ?_
          rotate_left
          · intro w'
            go_simp
            with_reducible rfl
          rotate_left
          · simp only [Act.put, List.setIfInBounds_toArray, List.set_cons_zero, List.set_cons_succ, i64_w, i32_w]
            rfl
          refine pure_ (i := 14) (N := some 112) (v := ?_) (a' := ?_) #[true, true, true, true, true, true, true, true, true, true, true, true, true, true, true, false, false, false, false, false, false] rfl rfl (by kernel_rfl) (fun _ _ _ h => h) (Or.inl ⟨by rfl, ?_⟩) ?_ ?_
          rotate_left
          · intro w'
            go_simp
            with_reducible rfl
          rotate_left
          · simp only [Act.put, List.setIfInBounds_toArray, List.set_cons_zero, List.set_cons_succ, i64_w, i32_w]
            rfl
          refine take_ (i := 15) (N := some 113) (v := ?_) (a' := ?_) #[true, true, true, true, true, true, true, true, true, true, true, true, true, true, true, true, false, false, false, false, false] rfl rfl (by kernel_rfl) (fun _ _ _ h => h) (Or.inl ⟨by rfl, ?_⟩) hHeld ?_ ?_
          rotate_left
          · rintro w' ⟨s0, s1, s2, s3, s4, s5⟩
            go_simp
            with_reducible rfl
          rotate_left
          · simp only [Act.put, List.setIfInBounds_toArray, List.set_cons_zero, List.set_cons_succ, i64_w, i32_w]
            rfl
          refine take_ (i := 17) (N := some 115) (v := ?_) (a' := ?_) #[true, true, true, true, true, true, true, true, true, true, true, true, true, true, true, true, false, true, false, false, false] rfl rfl (by kernel_rfl) (fun _ _ _ h => h) (Or.inl ⟨by rfl, ?_⟩) hHeld ?_ ?_
          rotate_left
          · rintro w' ⟨s0, s1, s2, s3, s4, s5⟩
            go_simp
            with_reducible rfl
          rotate_left
          · simp only [Act.put, List.setIfInBounds_toArray, List.set_cons_zero, List.set_cons_succ, i64_w, i32_w]
            rfl
          refine one_ (i := 16) (N := some 114) #[true, true, true, true, true, true, true, true, true, true, true, true, true, true, true, true, true, true, false, false, false] rfl rfl (by kernel_rfl) (by decide) (fun K hK => ?_)
          refine goes_ Try.func15 (by kernel_rfl) rfl #[.agg #[.int .u64 c, .int .u64 n]] (by rfl) rfl rfl (by simp only [List.map_toArray, List.map_cons, List.map_nil]; rfl) ?_
          with_reducible refine (clint_times_Mtip.calls c n (decide (n ≥ c)) _ rfl).mono ?_
          rintro e44 w45 ⟨rfl, hb_⟩
          refine ⟨_, rfl, ?_⟩
          have s_0 := pw_cell_below hb_ hHeld.1
          have s_1 := pw_cell_below hb_ hHeld.2.1
          have s_2 := pw_cell_below hb_ hHeld.2.2.1
          have s_3 := pw_cell_below hb_ hHeld.2.2.2.1
          have s_4 := pw_cell_below hb_ hHeld.2.2.2.2.1
          have s_5 := pw_cell_below hb_ hHeld.2.2.2.2.2
          replace ha := Lib.hid (IsS29.below ha.out hb_); replace hb := Lib.hid (IsS32.below hb.out hb_); have hB46 := Lib.hid (below_step hB43.out hb_)
          clear hb_ hHeld hB43
          refine hK.out _ _ ⟨s_0, s_1, s_2, s_3, s_4, s_5⟩ (fun hHeld => ?_)
          clear hK K
          refine norm_ (a' := ?_) ?_ ?_
          rotate_left
          · show Act.put _ (some 114) _ = _
            simp only [Act.put, List.setIfInBounds_toArray, List.set_cons_zero, List.set_cons_succ, i64_w, i32_w]
            rfl
          refine one_ (i := 18) (N := some 116) #[true, true, true, true, true, true, true, true, true, true, true, true, true, true, true, true, true, true, true, false, false] rfl rfl (by kernel_rfl) (by decide) (fun K hK => ?_)
          refine goes_ Try.func21 (by kernel_rfl) rfl #[.agg #[.int .u64 s, .int .u64 c, .int .u64 n]] (by rfl) rfl rfl (by simp only [List.map_toArray, List.map_cons, List.map_nil]; rfl) ?_
          with_reducible refine (mezzanineref04_Clint_Mtip.calls s c n (decide (n ≥ c)) _ rfl).mono ?_
          rintro e47 w48 ⟨rfl, hb_⟩
          refine ⟨_, rfl, ?_⟩
          have s_0 := pw_cell_below hb_ hHeld.1
          have s_1 := pw_cell_below hb_ hHeld.2.1
          have s_2 := pw_cell_below hb_ hHeld.2.2.1
          have s_3 := pw_cell_below hb_ hHeld.2.2.2.1
          have s_4 := pw_cell_below hb_ hHeld.2.2.2.2.1
          have s_5 := pw_cell_below hb_ hHeld.2.2.2.2.2
          replace ha := Lib.hid (IsS29.below ha.out hb_); replace hb := Lib.hid (IsS32.below hb.out hb_); have hB49 := Lib.hid (below_step hB46.out hb_)
          clear hb_ hHeld hB46
          refine hK.out _ _ ⟨s_0, s_1, s_2, s_3, s_4, s_5⟩ (fun hHeld => ?_)
          clear hK K
          refine norm_ (a' := ?_) ?_ ?_
          rotate_left
          · show Act.put _ (some 116) _ = _
            simp only [Act.put, List.setIfInBounds_toArray, List.set_cons_zero, List.set_cons_succ, i64_w, i32_w]
            rfl
          refine pure_ (i := 19) (N := some 117) (v := ?_) (a' := ?_) #[true, true, true, true, true, true, true, true, true, true, true, true, true, true, true, true, true, true, true, true, false] rfl rfl (by kernel_rfl) (fun _ _ _ h => h) (Or.inl ⟨by rfl, ?_⟩) ?_ ?_
          rotate_left
          · intro w'
            go_simp
            with_reducible rfl
          rotate_left
          · simp only [Act.put, List.setIfInBounds_toArray, List.set_cons_zero, List.set_cons_succ, i64_w, i32_w]
            rfl
          refine pure_ (i := 20) (N := some 118) (v := ?_) (a' := ?_) #[true, true, true, true, true, true, true, true, true, true, true, true, true, true, true, true, true, true, true, true, true] rfl rfl (by kernel_rfl) (fun _ _ _ h => h) (Or.inl ⟨by rfl, ?_⟩) ?_ ?_
          rotate_left
          · intro w'
            go_simp
            with_reducible rfl
          rotate_left
          · simp only [Act.put, List.setIfInBounds_toArray, List.set_cons_zero, List.set_cons_succ, i64_w, i32_w]
            rfl
          refine done_ (by kernel_rfl) ?_
          go_wp2
          go_roundw
          case rel => exact ⟨k + 1, _, _, _, by omega, by go_num, ha.out, hb.out, RG2.out, hB49.out⟩
          case measure => first | (simp [intOf]; done) | (simp [intOf]; omega)
        have e3 : (xd == 3) = false := beq_eq_false_iff_ne.2 h3
        clear h0 h1 h2 h3
        have RG2 := RG
        go_upto_region 31 with fail
        try clear ca_0 fa_0 ca_1 fa_1 ca_2 fa_2 cb_0 fb_0 cb_1 fb_1 cb_2 fb_2 cx_0 fx_0 cx_1 fx_1 cx_2 fx_2 cx_3 fx_3
        clear hx
        have d1 := dii n; have d2 := dxx (s == 1); have d3 := dxx (decide (n ≥ c))
        refine start_ (n := 21) (S := fun w' => w'.cell? ⟨ga, 0, none⟩ = some (.int .u32 s) ∧ w'.cell? ⟨ga, 1, none⟩ = some (.int .u64 c) ∧ w'.cell? ⟨ga, 2, none⟩ = some (.int .u64 n) ∧ w'.cell? ⟨gb, 0, none⟩ = some (.int .u64 s) ∧ w'.cell? ⟨gb, 1, none⟩ = some (.int .u64 c) ∧ w'.cell? ⟨gb, 2, none⟩ = some (.int .u64 n)) (ds := []) #[false, false, false, false, false, false, false, false, false, false, false, false, false, false, false, false, false, false, false, false, false] (by kernel_rfl) rfl rfl ⟨cellS29_0 ha.out.1, cellS29_1 ha.out.1, cellS29_2 ha.out.1, cellS32_0 hb.out.1, cellS32_1 hb.out.1, cellS32_2 hb.out.1⟩ (fun hHeld => ?_)
        replace ha := Lib.hid (IsS29.drew ha.out); replace hb := Lib.hid (IsS32.drew hb.out); replace hB21 := Lib.hid (below_drew1 hB21.out)
        generalize World.drew w22 = wd38 at ha hb hB21 hHeld ⊢
        refine pure_ (i := 0) (N := some 98) (v := ?_) (a' := ?_) #[true, false, false, false, false, false, false, false, false, false, false, false, false, false, false, false, false, false, false, false, false] rfl rfl (by kernel_rfl) (fun _ _ _ h => h) (Or.inl ⟨by rfl, ?_⟩) ?_ ?_
        rotate_left
        · intro w'
          go_simp
          with_reducible rfl
        rotate_left
        · simp only [Act.put, List.setIfInBounds_toArray, List.set_cons_zero, List.set_cons_succ, i64_w, i32_w]
          rfl
        refine pure_ (i := 3) (N := some 101) (v := ?_) (a' := ?_) #[true, false, false, true, false, false, false, false, false, false, false, false, false, false, false, false, false, false, false, false, false] rfl rfl (by kernel_rfl) (fun _ _ _ h => h) (Or.inl ⟨by rfl, ?_⟩) ?_ ?_
        rotate_left
        · intro w'
          go_simp
          with_reducible rfl
        rotate_left
        · simp only [Act.put, List.setIfInBounds_toArray, List.set_cons_zero, List.set_cons_succ, i64_w, i32_w]
          rfl
        refine take_ (i := 1) (N := some 99) (v := ?_) (a' := ?_) #[true, true, false, true, false, false, false, false, false, false, false, false, false, false, false, false, false, false, false, false, false] rfl rfl (by kernel_rfl) (fun _ _ _ h => h) (Or.inl ⟨by rfl, ?_⟩) hHeld ?_ ?_
        rotate_left
        · rintro w' ⟨s0, s1, s2, s3, s4, s5⟩
          go_simp
          with_reducible rfl
        rotate_left
        · simp only [Act.put, List.setIfInBounds_toArray, List.set_cons_zero, List.set_cons_succ, i64_w, i32_w]
          rfl
        refine take_ (i := 4) (N := some 102) (v := ?_) (a' := ?_) #[true, true, false, true, true, false, false, false, false, false, false, false, false, false, false, false, false, false, false, false, false] rfl rfl (by kernel_rfl) (fun _ _ _ h => h) (Or.inl ⟨by rfl, ?_⟩) hHeld ?_ ?_
        rotate_left
        · rintro w' ⟨s0, s1, s2, s3, s4, s5⟩
          go_simp
          with_reducible rfl
        rotate_left
        · simp only [Act.put, List.setIfInBounds_toArray, List.set_cons_zero, List.set_cons_succ, i64_w, i32_w]
          rfl
        refine one_ (i := 2) (N := some 100) #[true, true, true, true, true, false, false, false, false, false, false, false, false, false, false, false, false, false, false, false, false] rfl rfl (by kernel_rfl) (by decide) (fun K hK => ?_)
        refine goes_ Try.func16 (by kernel_rfl) rfl #[.agg #[.int .u64 c, .int .u64 n]] (by rfl) rfl rfl (by simp only [List.map_toArray, List.map_cons, List.map_nil]; rfl) ?_
        with_reducible refine (clint_times_Time.calls c n n _ rfl).mono ?_
        rintro e23 w24 ⟨rfl, hb_⟩
        refine ⟨_, rfl, ?_⟩
        have s_0 := pw_cell_below hb_ hHeld.1
        have s_1 := pw_cell_below hb_ hHeld.2.1
        have s_2 := pw_cell_below hb_ hHeld.2.2.1
        have s_3 := pw_cell_below hb_ hHeld.2.2.2.1
        have s_4 := pw_cell_below hb_ hHeld.2.2.2.2.1
        have s_5 := pw_cell_below hb_ hHeld.2.2.2.2.2
        replace ha := Lib.hid (IsS29.below ha.out hb_); replace hb := Lib.hid (IsS32.below hb.out hb_); have hB25 := Lib.hid (below_step hB21.out hb_)
        clear hb_ hHeld hB21
        refine hK.out _ _ ⟨s_0, s_1, s_2, s_3, s_4, s_5⟩ (fun hHeld => ?_)
        clear hK K
        refine norm_ (a' := ?_) ?_ ?_
        rotate_left
        · show Act.put _ (some 100) _ = _
          simp only [Act.put, List.setIfInBounds_toArray, List.set_cons_zero, List.set_cons_succ, i64_w, i32_w]
          rfl
        refine pure_ (i := 5) (N := some 103) (v := ?_) (a' := ?_) #[true, true, true, true, true, true, false, false, false, false, false, false, false, false, false, false, false, false, false, false, false] rfl rfl (by kernel_rfl) (fun _ _ _ h => h) (Or.inl ⟨by rfl, ?_⟩) ?_ ?_
        rotate_left
        · intro w'
          go_simp
          with_reducible rfl
        rotate_left
        · simp only [Act.put, List.setIfInBounds_toArray, List.set_cons_zero, List.set_cons_succ, i64_w, i32_w]
          rfl
        refine pure_ (i := 6) (N := some 104) (v := ?_) (a' := ?_) #[true, true, true, true, true, true, true, false, false, false, false, false, false, false, false, false, false, false, false, false, false] rfl rfl (by kernel_rfl) (fun _ _ _ h => h) (Or.inl ⟨by rfl, ?_⟩) ?_ ?_
        rotate_left
        · intro w'
          go_simp
          with_reducible rfl
        rotate_left
        · simp only [Act.put, List.setIfInBounds_toArray, List.set_cons_zero, List.set_cons_succ, i64_w, i32_w]
          rfl
        refine take_ (i := 7) (N := some 105) (v := ?_) (a' := ?_) #[true, true, true, true, true, true, true, true, false, false, false, false, false, false, false, false, false, false, false, false, false] rfl rfl (by kernel_rfl) (fun _ _ _ h => h) (Or.inl ⟨by rfl, ?_⟩) hHeld ?_ ?_
        rotate_left
        · rintro w' ⟨s0, s1, s2, s3, s4, s5⟩
          go_simp
          with_reducible rfl
        rotate_left
        · simp only [Act.put, List.setIfInBounds_toArray, List.set_cons_zero, List.set_cons_succ, i64_w, i32_w]
          rfl
        refine take_ (i := 9) (N := some 107) (v := ?_) (a' := ?_) #[true, true, true, true, true, true, true, true, false, true, false, false, false, false, false, false, false, false, false, false, false] rfl rfl (by kernel_rfl) (fun _ _ _ h => h) (Or.inl ⟨by rfl, ?_⟩) hHeld ?_ ?_
        rotate_left
        · rintro w' ⟨s0, s1, s2, s3, s4, s5⟩
          go_simp
          with_reducible rfl
        rotate_left
        · simp only [Act.put, List.setIfInBounds_toArray, List.set_cons_zero, List.set_cons_succ, i64_w, i32_w]
          rfl
        refine one_ (i := 8) (N := some 106) #[true, true, true, true, true, true, true, true, true, true, false, false, false, false, false, false, false, false, false, false, false] rfl rfl (by kernel_rfl) (by decide) (fun K hK => ?_)
        refine goes_ Try.func18 (by kernel_rfl) rfl #[.agg #[.int .u32 s, .int .u64 c, .int .u64 n]] (by rfl) rfl rfl (by simp only [List.map_toArray, List.map_cons, List.map_nil]; rfl) ?_
        with_reducible refine (clint_Clint_Msip.calls s c n (s == 1) _ rfl).mono ?_
        rintro e26 w27 ⟨rfl, hb_⟩
        refine ⟨_, rfl, ?_⟩
        have s_0 := pw_cell_below hb_ hHeld.1
        have s_1 := pw_cell_below hb_ hHeld.2.1
        have s_2 := pw_cell_below hb_ hHeld.2.2.1
        have s_3 := pw_cell_below hb_ hHeld.2.2.2.1
        have s_4 := pw_cell_below hb_ hHeld.2.2.2.2.1
        have s_5 := pw_cell_below hb_ hHeld.2.2.2.2.2
        replace ha := Lib.hid (IsS29.below ha.out hb_); replace hb := Lib.hid (IsS32.below hb.out hb_); have hB28 := Lib.hid (below_step hB25.out hb_)
        clear hb_ hHeld hB25
        refine hK.out _ _ ⟨s_0, s_1, s_2, s_3, s_4, s_5⟩ (fun hHeld => ?_)
        clear hK K
        refine norm_ (a' := ?_) ?_ ?_
        rotate_left
        · show Act.put _ (some 106) _ = _
          simp only [Act.put, List.setIfInBounds_toArray, List.set_cons_zero, List.set_cons_succ, i64_w, i32_w]
          rfl
        refine one_ (i := 10) (N := some 108) #[true, true, true, true, true, true, true, true, true, true, true, false, false, false, false, false, false, false, false, false, false] rfl rfl (by kernel_rfl) (by decide) (fun K hK => ?_)
        refine goes_ Try.func20 (by kernel_rfl) rfl #[.agg #[.int .u64 s, .int .u64 c, .int .u64 n]] (by rfl) rfl rfl (by simp only [List.map_toArray, List.map_cons, List.map_nil]; rfl) ?_
        with_reducible refine (mezzanineref04_Clint_Msip.calls s c n (s == 1) _ rfl).mono ?_
        rintro e29 w30 ⟨rfl, hb_⟩
        refine ⟨_, rfl, ?_⟩
        have s_0 := pw_cell_below hb_ hHeld.1
        have s_1 := pw_cell_below hb_ hHeld.2.1
        have s_2 := pw_cell_below hb_ hHeld.2.2.1
        have s_3 := pw_cell_below hb_ hHeld.2.2.2.1
        have s_4 := pw_cell_below hb_ hHeld.2.2.2.2.1
        have s_5 := pw_cell_below hb_ hHeld.2.2.2.2.2
        replace ha := Lib.hid (IsS29.below ha.out hb_); replace hb := Lib.hid (IsS32.below hb.out hb_); have hB31 := Lib.hid (below_step hB28.out hb_)
        clear hb_ hHeld hB28
        refine hK.out _ _ ⟨s_0, s_1, s_2, s_3, s_4, s_5⟩ (fun hHeld => ?_)
        clear hK K
        refine norm_ (a' := ?_) ?_ ?_
        rotate_left
        · show Act.put _ (some 108) _ = _
          simp only [Act.put, List.setIfInBounds_toArray, List.set_cons_zero, List.set_cons_succ, i64_w, i32_w]
          rfl
        refine pure_ (i := 11) (N := some 109) (v := ?_) (a' := ?_) #[true, true, true, true, true, true, true, true, true, true, true, true, false, false, false, false, false, false, false, false, false] rfl rfl (by kernel_rfl) (fun _ _ _ h => h) (Or.inl ⟨by rfl, ?_⟩) ?_ ?_
        rotate_left
        · intro w'
          go_simp
          with_reducible rfl
        rotate_left
        · simp only [Act.put, List.setIfInBounds_toArray, List.set_cons_zero, List.set_cons_succ, i64_w, i32_w]
          rfl
        refine pure_ (i := 12) (N := some 110) (v := ?_) (a' := ?_) #[true, true, true, true, true, true, true, true, true, true, true, true, true, false, false, false, false, false, false, false, false] rfl rfl (by kernel_rfl) (fun _ _ _ h => h) (Or.inl ⟨by rfl, ?_⟩) ?_ ?_
        rotate_left
        · intro w'
          go_simp
          with_reducible rfl
        rotate_left
        · simp only [Act.put, List.setIfInBounds_toArray, List.set_cons_zero, List.set_cons_succ, i64_w, i32_w]
          rfl
        refine pure_ (i := 13) (N := some 111) (v := ?_) (a' := ?_) #[true, true, true, true, true, true, true, true, true, true, true, true, true, true, false, false, false, false, false, false, false] rfl rfl (by kernel_rfl) (fun _ _ _ h => h) (Or.inl ⟨by rfl, ?_⟩) ?_ ?_
        rotate_left
        · intro w'
          go_simp
          with_reducible rfl
        rotate_left
        · simp only [Act.put, List.setIfInBounds_toArray, List.set_cons_zero, List.set_cons_succ, i64_w, i32_w]
          rfl
        refine pure_ (i := 14) (N := some 112) (v := ?_) (a' := ?_) #[true, true, true, true, true, true, true, true, true, true, true, true, true, true, true, false, false, false, false, false, false] rfl rfl (by kernel_rfl) (fun _ _ _ h => h) (Or.inl ⟨by rfl, ?_⟩) ?_ ?_
        rotate_left
        · intro w'
          go_simp
          with_reducible rfl
        rotate_left
        · simp only [Act.put, List.setIfInBounds_toArray, List.set_cons_zero, List.set_cons_succ, i64_w, i32_w]
          rfl
        refine take_ (i := 15) (N := some 113) (v := ?_) (a' := ?_) #[true, true, true, true, true, true, true, true, true, true, true, true, true, true, true, true, false, false, false, false, false] rfl rfl (by kernel_rfl) (fun _ _ _ h => h) (Or.inl ⟨by rfl, ?_⟩) hHeld ?_ ?_
        rotate_left
        · rintro w' ⟨s0, s1, s2, s3, s4, s5⟩
          go_simp
          with_reducible rfl
        rotate_left
        · simp only [Act.put, List.setIfInBounds_toArray, List.set_cons_zero, List.set_cons_succ, i64_w, i32_w]
          rfl
        refine take_ (i := 17) (N := some 115) (v := ?_) (a' := ?_) #[true, true, true, true, true, true, true, true, true, true, true, true, true, true, true, true, false, true, false, false, false] rfl rfl (by kernel_rfl) (fun _ _ _ h => h) (Or.inl ⟨by rfl, ?_⟩) hHeld ?_ ?_
        rotate_left
        · rintro w' ⟨s0, s1, s2, s3, s4, s5⟩
          go_simp
          with_reducible rfl
        rotate_left
        · simp only [Act.put, List.setIfInBounds_toArray, List.set_cons_zero, List.set_cons_succ, i64_w, i32_w]
          rfl
        refine one_ (i := 16) (N := some 114) #[true, true, true, true, true, true, true, true, true, true, true, true, true, true, true, true, true, true, false, false, false] rfl rfl (by kernel_rfl) (by decide) (fun K hK => ?_)
        refine goes_ Try.func15 (by kernel_rfl) rfl #[.agg #[.int .u64 c, .int .u64 n]] (by rfl) rfl rfl (by simp only [List.map_toArray, List.map_cons, List.map_nil]; rfl) ?_
        with_reducible refine (clint_times_Mtip.calls c n (decide (n ≥ c)) _ rfl).mono ?_
        rintro e32 w33 ⟨rfl, hb_⟩
        refine ⟨_, rfl, ?_⟩
        have s_0 := pw_cell_below hb_ hHeld.1
        have s_1 := pw_cell_below hb_ hHeld.2.1
        have s_2 := pw_cell_below hb_ hHeld.2.2.1
        have s_3 := pw_cell_below hb_ hHeld.2.2.2.1
        have s_4 := pw_cell_below hb_ hHeld.2.2.2.2.1
        have s_5 := pw_cell_below hb_ hHeld.2.2.2.2.2
        replace ha := Lib.hid (IsS29.below ha.out hb_); replace hb := Lib.hid (IsS32.below hb.out hb_); have hB34 := Lib.hid (below_step hB31.out hb_)
        clear hb_ hHeld hB31
        refine hK.out _ _ ⟨s_0, s_1, s_2, s_3, s_4, s_5⟩ (fun hHeld => ?_)
        clear hK K
        refine norm_ (a' := ?_) ?_ ?_
        rotate_left
        · show Act.put _ (some 114) _ = _
          simp only [Act.put, List.setIfInBounds_toArray, List.set_cons_zero, List.set_cons_succ, i64_w, i32_w]
          rfl
        refine one_ (i := 18) (N := some 116) #[true, true, true, true, true, true, true, true, true, true, true, true, true, true, true, true, true, true, true, false, false] rfl rfl (by kernel_rfl) (by decide) (fun K hK => ?_)
        refine goes_ Try.func21 (by kernel_rfl) rfl #[.agg #[.int .u64 s, .int .u64 c, .int .u64 n]] (by rfl) rfl rfl (by simp only [List.map_toArray, List.map_cons, List.map_nil]; rfl) ?_
        with_reducible refine (mezzanineref04_Clint_Mtip.calls s c n (decide (n ≥ c)) _ rfl).mono ?_
        rintro e35 w36 ⟨rfl, hb_⟩
        refine ⟨_, rfl, ?_⟩
        have s_0 := pw_cell_below hb_ hHeld.1
        have s_1 := pw_cell_below hb_ hHeld.2.1
        have s_2 := pw_cell_below hb_ hHeld.2.2.1
        have s_3 := pw_cell_below hb_ hHeld.2.2.2.1
        have s_4 := pw_cell_below hb_ hHeld.2.2.2.2.1
        have s_5 := pw_cell_below hb_ hHeld.2.2.2.2.2
        replace ha := Lib.hid (IsS29.below ha.out hb_); replace hb := Lib.hid (IsS32.below hb.out hb_); have hB37 := Lib.hid (below_step hB34.out hb_)
        clear hb_ hHeld hB34
        refine hK.out _ _ ⟨s_0, s_1, s_2, s_3, s_4, s_5⟩ (fun hHeld => ?_)
        clear hK K
        refine norm_ (a' := ?_) ?_ ?_
        rotate_left
        · show Act.put _ (some 116) _ = _
          simp only [Act.put, List.setIfInBounds_toArray, List.set_cons_zero, List.set_cons_succ, i64_w, i32_w]
          rfl
        refine pure_ (i := 19) (N := some 117) (v := ?_) (a' := ?_) #[true, true, true, true, true, true, true, true, true, true, true, true, true, true, true, true, true, true, true, true, false] rfl rfl (by kernel_rfl) (fun _ _ _ h => h) (Or.inl ⟨by rfl, ?_⟩) ?_ ?_
        rotate_left
        · intro w'
          go_simp
          with_reducible rfl
        rotate_left
        · simp only [Act.put, List.setIfInBounds_toArray, List.set_cons_zero, List.set_cons_succ, i64_w, i32_w]
          rfl
        refine pure_ (i := 20) (N := some 118) (v := ?_) (a' := ?_) #[true, true, true, true, true, true, true, true, true, true, true, true, true, true, true, true, true, true, true, true, true] rfl rfl (by kernel_rfl) (fun _ _ _ h => h) (Or.inl ⟨by rfl, ?_⟩) ?_ ?_
        rotate_left
        · intro w'
          go_simp
          with_reducible rfl
        rotate_left
        · simp only [Act.put, List.setIfInBounds_toArray, List.set_cons_zero, List.set_cons_succ, i64_w, i32_w]
          rfl
        refine done_ (by kernel_rfl) ?_
        go_wp2
        go_roundw
        case rel => exact ⟨k + 1, _, _, _, by omega, by go_num, ha.out, hb.out, RG2.out, hB37.out⟩
        case measure => first | (simp [intOf]; done) | (simp [intOf]; omega)
      · obtain rfl : k = l.length := by omega
        have d0 : decide ((l.length : Int) < (l.length : Int)) = false := decide_eq_false (by omega)
        go_wp2
        go_ret
        exact ⟨rfl, HB.out⟩
end Go.Proofs.Ythdgkafcgaohiaa.Pure
