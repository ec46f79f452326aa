/- Where the Lean function of a Go function gives a value, the Go call returns that value and changes nothing that was there: for every input. (By a program of this session, and by hand.) -/
import Derived.Test.YthdgkafcgaohiaaQx0
import Derived.Test.YthdgkafcgaohiaaQx1
import Derived.Test.YthdgkafcgaohiaaQx2
import Derived.Test.YthdgkafcgaohiaaQx3
import Derived.Test.YthdgkafcgaohiaaQx4
import Derived.Test.YthdgkafcgaohiaaQx8
namespace Go.Proofs.Ythdgkafcgaohiaa.Q
open Go.RowKit Go.Proofs.YthdgkafcgaohiaaW.PrintWords Go.Proofs.YthdgkafcgaohiaaW.PrintLast Go.Proofs.YthdgkafcgaohiaaW.PrintMore
attribute [local go_sem] max2_int min2_int max_two min_two max_three min_three max_four min_four   -- for this text's walks alone
set_option linter.unusedVariables false
set_option linter.unusedSimpArgs false

/-! ### mezzaninelaw04_ClintSame: by hand -/
section
set_option maxHeartbeats 32000000 in
set_option maxRecDepth 100000 in
theorem mezzaninelaw04_ClintSame.callsB (a am : Option Addr) (cap capm : Nat) (l m : List (Int × Int × Int × Int)) (hl60 : l.length ≤ 60) (hm60 : m.length ≤ 60) (w : World) (hrow : ActsAt w a l) (hrow2 : ActsAt w am m) (fm : Forms) :
    Calls Try.prog 3 #[.slice a l.length cap, .slice am m.length capm] w fun e w' => e = .returned (.bool true) ∧ Below w.heap.size w w' := by
  have HR := Lib.hid hrow; have HM := Lib.hid hrow2; have FM := Lib.hid fm
  clear hrow hrow2 fm
  have d60 : decide ((l.length : Int) > 60) = false := decide_eq_false (by omega)
  have m60 : decide ((m.length : Int) > 60) = false := decide_eq_false (by omega)
  have hu36 := Try.underlying36
  have hu32 := Try.underlying32
  have hu29 := Try.underlying29
  have hu27 := Try.underlying27
  go_enter Try.func3, Try.ntmps3
  go_wp2_with fail
  refine (mezzaninelaw04_awake.calls true _ rfl).mono ?_
  rintro e1 w2 ⟨rfl, hb3⟩
  have hB4 := Lib.hid (hb3)
  clear hb3
  go_wp2_with fail
  refine (clint_New.calls 0 18446744073709551615 0 _ rfl).mono ?_
  rintro e5 w6 ⟨rfl, hb7⟩
  have hB8 := Lib.hid (below_step hB4.out hb7)
  clear hb7 hB4
  go_wp2_with fail
  have ha := Lib.hid (IsS29.new w w6 0 18446744073709551615 0 hB8.out)
  have hB9 := Lib.hid (Below.alloc hB8.out (Below.size hB8.out) (.cells #[.int .u32 0, .int .u64 18446744073709551615, .int .u64 0] 29))
  clear hB8
  generalize w6.alloc (.cells #[.int .u32 0, .int .u64 18446744073709551615, .int .u64 0] 29) = w10 at ha hB9 ⊢
  generalize w6.heap.size = ga at ha ⊢
  have ca_0 := cellS29_0 ha.out.1; have fa_0 := blk_frozen ha.out.1 0
  have ca_1 := cellS29_1 ha.out.1; have fa_1 := blk_frozen ha.out.1 1
  have ca_2 := cellS29_2 ha.out.1; have fa_2 := blk_frozen ha.out.1 2
  refine (clint_New.calls 0 18446744073709551615 0 _ rfl).mono ?_
  rintro e11 w12 ⟨rfl, hb13⟩
  try clear ca_0 fa_0 ca_1 fa_1 ca_2 fa_2
  have hB14 := Lib.hid (below_step hB9.out hb13)
  replace ha := Lib.hid (IsS29.below ha.out hb13)
  clear hb13 hB9
  have ca_0 := cellS29_0 ha.out.1; have fa_0 := blk_frozen ha.out.1 0
  have ca_1 := cellS29_1 ha.out.1; have fa_1 := blk_frozen ha.out.1 1
  have ca_2 := cellS29_2 ha.out.1; have fa_2 := blk_frozen ha.out.1 2
  go_wp2_with fail
  try clear ca_0 fa_0 ca_1 fa_1 ca_2 fa_2
  have hb := Lib.hid (IsS29.new w w12 0 18446744073709551615 0 hB14.out)
  have hB15 := Lib.hid (Below.alloc hB14.out (Below.size hB14.out) (.cells #[.int .u32 0, .int .u64 18446744073709551615, .int .u64 0] 29))
  have nab := Lib.hid (Nat.ne_of_lt ha.out.lt)
  replace ha := Lib.hid (IsS29.alloc ha.out (.cells #[.int .u32 0, .int .u64 18446744073709551615, .int .u64 0] 29))
  clear hB14
  generalize w12.alloc (.cells #[.int .u32 0, .int .u64 18446744073709551615, .int .u64 0] 29) = w16 at hb hB15 ha ⊢
  generalize w12.heap.size = gb at hb nab ⊢
  have ca_0 := cellS29_0 ha.out.1; have fa_0 := blk_frozen ha.out.1 0
  have ca_1 := cellS29_1 ha.out.1; have fa_1 := blk_frozen ha.out.1 1
  have ca_2 := cellS29_2 ha.out.1; have fa_2 := blk_frozen ha.out.1 2
  have cb_0 := cellS29_0 hb.out.1; have fb_0 := blk_frozen hb.out.1 0
  have cb_1 := cellS29_1 hb.out.1; have fb_1 := blk_frozen hb.out.1 1
  have cb_2 := cellS29_2 hb.out.1; have fb_2 := blk_frozen hb.out.1 2
  refine (mezzanineref04_New.calls 0 18446744073709551615 0 _ rfl).mono ?_
  rintro e17 w18 ⟨rfl, hb19⟩
  try clear ca_0 fa_0 ca_1 fa_1 ca_2 fa_2 cb_0 fb_0 cb_1 fb_1 cb_2 fb_2
  have hB20 := Lib.hid (below_step hB15.out hb19)
  replace ha := Lib.hid (IsS29.below ha.out hb19)
  replace hb := Lib.hid (IsS29.below hb.out hb19)
  clear hb19 hB15
  have ca_0 := cellS29_0 ha.out.1; have fa_0 := blk_frozen ha.out.1 0
  have ca_1 := cellS29_1 ha.out.1; have fa_1 := blk_frozen ha.out.1 1
  have ca_2 := cellS29_2 ha.out.1; have fa_2 := blk_frozen ha.out.1 2
  have cb_0 := cellS29_0 hb.out.1; have fb_0 := blk_frozen hb.out.1 0
  have cb_1 := cellS29_1 hb.out.1; have fb_1 := blk_frozen hb.out.1 1
  have cb_2 := cellS29_2 hb.out.1; have fb_2 := blk_frozen hb.out.1 2
  go_wp2_with fail
  try clear ca_0 fa_0 ca_1 fa_1 ca_2 fa_2 cb_0 fb_0 cb_1 fb_1 cb_2 fb_2
  have hc := Lib.hid (IsS32.new w w18 0 18446744073709551615 0 hB20.out)
  have hB21 := Lib.hid (Below.alloc hB20.out (Below.size hB20.out) (.cells #[.int .u64 0, .int .u64 18446744073709551615, .int .u64 0] 32))
  have nac := Lib.hid (Nat.ne_of_lt ha.out.lt)
  replace ha := Lib.hid (IsS29.alloc ha.out (.cells #[.int .u64 0, .int .u64 18446744073709551615, .int .u64 0] 32))
  have nbc := Lib.hid (Nat.ne_of_lt hb.out.lt)
  replace hb := Lib.hid (IsS29.alloc hb.out (.cells #[.int .u64 0, .int .u64 18446744073709551615, .int .u64 0] 32))
  clear hB20
  generalize w18.alloc (.cells #[.int .u64 0, .int .u64 18446744073709551615, .int .u64 0] 32) = w22 at hc hB21 ha hb ⊢
  generalize w18.heap.size = gc at hc nac nbc ⊢
  have ca_0 := cellS29_0 ha.out.1; have fa_0 := blk_frozen ha.out.1 0
  have ca_1 := cellS29_1 ha.out.1; have fa_1 := blk_frozen ha.out.1 1
  have ca_2 := cellS29_2 ha.out.1; have fa_2 := blk_frozen ha.out.1 2
  have cb_0 := cellS29_0 hb.out.1; have fb_0 := blk_frozen hb.out.1 0
  have cb_1 := cellS29_1 hb.out.1; have fb_1 := blk_frozen hb.out.1 1
  have cb_2 := cellS29_2 hb.out.1; have fb_2 := blk_frozen hb.out.1 2
  have cc_0 := cellS32_0 hc.out.1; have fc_0 := blk_frozen hc.out.1 0
  have cc_1 := cellS32_1 hc.out.1; have fc_1 := blk_frozen hc.out.1 1
  have cc_2 := cellS32_2 hc.out.1; have fc_2 := blk_frozen hc.out.1 2
  refine (mezzanineref04_New.calls 0 18446744073709551615 0 _ rfl).mono ?_
  rintro e23 w24 ⟨rfl, hb25⟩
  try clear ca_0 fa_0 ca_1 fa_1 ca_2 fa_2 cb_0 fb_0 cb_1 fb_1 cb_2 fb_2 cc_0 fc_0 cc_1 fc_1 cc_2 fc_2
  have hB26 := Lib.hid (below_step hB21.out hb25)
  replace ha := Lib.hid (IsS29.below ha.out hb25)
  replace hb := Lib.hid (IsS29.below hb.out hb25)
  replace hc := Lib.hid (IsS32.below hc.out hb25)
  clear hb25 hB21
  have ca_0 := cellS29_0 ha.out.1; have fa_0 := blk_frozen ha.out.1 0
  have ca_1 := cellS29_1 ha.out.1; have fa_1 := blk_frozen ha.out.1 1
  have ca_2 := cellS29_2 ha.out.1; have fa_2 := blk_frozen ha.out.1 2
  have cb_0 := cellS29_0 hb.out.1; have fb_0 := blk_frozen hb.out.1 0
  have cb_1 := cellS29_1 hb.out.1; have fb_1 := blk_frozen hb.out.1 1
  have cb_2 := cellS29_2 hb.out.1; have fb_2 := blk_frozen hb.out.1 2
  have cc_0 := cellS32_0 hc.out.1; have fc_0 := blk_frozen hc.out.1 0
  have cc_1 := cellS32_1 hc.out.1; have fc_1 := blk_frozen hc.out.1 1
  have cc_2 := cellS32_2 hc.out.1; have fc_2 := blk_frozen hc.out.1 2
  go_wp2_with fail
  try clear ca_0 fa_0 ca_1 fa_1 ca_2 fa_2 cb_0 fb_0 cb_1 fb_1 cb_2 fb_2 cc_0 fc_0 cc_1 fc_1 cc_2 fc_2
  have hd := Lib.hid (IsS32.new w w24 0 18446744073709551615 0 hB26.out)
  have hB27 := Lib.hid (Below.alloc hB26.out (Below.size hB26.out) (.cells #[.int .u64 0, .int .u64 18446744073709551615, .int .u64 0] 32))
  have nad := Lib.hid (Nat.ne_of_lt ha.out.lt)
  replace ha := Lib.hid (IsS29.alloc ha.out (.cells #[.int .u64 0, .int .u64 18446744073709551615, .int .u64 0] 32))
  have nbd := Lib.hid (Nat.ne_of_lt hb.out.lt)
  replace hb := Lib.hid (IsS29.alloc hb.out (.cells #[.int .u64 0, .int .u64 18446744073709551615, .int .u64 0] 32))
  have ncd := Lib.hid (Nat.ne_of_lt hc.out.lt)
  replace hc := Lib.hid (IsS32.alloc hc.out (.cells #[.int .u64 0, .int .u64 18446744073709551615, .int .u64 0] 32))
  clear hB26
  generalize w24.alloc (.cells #[.int .u64 0, .int .u64 18446744073709551615, .int .u64 0] 32) = w28 at hd hB27 ha hb hc ⊢
  generalize w24.heap.size = gd at hd nad nbd ncd ⊢
  have ca_0 := cellS29_0 ha.out.1; have fa_0 := blk_frozen ha.out.1 0
  have ca_1 := cellS29_1 ha.out.1; have fa_1 := blk_frozen ha.out.1 1
  have ca_2 := cellS29_2 ha.out.1; have fa_2 := blk_frozen ha.out.1 2
  have cb_0 := cellS29_0 hb.out.1; have fb_0 := blk_frozen hb.out.1 0
  have cb_1 := cellS29_1 hb.out.1; have fb_1 := blk_frozen hb.out.1 1
  have cb_2 := cellS29_2 hb.out.1; have fb_2 := blk_frozen hb.out.1 2
  have cc_0 := cellS32_0 hc.out.1; have fc_0 := blk_frozen hc.out.1 0
  have cc_1 := cellS32_1 hc.out.1; have fc_1 := blk_frozen hc.out.1 1
  have cc_2 := cellS32_2 hc.out.1; have fc_2 := blk_frozen hc.out.1 2
  have cd_0 := cellS32_0 hd.out.1; have fd_0 := blk_frozen hd.out.1 0
  have cd_1 := cellS32_1 hd.out.1; have fd_1 := blk_frozen hd.out.1 1
  have cd_2 := cellS32_2 hd.out.1; have fd_2 := blk_frozen hd.out.1 2
  try clear ca_0 fa_0 ca_1 fa_1 ca_2 fa_2 cb_0 fb_0 cb_1 fb_1 cb_2 fb_2 cc_0 fc_0 cc_1 fc_1 cc_2 fc_2 cd_0 fd_0 cd_1 fd_1 cd_2 fd_2
  go_loopw [9] (fun v9 wr => ∃ (k : Nat) (sa ca na : Int), k ≤ l.length ∧ v9 = .int .i64 k ∧ IsS29 w wr ga sa ca na ∧ IsS29 w wr gb 0 18446744073709551615 0 ∧ IsS32 w wr gc sa ca na ∧ IsS32 w wr gd 0 18446744073709551615 0 ∧ Rng sa ca na ∧ Below w.heap.size w wr) (fun v9 _ => l.length - (intOf v9).toNat)
  case atStart => exact ⟨0, 0, 18446744073709551615, 0, Nat.zero_le _, rfl, ha.out, hb.out, hc.out, hd.out, ⟨⟨by decide, by decide⟩, ⟨by decide, by decide⟩, by decide, by decide⟩, hB27.out⟩
  case round =>
    clear ha hb hc hd hB27
    obtain ⟨k, sa, ca, na, hk, rfl, ia, ib, ic, id, hrr, hbw⟩ := hrel
    have RG := Lib.hid hrr; have HB := Lib.hid hbw; have ha := Lib.hid ia; have hb := Lib.hid ib; have hc := Lib.hid ic; have hd := Lib.hid id
    clear hrr hbw ia ib ic id
    by_cases hlt : k < l.length
    · have d0 : decide ((k : Int) < (l.length : Int)) = true := decide_eq_true (by omega)
      obtain ⟨x, rfl, c0, c1, c2, c3, r0, r1⟩ := HR.out.below HB.out k hlt
      have hq : ∃ q, l[k] = q := ⟨_, rfl⟩
      obtain ⟨⟨xd, xo, xn, xv⟩, hq⟩ := hq
      rw [hq] at c0 c1 c2 c3 r0 r1
      dsimp only at c0 c1 c2 c3 r0 r1
      have R0 := Lib.hid r0; have R1 := Lib.hid r1; have HQ := Lib.hid hq
      clear r0 r1 c0 hq
      have hia := acts_index x l.length cap k hlt
      go_wp2_with fail
      refine start_ (n := 16) (S := fun w' => w'.cell? ⟨(x.add (k * 4)).block, (x.add (k * 4)).off + 1, none⟩ = some (.int .u64 xo) ∧ w'.cell? ⟨(x.add (k * 4)).block, (x.add (k * 4)).off + 2, none⟩ = some (.int .i64 xn) ∧ w'.cell? ⟨(x.add (k * 4)).block, (x.add (k * 4)).off + 3, none⟩ = some (.int .u64 xv)) (ds := [15]) #[false, false, false, false, false, false, false, false, false, false, false, false, false, false, false, false] (by kernel_rfl) rfl rfl ⟨c1, c2, c3⟩ (fun hHeld => ?_)
      replace ha := Lib.hid (IsS29.drew ha.out); replace hb := Lib.hid (IsS29.drew hb.out); replace hc := Lib.hid (IsS32.drew hc.out); replace hd := Lib.hid (IsS32.drew hd.out); replace HB := Lib.hid (below_drew1 HB.out)
      generalize World.drew wr = wd34 at ha hb hc hd HB hHeld ⊢
      refine pure_ (i := 0) (N := some 31) (v := ?_) (a' := ?_) #[true, false, false, false, false, false, false, false, false, false, false, false, false, false, false, false] rfl rfl (by kernel_rfl) (fun _ _ _ h => h) (Or.inl ⟨by rfl, ?_⟩) ?_ ?_
      rotate_left
      · intro w'
        go_simp
        with_reducible rfl
      rotate_left
      · simp only [Act.put, List.setIfInBounds_toArray, List.set_cons_zero, List.set_cons_succ, i64_w, i32_w]
        rfl
      refine pure_ (i := 1) (N := some 32) (v := ?_) (a' := ?_) #[true, true, false, false, false, false, false, false, false, false, false, false, false, false, false, false] rfl rfl (by kernel_rfl) (fun _ _ _ h => h) (Or.inl ⟨by rfl, ?_⟩) ?_ ?_
      rotate_left
      · intro w'
        go_simp
        with_reducible rfl
      rotate_left
      · simp only [Act.put, List.setIfInBounds_toArray, List.set_cons_zero, List.set_cons_succ, i64_w, i32_w]
        rfl
      refine pure_ (i := 2) (N := some 33) (v := ?_) (a' := ?_) #[true, true, true, false, false, false, false, false, false, false, false, false, false, false, false, false] rfl rfl (by kernel_rfl) (fun _ _ _ h => h) (Or.inl ⟨by rfl, ?_⟩) ?_ ?_
      rotate_left
      · intro w'
        go_simp
        with_reducible rfl
      rotate_left
      · simp only [Act.put, List.setIfInBounds_toArray, List.set_cons_zero, List.set_cons_succ, i64_w, i32_w]
        rfl
      refine pure_ (i := 3) (N := some 34) (v := ?_) (a' := ?_) #[true, true, true, true, false, false, false, false, false, false, false, false, false, false, false, false] rfl rfl (by kernel_rfl) (fun _ _ _ h => h) (Or.inl ⟨by rfl, ?_⟩) ?_ ?_
      rotate_left
      · intro w'
        go_simp
        with_reducible rfl
      rotate_left
      · simp only [Act.put, List.setIfInBounds_toArray, List.set_cons_zero, List.set_cons_succ, i64_w, i32_w]
        rfl
      refine pure_ (i := 5) (N := some 36) (v := ?_) (a' := ?_) #[true, true, true, true, false, true, false, false, false, false, false, false, false, false, false, false] rfl rfl (by kernel_rfl) (fun _ _ _ h => h) (Or.inl ⟨by rfl, ?_⟩) ?_ ?_
      rotate_left
      · intro w'
        go_simp
        with_reducible rfl
      rotate_left
      · simp only [Act.put, List.setIfInBounds_toArray, List.set_cons_zero, List.set_cons_succ, i64_w, i32_w]
        rfl
      refine pure_ (i := 6) (N := some 37) (v := ?_) (a' := ?_) #[true, true, true, true, false, true, true, false, false, false, false, false, false, false, false, false] rfl rfl (by kernel_rfl) (fun _ _ _ h => h) (Or.inl ⟨by rfl, ?_⟩) ?_ ?_
      rotate_left
      · intro w'
        go_simp
        with_reducible rfl
      rotate_left
      · simp only [Act.put, List.setIfInBounds_toArray, List.set_cons_zero, List.set_cons_succ, i64_w, i32_w]
        rfl
      refine pure_ (i := 7) (N := some 38) (v := ?_) (a' := ?_) #[true, true, true, true, false, true, true, true, false, false, false, false, false, false, false, false] rfl rfl (by kernel_rfl) (fun _ _ _ h => h) (Or.inl ⟨by rfl, ?_⟩) ?_ ?_
      rotate_left
      · intro w'
        go_simp
        with_reducible rfl
      rotate_left
      · simp only [Act.put, List.setIfInBounds_toArray, List.set_cons_zero, List.set_cons_succ, i64_w, i32_w]
        rfl
      refine pure_ (i := 8) (N := some 39) (v := ?_) (a' := ?_) #[true, true, true, true, false, true, true, true, true, false, false, false, false, false, false, false] rfl rfl (by kernel_rfl) (fun _ _ _ h => h) (Or.inl ⟨by rfl, ?_⟩) ?_ ?_
      rotate_left
      · intro w'
        go_simp
        with_reducible rfl
      rotate_left
      · simp only [Act.put, List.setIfInBounds_toArray, List.set_cons_zero, List.set_cons_succ, i64_w, i32_w]
        rfl
      refine pure_ (i := 10) (N := some 41) (v := ?_) (a' := ?_) #[true, true, true, true, false, true, true, true, true, false, true, false, false, false, false, false] rfl rfl (by kernel_rfl) (fun _ _ _ h => h) (Or.inl ⟨by rfl, ?_⟩) ?_ ?_
      rotate_left
      · intro w'
        go_simp
        with_reducible rfl
      rotate_left
      · simp only [Act.put, List.setIfInBounds_toArray, List.set_cons_zero, List.set_cons_succ, i64_w, i32_w]
        rfl
      refine pure_ (i := 11) (N := some 42) (v := ?_) (a' := ?_) #[true, true, true, true, false, true, true, true, true, false, true, true, false, false, false, false] rfl rfl (by kernel_rfl) (fun _ _ _ h => h) (Or.inl ⟨by rfl, ?_⟩) ?_ ?_
      rotate_left
      · intro w'
        go_simp
        with_reducible rfl
      rotate_left
      · simp only [Act.put, List.setIfInBounds_toArray, List.set_cons_zero, List.set_cons_succ, i64_w, i32_w]
        rfl
      refine pure_ (i := 12) (N := some 43) (v := ?_) (a' := ?_) #[true, true, true, true, false, true, true, true, true, false, true, true, true, false, false, false] rfl rfl (by kernel_rfl) (fun _ _ _ h => h) (Or.inl ⟨by rfl, ?_⟩) ?_ ?_
      rotate_left
      · intro w'
        go_simp
        with_reducible rfl
      rotate_left
      · simp only [Act.put, List.setIfInBounds_toArray, List.set_cons_zero, List.set_cons_succ, i64_w, i32_w]
        rfl
      refine pure_ (i := 13) (N := some 44) (v := ?_) (a' := ?_) #[true, true, true, true, false, true, true, true, true, false, true, true, true, true, false, false] rfl rfl (by kernel_rfl) (fun _ _ _ h => h) (Or.inl ⟨by rfl, ?_⟩) ?_ ?_
      rotate_left
      · intro w'
        go_simp
        with_reducible rfl
      rotate_left
      · simp only [Act.put, List.setIfInBounds_toArray, List.set_cons_zero, List.set_cons_succ, i64_w, i32_w]
        rfl
      refine take_ (i := 4) (N := some 35) (v := ?_) (a' := ?_) #[true, true, true, true, true, true, true, true, true, false, true, true, true, true, false, false] rfl rfl (by kernel_rfl) (fun _ _ _ h => h) (Or.inl ⟨by rfl, ?_⟩) hHeld ?_ ?_
      rotate_left
      · rintro w' ⟨s0, s1, s2⟩
        go_simp
        with_reducible rfl
      rotate_left
      · simp only [Act.put, List.setIfInBounds_toArray, List.set_cons_zero, List.set_cons_succ, i64_w, i32_w]
        rfl
      refine take_ (i := 9) (N := some 40) (v := ?_) (a' := ?_) #[true, true, true, true, true, true, true, true, true, true, true, true, true, true, false, false] rfl rfl (by kernel_rfl) (fun _ _ _ h => h) (Or.inl ⟨by rfl, ?_⟩) hHeld ?_ ?_
      rotate_left
      · rintro w' ⟨s0, s1, s2⟩
        go_simp
        with_reducible rfl
      rotate_left
      · simp only [Act.put, List.setIfInBounds_toArray, List.set_cons_zero, List.set_cons_succ, i64_w, i32_w]
        rfl
      refine take_ (i := 14) (N := some 45) (v := ?_) (a' := ?_) #[true, true, true, true, true, true, true, true, true, true, true, true, true, true, true, false] rfl rfl (by kernel_rfl) (fun _ _ _ h => h) (Or.inl ⟨by rfl, ?_⟩) hHeld ?_ ?_
      rotate_left
      · rintro w' ⟨s0, s1, s2⟩
        go_simp
        with_reducible rfl
      rotate_left
      · simp only [Act.put, List.setIfInBounds_toArray, List.set_cons_zero, List.set_cons_succ, i64_w, i32_w]
        rfl
      refine last_ (i := 15) (N := some 46) #[true, true, true, true, true, true, true, true, true, true, true, true, true, true, true, true] rfl rfl (by kernel_rfl) (by decide) (fun K hK => ?_)
      refine goes_ Try.func11 (by kernel_rfl) rfl #[.pointer (some ⟨ga, 0, none⟩), .int .u64 xo, .int .i64 xn, .int .u64 xv] (by rfl) rfl rfl (by simp only [List.map_toArray, List.map_cons, List.map_nil]; rfl) ?_
      with_reducible refine (clint_Clint_Write.calls 2 ga sa ca na xo xn xv (cw sa ca na xo xn xv).1 (cw sa ca na xo xn xv).2.1 (cw sa ca na xo xn xv).2.2.1 (cw sa ca na xo xn xv).2.2.2 w _ ha.out HB.out (FM.out.wr sa ca na xo xn xv RG.out R0.out R1.out)).mono ?_
      rintro e29 w30 ⟨rfl, hi33, hB31, hK32⟩
      refine ⟨_, rfl, ?_⟩
      refine hK.out _ _ ?_
      clear hK K
      refine norm_ (a' := ?_) ?_ ?_
      rotate_left
      · show Act.put _ (some 46) _ = _
        simp only [Act.put, List.setIfInBounds_toArray, List.set_cons_zero, List.set_cons_succ, i64_w, i32_w]
        rfl
      refine done_ (by kernel_rfl) ?_
      replace hb := Lib.hid (⟨hK32.blk hb.out.1 (Ne.symm nab.out) (by simp), hb.out.2⟩ : IsS29 w w30 gb 0 18446744073709551615 0)
      replace hc := Lib.hid (⟨hK32.blk hc.out.1 (Ne.symm nac.out) (by simp), hc.out.2⟩ : IsS32 w w30 gc sa ca na)
      replace hd := Lib.hid (⟨hK32.blk hd.out.1 (Ne.symm nad.out) (by simp), hd.out.2⟩ : IsS32 w w30 gd 0 18446744073709551615 0)
      clear c1 c2 c3 hHeld hK32 HB
      replace ha := Lib.hid hi33; replace hB31 := Lib.hid hB31
      clear hi33
      obtain ⟨x_, e_, _, c1, c2, c3, _⟩ := HR.out.below hB31.out k hlt
      cases e_
      rw [HQ.out] at c1 c2 c3
      dsimp only at c1 c2 c3
      go_wp2_with fail
      refine start_ (n := 16) (S := fun w' => w'.cell? ⟨(x.add (k * 4)).block, (x.add (k * 4)).off + 1, none⟩ = some (.int .u64 xo) ∧ w'.cell? ⟨(x.add (k * 4)).block, (x.add (k * 4)).off + 2, none⟩ = some (.int .i64 xn) ∧ w'.cell? ⟨(x.add (k * 4)).block, (x.add (k * 4)).off + 3, none⟩ = some (.int .u64 xv)) (ds := [15]) #[false, false, false, false, false, false, false, false, false, false, false, false, false, false, false, false] (by kernel_rfl) rfl rfl ⟨c1, c2, c3⟩ (fun hHeld => ?_)
      replace ha := Lib.hid (IsS29.drew ha.out); replace hb := Lib.hid (IsS29.drew hb.out); replace hc := Lib.hid (IsS32.drew hc.out); replace hd := Lib.hid (IsS32.drew hd.out); replace hB31 := Lib.hid (below_drew1 hB31.out)
      generalize World.drew w30 = wd40 at ha hb hc hd hB31 hHeld ⊢
      refine pure_ (i := 0) (N := some 47) (v := ?_) (a' := ?_) #[true, false, false, false, false, false, false, false, false, false, false, false, false, false, false, false] rfl rfl (by kernel_rfl) (fun _ _ _ h => h) (Or.inl ⟨by rfl, ?_⟩) ?_ ?_
      rotate_left
      · intro w'
        go_simp
        with_reducible rfl
      rotate_left
      · simp only [Act.put, List.setIfInBounds_toArray, List.set_cons_zero, List.set_cons_succ, i64_w, i32_w]
        rfl
      refine pure_ (i := 1) (N := some 48) (v := ?_) (a' := ?_) #[true, true, false, false, false, false, false, false, false, false, false, false, false, false, false, false] rfl rfl (by kernel_rfl) (fun _ _ _ h => h) (Or.inl ⟨by rfl, ?_⟩) ?_ ?_
      rotate_left
      · intro w'
        go_simp
        with_reducible rfl
      rotate_left
      · simp only [Act.put, List.setIfInBounds_toArray, List.set_cons_zero, List.set_cons_succ, i64_w, i32_w]
        rfl
      refine pure_ (i := 2) (N := some 49) (v := ?_) (a' := ?_) #[true, true, true, false, false, false, false, false, false, false, false, false, false, false, false, false] rfl rfl (by kernel_rfl) (fun _ _ _ h => h) (Or.inl ⟨by rfl, ?_⟩) ?_ ?_
      rotate_left
      · intro w'
        go_simp
        with_reducible rfl
      rotate_left
      · simp only [Act.put, List.setIfInBounds_toArray, List.set_cons_zero, List.set_cons_succ, i64_w, i32_w]
        rfl
      refine pure_ (i := 3) (N := some 50) (v := ?_) (a' := ?_) #[true, true, true, true, false, false, false, false, false, false, false, false, false, false, false, false] rfl rfl (by kernel_rfl) (fun _ _ _ h => h) (Or.inl ⟨by rfl, ?_⟩) ?_ ?_
      rotate_left
      · intro w'
        go_simp
        with_reducible rfl
      rotate_left
      · simp only [Act.put, List.setIfInBounds_toArray, List.set_cons_zero, List.set_cons_succ, i64_w, i32_w]
        rfl
      refine pure_ (i := 5) (N := some 52) (v := ?_) (a' := ?_) #[true, true, true, true, false, true, false, false, false, false, false, false, false, false, false, false] rfl rfl (by kernel_rfl) (fun _ _ _ h => h) (Or.inl ⟨by rfl, ?_⟩) ?_ ?_
      rotate_left
      · intro w'
        go_simp
        with_reducible rfl
      rotate_left
      · simp only [Act.put, List.setIfInBounds_toArray, List.set_cons_zero, List.set_cons_succ, i64_w, i32_w]
        rfl
      refine pure_ (i := 6) (N := some 53) (v := ?_) (a' := ?_) #[true, true, true, true, false, true, true, false, false, false, false, false, false, false, false, false] rfl rfl (by kernel_rfl) (fun _ _ _ h => h) (Or.inl ⟨by rfl, ?_⟩) ?_ ?_
      rotate_left
      · intro w'
        go_simp
        with_reducible rfl
      rotate_left
      · simp only [Act.put, List.setIfInBounds_toArray, List.set_cons_zero, List.set_cons_succ, i64_w, i32_w]
        rfl
      refine pure_ (i := 7) (N := some 54) (v := ?_) (a' := ?_) #[true, true, true, true, false, true, true, true, false, false, false, false, false, false, false, false] rfl rfl (by kernel_rfl) (fun _ _ _ h => h) (Or.inl ⟨by rfl, ?_⟩) ?_ ?_
      rotate_left
      · intro w'
        go_simp
        with_reducible rfl
      rotate_left
      · simp only [Act.put, List.setIfInBounds_toArray, List.set_cons_zero, List.set_cons_succ, i64_w, i32_w]
        rfl
      refine pure_ (i := 8) (N := some 55) (v := ?_) (a' := ?_) #[true, true, true, true, false, true, true, true, true, false, false, false, false, false, false, false] rfl rfl (by kernel_rfl) (fun _ _ _ h => h) (Or.inl ⟨by rfl, ?_⟩) ?_ ?_
      rotate_left
      · intro w'
        go_simp
        with_reducible rfl
      rotate_left
      · simp only [Act.put, List.setIfInBounds_toArray, List.set_cons_zero, List.set_cons_succ, i64_w, i32_w]
        rfl
      refine pure_ (i := 10) (N := some 57) (v := ?_) (a' := ?_) #[true, true, true, true, false, true, true, true, true, false, true, false, false, false, false, false] rfl rfl (by kernel_rfl) (fun _ _ _ h => h) (Or.inl ⟨by rfl, ?_⟩) ?_ ?_
      rotate_left
      · intro w'
        go_simp
        with_reducible rfl
      rotate_left
      · simp only [Act.put, List.setIfInBounds_toArray, List.set_cons_zero, List.set_cons_succ, i64_w, i32_w]
        rfl
      refine pure_ (i := 11) (N := some 58) (v := ?_) (a' := ?_) #[true, true, true, true, false, true, true, true, true, false, true, true, false, false, false, false] rfl rfl (by kernel_rfl) (fun _ _ _ h => h) (Or.inl ⟨by rfl, ?_⟩) ?_ ?_
      rotate_left
      · intro w'
        go_simp
        with_reducible rfl
      rotate_left
      · simp only [Act.put, List.setIfInBounds_toArray, List.set_cons_zero, List.set_cons_succ, i64_w, i32_w]
        rfl
      refine pure_ (i := 12) (N := some 59) (v := ?_) (a' := ?_) #[true, true, true, true, false, true, true, true, true, false, true, true, true, false, false, false] rfl rfl (by kernel_rfl) (fun _ _ _ h => h) (Or.inl ⟨by rfl, ?_⟩) ?_ ?_
      rotate_left
      · intro w'
        go_simp
        with_reducible rfl
      rotate_left
      · simp only [Act.put, List.setIfInBounds_toArray, List.set_cons_zero, List.set_cons_succ, i64_w, i32_w]
        rfl
      refine pure_ (i := 13) (N := some 60) (v := ?_) (a' := ?_) #[true, true, true, true, false, true, true, true, true, false, true, true, true, true, false, false] rfl rfl (by kernel_rfl) (fun _ _ _ h => h) (Or.inl ⟨by rfl, ?_⟩) ?_ ?_
      rotate_left
      · intro w'
        go_simp
        with_reducible rfl
      rotate_left
      · simp only [Act.put, List.setIfInBounds_toArray, List.set_cons_zero, List.set_cons_succ, i64_w, i32_w]
        rfl
      refine take_ (i := 4) (N := some 51) (v := ?_) (a' := ?_) #[true, true, true, true, true, true, true, true, true, false, true, true, true, true, false, false] rfl rfl (by kernel_rfl) (fun _ _ _ h => h) (Or.inl ⟨by rfl, ?_⟩) hHeld ?_ ?_
      rotate_left
      · rintro w' ⟨s0, s1, s2⟩
        go_simp
        with_reducible rfl
      rotate_left
      · simp only [Act.put, List.setIfInBounds_toArray, List.set_cons_zero, List.set_cons_succ, i64_w, i32_w]
        rfl
      refine take_ (i := 9) (N := some 56) (v := ?_) (a' := ?_) #[true, true, true, true, true, true, true, true, true, true, true, true, true, true, false, false] rfl rfl (by kernel_rfl) (fun _ _ _ h => h) (Or.inl ⟨by rfl, ?_⟩) hHeld ?_ ?_
      rotate_left
      · rintro w' ⟨s0, s1, s2⟩
        go_simp
        with_reducible rfl
      rotate_left
      · simp only [Act.put, List.setIfInBounds_toArray, List.set_cons_zero, List.set_cons_succ, i64_w, i32_w]
        rfl
      refine take_ (i := 14) (N := some 61) (v := ?_) (a' := ?_) #[true, true, true, true, true, true, true, true, true, true, true, true, true, true, true, false] rfl rfl (by kernel_rfl) (fun _ _ _ h => h) (Or.inl ⟨by rfl, ?_⟩) hHeld ?_ ?_
      rotate_left
      · rintro w' ⟨s0, s1, s2⟩
        go_simp
        with_reducible rfl
      rotate_left
      · simp only [Act.put, List.setIfInBounds_toArray, List.set_cons_zero, List.set_cons_succ, i64_w, i32_w]
        rfl
      refine last_ (i := 15) (N := some 62) #[true, true, true, true, true, true, true, true, true, true, true, true, true, true, true, true] rfl rfl (by kernel_rfl) (by decide) (fun K hK => ?_)
      refine goes_ Try.func12 (by kernel_rfl) rfl #[.pointer (some ⟨gc, 0, none⟩), .int .u64 xo, .int .i64 xn, .int .u64 xv] (by rfl) rfl rfl (by simp only [List.map_toArray, List.map_cons, List.map_nil]; rfl) ?_
      with_reducible refine (mezzanineref04_Clint_Write.calls  gc sa ca na xo xn xv (cw sa ca na xo xn xv).1 (cw sa ca na xo xn xv).2.1 (cw sa ca na xo xn xv).2.2.1 (cw sa ca na xo xn xv).2.2.2 w _ hc.out hB31.out (FM.out.rwr sa ca na xo xn xv RG.out R0.out R1.out)).mono ?_
      rintro e35 w36 ⟨rfl, hi39, hB37, hK38⟩
      refine ⟨_, rfl, ?_⟩
      refine hK.out _ _ ?_
      clear hK K
      refine norm_ (a' := ?_) ?_ ?_
      rotate_left
      · show Act.put _ (some 62) _ = _
        simp only [Act.put, List.setIfInBounds_toArray, List.set_cons_zero, List.set_cons_succ, i64_w, i32_w]
        rfl
      refine done_ (by kernel_rfl) ?_
      replace ha := Lib.hid (⟨hK38.blk ha.out.1 nac.out (by simp), ha.out.2⟩ : IsS29 w w36 ga (cw sa ca na xo xn xv).2.1 (cw sa ca na xo xn xv).2.2.1 (cw sa ca na xo xn xv).2.2.2)
      replace hb := Lib.hid (⟨hK38.blk hb.out.1 nbc.out (by simp), hb.out.2⟩ : IsS29 w w36 gb 0 18446744073709551615 0)
      replace hd := Lib.hid (⟨hK38.blk hd.out.1 (Ne.symm ncd.out) (by simp), hd.out.2⟩ : IsS32 w w36 gd 0 18446744073709551615 0)
      clear c1 c2 c3 hHeld hK38 hB31
      replace hc := Lib.hid hi39; replace hB37 := Lib.hid hB37
      clear hi39
      obtain ⟨x_, e_, _, _, _, c3, _⟩ := HR.out.below hB37.out k hlt
      cases e_
      rw [HQ.out] at c3
      dsimp only at c3
      have ca_0 := cellS29_0 ha.out.1; have fa_0 := blk_frozen ha.out.1 0
      have ca_1 := cellS29_1 ha.out.1; have fa_1 := blk_frozen ha.out.1 1
      have ca_2 := cellS29_2 ha.out.1; have fa_2 := blk_frozen ha.out.1 2
      have cb_0 := cellS29_0 hb.out.1; have fb_0 := blk_frozen hb.out.1 0
      have cb_1 := cellS29_1 hb.out.1; have fb_1 := blk_frozen hb.out.1 1
      have cb_2 := cellS29_2 hb.out.1; have fb_2 := blk_frozen hb.out.1 2
      have cc_0 := cellS32_0 hc.out.1; have fc_0 := blk_frozen hc.out.1 0
      have cc_1 := cellS32_1 hc.out.1; have fc_1 := blk_frozen hc.out.1 1
      have cc_2 := cellS32_2 hc.out.1; have fc_2 := blk_frozen hc.out.1 2
      have cd_0 := cellS32_0 hd.out.1; have fd_0 := blk_frozen hd.out.1 0
      have cd_1 := cellS32_1 hd.out.1; have fd_1 := blk_frozen hd.out.1 1
      have cd_2 := cellS32_2 hd.out.1; have fd_2 := blk_frozen hd.out.1 2
      go_wp2_with fail
      refine (clint_Clint_Tick.calls  ga (cw sa ca na xo xn xv).2.1 (cw sa ca na xo xn xv).2.2.1 (cw sa ca na xo xn xv).2.2.2 (Int.tmod xv 3)  (cw sa ca na xo xn xv).2.1 (cw sa ca na xo xn xv).2.2.1 (IntKind.u64.wrap ((cw sa ca na xo xn xv).2.2.2 + (Int.tmod xv 3))) w _ ha.out hB37.out rfl).mono ?_
      rintro e41 w42 ⟨rfl, hi45, hB43, hK44⟩
      try clear ca_0 fa_0 ca_1 fa_1 ca_2 fa_2 cb_0 fb_0 cb_1 fb_1 cb_2 fb_2 cc_0 fc_0 cc_1 fc_1 cc_2 fc_2 cd_0 fd_0 cd_1 fd_1 cd_2 fd_2
      replace hb := Lib.hid (⟨hK44.blk hb.out.1 (Ne.symm nab.out) (by simp), hb.out.2⟩ : IsS29 w w42 gb 0 18446744073709551615 0)
      replace hc := Lib.hid (⟨hK44.blk hc.out.1 (Ne.symm nac.out) (by simp), hc.out.2⟩ : IsS32 w w42 gc (cw sa ca na xo xn xv).2.1 (cw sa ca na xo xn xv).2.2.1 (cw sa ca na xo xn xv).2.2.2)
      replace hd := Lib.hid (⟨hK44.blk hd.out.1 (Ne.symm nad.out) (by simp), hd.out.2⟩ : IsS32 w w42 gd 0 18446744073709551615 0)
      replace ha := Lib.hid hi45
      clear hi45 hK44
      clear hB37
      replace hB43 := Lib.hid hB43
      have ca_0 := cellS29_0 ha.out.1; have fa_0 := blk_frozen ha.out.1 0
      have ca_1 := cellS29_1 ha.out.1; have fa_1 := blk_frozen ha.out.1 1
      have ca_2 := cellS29_2 ha.out.1; have fa_2 := blk_frozen ha.out.1 2
      have cb_0 := cellS29_0 hb.out.1; have fb_0 := blk_frozen hb.out.1 0
      have cb_1 := cellS29_1 hb.out.1; have fb_1 := blk_frozen hb.out.1 1
      have cb_2 := cellS29_2 hb.out.1; have fb_2 := blk_frozen hb.out.1 2
      have cc_0 := cellS32_0 hc.out.1; have fc_0 := blk_frozen hc.out.1 0
      have cc_1 := cellS32_1 hc.out.1; have fc_1 := blk_frozen hc.out.1 1
      have cc_2 := cellS32_2 hc.out.1; have fc_2 := blk_frozen hc.out.1 2
      have cd_0 := cellS32_0 hd.out.1; have fd_0 := blk_frozen hd.out.1 0
      have cd_1 := cellS32_1 hd.out.1; have fd_1 := blk_frozen hd.out.1 1
      have cd_2 := cellS32_2 hd.out.1; have fd_2 := blk_frozen hd.out.1 2
      try clear c3
      obtain ⟨x_, e_, _, _, _, c3, _⟩ := HR.out.below hB43.out k hlt
      cases e_
      rw [HQ.out] at c3
      dsimp only at c3
      go_wp2_with fail
      refine (mezzanineref04_Clint_Tick.calls  gc (cw sa ca na xo xn xv).2.1 (cw sa ca na xo xn xv).2.2.1 (cw sa ca na xo xn xv).2.2.2 (Int.tmod xv 3)  (cw sa ca na xo xn xv).2.1 (cw sa ca na xo xn xv).2.2.1 (IntKind.u64.wrap ((cw sa ca na xo xn xv).2.2.2 + (Int.tmod xv 3))) w _ hc.out hB43.out rfl).mono ?_
      rintro e46 w47 ⟨rfl, hi50, hB48, hK49⟩
      try clear ca_0 fa_0 ca_1 fa_1 ca_2 fa_2 cb_0 fb_0 cb_1 fb_1 cb_2 fb_2 cc_0 fc_0 cc_1 fc_1 cc_2 fc_2 cd_0 fd_0 cd_1 fd_1 cd_2 fd_2
      replace ha := Lib.hid (⟨hK49.blk ha.out.1 nac.out (by simp), ha.out.2⟩ : IsS29 w w47 ga (cw sa ca na xo xn xv).2.1 (cw sa ca na xo xn xv).2.2.1 (IntKind.u64.wrap ((cw sa ca na xo xn xv).2.2.2 + (Int.tmod xv 3))))
      replace hb := Lib.hid (⟨hK49.blk hb.out.1 nbc.out (by simp), hb.out.2⟩ : IsS29 w w47 gb 0 18446744073709551615 0)
      replace hd := Lib.hid (⟨hK49.blk hd.out.1 (Ne.symm ncd.out) (by simp), hd.out.2⟩ : IsS32 w w47 gd 0 18446744073709551615 0)
      replace hc := Lib.hid hi50
      clear hi50 hK49
      clear hB43
      replace hB48 := Lib.hid hB48
      have ca_0 := cellS29_0 ha.out.1; have fa_0 := blk_frozen ha.out.1 0
      have ca_1 := cellS29_1 ha.out.1; have fa_1 := blk_frozen ha.out.1 1
      have ca_2 := cellS29_2 ha.out.1; have fa_2 := blk_frozen ha.out.1 2
      have cb_0 := cellS29_0 hb.out.1; have fb_0 := blk_frozen hb.out.1 0
      have cb_1 := cellS29_1 hb.out.1; have fb_1 := blk_frozen hb.out.1 1
      have cb_2 := cellS29_2 hb.out.1; have fb_2 := blk_frozen hb.out.1 2
      have cc_0 := cellS32_0 hc.out.1; have fc_0 := blk_frozen hc.out.1 0
      have cc_1 := cellS32_1 hc.out.1; have fc_1 := blk_frozen hc.out.1 1
      have cc_2 := cellS32_2 hc.out.1; have fc_2 := blk_frozen hc.out.1 2
      have cd_0 := cellS32_0 hd.out.1; have fd_0 := blk_frozen hd.out.1 0
      have cd_1 := cellS32_1 hd.out.1; have fd_1 := blk_frozen hd.out.1 1
      have cd_2 := cellS32_2 hd.out.1; have fd_2 := blk_frozen hd.out.1 2
      go_wp2
      go_roundw
      case rel => exact ⟨k + 1, _, _, _, by omega, by go_num, ha.out, hb.out, hc.out, hd.out, (FM.out.rng sa ca na xo xn xv RG.out R0.out R1.out).tick _, hB48.out⟩
      case measure => first | (simp [intOf]; done) | (simp [intOf]; omega)
    · obtain rfl : k = l.length := by omega
      have d0 : decide ((l.length : Int) < (l.length : Int)) = false := decide_eq_false (by omega)
      go_wp2_with fail
      clear d0
      go_loopw [10] (fun v10 wr => ∃ (k : Nat) (sb cb nb : Int), k ≤ m.length ∧ v10 = .int .i64 k ∧ IsS29 w wr ga sa ca na ∧ IsS29 w wr gb sb cb nb ∧ IsS32 w wr gc sa ca na ∧ IsS32 w wr gd sb cb nb ∧ Rng sb cb nb ∧ Below w.heap.size w wr) (fun v10 _ => m.length - (intOf v10).toNat)
      case atStart => exact ⟨0, 0, 18446744073709551615, 0, Nat.zero_le _, rfl, ha.out, hb.out, hc.out, hd.out, ⟨⟨by decide, by decide⟩, ⟨by decide, by decide⟩, by decide, by decide⟩, HB.out⟩
      case round =>
        clear ha hb hc hd HB
        obtain ⟨k, sb, cb, nb, hk, rfl, ia, ib, ic, id, hrr, hbw⟩ := hrel
        have RG2 := Lib.hid hrr; have HB := Lib.hid hbw; have ha := Lib.hid ia; have hb := Lib.hid ib; have hc := Lib.hid ic; have hd := Lib.hid id
        clear hrr hbw ia ib ic id
        by_cases hlt : k < m.length
        · have d0 : decide ((k : Int) < (m.length : Int)) = true := decide_eq_true (by omega)
          obtain ⟨x, rfl, c0, c1, c2, c3, r0, r1⟩ := HM.out.below HB.out k hlt
          have hq : ∃ q, m[k] = q := ⟨_, rfl⟩
          obtain ⟨⟨xd, xo, xn, xv⟩, hq⟩ := hq
          rw [hq] at c0 c1 c2 c3 r0 r1
          dsimp only at c0 c1 c2 c3 r0 r1
          have R0 := Lib.hid r0; have R1 := Lib.hid r1; have HQ := Lib.hid hq
          clear r0 r1 c0 hq
          have hia := acts_index x m.length capm k hlt
          go_wp2_with fail
          refine start_ (n := 16) (S := fun w' => w'.cell? ⟨(x.add (k * 4)).block, (x.add (k * 4)).off + 1, none⟩ = some (.int .u64 xo) ∧ w'.cell? ⟨(x.add (k * 4)).block, (x.add (k * 4)).off + 2, none⟩ = some (.int .i64 xn) ∧ w'.cell? ⟨(x.add (k * 4)).block, (x.add (k * 4)).off + 3, none⟩ = some (.int .u64 xv)) (ds := [15]) #[false, false, false, false, false, false, false, false, false, false, false, false, false, false, false, false] (by kernel_rfl) rfl rfl ⟨c1, c2, c3⟩ (fun hHeld => ?_)
          replace ha := Lib.hid (IsS29.drew ha.out); replace hb := Lib.hid (IsS29.drew hb.out); replace hc := Lib.hid (IsS32.drew hc.out); replace hd := Lib.hid (IsS32.drew hd.out); replace HB := Lib.hid (below_drew1 HB.out)
          generalize World.drew wr = wd56 at ha hb hc hd HB hHeld ⊢
          refine pure_ (i := 0) (N := some 83) (v := ?_) (a' := ?_) #[true, false, false, false, false, false, false, false, false, false, false, false, false, false, false, false] rfl rfl (by kernel_rfl) (fun _ _ _ h => h) (Or.inl ⟨by rfl, ?_⟩) ?_ ?_
          rotate_left
          · intro w'
            go_simp
            with_reducible rfl
          rotate_left
          · simp only [Act.put, List.setIfInBounds_toArray, List.set_cons_zero, List.set_cons_succ, i64_w, i32_w]
            rfl
          refine pure_ (i := 1) (N := some 84) (v := ?_) (a' := ?_) #[true, true, false, false, false, false, false, false, false, false, false, false, false, false, false, false] rfl rfl (by kernel_rfl) (fun _ _ _ h => h) (Or.inl ⟨by rfl, ?_⟩) ?_ ?_
          rotate_left
          · intro w'
            go_simp
            with_reducible rfl
          rotate_left
          · simp only [Act.put, List.setIfInBounds_toArray, List.set_cons_zero, List.set_cons_succ, i64_w, i32_w]
            rfl
          refine pure_ (i := 2) (N := some 85) (v := ?_) (a' := ?_) #[true, true, true, false, false, false, false, false, false, false, false, false, false, false, false, false] rfl rfl (by kernel_rfl) (fun _ _ _ h => h) (Or.inl ⟨by rfl, ?_⟩) ?_ ?_
          rotate_left
          · intro w'
            go_simp
            with_reducible rfl
          rotate_left
          · simp only [Act.put, List.setIfInBounds_toArray, List.set_cons_zero, List.set_cons_succ, i64_w, i32_w]
            rfl
          refine pure_ (i := 3) (N := some 86) (v := ?_) (a' := ?_) #[true, true, true, true, false, false, false, false, false, false, false, false, false, false, false, false] rfl rfl (by kernel_rfl) (fun _ _ _ h => h) (Or.inl ⟨by rfl, ?_⟩) ?_ ?_
          rotate_left
          · intro w'
            go_simp
            with_reducible rfl
          rotate_left
          · simp only [Act.put, List.setIfInBounds_toArray, List.set_cons_zero, List.set_cons_succ, i64_w, i32_w]
            rfl
          refine pure_ (i := 5) (N := some 88) (v := ?_) (a' := ?_) #[true, true, true, true, false, true, false, false, false, false, false, false, false, false, false, false] rfl rfl (by kernel_rfl) (fun _ _ _ h => h) (Or.inl ⟨by rfl, ?_⟩) ?_ ?_
          rotate_left
          · intro w'
            go_simp
            with_reducible rfl
          rotate_left
          · simp only [Act.put, List.setIfInBounds_toArray, List.set_cons_zero, List.set_cons_succ, i64_w, i32_w]
            rfl
          refine pure_ (i := 6) (N := some 89) (v := ?_) (a' := ?_) #[true, true, true, true, false, true, true, false, false, false, false, false, false, false, false, false] rfl rfl (by kernel_rfl) (fun _ _ _ h => h) (Or.inl ⟨by rfl, ?_⟩) ?_ ?_
          rotate_left
          · intro w'
            go_simp
            with_reducible rfl
          rotate_left
          · simp only [Act.put, List.setIfInBounds_toArray, List.set_cons_zero, List.set_cons_succ, i64_w, i32_w]
            rfl
          refine pure_ (i := 7) (N := some 90) (v := ?_) (a' := ?_) #[true, true, true, true, false, true, true, true, false, false, false, false, false, false, false, false] rfl rfl (by kernel_rfl) (fun _ _ _ h => h) (Or.inl ⟨by rfl, ?_⟩) ?_ ?_
          rotate_left
          · intro w'
            go_simp
            with_reducible rfl
          rotate_left
          · simp only [Act.put, List.setIfInBounds_toArray, List.set_cons_zero, List.set_cons_succ, i64_w, i32_w]
            rfl
          refine pure_ (i := 8) (N := some 91) (v := ?_) (a' := ?_) #[true, true, true, true, false, true, true, true, true, false, false, false, false, false, false, false] rfl rfl (by kernel_rfl) (fun _ _ _ h => h) (Or.inl ⟨by rfl, ?_⟩) ?_ ?_
          rotate_left
          · intro w'
            go_simp
            with_reducible rfl
          rotate_left
          · simp only [Act.put, List.setIfInBounds_toArray, List.set_cons_zero, List.set_cons_succ, i64_w, i32_w]
            rfl
          refine pure_ (i := 10) (N := some 93) (v := ?_) (a' := ?_) #[true, true, true, true, false, true, true, true, true, false, true, false, false, false, false, false] rfl rfl (by kernel_rfl) (fun _ _ _ h => h) (Or.inl ⟨by rfl, ?_⟩) ?_ ?_
          rotate_left
          · intro w'
            go_simp
            with_reducible rfl
          rotate_left
          · simp only [Act.put, List.setIfInBounds_toArray, List.set_cons_zero, List.set_cons_succ, i64_w, i32_w]
            rfl
          refine pure_ (i := 11) (N := some 94) (v := ?_) (a' := ?_) #[true, true, true, true, false, true, true, true, true, false, true, true, false, false, false, false] rfl rfl (by kernel_rfl) (fun _ _ _ h => h) (Or.inl ⟨by rfl, ?_⟩) ?_ ?_
          rotate_left
          · intro w'
            go_simp
            with_reducible rfl
          rotate_left
          · simp only [Act.put, List.setIfInBounds_toArray, List.set_cons_zero, List.set_cons_succ, i64_w, i32_w]
            rfl
          refine pure_ (i := 12) (N := some 95) (v := ?_) (a' := ?_) #[true, true, true, true, false, true, true, true, true, false, true, true, true, false, false, false] rfl rfl (by kernel_rfl) (fun _ _ _ h => h) (Or.inl ⟨by rfl, ?_⟩) ?_ ?_
          rotate_left
          · intro w'
            go_simp
            with_reducible rfl
          rotate_left
          · simp only [Act.put, List.setIfInBounds_toArray, List.set_cons_zero, List.set_cons_succ, i64_w, i32_w]
            rfl
          refine pure_ (i := 13) (N := some 96) (v := ?_) (a' := ?_) #[true, true, true, true, false, true, true, true, true, false, true, true, true, true, false, false] rfl rfl (by kernel_rfl) (fun _ _ _ h => h) (Or.inl ⟨by rfl, ?_⟩) ?_ ?_
          rotate_left
          · intro w'
            go_simp
            with_reducible rfl
          rotate_left
          · simp only [Act.put, List.setIfInBounds_toArray, List.set_cons_zero, List.set_cons_succ, i64_w, i32_w]
            rfl
          refine take_ (i := 4) (N := some 87) (v := ?_) (a' := ?_) #[true, true, true, true, true, true, true, true, true, false, true, true, true, true, false, false] rfl rfl (by kernel_rfl) (fun _ _ _ h => h) (Or.inl ⟨by rfl, ?_⟩) hHeld ?_ ?_
          rotate_left
          · rintro w' ⟨s0, s1, s2⟩
            go_simp
            with_reducible rfl
          rotate_left
          · simp only [Act.put, List.setIfInBounds_toArray, List.set_cons_zero, List.set_cons_succ, i64_w, i32_w]
            rfl
          refine take_ (i := 9) (N := some 92) (v := ?_) (a' := ?_) #[true, true, true, true, true, true, true, true, true, true, true, true, true, true, false, false] rfl rfl (by kernel_rfl) (fun _ _ _ h => h) (Or.inl ⟨by rfl, ?_⟩) hHeld ?_ ?_
          rotate_left
          · rintro w' ⟨s0, s1, s2⟩
            go_simp
            with_reducible rfl
          rotate_left
          · simp only [Act.put, List.setIfInBounds_toArray, List.set_cons_zero, List.set_cons_succ, i64_w, i32_w]
            rfl
          refine take_ (i := 14) (N := some 97) (v := ?_) (a' := ?_) #[true, true, true, true, true, true, true, true, true, true, true, true, true, true, true, false] rfl rfl (by kernel_rfl) (fun _ _ _ h => h) (Or.inl ⟨by rfl, ?_⟩) hHeld ?_ ?_
          rotate_left
          · rintro w' ⟨s0, s1, s2⟩
            go_simp
            with_reducible rfl
          rotate_left
          · simp only [Act.put, List.setIfInBounds_toArray, List.set_cons_zero, List.set_cons_succ, i64_w, i32_w]
            rfl
          refine last_ (i := 15) (N := some 98) #[true, true, true, true, true, true, true, true, true, true, true, true, true, true, true, true] rfl rfl (by kernel_rfl) (by decide) (fun K hK => ?_)
          refine goes_ Try.func11 (by kernel_rfl) rfl #[.pointer (some ⟨gb, 0, none⟩), .int .u64 xo, .int .i64 xn, .int .u64 xv] (by rfl) rfl rfl (by simp only [List.map_toArray, List.map_cons, List.map_nil]; rfl) ?_
          with_reducible refine (clint_Clint_Write.calls 2 gb sb cb nb xo xn xv (cw sb cb nb xo xn xv).1 (cw sb cb nb xo xn xv).2.1 (cw sb cb nb xo xn xv).2.2.1 (cw sb cb nb xo xn xv).2.2.2 w _ hb.out HB.out (FM.out.wr sb cb nb xo xn xv RG2.out R0.out R1.out)).mono ?_
          rintro e51 w52 ⟨rfl, hi55, hB53, hK54⟩
          refine ⟨_, rfl, ?_⟩
          refine hK.out _ _ ?_
          clear hK K
          refine norm_ (a' := ?_) ?_ ?_
          rotate_left
          · show Act.put _ (some 98) _ = _
            simp only [Act.put, List.setIfInBounds_toArray, List.set_cons_zero, List.set_cons_succ, i64_w, i32_w]
            rfl
          refine done_ (by kernel_rfl) ?_
          replace ha := Lib.hid (⟨hK54.blk ha.out.1 nab.out (by simp), ha.out.2⟩ : IsS29 w w52 ga sa ca na)
          replace hc := Lib.hid (⟨hK54.blk hc.out.1 (Ne.symm nbc.out) (by simp), hc.out.2⟩ : IsS32 w w52 gc sa ca na)
          replace hd := Lib.hid (⟨hK54.blk hd.out.1 (Ne.symm nbd.out) (by simp), hd.out.2⟩ : IsS32 w w52 gd sb cb nb)
          clear c1 c2 c3 hHeld hK54 HB
          replace hb := Lib.hid hi55; replace hB53 := Lib.hid hB53
          clear hi55
          obtain ⟨x_, e_, _, c1, c2, c3, _⟩ := HM.out.below hB53.out k hlt
          cases e_
          rw [HQ.out] at c1 c2 c3
          dsimp only at c1 c2 c3
          go_wp2_with fail
          refine start_ (n := 16) (S := fun w' => w'.cell? ⟨(x.add (k * 4)).block, (x.add (k * 4)).off + 1, none⟩ = some (.int .u64 xo) ∧ w'.cell? ⟨(x.add (k * 4)).block, (x.add (k * 4)).off + 2, none⟩ = some (.int .i64 xn) ∧ w'.cell? ⟨(x.add (k * 4)).block, (x.add (k * 4)).off + 3, none⟩ = some (.int .u64 xv)) (ds := [15]) #[false, false, false, false, false, false, false, false, false, false, false, false, false, false, false, false] (by kernel_rfl) rfl rfl ⟨c1, c2, c3⟩ (fun hHeld => ?_)
          replace ha := Lib.hid (IsS29.drew ha.out); replace hb := Lib.hid (IsS29.drew hb.out); replace hc := Lib.hid (IsS32.drew hc.out); replace hd := Lib.hid (IsS32.drew hd.out); replace hB53 := Lib.hid (below_drew1 hB53.out)
          generalize World.drew w52 = wd62 at ha hb hc hd hB53 hHeld ⊢
          refine pure_ (i := 0) (N := some 99) (v := ?_) (a' := ?_) #[true, false, false, false, false, false, false, false, false, false, false, false, false, false, false, false] rfl rfl (by kernel_rfl) (fun _ _ _ h => h) (Or.inl ⟨by rfl, ?_⟩) ?_ ?_
          rotate_left
          · intro w'
            go_simp
            with_reducible rfl
          rotate_left
          · simp only [Act.put, List.setIfInBounds_toArray, List.set_cons_zero, List.set_cons_succ, i64_w, i32_w]
            rfl
          refine pure_ (i := 1) (N := some 100) (v := ?_) (a' := ?_) #[true, true, false, false, false, false, false, false, false, false, false, false, false, false, false, false] rfl rfl (by kernel_rfl) (fun _ _ _ h => h) (Or.inl ⟨by rfl, ?_⟩) ?_ ?_
          rotate_left
          · intro w'
            go_simp
            with_reducible rfl
          rotate_left
          · simp only [Act.put, List.setIfInBounds_toArray, List.set_cons_zero, List.set_cons_succ, i64_w, i32_w]
            rfl
          refine pure_ (i := 2) (N := some 101) (v := ?_) (a' := ?_) #[true, true, true, false, false, false, false, false, false, false, false, false, false, false, false, false] rfl rfl (by kernel_rfl) (fun _ _ _ h => h) (Or.inl ⟨by rfl, ?_⟩) ?_ ?_
          rotate_left
          · intro w'
            go_simp
            with_reducible rfl
          rotate_left
          · simp only [Act.put, List.setIfInBounds_toArray, List.set_cons_zero, List.set_cons_succ, i64_w, i32_w]
            rfl
          refine pure_ (i := 3) (N := some 102) (v := ?_) (a' := ?_) #[true, true, true, true, false, false, false, false, false, false, false, false, false, false, false, false] rfl rfl (by kernel_rfl) (fun _ _ _ h => h) (Or.inl ⟨by rfl, ?_⟩) ?_ ?_
          rotate_left
          · intro w'
            go_simp
            with_reducible rfl
          rotate_left
          · simp only [Act.put, List.setIfInBounds_toArray, List.set_cons_zero, List.set_cons_succ, i64_w, i32_w]
            rfl
          refine pure_ (i := 5) (N := some 104) (v := ?_) (a' := ?_) #[true, true, true, true, false, true, false, false, false, false, false, false, false, false, false, false] rfl rfl (by kernel_rfl) (fun _ _ _ h => h) (Or.inl ⟨by rfl, ?_⟩) ?_ ?_
          rotate_left
          · intro w'
            go_simp
            with_reducible rfl
          rotate_left
          · simp only [Act.put, List.setIfInBounds_toArray, List.set_cons_zero, List.set_cons_succ, i64_w, i32_w]
            rfl
          refine pure_ (i := 6) (N := some 105) (v := ?_) (a' := ?_) #[true, true, true, true, false, true, true, false, false, false, false, false, false, false, false, false] rfl rfl (by kernel_rfl) (fun _ _ _ h => h) (Or.inl ⟨by rfl, ?_⟩) ?_ ?_
          rotate_left
          · intro w'
            go_simp
            with_reducible rfl
          rotate_left
          · simp only [Act.put, List.setIfInBounds_toArray, List.set_cons_zero, List.set_cons_succ, i64_w, i32_w]
            rfl
          refine pure_ (i := 7) (N := some 106) (v := ?_) (a' := ?_) #[true, true, true, true, false, true, true, true, false, false, false, false, false, false, false, false] rfl rfl (by kernel_rfl) (fun _ _ _ h => h) (Or.inl ⟨by rfl, ?_⟩) ?_ ?_
          rotate_left
          · intro w'
            go_simp
            with_reducible rfl
          rotate_left
          · simp only [Act.put, List.setIfInBounds_toArray, List.set_cons_zero, List.set_cons_succ, i64_w, i32_w]
            rfl
          refine pure_ (i := 8) (N := some 107) (v := ?_) (a' := ?_) #[true, true, true, true, false, true, true, true, true, false, false, false, false, false, false, false] rfl rfl (by kernel_rfl) (fun _ _ _ h => h) (Or.inl ⟨by rfl, ?_⟩) ?_ ?_
          rotate_left
          · intro w'
            go_simp
            with_reducible rfl
          rotate_left
          · simp only [Act.put, List.setIfInBounds_toArray, List.set_cons_zero, List.set_cons_succ, i64_w, i32_w]
            rfl
          refine pure_ (i := 10) (N := some 109) (v := ?_) (a' := ?_) #[true, true, true, true, false, true, true, true, true, false, true, false, false, false, false, false] rfl rfl (by kernel_rfl) (fun _ _ _ h => h) (Or.inl ⟨by rfl, ?_⟩) ?_ ?_
          rotate_left
          · intro w'
            go_simp
            with_reducible rfl
          rotate_left
          · simp only [Act.put, List.setIfInBounds_toArray, List.set_cons_zero, List.set_cons_succ, i64_w, i32_w]
            rfl
          refine pure_ (i := 11) (N := some 110) (v := ?_) (a' := ?_) #[true, true, true, true, false, true, true, true, true, false, true, true, false, false, false, false] rfl rfl (by kernel_rfl) (fun _ _ _ h => h) (Or.inl ⟨by rfl, ?_⟩) ?_ ?_
          rotate_left
          · intro w'
            go_simp
            with_reducible rfl
          rotate_left
          · simp only [Act.put, List.setIfInBounds_toArray, List.set_cons_zero, List.set_cons_succ, i64_w, i32_w]
            rfl
          refine pure_ (i := 12) (N := some 111) (v := ?_) (a' := ?_) #[true, true, true, true, false, true, true, true, true, false, true, true, true, false, false, false] rfl rfl (by kernel_rfl) (fun _ _ _ h => h) (Or.inl ⟨by rfl, ?_⟩) ?_ ?_
          rotate_left
          · intro w'
            go_simp
            with_reducible rfl
          rotate_left
          · simp only [Act.put, List.setIfInBounds_toArray, List.set_cons_zero, List.set_cons_succ, i64_w, i32_w]
            rfl
          refine pure_ (i := 13) (N := some 112) (v := ?_) (a' := ?_) #[true, true, true, true, false, true, true, true, true, false, true, true, true, true, false, false] rfl rfl (by kernel_rfl) (fun _ _ _ h => h) (Or.inl ⟨by rfl, ?_⟩) ?_ ?_
          rotate_left
          · intro w'
            go_simp
            with_reducible rfl
          rotate_left
          · simp only [Act.put, List.setIfInBounds_toArray, List.set_cons_zero, List.set_cons_succ, i64_w, i32_w]
            rfl
          refine take_ (i := 4) (N := some 103) (v := ?_) (a' := ?_) #[true, true, true, true, true, true, true, true, true, false, true, true, true, true, false, false] rfl rfl (by kernel_rfl) (fun _ _ _ h => h) (Or.inl ⟨by rfl, ?_⟩) hHeld ?_ ?_
          rotate_left
          · rintro w' ⟨s0, s1, s2⟩
            go_simp
            with_reducible rfl
          rotate_left
          · simp only [Act.put, List.setIfInBounds_toArray, List.set_cons_zero, List.set_cons_succ, i64_w, i32_w]
            rfl
          refine take_ (i := 9) (N := some 108) (v := ?_) (a' := ?_) #[true, true, true, true, true, true, true, true, true, true, true, true, true, true, false, false] rfl rfl (by kernel_rfl) (fun _ _ _ h => h) (Or.inl ⟨by rfl, ?_⟩) hHeld ?_ ?_
          rotate_left
          · rintro w' ⟨s0, s1, s2⟩
            go_simp
            with_reducible rfl
          rotate_left
          · simp only [Act.put, List.setIfInBounds_toArray, List.set_cons_zero, List.set_cons_succ, i64_w, i32_w]
            rfl
          refine take_ (i := 14) (N := some 113) (v := ?_) (a' := ?_) #[true, true, true, true, true, true, true, true, true, true, true, true, true, true, true, false] rfl rfl (by kernel_rfl) (fun _ _ _ h => h) (Or.inl ⟨by rfl, ?_⟩) hHeld ?_ ?_
          rotate_left
          · rintro w' ⟨s0, s1, s2⟩
            go_simp
            with_reducible rfl
          rotate_left
          · simp only [Act.put, List.setIfInBounds_toArray, List.set_cons_zero, List.set_cons_succ, i64_w, i32_w]
            rfl
          refine last_ (i := 15) (N := some 114) #[true, true, true, true, true, true, true, true, true, true, true, true, true, true, true, true] rfl rfl (by kernel_rfl) (by decide) (fun K hK => ?_)
          refine goes_ Try.func12 (by kernel_rfl) rfl #[.pointer (some ⟨gd, 0, none⟩), .int .u64 xo, .int .i64 xn, .int .u64 xv] (by rfl) rfl rfl (by simp only [List.map_toArray, List.map_cons, List.map_nil]; rfl) ?_
          with_reducible refine (mezzanineref04_Clint_Write.calls  gd sb cb nb xo xn xv (cw sb cb nb xo xn xv).1 (cw sb cb nb xo xn xv).2.1 (cw sb cb nb xo xn xv).2.2.1 (cw sb cb nb xo xn xv).2.2.2 w _ hd.out hB53.out (FM.out.rwr sb cb nb xo xn xv RG2.out R0.out R1.out)).mono ?_
          rintro e57 w58 ⟨rfl, hi61, hB59, hK60⟩
          refine ⟨_, rfl, ?_⟩
          refine hK.out _ _ ?_
          clear hK K
          refine norm_ (a' := ?_) ?_ ?_
          rotate_left
          · show Act.put _ (some 114) _ = _
            simp only [Act.put, List.setIfInBounds_toArray, List.set_cons_zero, List.set_cons_succ, i64_w, i32_w]
            rfl
          refine done_ (by kernel_rfl) ?_
          replace ha := Lib.hid (⟨hK60.blk ha.out.1 nad.out (by simp), ha.out.2⟩ : IsS29 w w58 ga sa ca na)
          replace hb := Lib.hid (⟨hK60.blk hb.out.1 nbd.out (by simp), hb.out.2⟩ : IsS29 w w58 gb (cw sb cb nb xo xn xv).2.1 (cw sb cb nb xo xn xv).2.2.1 (cw sb cb nb xo xn xv).2.2.2)
          replace hc := Lib.hid (⟨hK60.blk hc.out.1 ncd.out (by simp), hc.out.2⟩ : IsS32 w w58 gc sa ca na)
          clear c1 c2 c3 hHeld hK60 hB53
          replace hd := Lib.hid hi61; replace hB59 := Lib.hid hB59
          clear hi61
          obtain ⟨x_, e_, _, _, _, c3, _⟩ := HM.out.below hB59.out k hlt
          cases e_
          rw [HQ.out] at c3
          dsimp only at c3
          have ca_0 := cellS29_0 ha.out.1; have fa_0 := blk_frozen ha.out.1 0
          have ca_1 := cellS29_1 ha.out.1; have fa_1 := blk_frozen ha.out.1 1
          have ca_2 := cellS29_2 ha.out.1; have fa_2 := blk_frozen ha.out.1 2
          have cb_0 := cellS29_0 hb.out.1; have fb_0 := blk_frozen hb.out.1 0
          have cb_1 := cellS29_1 hb.out.1; have fb_1 := blk_frozen hb.out.1 1
          have cb_2 := cellS29_2 hb.out.1; have fb_2 := blk_frozen hb.out.1 2
          have cc_0 := cellS32_0 hc.out.1; have fc_0 := blk_frozen hc.out.1 0
          have cc_1 := cellS32_1 hc.out.1; have fc_1 := blk_frozen hc.out.1 1
          have cc_2 := cellS32_2 hc.out.1; have fc_2 := blk_frozen hc.out.1 2
          have cd_0 := cellS32_0 hd.out.1; have fd_0 := blk_frozen hd.out.1 0
          have cd_1 := cellS32_1 hd.out.1; have fd_1 := blk_frozen hd.out.1 1
          have cd_2 := cellS32_2 hd.out.1; have fd_2 := blk_frozen hd.out.1 2
          go_wp2_with fail
          refine (clint_Clint_Tick.calls  gb (cw sb cb nb xo xn xv).2.1 (cw sb cb nb xo xn xv).2.2.1 (cw sb cb nb xo xn xv).2.2.2 (Int.tmod xv 3)  (cw sb cb nb xo xn xv).2.1 (cw sb cb nb xo xn xv).2.2.1 (IntKind.u64.wrap ((cw sb cb nb xo xn xv).2.2.2 + (Int.tmod xv 3))) w _ hb.out hB59.out rfl).mono ?_
          rintro e63 w64 ⟨rfl, hi67, hB65, hK66⟩
          try clear ca_0 fa_0 ca_1 fa_1 ca_2 fa_2 cb_0 fb_0 cb_1 fb_1 cb_2 fb_2 cc_0 fc_0 cc_1 fc_1 cc_2 fc_2 cd_0 fd_0 cd_1 fd_1 cd_2 fd_2
          replace ha := Lib.hid (⟨hK66.blk ha.out.1 nab.out (by simp), ha.out.2⟩ : IsS29 w w64 ga sa ca na)
          replace hc := Lib.hid (⟨hK66.blk hc.out.1 (Ne.symm nbc.out) (by simp), hc.out.2⟩ : IsS32 w w64 gc sa ca na)
          replace hd := Lib.hid (⟨hK66.blk hd.out.1 (Ne.symm nbd.out) (by simp), hd.out.2⟩ : IsS32 w w64 gd (cw sb cb nb xo xn xv).2.1 (cw sb cb nb xo xn xv).2.2.1 (cw sb cb nb xo xn xv).2.2.2)
          replace hb := Lib.hid hi67
          clear hi67 hK66
          clear hB59
          replace hB65 := Lib.hid hB65
          have ca_0 := cellS29_0 ha.out.1; have fa_0 := blk_frozen ha.out.1 0
          have ca_1 := cellS29_1 ha.out.1; have fa_1 := blk_frozen ha.out.1 1
          have ca_2 := cellS29_2 ha.out.1; have fa_2 := blk_frozen ha.out.1 2
          have cb_0 := cellS29_0 hb.out.1; have fb_0 := blk_frozen hb.out.1 0
          have cb_1 := cellS29_1 hb.out.1; have fb_1 := blk_frozen hb.out.1 1
          have cb_2 := cellS29_2 hb.out.1; have fb_2 := blk_frozen hb.out.1 2
          have cc_0 := cellS32_0 hc.out.1; have fc_0 := blk_frozen hc.out.1 0
          have cc_1 := cellS32_1 hc.out.1; have fc_1 := blk_frozen hc.out.1 1
          have cc_2 := cellS32_2 hc.out.1; have fc_2 := blk_frozen hc.out.1 2
          have cd_0 := cellS32_0 hd.out.1; have fd_0 := blk_frozen hd.out.1 0
          have cd_1 := cellS32_1 hd.out.1; have fd_1 := blk_frozen hd.out.1 1
          have cd_2 := cellS32_2 hd.out.1; have fd_2 := blk_frozen hd.out.1 2
          try clear c3
          obtain ⟨x_, e_, _, _, _, c3, _⟩ := HM.out.below hB65.out k hlt
          cases e_
          rw [HQ.out] at c3
          dsimp only at c3
          go_wp2_with fail
          refine (mezzanineref04_Clint_Tick.calls  gd (cw sb cb nb xo xn xv).2.1 (cw sb cb nb xo xn xv).2.2.1 (cw sb cb nb xo xn xv).2.2.2 (Int.tmod xv 3)  (cw sb cb nb xo xn xv).2.1 (cw sb cb nb xo xn xv).2.2.1 (IntKind.u64.wrap ((cw sb cb nb xo xn xv).2.2.2 + (Int.tmod xv 3))) w _ hd.out hB65.out rfl).mono ?_
          rintro e68 w69 ⟨rfl, hi72, hB70, hK71⟩
          try clear ca_0 fa_0 ca_1 fa_1 ca_2 fa_2 cb_0 fb_0 cb_1 fb_1 cb_2 fb_2 cc_0 fc_0 cc_1 fc_1 cc_2 fc_2 cd_0 fd_0 cd_1 fd_1 cd_2 fd_2
          replace ha := Lib.hid (⟨hK71.blk ha.out.1 nad.out (by simp), ha.out.2⟩ : IsS29 w w69 ga sa ca na)
          replace hb := Lib.hid (⟨hK71.blk hb.out.1 nbd.out (by simp), hb.out.2⟩ : IsS29 w w69 gb (cw sb cb nb xo xn xv).2.1 (cw sb cb nb xo xn xv).2.2.1 (IntKind.u64.wrap ((cw sb cb nb xo xn xv).2.2.2 + (Int.tmod xv 3))))
          replace hc := Lib.hid (⟨hK71.blk hc.out.1 ncd.out (by simp), hc.out.2⟩ : IsS32 w w69 gc sa ca na)
          replace hd := Lib.hid hi72
          clear hi72 hK71
          clear hB65
          replace hB70 := Lib.hid hB70
          have ca_0 := cellS29_0 ha.out.1; have fa_0 := blk_frozen ha.out.1 0
          have ca_1 := cellS29_1 ha.out.1; have fa_1 := blk_frozen ha.out.1 1
          have ca_2 := cellS29_2 ha.out.1; have fa_2 := blk_frozen ha.out.1 2
          have cb_0 := cellS29_0 hb.out.1; have fb_0 := blk_frozen hb.out.1 0
          have cb_1 := cellS29_1 hb.out.1; have fb_1 := blk_frozen hb.out.1 1
          have cb_2 := cellS29_2 hb.out.1; have fb_2 := blk_frozen hb.out.1 2
          have cc_0 := cellS32_0 hc.out.1; have fc_0 := blk_frozen hc.out.1 0
          have cc_1 := cellS32_1 hc.out.1; have fc_1 := blk_frozen hc.out.1 1
          have cc_2 := cellS32_2 hc.out.1; have fc_2 := blk_frozen hc.out.1 2
          have cd_0 := cellS32_0 hd.out.1; have fd_0 := blk_frozen hd.out.1 0
          have cd_1 := cellS32_1 hd.out.1; have fd_1 := blk_frozen hd.out.1 1
          have cd_2 := cellS32_2 hd.out.1; have fd_2 := blk_frozen hd.out.1 2
          go_wp2
          go_roundw
          case rel => exact ⟨k + 1, _, _, _, by omega, by go_num, ha.out, hb.out, hc.out, hd.out, (FM.out.rng sb cb nb xo xn xv RG2.out R0.out R1.out).tick _, hB70.out⟩
          case measure => first | (simp [intOf]; done) | (simp [intOf]; omega)
        · obtain rfl : k = m.length := by omega
          have d0 : decide ((m.length : Int) < (m.length : Int)) = false := decide_eq_false (by omega)
          go_wp2_with fail
          by_cases q0 : sa = sb
          · subst q0
            by_cases q1 : ca = cb
            · subst q1
              by_cases q2 : na = nb
              · subst q2
                refine start_ (n := 8) (S := fun w' => w'.cell? ⟨ga, 0, none⟩ = some (.int .u32 sa) ∧ w'.cell? ⟨ga, 1, none⟩ = some (.int .u64 ca) ∧ w'.cell? ⟨ga, 2, none⟩ = some (.int .u64 na) ∧ w'.cell? ⟨gb, 0, none⟩ = some (.int .u32 sa) ∧ w'.cell? ⟨gb, 1, none⟩ = some (.int .u64 ca) ∧ w'.cell? ⟨gb, 2, none⟩ = some (.int .u64 na) ∧ w'.cell? ⟨gc, 0, none⟩ = some (.int .u64 sa) ∧ w'.cell? ⟨gc, 1, none⟩ = some (.int .u64 ca) ∧ w'.cell? ⟨gc, 2, none⟩ = some (.int .u64 na) ∧ w'.cell? ⟨gd, 0, none⟩ = some (.int .u64 sa) ∧ w'.cell? ⟨gd, 1, none⟩ = some (.int .u64 ca) ∧ w'.cell? ⟨gd, 2, none⟩ = some (.int .u64 na)) (ds := []) #[false, false, false, false, false, false, false, false] (by kernel_rfl) rfl rfl ⟨cellS29_0 ha.out.1, cellS29_1 ha.out.1, cellS29_2 ha.out.1, cellS29_0 hb.out.1, cellS29_1 hb.out.1, cellS29_2 hb.out.1, cellS32_0 hc.out.1, cellS32_1 hc.out.1, cellS32_2 hc.out.1, cellS32_0 hd.out.1, cellS32_1 hd.out.1, cellS32_2 hd.out.1⟩ (fun hHeld => ?_)
                replace ha := Lib.hid (IsS29.drew ha.out); replace hb := Lib.hid (IsS29.drew hb.out); replace hc := Lib.hid (IsS32.drew hc.out); replace hd := Lib.hid (IsS32.drew hd.out); replace HB := Lib.hid (below_drew1 HB.out)
                generalize World.drew wr = wd73 at ha hb hc hd HB hHeld ⊢
                refine take_ (i := 0) (N := some 129) (v := ?_) (a' := ?_) #[true, false, false, false, false, false, false, false] rfl rfl (by kernel_rfl) (fun _ _ _ h => h) (Or.inl ⟨by rfl, ?_⟩) hHeld ?_ ?_
                rotate_left
                · rintro w' ⟨s0, s1, s2, s3, s4, s5, s6, s7, s8, s9, s10, s11⟩
                  go_simp
                  with_reducible rfl
                rotate_left
                · simp only [Act.put, List.setIfInBounds_toArray, List.set_cons_zero, List.set_cons_succ, i64_w, i32_w]
                  rfl
                refine take_ (i := 1) (N := some 130) (v := ?_) (a' := ?_) #[true, true, false, false, false, false, false, false] rfl rfl (by kernel_rfl) (fun _ _ _ h => h) (Or.inl ⟨by rfl, ?_⟩) hHeld ?_ ?_
                rotate_left
                · rintro w' ⟨s0, s1, s2, s3, s4, s5, s6, s7, s8, s9, s10, s11⟩
                  go_simp
                  with_reducible rfl
                rotate_left
                · simp only [Act.put, List.setIfInBounds_toArray, List.set_cons_zero, List.set_cons_succ, i64_w, i32_w]
                  rfl
                refine pure_ (i := 2) (N := some 131) (v := ?_) (a' := ?_) #[true, true, true, false, false, false, false, false] rfl rfl (by kernel_rfl) (fun _ _ _ h => h) (Or.inl ⟨by rfl, ?_⟩) ?_ ?_
                rotate_left
                · intro w'
                  go_simp
                  with_reducible rfl
                rotate_left
                · simp only [Act.put, List.setIfInBounds_toArray, List.set_cons_zero, List.set_cons_succ, i64_w, i32_w]
                  rfl
                refine take_ (i := 3) (N := some 132) (v := ?_) (a' := ?_) #[true, true, true, true, false, false, false, false] rfl rfl (by kernel_rfl) (fun _ _ _ h => h) (Or.inl ⟨by rfl, ?_⟩) hHeld ?_ ?_
                rotate_left
                · rintro w' ⟨s0, s1, s2, s3, s4, s5, s6, s7, s8, s9, s10, s11⟩
                  go_simp
                  with_reducible rfl
                rotate_left
                · simp only [Act.put, List.setIfInBounds_toArray, List.set_cons_zero, List.set_cons_succ, i64_w, i32_w]
                  rfl
                refine take_ (i := 4) (N := some 133) (v := ?_) (a' := ?_) #[true, true, true, true, true, false, false, false] rfl rfl (by kernel_rfl) (fun _ _ _ h => h) (Or.inl ⟨by rfl, ?_⟩) hHeld ?_ ?_
                rotate_left
                · rintro w' ⟨s0, s1, s2, s3, s4, s5, s6, s7, s8, s9, s10, s11⟩
                  go_simp
                  with_reducible rfl
                rotate_left
                · simp only [Act.put, List.setIfInBounds_toArray, List.set_cons_zero, List.set_cons_succ, i64_w, i32_w]
                  rfl
                refine pure_ (i := 5) (N := some 134) (v := ?_) (a' := ?_) #[true, true, true, true, true, true, false, false] rfl rfl (by kernel_rfl) (fun _ _ _ h => h) (Or.inl ⟨by rfl, ?_⟩) ?_ ?_
                rotate_left
                · intro w'
                  go_simp
                  with_reducible rfl
                rotate_left
                · simp only [Act.put, List.setIfInBounds_toArray, List.set_cons_zero, List.set_cons_succ, i64_w, i32_w]
                  rfl
                refine pure_ (i := 6) (N := some 135) (v := ?_) (a' := ?_) #[true, true, true, true, true, true, true, false] rfl rfl (by kernel_rfl) (fun _ _ _ h => h) (Or.inl ⟨by rfl, ?_⟩) ?_ ?_
                rotate_left
                · intro w'
                  go_simp
                  with_reducible rfl
                rotate_left
                · simp only [Act.put, List.setIfInBounds_toArray, List.set_cons_zero, List.set_cons_succ, i64_w, i32_w]
                  rfl
                refine pure_ (i := 7) (N := some 4) (v := ?_) (a' := ?_) #[true, true, true, true, true, true, true, true] rfl rfl (by kernel_rfl) (fun _ _ _ h => h) (Or.inl ⟨by rfl, ?_⟩) ?_ ?_
                rotate_left
                · intro w'
                  go_simp
                  with_reducible rfl
                rotate_left
                · simp only [Act.put, List.setIfInBounds_toArray, List.set_cons_zero, List.set_cons_succ, i64_w, i32_w]
                  rfl
                refine done_ (by kernel_rfl) ?_
                go_wp2
                go_ret
                exact ⟨by first | rfl | (simp; done), HB.out⟩
              · skip
                refine start_ (n := 8) (S := fun w' => w'.cell? ⟨ga, 0, none⟩ = some (.int .u32 sa) ∧ w'.cell? ⟨ga, 1, none⟩ = some (.int .u64 ca) ∧ w'.cell? ⟨ga, 2, none⟩ = some (.int .u64 na) ∧ w'.cell? ⟨gb, 0, none⟩ = some (.int .u32 sa) ∧ w'.cell? ⟨gb, 1, none⟩ = some (.int .u64 ca) ∧ w'.cell? ⟨gb, 2, none⟩ = some (.int .u64 nb) ∧ w'.cell? ⟨gc, 0, none⟩ = some (.int .u64 sa) ∧ w'.cell? ⟨gc, 1, none⟩ = some (.int .u64 ca) ∧ w'.cell? ⟨gc, 2, none⟩ = some (.int .u64 na) ∧ w'.cell? ⟨gd, 0, none⟩ = some (.int .u64 sa) ∧ w'.cell? ⟨gd, 1, none⟩ = some (.int .u64 ca) ∧ w'.cell? ⟨gd, 2, none⟩ = some (.int .u64 nb)) (ds := []) #[false, false, false, false, false, false, false, false] (by kernel_rfl) rfl rfl ⟨cellS29_0 ha.out.1, cellS29_1 ha.out.1, cellS29_2 ha.out.1, cellS29_0 hb.out.1, cellS29_1 hb.out.1, cellS29_2 hb.out.1, cellS32_0 hc.out.1, cellS32_1 hc.out.1, cellS32_2 hc.out.1, cellS32_0 hd.out.1, cellS32_1 hd.out.1, cellS32_2 hd.out.1⟩ (fun hHeld => ?_)
                replace ha := Lib.hid (IsS29.drew ha.out); replace hb := Lib.hid (IsS29.drew hb.out); replace hc := Lib.hid (IsS32.drew hc.out); replace hd := Lib.hid (IsS32.drew hd.out); replace HB := Lib.hid (below_drew1 HB.out)
                generalize World.drew wr = wd74 at ha hb hc hd HB hHeld ⊢
                refine take_ (i := 0) (N := some 129) (v := ?_) (a' := ?_) #[true, false, false, false, false, false, false, false] rfl rfl (by kernel_rfl) (fun _ _ _ h => h) (Or.inl ⟨by rfl, ?_⟩) hHeld ?_ ?_
                rotate_left
                · rintro w' ⟨s0, s1, s2, s3, s4, s5, s6, s7, s8, s9, s10, s11⟩
                  go_simp
                  with_reducible rfl
                rotate_left
                · simp only [Act.put, List.setIfInBounds_toArray, List.set_cons_zero, List.set_cons_succ, i64_w, i32_w]
                  rfl
                refine take_ (i := 1) (N := some 130) (v := ?_) (a' := ?_) #[true, true, false, false, false, false, false, false] rfl rfl (by kernel_rfl) (fun _ _ _ h => h) (Or.inl ⟨by rfl, ?_⟩) hHeld ?_ ?_
                rotate_left
                · rintro w' ⟨s0, s1, s2, s3, s4, s5, s6, s7, s8, s9, s10, s11⟩
                  go_simp
                  with_reducible rfl
                rotate_left
                · simp only [Act.put, List.setIfInBounds_toArray, List.set_cons_zero, List.set_cons_succ, i64_w, i32_w]
                  rfl
                refine pure_ (i := 2) (N := some 131) (v := ?_) (a' := ?_) #[true, true, true, false, false, false, false, false] rfl rfl (by kernel_rfl) (fun _ _ _ h => h) (Or.inl ⟨by rfl, ?_⟩) ?_ ?_
                rotate_left
                · intro w'
                  go_simp
                  with_reducible rfl
                rotate_left
                · simp only [Act.put, List.setIfInBounds_toArray, List.set_cons_zero, List.set_cons_succ, i64_w, i32_w]
                  rfl
                refine take_ (i := 3) (N := some 132) (v := ?_) (a' := ?_) #[true, true, true, true, false, false, false, false] rfl rfl (by kernel_rfl) (fun _ _ _ h => h) (Or.inl ⟨by rfl, ?_⟩) hHeld ?_ ?_
                rotate_left
                · rintro w' ⟨s0, s1, s2, s3, s4, s5, s6, s7, s8, s9, s10, s11⟩
                  go_simp
                  with_reducible rfl
                rotate_left
                · simp only [Act.put, List.setIfInBounds_toArray, List.set_cons_zero, List.set_cons_succ, i64_w, i32_w]
                  rfl
                refine take_ (i := 4) (N := some 133) (v := ?_) (a' := ?_) #[true, true, true, true, true, false, false, false] rfl rfl (by kernel_rfl) (fun _ _ _ h => h) (Or.inl ⟨by rfl, ?_⟩) hHeld ?_ ?_
                rotate_left
                · rintro w' ⟨s0, s1, s2, s3, s4, s5, s6, s7, s8, s9, s10, s11⟩
                  go_simp
                  with_reducible rfl
                rotate_left
                · simp only [Act.put, List.setIfInBounds_toArray, List.set_cons_zero, List.set_cons_succ, i64_w, i32_w]
                  rfl
                refine pure_ (i := 5) (N := some 134) (v := ?_) (a' := ?_) #[true, true, true, true, true, true, false, false] rfl rfl (by kernel_rfl) (fun _ _ _ h => h) (Or.inl ⟨by rfl, ?_⟩) ?_ ?_
                rotate_left
                · intro w'
                  go_simp
                  with_reducible rfl
                rotate_left
                · simp only [Act.put, List.setIfInBounds_toArray, List.set_cons_zero, List.set_cons_succ, i64_w, i32_w]
                  rfl
                refine pure_ (i := 6) (N := some 135) (v := ?_) (a' := ?_) #[true, true, true, true, true, true, true, false] rfl rfl (by kernel_rfl) (fun _ _ _ h => h) (Or.inl ⟨by rfl, ?_⟩) ?_ ?_
                rotate_left
                · intro w'
                  go_simp
                  with_reducible rfl
                rotate_left
                · simp only [Act.put, List.setIfInBounds_toArray, List.set_cons_zero, List.set_cons_succ, i64_w, i32_w]
                  rfl
                refine pure_ (i := 7) (N := some 4) (v := ?_) (a' := ?_) #[true, true, true, true, true, true, true, true] rfl rfl (by kernel_rfl) (fun _ _ _ h => h) (Or.inl ⟨by rfl, ?_⟩) ?_ ?_
                rotate_left
                · intro w'
                  go_simp
                  with_reducible rfl
                rotate_left
                · simp only [Act.put, List.setIfInBounds_toArray, List.set_cons_zero, List.set_cons_succ, i64_w, i32_w]
                  rfl
                refine done_ (by kernel_rfl) ?_
                go_wp2
                go_ret
                exact ⟨by first | rfl | (simp; done), HB.out⟩
            · skip
              refine start_ (n := 8) (S := fun w' => w'.cell? ⟨ga, 0, none⟩ = some (.int .u32 sa) ∧ w'.cell? ⟨ga, 1, none⟩ = some (.int .u64 ca) ∧ w'.cell? ⟨ga, 2, none⟩ = some (.int .u64 na) ∧ w'.cell? ⟨gb, 0, none⟩ = some (.int .u32 sa) ∧ w'.cell? ⟨gb, 1, none⟩ = some (.int .u64 cb) ∧ w'.cell? ⟨gb, 2, none⟩ = some (.int .u64 nb) ∧ w'.cell? ⟨gc, 0, none⟩ = some (.int .u64 sa) ∧ w'.cell? ⟨gc, 1, none⟩ = some (.int .u64 ca) ∧ w'.cell? ⟨gc, 2, none⟩ = some (.int .u64 na) ∧ w'.cell? ⟨gd, 0, none⟩ = some (.int .u64 sa) ∧ w'.cell? ⟨gd, 1, none⟩ = some (.int .u64 cb) ∧ w'.cell? ⟨gd, 2, none⟩ = some (.int .u64 nb)) (ds := []) #[false, false, false, false, false, false, false, false] (by kernel_rfl) rfl rfl ⟨cellS29_0 ha.out.1, cellS29_1 ha.out.1, cellS29_2 ha.out.1, cellS29_0 hb.out.1, cellS29_1 hb.out.1, cellS29_2 hb.out.1, cellS32_0 hc.out.1, cellS32_1 hc.out.1, cellS32_2 hc.out.1, cellS32_0 hd.out.1, cellS32_1 hd.out.1, cellS32_2 hd.out.1⟩ (fun hHeld => ?_)
              replace ha := Lib.hid (IsS29.drew ha.out); replace hb := Lib.hid (IsS29.drew hb.out); replace hc := Lib.hid (IsS32.drew hc.out); replace hd := Lib.hid (IsS32.drew hd.out); replace HB := Lib.hid (below_drew1 HB.out)
              generalize World.drew wr = wd75 at ha hb hc hd HB hHeld ⊢
              refine take_ (i := 0) (N := some 129) (v := ?_) (a' := ?_) #[true, false, false, false, false, false, false, false] rfl rfl (by kernel_rfl) (fun _ _ _ h => h) (Or.inl ⟨by rfl, ?_⟩) hHeld ?_ ?_
              rotate_left
              · rintro w' ⟨s0, s1, s2, s3, s4, s5, s6, s7, s8, s9, s10, s11⟩
                go_simp
                with_reducible rfl
              rotate_left
              · simp only [Act.put, List.setIfInBounds_toArray, List.set_cons_zero, List.set_cons_succ, i64_w, i32_w]
                rfl
              refine take_ (i := 1) (N := some 130) (v := ?_) (a' := ?_) #[true, true, false, false, false, false, false, false] rfl rfl (by kernel_rfl) (fun _ _ _ h => h) (Or.inl ⟨by rfl, ?_⟩) hHeld ?_ ?_
              rotate_left
              · rintro w' ⟨s0, s1, s2, s3, s4, s5, s6, s7, s8, s9, s10, s11⟩
                go_simp
                with_reducible rfl
              rotate_left
              · simp only [Act.put, List.setIfInBounds_toArray, List.set_cons_zero, List.set_cons_succ, i64_w, i32_w]
                rfl
              refine pure_ (i := 2) (N := some 131) (v := ?_) (a' := ?_) #[true, true, true, false, false, false, false, false] rfl rfl (by kernel_rfl) (fun _ _ _ h => h) (Or.inl ⟨by rfl, ?_⟩) ?_ ?_
              rotate_left
              · intro w'
                go_simp
                with_reducible rfl
              rotate_left
              · simp only [Act.put, List.setIfInBounds_toArray, List.set_cons_zero, List.set_cons_succ, i64_w, i32_w]
                rfl
              refine take_ (i := 3) (N := some 132) (v := ?_) (a' := ?_) #[true, true, true, true, false, false, false, false] rfl rfl (by kernel_rfl) (fun _ _ _ h => h) (Or.inl ⟨by rfl, ?_⟩) hHeld ?_ ?_
              rotate_left
              · rintro w' ⟨s0, s1, s2, s3, s4, s5, s6, s7, s8, s9, s10, s11⟩
                go_simp
                with_reducible rfl
              rotate_left
              · simp only [Act.put, List.setIfInBounds_toArray, List.set_cons_zero, List.set_cons_succ, i64_w, i32_w]
                rfl
              refine take_ (i := 4) (N := some 133) (v := ?_) (a' := ?_) #[true, true, true, true, true, false, false, false] rfl rfl (by kernel_rfl) (fun _ _ _ h => h) (Or.inl ⟨by rfl, ?_⟩) hHeld ?_ ?_
              rotate_left
              · rintro w' ⟨s0, s1, s2, s3, s4, s5, s6, s7, s8, s9, s10, s11⟩
                go_simp
                with_reducible rfl
              rotate_left
              · simp only [Act.put, List.setIfInBounds_toArray, List.set_cons_zero, List.set_cons_succ, i64_w, i32_w]
                rfl
              refine pure_ (i := 5) (N := some 134) (v := ?_) (a' := ?_) #[true, true, true, true, true, true, false, false] rfl rfl (by kernel_rfl) (fun _ _ _ h => h) (Or.inl ⟨by rfl, ?_⟩) ?_ ?_
              rotate_left
              · intro w'
                go_simp
                with_reducible rfl
              rotate_left
              · simp only [Act.put, List.setIfInBounds_toArray, List.set_cons_zero, List.set_cons_succ, i64_w, i32_w]
                rfl
              refine pure_ (i := 6) (N := some 135) (v := ?_) (a' := ?_) #[true, true, true, true, true, true, true, false] rfl rfl (by kernel_rfl) (fun _ _ _ h => h) (Or.inl ⟨by rfl, ?_⟩) ?_ ?_
              rotate_left
              · intro w'
                go_simp
                with_reducible rfl
              rotate_left
              · simp only [Act.put, List.setIfInBounds_toArray, List.set_cons_zero, List.set_cons_succ, i64_w, i32_w]
                rfl
              refine pure_ (i := 7) (N := some 4) (v := ?_) (a' := ?_) #[true, true, true, true, true, true, true, true] rfl rfl (by kernel_rfl) (fun _ _ _ h => h) (Or.inl ⟨by rfl, ?_⟩) ?_ ?_
              rotate_left
              · intro w'
                go_simp
                with_reducible rfl
              rotate_left
              · simp only [Act.put, List.setIfInBounds_toArray, List.set_cons_zero, List.set_cons_succ, i64_w, i32_w]
                rfl
              refine done_ (by kernel_rfl) ?_
              go_wp2
              go_ret
              exact ⟨by first | rfl | (simp; done), HB.out⟩
          · skip
            refine start_ (n := 8) (S := fun w' => w'.cell? ⟨ga, 0, none⟩ = some (.int .u32 sa) ∧ w'.cell? ⟨ga, 1, none⟩ = some (.int .u64 ca) ∧ w'.cell? ⟨ga, 2, none⟩ = some (.int .u64 na) ∧ w'.cell? ⟨gb, 0, none⟩ = some (.int .u32 sb) ∧ w'.cell? ⟨gb, 1, none⟩ = some (.int .u64 cb) ∧ w'.cell? ⟨gb, 2, none⟩ = some (.int .u64 nb) ∧ w'.cell? ⟨gc, 0, none⟩ = some (.int .u64 sa) ∧ w'.cell? ⟨gc, 1, none⟩ = some (.int .u64 ca) ∧ w'.cell? ⟨gc, 2, none⟩ = some (.int .u64 na) ∧ w'.cell? ⟨gd, 0, none⟩ = some (.int .u64 sb) ∧ w'.cell? ⟨gd, 1, none⟩ = some (.int .u64 cb) ∧ w'.cell? ⟨gd, 2, none⟩ = some (.int .u64 nb)) (ds := []) #[false, false, false, false, false, false, false, false] (by kernel_rfl) rfl rfl ⟨cellS29_0 ha.out.1, cellS29_1 ha.out.1, cellS29_2 ha.out.1, cellS29_0 hb.out.1, cellS29_1 hb.out.1, cellS29_2 hb.out.1, cellS32_0 hc.out.1, cellS32_1 hc.out.1, cellS32_2 hc.out.1, cellS32_0 hd.out.1, cellS32_1 hd.out.1, cellS32_2 hd.out.1⟩ (fun hHeld => ?_)
            replace ha := Lib.hid (IsS29.drew ha.out); replace hb := Lib.hid (IsS29.drew hb.out); replace hc := Lib.hid (IsS32.drew hc.out); replace hd := Lib.hid (IsS32.drew hd.out); replace HB := Lib.hid (below_drew1 HB.out)
            generalize World.drew wr = wd76 at ha hb hc hd HB hHeld ⊢
            refine take_ (i := 0) (N := some 129) (v := ?_) (a' := ?_) #[true, false, false, false, false, false, false, false] rfl rfl (by kernel_rfl) (fun _ _ _ h => h) (Or.inl ⟨by rfl, ?_⟩) hHeld ?_ ?_
            rotate_left
            · rintro w' ⟨s0, s1, s2, s3, s4, s5, s6, s7, s8, s9, s10, s11⟩
              go_simp
              with_reducible rfl
            rotate_left
            · simp only [Act.put, List.setIfInBounds_toArray, List.set_cons_zero, List.set_cons_succ, i64_w, i32_w]
              rfl
            refine take_ (i := 1) (N := some 130) (v := ?_) (a' := ?_) #[true, true, false, false, false, false, false, false] rfl rfl (by kernel_rfl) (fun _ _ _ h => h) (Or.inl ⟨by rfl, ?_⟩) hHeld ?_ ?_
            rotate_left
            · rintro w' ⟨s0, s1, s2, s3, s4, s5, s6, s7, s8, s9, s10, s11⟩
              go_simp
              with_reducible rfl
            rotate_left
            · simp only [Act.put, List.setIfInBounds_toArray, List.set_cons_zero, List.set_cons_succ, i64_w, i32_w]
              rfl
            refine pure_ (i := 2) (N := some 131) (v := ?_) (a' := ?_) #[true, true, true, false, false, false, false, false] rfl rfl (by kernel_rfl) (fun _ _ _ h => h) (Or.inl ⟨by rfl, ?_⟩) ?_ ?_
            rotate_left
            · intro w'
              go_simp
              with_reducible rfl
            rotate_left
            · simp only [Act.put, List.setIfInBounds_toArray, List.set_cons_zero, List.set_cons_succ, i64_w, i32_w]
              rfl
            refine take_ (i := 3) (N := some 132) (v := ?_) (a' := ?_) #[true, true, true, true, false, false, false, false] rfl rfl (by kernel_rfl) (fun _ _ _ h => h) (Or.inl ⟨by rfl, ?_⟩) hHeld ?_ ?_
            rotate_left
            · rintro w' ⟨s0, s1, s2, s3, s4, s5, s6, s7, s8, s9, s10, s11⟩
              go_simp
              with_reducible rfl
            rotate_left
            · simp only [Act.put, List.setIfInBounds_toArray, List.set_cons_zero, List.set_cons_succ, i64_w, i32_w]
              rfl
            refine take_ (i := 4) (N := some 133) (v := ?_) (a' := ?_) #[true, true, true, true, true, false, false, false] rfl rfl (by kernel_rfl) (fun _ _ _ h => h) (Or.inl ⟨by rfl, ?_⟩) hHeld ?_ ?_
            rotate_left
            · rintro w' ⟨s0, s1, s2, s3, s4, s5, s6, s7, s8, s9, s10, s11⟩
              go_simp
              with_reducible rfl
            rotate_left
            · simp only [Act.put, List.setIfInBounds_toArray, List.set_cons_zero, List.set_cons_succ, i64_w, i32_w]
              rfl
            refine pure_ (i := 5) (N := some 134) (v := ?_) (a' := ?_) #[true, true, true, true, true, true, false, false] rfl rfl (by kernel_rfl) (fun _ _ _ h => h) (Or.inl ⟨by rfl, ?_⟩) ?_ ?_
            rotate_left
            · intro w'
              go_simp
              with_reducible rfl
            rotate_left
            · simp only [Act.put, List.setIfInBounds_toArray, List.set_cons_zero, List.set_cons_succ, i64_w, i32_w]
              rfl
            refine pure_ (i := 6) (N := some 135) (v := ?_) (a' := ?_) #[true, true, true, true, true, true, true, false] rfl rfl (by kernel_rfl) (fun _ _ _ h => h) (Or.inl ⟨by rfl, ?_⟩) ?_ ?_
            rotate_left
            · intro w'
              go_simp
              with_reducible rfl
            rotate_left
            · simp only [Act.put, List.setIfInBounds_toArray, List.set_cons_zero, List.set_cons_succ, i64_w, i32_w]
              rfl
            refine pure_ (i := 7) (N := some 4) (v := ?_) (a' := ?_) #[true, true, true, true, true, true, true, true] rfl rfl (by kernel_rfl) (fun _ _ _ h => h) (Or.inl ⟨by rfl, ?_⟩) ?_ ?_
            rotate_left
            · intro w'
              go_simp
              with_reducible rfl
            rotate_left
            · simp only [Act.put, List.setIfInBounds_toArray, List.set_cons_zero, List.set_cons_succ, i64_w, i32_w]
              rfl
            refine done_ (by kernel_rfl) ?_
            go_wp2
            go_ret
            exact ⟨by first | rfl | (simp; done), HB.out⟩
def mezzaninelaw04_ClintSame.Pure : Prop := Forms
end

end Go.Proofs.Ythdgkafcgaohiaa.Q
