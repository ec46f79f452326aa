/- Where the Lean function of a Go function gives a value, the Go call returns that value and changes nothing that was there: for every input. (By a program of this session, and by hand.) -/
import Derived.Test.YthdgkafcgaohiaaQx0
import Derived.Test.YthdgkafcgaohiaaQx1
import Derived.Test.YthdgkafcgaohiaaQx2
import Derived.Test.YthdgkafcgaohiaaQx6
namespace Go.Proofs.Ythdgkafcgaohiaa.Q
open Go.RowKit Go.Proofs.YthdgkafcgaohiaaW.PrintWords Go.Proofs.YthdgkafcgaohiaaW.PrintLast Go.Proofs.YthdgkafcgaohiaaW.PrintMore
attribute [local go_sem] max2_int min2_int max_two min_two max_three min_three max_four min_four   -- for this text's walks alone
set_option linter.unusedVariables false
set_option linter.unusedSimpArgs false

/-! ### mezzaninelaw04_ClintKnown: by hand -/
section
theorem clint_Tick_nil.calls (a : Int) (w : World) :
    Calls Try.prog 13 #[.pointer none, .int .u64 a] w fun e w' => e = .returned (.tuple #[]) ∧ Below w.heap.size w w' := by
  go_enter Try.func13, Try.ntmps13
  go_wp2
  first | go_end0 | ((try simp only [Exit.inBlock, Exit.then]); refine bodyPost_ret (results_none rfl _ _ _) rfl ?_)
  exact ⟨rfl, Below.refl _ _⟩
theorem clint_Write_nil.calls (k : Nat) (off nn v p1 p2 : Int) (p3 : Bool) (w : World) (h : clint_place.f k off nn = some (p1, p2, p3)) :
    Calls Try.prog 11 #[.pointer none, .int .u64 off, .int .i64 nn, .int .u64 v] w fun e w' => e = .returned (.bool false) ∧ Below w.heap.size w w' := by
  go_enter Try.func11, Try.ntmps11
  go_wp2_with fail
  refine (clint_place.calls k off nn p1 p2 p3 _ h).mono ?_
  rintro e1 w1 ⟨rfl, ⟨nd, rfl⟩⟩
  go_wp2
  go_ret
  exact ⟨rfl, by repeat (first | exact Below.refl _ _ | apply pw_below_drewN)⟩
set_option maxHeartbeats 16000000 in
set_option maxRecDepth 100000 in
theorem mezzaninelaw04_ClintKnown.callsB   (w : World) :
    Calls Try.prog 5 #[] w fun e w' => e = .returned (.bool true) ∧ Below w.heap.size w w' := by
  have hu29 := Try.underlying29
  have hu27 := Try.underlying27
  go_enter Try.func5, Try.ntmps5
  go_wp2_with fail
  refine (clint_New.calls 0 18446744073709551615 0 _ rfl).mono ?_
  rintro e1 w2 ⟨rfl, hb3⟩
  have hB4 := Lib.hid (hb3)
  clear hb3
  go_wp2_with fail
  have ha := Lib.hid (IsS29.new w w2 0 18446744073709551615 0 hB4.out)
  have hB5 := Lib.hid (Below.alloc hB4.out (Below.size hB4.out) (.cells #[.int .u32 0, .int .u64 18446744073709551615, .int .u64 0] 29))
  clear hB4
  generalize w2.alloc (.cells #[.int .u32 0, .int .u64 18446744073709551615, .int .u64 0] 29) = w6 at ha hB5 ⊢
  generalize w2.heap.size = ga at ha ⊢
  have ca_0 := cellS29_0 ha.out.1; have fa_0 := blk_frozen ha.out.1 0
  have ca_1 := cellS29_1 ha.out.1; have fa_1 := blk_frozen ha.out.1 1
  have ca_2 := cellS29_2 ha.out.1; have fa_2 := blk_frozen ha.out.1 2
  refine (clint_Clint_Read.calls 2 0 18446744073709551615 0 16384 8 18446744073709551615 true _ (by decide +kernel)).mono ?_
  rintro e7 w8 ⟨rfl, hb9⟩
  try clear ca_0 fa_0 ca_1 fa_1 ca_2 fa_2
  have hB10 := Lib.hid (below_step hB5.out hb9)
  replace ha := Lib.hid (IsS29.below ha.out hb9)
  clear hb9 hB5
  have ca_0 := cellS29_0 ha.out.1; have fa_0 := blk_frozen ha.out.1 0
  have ca_1 := cellS29_1 ha.out.1; have fa_1 := blk_frozen ha.out.1 1
  have ca_2 := cellS29_2 ha.out.1; have fa_2 := blk_frozen ha.out.1 2
  go_wp2_with fail
  refine (clint_Clint_Read.calls 2 0 18446744073709551615 0 49144 8 0 true _ (by decide +kernel)).mono ?_
  rintro e11 w12 ⟨rfl, hb13⟩
  try clear ca_0 fa_0 ca_1 fa_1 ca_2 fa_2
  have hB14 := Lib.hid (below_step hB10.out hb13)
  replace ha := Lib.hid (IsS29.below ha.out hb13)
  clear hb13 hB10
  have ca_0 := cellS29_0 ha.out.1; have fa_0 := blk_frozen ha.out.1 0
  have ca_1 := cellS29_1 ha.out.1; have fa_1 := blk_frozen ha.out.1 1
  have ca_2 := cellS29_2 ha.out.1; have fa_2 := blk_frozen ha.out.1 2
  go_wp2_with fail
  refine (clint_times_Mtip.calls 18446744073709551615 0 false _ (by decide +kernel)).mono ?_
  rintro e15 w16 ⟨rfl, hb17⟩
  try clear ca_0 fa_0 ca_1 fa_1 ca_2 fa_2
  have hB18 := Lib.hid (below_step hB14.out hb17)
  replace ha := Lib.hid (IsS29.below ha.out hb17)
  clear hb17 hB14
  have ca_0 := cellS29_0 ha.out.1; have fa_0 := blk_frozen ha.out.1 0
  have ca_1 := cellS29_1 ha.out.1; have fa_1 := blk_frozen ha.out.1 1
  have ca_2 := cellS29_2 ha.out.1; have fa_2 := blk_frozen ha.out.1 2
  go_wp2_with fail
  refine (clint_Clint_Msip.calls 0 18446744073709551615 0 false _ (by decide +kernel)).mono ?_
  rintro e19 w20 ⟨rfl, hb21⟩
  try clear ca_0 fa_0 ca_1 fa_1 ca_2 fa_2
  have hB22 := Lib.hid (below_step hB18.out hb21)
  replace ha := Lib.hid (IsS29.below ha.out hb21)
  clear hb21 hB18
  have ca_0 := cellS29_0 ha.out.1; have fa_0 := blk_frozen ha.out.1 0
  have ca_1 := cellS29_1 ha.out.1; have fa_1 := blk_frozen ha.out.1 1
  have ca_2 := cellS29_2 ha.out.1; have fa_2 := blk_frozen ha.out.1 2
  go_wp2_with fail
  refine (clint_Clint_Write.calls 2 ga 0 18446744073709551615 0 16384 4 5 true 0 18446744069414584325 0 w _ ha.out hB22.out (by decide +kernel)).mono ?_
  rintro e23 w24 ⟨rfl, hi27, hB25, hK26⟩
  try clear ca_0 fa_0 ca_1 fa_1 ca_2 fa_2
  replace ha := Lib.hid hi27
  clear hi27 hK26
  clear hB22
  replace hB25 := Lib.hid hB25
  have ca_0 := cellS29_0 ha.out.1; have fa_0 := blk_frozen ha.out.1 0
  have ca_1 := cellS29_1 ha.out.1; have fa_1 := blk_frozen ha.out.1 1
  have ca_2 := cellS29_2 ha.out.1; have fa_2 := blk_frozen ha.out.1 2
  go_wp2_with fail
  refine (clint_Clint_Read.calls 2 0 18446744069414584325 0 16384 8 18446744069414584325 true _ (by decide +kernel)).mono ?_
  rintro e28 w29 ⟨rfl, hb30⟩
  try clear ca_0 fa_0 ca_1 fa_1 ca_2 fa_2
  have hB31 := Lib.hid (below_step hB25.out hb30)
  replace ha := Lib.hid (IsS29.below ha.out hb30)
  clear hb30 hB25
  have ca_0 := cellS29_0 ha.out.1; have fa_0 := blk_frozen ha.out.1 0
  have ca_1 := cellS29_1 ha.out.1; have fa_1 := blk_frozen ha.out.1 1
  have ca_2 := cellS29_2 ha.out.1; have fa_2 := blk_frozen ha.out.1 2
  go_wp2_with fail
  refine (clint_Clint_Write.calls 2 ga 0 18446744069414584325 0 16388 4 0 true 0 5 0 w _ ha.out hB31.out (by decide +kernel)).mono ?_
  rintro e32 w33 ⟨rfl, hi36, hB34, hK35⟩
  try clear ca_0 fa_0 ca_1 fa_1 ca_2 fa_2
  replace ha := Lib.hid hi36
  clear hi36 hK35
  clear hB31
  replace hB34 := Lib.hid hB34
  have ca_0 := cellS29_0 ha.out.1; have fa_0 := blk_frozen ha.out.1 0
  have ca_1 := cellS29_1 ha.out.1; have fa_1 := blk_frozen ha.out.1 1
  have ca_2 := cellS29_2 ha.out.1; have fa_2 := blk_frozen ha.out.1 2
  go_wp2_with fail
  refine (clint_Clint_Tick.calls  ga 0 5 0 4  0 5 4 w _ ha.out hB34.out (by decide +kernel)).mono ?_
  rintro e37 w38 ⟨rfl, hi41, hB39, hK40⟩
  try clear ca_0 fa_0 ca_1 fa_1 ca_2 fa_2
  replace ha := Lib.hid hi41
  clear hi41 hK40
  clear hB34
  replace hB39 := Lib.hid hB39
  have ca_0 := cellS29_0 ha.out.1; have fa_0 := blk_frozen ha.out.1 0
  have ca_1 := cellS29_1 ha.out.1; have fa_1 := blk_frozen ha.out.1 1
  have ca_2 := cellS29_2 ha.out.1; have fa_2 := blk_frozen ha.out.1 2
  go_wp2_with fail
  refine (clint_times_Mtip.calls 5 4 false _ (by decide +kernel)).mono ?_
  rintro e42 w43 ⟨rfl, hb44⟩
  try clear ca_0 fa_0 ca_1 fa_1 ca_2 fa_2
  have hB45 := Lib.hid (below_step hB39.out hb44)
  replace ha := Lib.hid (IsS29.below ha.out hb44)
  clear hb44 hB39
  have ca_0 := cellS29_0 ha.out.1; have fa_0 := blk_frozen ha.out.1 0
  have ca_1 := cellS29_1 ha.out.1; have fa_1 := blk_frozen ha.out.1 1
  have ca_2 := cellS29_2 ha.out.1; have fa_2 := blk_frozen ha.out.1 2
  go_wp2_with fail
  refine (clint_Clint_Tick.calls  ga 0 5 4 1  0 5 5 w _ ha.out hB45.out (by decide +kernel)).mono ?_
  rintro e46 w47 ⟨rfl, hi50, hB48, hK49⟩
  try clear ca_0 fa_0 ca_1 fa_1 ca_2 fa_2
  replace ha := Lib.hid hi50
  clear hi50 hK49
  clear hB45
  replace hB48 := Lib.hid hB48
  have ca_0 := cellS29_0 ha.out.1; have fa_0 := blk_frozen ha.out.1 0
  have ca_1 := cellS29_1 ha.out.1; have fa_1 := blk_frozen ha.out.1 1
  have ca_2 := cellS29_2 ha.out.1; have fa_2 := blk_frozen ha.out.1 2
  go_wp2_with fail
  refine (clint_times_Mtip.calls 5 5 true _ (by decide +kernel)).mono ?_
  rintro e51 w52 ⟨rfl, hb53⟩
  try clear ca_0 fa_0 ca_1 fa_1 ca_2 fa_2
  have hB54 := Lib.hid (below_step hB48.out hb53)
  replace ha := Lib.hid (IsS29.below ha.out hb53)
  clear hb53 hB48
  have ca_0 := cellS29_0 ha.out.1; have fa_0 := blk_frozen ha.out.1 0
  have ca_1 := cellS29_1 ha.out.1; have fa_1 := blk_frozen ha.out.1 1
  have ca_2 := cellS29_2 ha.out.1; have fa_2 := blk_frozen ha.out.1 2
  go_wp2_with fail
  refine (clint_Clint_Write.calls 2 ga 0 5 5 0 4 3 true 1 5 5 w _ ha.out hB54.out (by decide +kernel)).mono ?_
  rintro e55 w56 ⟨rfl, hi59, hB57, hK58⟩
  try clear ca_0 fa_0 ca_1 fa_1 ca_2 fa_2
  replace ha := Lib.hid hi59
  clear hi59 hK58
  clear hB54
  replace hB57 := Lib.hid hB57
  have ca_0 := cellS29_0 ha.out.1; have fa_0 := blk_frozen ha.out.1 0
  have ca_1 := cellS29_1 ha.out.1; have fa_1 := blk_frozen ha.out.1 1
  have ca_2 := cellS29_2 ha.out.1; have fa_2 := blk_frozen ha.out.1 2
  go_wp2_with fail
  refine (clint_Clint_Msip.calls 1 5 5 true _ (by decide +kernel)).mono ?_
  rintro e60 w61 ⟨rfl, hb62⟩
  try clear ca_0 fa_0 ca_1 fa_1 ca_2 fa_2
  have hB63 := Lib.hid (below_step hB57.out hb62)
  replace ha := Lib.hid (IsS29.below ha.out hb62)
  clear hb62 hB57
  have ca_0 := cellS29_0 ha.out.1; have fa_0 := blk_frozen ha.out.1 0
  have ca_1 := cellS29_1 ha.out.1; have fa_1 := blk_frozen ha.out.1 1
  have ca_2 := cellS29_2 ha.out.1; have fa_2 := blk_frozen ha.out.1 2
  go_wp2_with fail
  refine (clint_Clint_Read.calls 2 1 5 5 0 4 1 true _ (by decide +kernel)).mono ?_
  rintro e64 w65 ⟨rfl, hb66⟩
  try clear ca_0 fa_0 ca_1 fa_1 ca_2 fa_2
  have hB67 := Lib.hid (below_step hB63.out hb66)
  replace ha := Lib.hid (IsS29.below ha.out hb66)
  clear hb66 hB63
  have ca_0 := cellS29_0 ha.out.1; have fa_0 := blk_frozen ha.out.1 0
  have ca_1 := cellS29_1 ha.out.1; have fa_1 := blk_frozen ha.out.1 1
  have ca_2 := cellS29_2 ha.out.1; have fa_2 := blk_frozen ha.out.1 2
  go_wp2_with fail
  refine (clint_Clint_Read.calls 2 1 5 5 0 8 0 false _ (by decide +kernel)).mono ?_
  rintro e68 w69 ⟨rfl, hb70⟩
  try clear ca_0 fa_0 ca_1 fa_1 ca_2 fa_2
  have hB71 := Lib.hid (below_step hB67.out hb70)
  replace ha := Lib.hid (IsS29.below ha.out hb70)
  clear hb70 hB67
  have ca_0 := cellS29_0 ha.out.1; have fa_0 := blk_frozen ha.out.1 0
  have ca_1 := cellS29_1 ha.out.1; have fa_1 := blk_frozen ha.out.1 1
  have ca_2 := cellS29_2 ha.out.1; have fa_2 := blk_frozen ha.out.1 2
  go_wp2_with fail
  refine (clint_Clint_Read.calls 2 1 5 5 4 4 0 false _ (by decide +kernel)).mono ?_
  rintro e72 w73 ⟨rfl, hb74⟩
  try clear ca_0 fa_0 ca_1 fa_1 ca_2 fa_2
  have hB75 := Lib.hid (below_step hB71.out hb74)
  replace ha := Lib.hid (IsS29.below ha.out hb74)
  clear hb74 hB71
  have ca_0 := cellS29_0 ha.out.1; have fa_0 := blk_frozen ha.out.1 0
  have ca_1 := cellS29_1 ha.out.1; have fa_1 := blk_frozen ha.out.1 1
  have ca_2 := cellS29_2 ha.out.1; have fa_2 := blk_frozen ha.out.1 2
  go_wp2_with fail
  refine (clint_Clint_Read.calls 2 1 5 5 18446744073709551615 1 0 false _ (by decide +kernel)).mono ?_
  rintro e76 w77 ⟨rfl, hb78⟩
  try clear ca_0 fa_0 ca_1 fa_1 ca_2 fa_2
  have hB79 := Lib.hid (below_step hB75.out hb78)
  replace ha := Lib.hid (IsS29.below ha.out hb78)
  clear hb78 hB75
  have ca_0 := cellS29_0 ha.out.1; have fa_0 := blk_frozen ha.out.1 0
  have ca_1 := cellS29_1 ha.out.1; have fa_1 := blk_frozen ha.out.1 1
  have ca_2 := cellS29_2 ha.out.1; have fa_2 := blk_frozen ha.out.1 2
  go_wp2_with fail
  refine (clint_Clint_Write.calls 2 ga 1 5 5 49146 2 1 false 1 5 5 w _ ha.out hB79.out (by decide +kernel)).mono ?_
  rintro e80 w81 ⟨rfl, hi84, hB82, hK83⟩
  try clear ca_0 fa_0 ca_1 fa_1 ca_2 fa_2
  replace ha := Lib.hid hi84
  clear hi84 hK83
  clear hB79
  replace hB82 := Lib.hid hB82
  have ca_0 := cellS29_0 ha.out.1; have fa_0 := blk_frozen ha.out.1 0
  have ca_1 := cellS29_1 ha.out.1; have fa_1 := blk_frozen ha.out.1 1
  have ca_2 := cellS29_2 ha.out.1; have fa_2 := blk_frozen ha.out.1 2
  go_wp2_with fail
  refine (clint_Clint_Write.calls 2 ga 1 5 5 49148 4 8589934593 true 1 5 4294967301 w _ ha.out hB82.out (by decide +kernel)).mono ?_
  rintro e85 w86 ⟨rfl, hi89, hB87, hK88⟩
  try clear ca_0 fa_0 ca_1 fa_1 ca_2 fa_2
  replace ha := Lib.hid hi89
  clear hi89 hK88
  clear hB82
  replace hB87 := Lib.hid hB87
  have ca_0 := cellS29_0 ha.out.1; have fa_0 := blk_frozen ha.out.1 0
  have ca_1 := cellS29_1 ha.out.1; have fa_1 := blk_frozen ha.out.1 1
  have ca_2 := cellS29_2 ha.out.1; have fa_2 := blk_frozen ha.out.1 2
  go_wp2_with fail
  refine (clint_Tick_nil.calls 1 _).mono ?_
  rintro e90 w91 ⟨rfl, hb92⟩
  try clear ca_0 fa_0 ca_1 fa_1 ca_2 fa_2
  have hB93 := Lib.hid (below_step hB87.out hb92)
  replace ha := Lib.hid (IsS29.below ha.out hb92)
  clear hb92 hB87
  have ca_0 := cellS29_0 ha.out.1; have fa_0 := blk_frozen ha.out.1 0
  have ca_1 := cellS29_1 ha.out.1; have fa_1 := blk_frozen ha.out.1 1
  have ca_2 := cellS29_2 ha.out.1; have fa_2 := blk_frozen ha.out.1 2
  go_wp2_with fail
  refine (mezzaninelaw04_awake.calls true _ rfl).mono ?_
  rintro e94 w95 ⟨rfl, hb96⟩
  try clear ca_0 fa_0 ca_1 fa_1 ca_2 fa_2
  have hB97 := Lib.hid (below_step hB93.out hb96)
  replace ha := Lib.hid (IsS29.below ha.out hb96)
  clear hb96 hB93
  have ca_0 := cellS29_0 ha.out.1; have fa_0 := blk_frozen ha.out.1 0
  have ca_1 := cellS29_1 ha.out.1; have fa_1 := blk_frozen ha.out.1 1
  have ca_2 := cellS29_2 ha.out.1; have fa_2 := blk_frozen ha.out.1 2
  go_wp2_with fail
  refine (clint_times_Time.calls 5 4294967301 4294967301 _ rfl).mono ?_
  rintro e98 w99 ⟨rfl, hb100⟩
  try clear ca_0 fa_0 ca_1 fa_1 ca_2 fa_2
  have hB101 := Lib.hid (below_step hB97.out hb100)
  replace ha := Lib.hid (IsS29.below ha.out hb100)
  clear hb100 hB97
  have ca_0 := cellS29_0 ha.out.1; have fa_0 := blk_frozen ha.out.1 0
  have ca_1 := cellS29_1 ha.out.1; have fa_1 := blk_frozen ha.out.1 1
  have ca_2 := cellS29_2 ha.out.1; have fa_2 := blk_frozen ha.out.1 2
  go_wp2_with fail
  refine (clint_Write_nil.calls 2 0 4 1 0 0 true _ (by decide +kernel)).mono ?_
  rintro e102 w103 ⟨rfl, hb104⟩
  try clear ca_0 fa_0 ca_1 fa_1 ca_2 fa_2
  have hB105 := Lib.hid (below_step hB101.out hb104)
  replace ha := Lib.hid (IsS29.below ha.out hb104)
  clear hb104 hB101
  have ca_0 := cellS29_0 ha.out.1; have fa_0 := blk_frozen ha.out.1 0
  have ca_1 := cellS29_1 ha.out.1; have fa_1 := blk_frozen ha.out.1 1
  have ca_2 := cellS29_2 ha.out.1; have fa_2 := blk_frozen ha.out.1 2
  go_wp2
  go_ret
  exact ⟨rfl, hB105.out⟩
def mezzaninelaw04_ClintKnown.Pure : Prop := True
theorem mezzaninelaw04_ClintKnown.walk (P : mezzaninelaw04_ClintKnown.Pure) (w : World) :
    Calls Try.prog 5 #[] w fun e w' => e = .returned (.bool true) ∧ Below w.heap.size w w' := by
  clear P
  exact mezzaninelaw04_ClintKnown.callsB w
end

/-! ### mezzanineref04_Clint_Read: function 19 -/
def mezzanineref04_Clint_Read.f (a0_0 : Int) (a0_1 : Int) (a0_2 : Int) (a1 : Int) (a2 : Int) : Option (Int × Bool) := if a2 = 8 then (if a1 = 16384 then (some (a0_1, true)) else (if a1 = 49144 then (some (a0_2, true)) else (some (0, false)))) else (if a2 = 4 then (if a1 = 0 then (some (a0_0, true)) else (if a1 = 16384 then ((mezzanineref04_low.f a0_1).bind fun t116 => (some (t116, true))) else (if a1 = 16388 then ((mezzanineref04_high.f a0_1).bind fun t117 => (some (t117, true))) else (if a1 = 49144 then ((mezzanineref04_low.f a0_2).bind fun t118 => (some (t118, true))) else (if a1 = 49148 then ((mezzanineref04_high.f a0_2).bind fun t119 => (some (t119, true))) else (some (0, false))))))) else (some (0, false)))
set_option maxHeartbeats 8000000 in
set_option maxRecDepth 100000 in
theorem mezzanineref04_Clint_Read.calls (a0_0 : Int) (a0_1 : Int) (a0_2 : Int) (a1 : Int) (a2 : Int) (r1 : Int) (r2 : Bool) (w : World) (h : mezzanineref04_Clint_Read.f a0_0 a0_1 a0_2 a1 a2 = some (r1, r2)) :
    Calls Try.prog 19 #[.agg #[.int .u64 a0_0, .int .u64 a0_1, .int .u64 a0_2], .int .u64 a1, .int .i64 a2] w fun e w' => e = .returned (.tuple #[.int .u64 r1, .bool r2]) ∧ Below w.heap.size w w' := by
  have hu32 := Try.underlying32
  have HB := Aside0.mk (Below.refl w.heap.size w)
  have H : (if a2 = 8 then (if a1 = 16384 then (some (a0_1, true)) else (if a1 = 49144 then (some (a0_2, true)) else (some (0, false)))) else (if a2 = 4 then (if a1 = 0 then (some (a0_0, true)) else (if a1 = 16384 then ((mezzanineref04_low.f a0_1).bind fun t116 => (some (t116, true))) else (if a1 = 16388 then ((mezzanineref04_high.f a0_1).bind fun t117 => (some (t117, true))) else (if a1 = 49144 then ((mezzanineref04_low.f a0_2).bind fun t118 => (some (t118, true))) else (if a1 = 49148 then ((mezzanineref04_high.f a0_2).bind fun t119 => (some (t119, true))) else (some (0, false))))))) else (some (0, false)))) = some (r1, r2) := h
  clear h
  by_cases c4 : a2 = 8
  · rw [if_pos c4] at H
    have c4b0 : (a2 == 8) = true := beq_iff_eq.mpr c4
    have c4b1 : (a2 != 8) = false := bne_eq_false_iff_eq.mpr c4
    clear c4
    by_cases c5 : a1 = 16384
    · rw [if_pos c5] at H
      have c5b0 : (a1 == 16384) = true := beq_iff_eq.mpr c5
      have c5b1 : (a1 != 16384) = false := bne_eq_false_iff_eq.mpr c5
      clear c5
      simp only [Option.some.injEq, Prod.mk.injEq] at H
      obtain ⟨rfl, rfl⟩ := H
      go_enter Try.func19, Try.ntmps19
      go_wp2_with (first | ((with_reducible refine gate_dst (N := 3) rfl ?_); refine box_event ?hg (N := 3) ?hd (cs := #[.int .u64 a0_0, .int .u64 a0_1, .int .u64 a0_2]) (t := 32) ?hr ?_; (case hd => rfl); (case hg => rfl); (case hr => first | (go_simp; done) | (go_simp; rfl)); intro gb115 hg w6 hbox hb; have n0_ := Aside0.mk (below_step (by repeat (first | (with_reducible first | exact HB.out | apply below_alloc | apply pw_below_drewN | apply below_drew1) | exact HB.out)) hb); have n1_ := Aside0.mk (hbox); have n2_ := Aside0.mk ((by rw [hg]; exact (below_size (by repeat (first | (with_reducible first | exact HB.out | apply below_alloc | apply pw_below_drewN | apply below_drew1) | exact HB.out))) : w.heap.size ≤ gb115)); have n3_ := Aside0.mk ((by rw [hg]; exact (below_size (by repeat (first | (with_reducible first | exact HB.out | apply below_alloc | apply pw_below_drewN | apply below_drew1) | exact HB.out))) : w.heap.size ≤ gb115)); clear HB; have HB := n0_; have BK115 := n1_; have GW115 := n2_; have GE115 := n3_; clear n0_ n1_ n2_ n3_; clear hb hbox hg; have hcz7_0 : w6.cell? ⟨gb115, 0, none⟩ = some (.int .u64 a0_0) := (blk_cell BK115.out 0).trans rfl; have hcz7_1 : w6.cell? ⟨gb115, 1, none⟩ = some (.int .u64 a0_1) := (blk_cell BK115.out 1).trans rfl; have hcz7_2 : w6.cell? ⟨gb115, 2, none⟩ = some (.int .u64 a0_2) := (blk_cell BK115.out 2).trans rfl; have hfz7_0 := blk_frozen BK115.out 0; have hfz7_1 := blk_frozen BK115.out 1; have hfz7_2 := blk_frozen BK115.out 2))
      go_ret2
      exact ⟨by first | rfl | (simp [errW_none, errW_some] <;> rfl) | (simp [*, errW_none, errW_some] <;> rfl), by repeat (first | (with_reducible first | exact HB.out | apply below_alloc | apply pw_below_drewN | apply below_drew1 | refine below_set ?_ GE115.out) | exact HB.out)⟩
    · rw [if_neg c5] at H
      have c5b0 : (a1 == 16384) = false := beq_eq_false_iff_ne.mpr c5
      have c5b1 : (a1 != 16384) = true := bne_iff_ne.mpr c5
      by_cases c8 : a1 = 49144
      · rw [if_pos c8] at H
        have c8b0 : (a1 == 49144) = true := beq_iff_eq.mpr c8
        have c8b1 : (a1 != 49144) = false := bne_eq_false_iff_eq.mpr c8
        clear c8
        simp only [Option.some.injEq, Prod.mk.injEq] at H
        obtain ⟨rfl, rfl⟩ := H
        go_enter Try.func19, Try.ntmps19
        go_wp2_with (first | ((with_reducible refine gate_dst (N := 3) rfl ?_); refine box_event ?hg (N := 3) ?hd (cs := #[.int .u64 a0_0, .int .u64 a0_1, .int .u64 a0_2]) (t := 32) ?hr ?_; (case hd => rfl); (case hg => rfl); (case hr => first | (go_simp; done) | (go_simp; rfl)); intro gb115 hg w9 hbox hb; have n0_ := Aside0.mk (below_step (by repeat (first | (with_reducible first | exact HB.out | apply below_alloc | apply pw_below_drewN | apply below_drew1) | exact HB.out)) hb); have n1_ := Aside0.mk (hbox); have n2_ := Aside0.mk ((by rw [hg]; exact (below_size (by repeat (first | (with_reducible first | exact HB.out | apply below_alloc | apply pw_below_drewN | apply below_drew1) | exact HB.out))) : w.heap.size ≤ gb115)); have n3_ := Aside0.mk ((by rw [hg]; exact (below_size (by repeat (first | (with_reducible first | exact HB.out | apply below_alloc | apply pw_below_drewN | apply below_drew1) | exact HB.out))) : w.heap.size ≤ gb115)); clear HB; have HB := n0_; have BK115 := n1_; have GW115 := n2_; have GE115 := n3_; clear n0_ n1_ n2_ n3_; clear hb hbox hg; have hcz10_0 : w9.cell? ⟨gb115, 0, none⟩ = some (.int .u64 a0_0) := (blk_cell BK115.out 0).trans rfl; have hcz10_1 : w9.cell? ⟨gb115, 1, none⟩ = some (.int .u64 a0_1) := (blk_cell BK115.out 1).trans rfl; have hcz10_2 : w9.cell? ⟨gb115, 2, none⟩ = some (.int .u64 a0_2) := (blk_cell BK115.out 2).trans rfl; have hfz10_0 := blk_frozen BK115.out 0; have hfz10_1 := blk_frozen BK115.out 1; have hfz10_2 := blk_frozen BK115.out 2))
        go_ret2
        exact ⟨by first | rfl | (simp [errW_none, errW_some] <;> rfl) | (simp [*, errW_none, errW_some] <;> rfl), by repeat (first | (with_reducible first | exact HB.out | apply below_alloc | apply pw_below_drewN | apply below_drew1 | refine below_set ?_ GE115.out) | exact HB.out)⟩
      · rw [if_neg c8] at H
        have c8b0 : (a1 == 49144) = false := beq_eq_false_iff_ne.mpr c8
        have c8b1 : (a1 != 49144) = true := bne_iff_ne.mpr c8
        simp only [Option.some.injEq, Prod.mk.injEq] at H
        obtain ⟨rfl, rfl⟩ := H
        go_enter Try.func19, Try.ntmps19
        go_wp2_with (first | ((with_reducible refine gate_dst (N := 3) rfl ?_); refine box_event ?hg (N := 3) ?hd (cs := #[.int .u64 a0_0, .int .u64 a0_1, .int .u64 a0_2]) (t := 32) ?hr ?_; (case hd => rfl); (case hg => rfl); (case hr => first | (go_simp; done) | (go_simp; rfl)); intro gb115 hg w11 hbox hb; have n0_ := Aside0.mk (below_step (by repeat (first | (with_reducible first | exact HB.out | apply below_alloc | apply pw_below_drewN | apply below_drew1) | exact HB.out)) hb); have n1_ := Aside0.mk (hbox); have n2_ := Aside0.mk ((by rw [hg]; exact (below_size (by repeat (first | (with_reducible first | exact HB.out | apply below_alloc | apply pw_below_drewN | apply below_drew1) | exact HB.out))) : w.heap.size ≤ gb115)); have n3_ := Aside0.mk ((by rw [hg]; exact (below_size (by repeat (first | (with_reducible first | exact HB.out | apply below_alloc | apply pw_below_drewN | apply below_drew1) | exact HB.out))) : w.heap.size ≤ gb115)); clear HB; have HB := n0_; have BK115 := n1_; have GW115 := n2_; have GE115 := n3_; clear n0_ n1_ n2_ n3_; clear hb hbox hg))
        go_ret2
        exact ⟨by first | rfl | (simp [errW_none, errW_some] <;> rfl) | (simp [*, errW_none, errW_some] <;> rfl), by repeat (first | (with_reducible first | exact HB.out | apply below_alloc | apply pw_below_drewN | apply below_drew1 | refine below_set ?_ GE115.out) | exact HB.out)⟩
  · rw [if_neg c4] at H
    have c4b0 : (a2 == 8) = false := beq_eq_false_iff_ne.mpr c4
    have c4b1 : (a2 != 8) = true := bne_iff_ne.mpr c4
    by_cases c12 : a2 = 4
    · rw [if_pos c12] at H
      have c12b0 : (a2 == 4) = true := beq_iff_eq.mpr c12
      have c12b1 : (a2 != 4) = false := bne_eq_false_iff_eq.mpr c12
      clear c12
      by_cases c13 : a1 = 0
      · rw [if_pos c13] at H
        have c13b0 : (a1 == 0) = true := beq_iff_eq.mpr c13
        have c13b1 : (a1 != 0) = false := bne_eq_false_iff_eq.mpr c13
        clear c13
        simp only [Option.some.injEq, Prod.mk.injEq] at H
        obtain ⟨rfl, rfl⟩ := H
        go_enter Try.func19, Try.ntmps19
        go_wp2_with (first | ((with_reducible refine gate_dst (N := 3) rfl ?_); refine box_event ?hg (N := 3) ?hd (cs := #[.int .u64 a0_0, .int .u64 a0_1, .int .u64 a0_2]) (t := 32) ?hr ?_; (case hd => rfl); (case hg => rfl); (case hr => first | (go_simp; done) | (go_simp; rfl)); intro gb115 hg w14 hbox hb; have n0_ := Aside0.mk (below_step (by repeat (first | (with_reducible first | exact HB.out | apply below_alloc | apply pw_below_drewN | apply below_drew1) | exact HB.out)) hb); have n1_ := Aside0.mk (hbox); have n2_ := Aside0.mk ((by rw [hg]; exact (below_size (by repeat (first | (with_reducible first | exact HB.out | apply below_alloc | apply pw_below_drewN | apply below_drew1) | exact HB.out))) : w.heap.size ≤ gb115)); have n3_ := Aside0.mk ((by rw [hg]; exact (below_size (by repeat (first | (with_reducible first | exact HB.out | apply below_alloc | apply pw_below_drewN | apply below_drew1) | exact HB.out))) : w.heap.size ≤ gb115)); clear HB; have HB := n0_; have BK115 := n1_; have GW115 := n2_; have GE115 := n3_; clear n0_ n1_ n2_ n3_; clear hb hbox hg; have hcz15_0 : w14.cell? ⟨gb115, 0, none⟩ = some (.int .u64 a0_0) := (blk_cell BK115.out 0).trans rfl; have hcz15_1 : w14.cell? ⟨gb115, 1, none⟩ = some (.int .u64 a0_1) := (blk_cell BK115.out 1).trans rfl; have hcz15_2 : w14.cell? ⟨gb115, 2, none⟩ = some (.int .u64 a0_2) := (blk_cell BK115.out 2).trans rfl; have hfz15_0 := blk_frozen BK115.out 0; have hfz15_1 := blk_frozen BK115.out 1; have hfz15_2 := blk_frozen BK115.out 2))
        go_ret2
        exact ⟨by first | rfl | (simp [errW_none, errW_some] <;> rfl) | (simp [*, errW_none, errW_some] <;> rfl), by repeat (first | (with_reducible first | exact HB.out | apply below_alloc | apply pw_below_drewN | apply below_drew1 | refine below_set ?_ GE115.out) | exact HB.out)⟩
      · rw [if_neg c13] at H
        have c13b0 : (a1 == 0) = false := beq_eq_false_iff_ne.mpr c13
        have c13b1 : (a1 != 0) = true := bne_iff_ne.mpr c13
        by_cases c16 : a1 = 16384
        · rw [if_pos c16] at H
          have c16b0 : (a1 == 16384) = true := beq_iff_eq.mpr c16
          have c16b1 : (a1 != 16384) = false := bne_eq_false_iff_eq.mpr c16
          clear c16
          replace H := Option.bind_eq_some_iff.mp H
          obtain ⟨t116, A170, H⟩ := H
          replace H : (some (t116, true)) = some (r1, r2) := H
          have A17 := Aside0.mk A170
          clear A170
          simp only [Option.some.injEq, Prod.mk.injEq] at H
          obtain ⟨rfl, rfl⟩ := H
          go_enter Try.func19, Try.ntmps19
          go_wp2_with (first | ((with_reducible refine gate_dst (N := 3) rfl ?_); refine box_event ?hg (N := 3) ?hd (cs := #[.int .u64 a0_0, .int .u64 a0_1, .int .u64 a0_2]) (t := 32) ?hr ?_; (case hd => rfl); (case hg => rfl); (case hr => first | (go_simp; done) | (go_simp; rfl)); intro gb115 hg w18 hbox hb; have n0_ := Aside0.mk (below_step (by repeat (first | (with_reducible first | exact HB.out | apply below_alloc | apply pw_below_drewN | apply below_drew1) | exact HB.out)) hb); have n1_ := Aside0.mk (hbox); have n2_ := Aside0.mk ((by rw [hg]; exact (below_size (by repeat (first | (with_reducible first | exact HB.out | apply below_alloc | apply pw_below_drewN | apply below_drew1) | exact HB.out))) : w.heap.size ≤ gb115)); have n3_ := Aside0.mk ((by rw [hg]; exact (below_size (by repeat (first | (with_reducible first | exact HB.out | apply below_alloc | apply pw_below_drewN | apply below_drew1) | exact HB.out))) : w.heap.size ≤ gb115)); clear HB; have HB := n0_; have BK115 := n1_; have GW115 := n2_; have GE115 := n3_; clear n0_ n1_ n2_ n3_; clear hb hbox hg; have hcz19_0 : w18.cell? ⟨gb115, 0, none⟩ = some (.int .u64 a0_0) := (blk_cell BK115.out 0).trans rfl; have hcz19_1 : w18.cell? ⟨gb115, 1, none⟩ = some (.int .u64 a0_1) := (blk_cell BK115.out 1).trans rfl; have hcz19_2 : w18.cell? ⟨gb115, 2, none⟩ = some (.int .u64 a0_2) := (blk_cell BK115.out 2).trans rfl; have hfz19_0 := blk_frozen BK115.out 0; have hfz19_1 := blk_frozen BK115.out 1; have hfz19_2 := blk_frozen BK115.out 2) | ((with_reducible refine gate_callee (f := 25) rfl ?_); refine goesL_ (some 30) rfl rfl Try.func25 (by kernel_rfl) rfl #[.int .u64 a0_1] rfl (by (try simp only [List.map_toArray, List.map_cons, List.map_nil]); first | done | rfl | (simp only [List.length_drop, List.length_take]; rfl)) ?_; (with_reducible refine (mezzanineref04_low.calls a0_1 t116 _ A17.out).mono ?_); rintro e w' ⟨rfl, ⟨nd, rfl⟩⟩; refine ⟨_, rfl, ?_⟩))
          go_ret2
          exact ⟨by first | rfl | (simp [errW_none, errW_some] <;> rfl) | (simp [*, errW_none, errW_some] <;> rfl), by repeat (first | (with_reducible first | exact HB.out | apply below_alloc | apply pw_below_drewN | apply below_drew1 | refine below_set ?_ GE115.out) | exact HB.out)⟩
        · rw [if_neg c16] at H
          have c16b0 : (a1 == 16384) = false := beq_eq_false_iff_ne.mpr c16
          have c16b1 : (a1 != 16384) = true := bne_iff_ne.mpr c16
          by_cases c20 : a1 = 16388
          · rw [if_pos c20] at H
            have c20b0 : (a1 == 16388) = true := beq_iff_eq.mpr c20
            have c20b1 : (a1 != 16388) = false := bne_eq_false_iff_eq.mpr c20
            clear c20
            replace H := Option.bind_eq_some_iff.mp H
            obtain ⟨t117, A210, H⟩ := H
            replace H : (some (t117, true)) = some (r1, r2) := H
            have A21 := Aside0.mk A210
            clear A210
            simp only [Option.some.injEq, Prod.mk.injEq] at H
            obtain ⟨rfl, rfl⟩ := H
            go_enter Try.func19, Try.ntmps19
            go_wp2_with (first | ((with_reducible refine gate_dst (N := 3) rfl ?_); refine box_event ?hg (N := 3) ?hd (cs := #[.int .u64 a0_0, .int .u64 a0_1, .int .u64 a0_2]) (t := 32) ?hr ?_; (case hd => rfl); (case hg => rfl); (case hr => first | (go_simp; done) | (go_simp; rfl)); intro gb115 hg w22 hbox hb; have n0_ := Aside0.mk (below_step (by repeat (first | (with_reducible first | exact HB.out | apply below_alloc | apply pw_below_drewN | apply below_drew1) | exact HB.out)) hb); have n1_ := Aside0.mk (hbox); have n2_ := Aside0.mk ((by rw [hg]; exact (below_size (by repeat (first | (with_reducible first | exact HB.out | apply below_alloc | apply pw_below_drewN | apply below_drew1) | exact HB.out))) : w.heap.size ≤ gb115)); have n3_ := Aside0.mk ((by rw [hg]; exact (below_size (by repeat (first | (with_reducible first | exact HB.out | apply below_alloc | apply pw_below_drewN | apply below_drew1) | exact HB.out))) : w.heap.size ≤ gb115)); clear HB; have HB := n0_; have BK115 := n1_; have GW115 := n2_; have GE115 := n3_; clear n0_ n1_ n2_ n3_; clear hb hbox hg; have hcz23_0 : w22.cell? ⟨gb115, 0, none⟩ = some (.int .u64 a0_0) := (blk_cell BK115.out 0).trans rfl; have hcz23_1 : w22.cell? ⟨gb115, 1, none⟩ = some (.int .u64 a0_1) := (blk_cell BK115.out 1).trans rfl; have hcz23_2 : w22.cell? ⟨gb115, 2, none⟩ = some (.int .u64 a0_2) := (blk_cell BK115.out 2).trans rfl; have hfz23_0 := blk_frozen BK115.out 0; have hfz23_1 := blk_frozen BK115.out 1; have hfz23_2 := blk_frozen BK115.out 2) | ((with_reducible refine gate_callee (f := 24) rfl ?_); refine goesL_ (some 35) rfl rfl Try.func24 (by kernel_rfl) rfl #[.int .u64 a0_1] rfl (by (try simp only [List.map_toArray, List.map_cons, List.map_nil]); first | done | rfl | (simp only [List.length_drop, List.length_take]; rfl)) ?_; (with_reducible refine (mezzanineref04_high.calls a0_1 t117 _ A21.out).mono ?_); rintro e w' ⟨rfl, ⟨nd, rfl⟩⟩; refine ⟨_, rfl, ?_⟩))
            go_ret2
            exact ⟨by first | rfl | (simp [errW_none, errW_some] <;> rfl) | (simp [*, errW_none, errW_some] <;> rfl), by repeat (first | (with_reducible first | exact HB.out | apply below_alloc | apply pw_below_drewN | apply below_drew1 | refine below_set ?_ GE115.out) | exact HB.out)⟩
          · rw [if_neg c20] at H
            have c20b0 : (a1 == 16388) = false := beq_eq_false_iff_ne.mpr c20
            have c20b1 : (a1 != 16388) = true := bne_iff_ne.mpr c20
            by_cases c24 : a1 = 49144
            · rw [if_pos c24] at H
              have c24b0 : (a1 == 49144) = true := beq_iff_eq.mpr c24
              have c24b1 : (a1 != 49144) = false := bne_eq_false_iff_eq.mpr c24
              clear c24
              replace H := Option.bind_eq_some_iff.mp H
              obtain ⟨t118, A250, H⟩ := H
              replace H : (some (t118, true)) = some (r1, r2) := H
              have A25 := Aside0.mk A250
              clear A250
              simp only [Option.some.injEq, Prod.mk.injEq] at H
              obtain ⟨rfl, rfl⟩ := H
              go_enter Try.func19, Try.ntmps19
              go_wp2_with (first | ((with_reducible refine gate_dst (N := 3) rfl ?_); refine box_event ?hg (N := 3) ?hd (cs := #[.int .u64 a0_0, .int .u64 a0_1, .int .u64 a0_2]) (t := 32) ?hr ?_; (case hd => rfl); (case hg => rfl); (case hr => first | (go_simp; done) | (go_simp; rfl)); intro gb115 hg w26 hbox hb; have n0_ := Aside0.mk (below_step (by repeat (first | (with_reducible first | exact HB.out | apply below_alloc | apply pw_below_drewN | apply below_drew1) | exact HB.out)) hb); have n1_ := Aside0.mk (hbox); have n2_ := Aside0.mk ((by rw [hg]; exact (below_size (by repeat (first | (with_reducible first | exact HB.out | apply below_alloc | apply pw_below_drewN | apply below_drew1) | exact HB.out))) : w.heap.size ≤ gb115)); have n3_ := Aside0.mk ((by rw [hg]; exact (below_size (by repeat (first | (with_reducible first | exact HB.out | apply below_alloc | apply pw_below_drewN | apply below_drew1) | exact HB.out))) : w.heap.size ≤ gb115)); clear HB; have HB := n0_; have BK115 := n1_; have GW115 := n2_; have GE115 := n3_; clear n0_ n1_ n2_ n3_; clear hb hbox hg; have hcz27_0 : w26.cell? ⟨gb115, 0, none⟩ = some (.int .u64 a0_0) := (blk_cell BK115.out 0).trans rfl; have hcz27_1 : w26.cell? ⟨gb115, 1, none⟩ = some (.int .u64 a0_1) := (blk_cell BK115.out 1).trans rfl; have hcz27_2 : w26.cell? ⟨gb115, 2, none⟩ = some (.int .u64 a0_2) := (blk_cell BK115.out 2).trans rfl; have hfz27_0 := blk_frozen BK115.out 0; have hfz27_1 := blk_frozen BK115.out 1; have hfz27_2 := blk_frozen BK115.out 2) | ((with_reducible refine gate_callee (f := 25) rfl ?_); refine goesL_ (some 40) rfl rfl Try.func25 (by kernel_rfl) rfl #[.int .u64 a0_2] rfl (by (try simp only [List.map_toArray, List.map_cons, List.map_nil]); first | done | rfl | (simp only [List.length_drop, List.length_take]; rfl)) ?_; (with_reducible refine (mezzanineref04_low.calls a0_2 t118 _ A25.out).mono ?_); rintro e w' ⟨rfl, ⟨nd, rfl⟩⟩; refine ⟨_, rfl, ?_⟩))
              go_ret2
              exact ⟨by first | rfl | (simp [errW_none, errW_some] <;> rfl) | (simp [*, errW_none, errW_some] <;> rfl), by repeat (first | (with_reducible first | exact HB.out | apply below_alloc | apply pw_below_drewN | apply below_drew1 | refine below_set ?_ GE115.out) | exact HB.out)⟩
            · rw [if_neg c24] at H
              have c24b0 : (a1 == 49144) = false := beq_eq_false_iff_ne.mpr c24
              have c24b1 : (a1 != 49144) = true := bne_iff_ne.mpr c24
              by_cases c28 : a1 = 49148
              · rw [if_pos c28] at H
                have c28b0 : (a1 == 49148) = true := beq_iff_eq.mpr c28
                have c28b1 : (a1 != 49148) = false := bne_eq_false_iff_eq.mpr c28
                clear c28
                replace H := Option.bind_eq_some_iff.mp H
                obtain ⟨t119, A290, H⟩ := H
                replace H : (some (t119, true)) = some (r1, r2) := H
                have A29 := Aside0.mk A290
                clear A290
                simp only [Option.some.injEq, Prod.mk.injEq] at H
                obtain ⟨rfl, rfl⟩ := H
                go_enter Try.func19, Try.ntmps19
                go_wp2_with (first | ((with_reducible refine gate_dst (N := 3) rfl ?_); refine box_event ?hg (N := 3) ?hd (cs := #[.int .u64 a0_0, .int .u64 a0_1, .int .u64 a0_2]) (t := 32) ?hr ?_; (case hd => rfl); (case hg => rfl); (case hr => first | (go_simp; done) | (go_simp; rfl)); intro gb115 hg w30 hbox hb; have n0_ := Aside0.mk (below_step (by repeat (first | (with_reducible first | exact HB.out | apply below_alloc | apply pw_below_drewN | apply below_drew1) | exact HB.out)) hb); have n1_ := Aside0.mk (hbox); have n2_ := Aside0.mk ((by rw [hg]; exact (below_size (by repeat (first | (with_reducible first | exact HB.out | apply below_alloc | apply pw_below_drewN | apply below_drew1) | exact HB.out))) : w.heap.size ≤ gb115)); have n3_ := Aside0.mk ((by rw [hg]; exact (below_size (by repeat (first | (with_reducible first | exact HB.out | apply below_alloc | apply pw_below_drewN | apply below_drew1) | exact HB.out))) : w.heap.size ≤ gb115)); clear HB; have HB := n0_; have BK115 := n1_; have GW115 := n2_; have GE115 := n3_; clear n0_ n1_ n2_ n3_; clear hb hbox hg; have hcz31_0 : w30.cell? ⟨gb115, 0, none⟩ = some (.int .u64 a0_0) := (blk_cell BK115.out 0).trans rfl; have hcz31_1 : w30.cell? ⟨gb115, 1, none⟩ = some (.int .u64 a0_1) := (blk_cell BK115.out 1).trans rfl; have hcz31_2 : w30.cell? ⟨gb115, 2, none⟩ = some (.int .u64 a0_2) := (blk_cell BK115.out 2).trans rfl; have hfz31_0 := blk_frozen BK115.out 0; have hfz31_1 := blk_frozen BK115.out 1; have hfz31_2 := blk_frozen BK115.out 2) | ((with_reducible refine gate_callee (f := 24) rfl ?_); refine goesL_ (some 45) rfl rfl Try.func24 (by kernel_rfl) rfl #[.int .u64 a0_2] rfl (by (try simp only [List.map_toArray, List.map_cons, List.map_nil]); first | done | rfl | (simp only [List.length_drop, List.length_take]; rfl)) ?_; (with_reducible refine (mezzanineref04_high.calls a0_2 t119 _ A29.out).mono ?_); rintro e w' ⟨rfl, ⟨nd, rfl⟩⟩; refine ⟨_, rfl, ?_⟩))
                go_ret2
                exact ⟨by first | rfl | (simp [errW_none, errW_some] <;> rfl) | (simp [*, errW_none, errW_some] <;> rfl), by repeat (first | (with_reducible first | exact HB.out | apply below_alloc | apply pw_below_drewN | apply below_drew1 | refine below_set ?_ GE115.out) | exact HB.out)⟩
              · rw [if_neg c28] at H
                have c28b0 : (a1 == 49148) = false := beq_eq_false_iff_ne.mpr c28
                have c28b1 : (a1 != 49148) = true := bne_iff_ne.mpr c28
                simp only [Option.some.injEq, Prod.mk.injEq] at H
                obtain ⟨rfl, rfl⟩ := H
                go_enter Try.func19, Try.ntmps19
                go_wp2_with (first | ((with_reducible refine gate_dst (N := 3) rfl ?_); refine box_event ?hg (N := 3) ?hd (cs := #[.int .u64 a0_0, .int .u64 a0_1, .int .u64 a0_2]) (t := 32) ?hr ?_; (case hd => rfl); (case hg => rfl); (case hr => first | (go_simp; done) | (go_simp; rfl)); intro gb115 hg w32 hbox hb; have n0_ := Aside0.mk (below_step (by repeat (first | (with_reducible first | exact HB.out | apply below_alloc | apply pw_below_drewN | apply below_drew1) | exact HB.out)) hb); have n1_ := Aside0.mk (hbox); have n2_ := Aside0.mk ((by rw [hg]; exact (below_size (by repeat (first | (with_reducible first | exact HB.out | apply below_alloc | apply pw_below_drewN | apply below_drew1) | exact HB.out))) : w.heap.size ≤ gb115)); have n3_ := Aside0.mk ((by rw [hg]; exact (below_size (by repeat (first | (with_reducible first | exact HB.out | apply below_alloc | apply pw_below_drewN | apply below_drew1) | exact HB.out))) : w.heap.size ≤ gb115)); clear HB; have HB := n0_; have BK115 := n1_; have GW115 := n2_; have GE115 := n3_; clear n0_ n1_ n2_ n3_; clear hb hbox hg))
                go_ret2
                exact ⟨by first | rfl | (simp [errW_none, errW_some] <;> rfl) | (simp [*, errW_none, errW_some] <;> rfl), by repeat (first | (with_reducible first | exact HB.out | apply below_alloc | apply pw_below_drewN | apply below_drew1 | refine below_set ?_ GE115.out) | exact HB.out)⟩
    · rw [if_neg c12] at H
      have c12b0 : (a2 == 4) = false := beq_eq_false_iff_ne.mpr c12
      have c12b1 : (a2 != 4) = true := bne_iff_ne.mpr c12
      simp only [Option.some.injEq, Prod.mk.injEq] at H
      obtain ⟨rfl, rfl⟩ := H
      go_enter Try.func19, Try.ntmps19
      go_wp2_with (first | ((with_reducible refine gate_dst (N := 3) rfl ?_); refine box_event ?hg (N := 3) ?hd (cs := #[.int .u64 a0_0, .int .u64 a0_1, .int .u64 a0_2]) (t := 32) ?hr ?_; (case hd => rfl); (case hg => rfl); (case hr => first | (go_simp; done) | (go_simp; rfl)); intro gb115 hg w33 hbox hb; have n0_ := Aside0.mk (below_step (by repeat (first | (with_reducible first | exact HB.out | apply below_alloc | apply pw_below_drewN | apply below_drew1) | exact HB.out)) hb); have n1_ := Aside0.mk (hbox); have n2_ := Aside0.mk ((by rw [hg]; exact (below_size (by repeat (first | (with_reducible first | exact HB.out | apply below_alloc | apply pw_below_drewN | apply below_drew1) | exact HB.out))) : w.heap.size ≤ gb115)); have n3_ := Aside0.mk ((by rw [hg]; exact (below_size (by repeat (first | (with_reducible first | exact HB.out | apply below_alloc | apply pw_below_drewN | apply below_drew1) | exact HB.out))) : w.heap.size ≤ gb115)); clear HB; have HB := n0_; have BK115 := n1_; have GW115 := n2_; have GE115 := n3_; clear n0_ n1_ n2_ n3_; clear hb hbox hg))
      go_ret2
      exact ⟨by first | rfl | (simp [errW_none, errW_some] <;> rfl) | (simp [*, errW_none, errW_some] <;> rfl), by repeat (first | (with_reducible first | exact HB.out | apply below_alloc | apply pw_below_drewN | apply below_drew1 | refine below_set ?_ GE115.out) | exact HB.out)⟩

/-! ### mezzanineref04_Clint_Msip: function 20 -/
def mezzanineref04_Clint_Msip.f (a0_0 : Int) (a0_1 : Int) (a0_2 : Int) : Option (Bool) := some (a0_0 == 1)
set_option maxHeartbeats 8000000 in
set_option maxRecDepth 100000 in
theorem mezzanineref04_Clint_Msip.calls (a0_0 : Int) (a0_1 : Int) (a0_2 : Int) (r : Bool) (w : World) (h : mezzanineref04_Clint_Msip.f a0_0 a0_1 a0_2 = some r) :
    Calls Try.prog 20 #[.agg #[.int .u64 a0_0, .int .u64 a0_1, .int .u64 a0_2]] w fun e w' => e = .returned (.bool r) ∧ Below w.heap.size w w' := by
  have hu32 := Try.underlying32
  have HB := Aside0.mk (Below.refl w.heap.size w)
  have H : (some (a0_0 == 1)) = some r := h
  clear h
  obtain rfl := Option.some.inj H
  go_enter Try.func20, Try.ntmps20
  go_wp2_with (first | ((with_reducible refine gate_dst (N := 1) rfl ?_); refine box_event ?hg (N := 1) ?hd (cs := #[.int .u64 a0_0, .int .u64 a0_1, .int .u64 a0_2]) (t := 32) ?hr ?_; (case hd => rfl); (case hg => rfl); (case hr => first | (go_simp; done) | (go_simp; rfl)); intro gb120 hg w2 hbox hb; have n0_ := Aside0.mk (below_step (by repeat (first | (with_reducible first | exact HB.out | apply below_alloc | apply pw_below_drewN | apply below_drew1) | exact HB.out)) hb); have n1_ := Aside0.mk (hbox); have n2_ := Aside0.mk ((by rw [hg]; exact (below_size (by repeat (first | (with_reducible first | exact HB.out | apply below_alloc | apply pw_below_drewN | apply below_drew1) | exact HB.out))) : w.heap.size ≤ gb120)); have n3_ := Aside0.mk ((by rw [hg]; exact (below_size (by repeat (first | (with_reducible first | exact HB.out | apply below_alloc | apply pw_below_drewN | apply below_drew1) | exact HB.out))) : w.heap.size ≤ gb120)); clear HB; have HB := n0_; have BK120 := n1_; have GW120 := n2_; have GE120 := n3_; clear n0_ n1_ n2_ n3_; clear hb hbox hg; have hcz3_0 : w2.cell? ⟨gb120, 0, none⟩ = some (.int .u64 a0_0) := (blk_cell BK120.out 0).trans rfl; have hcz3_1 : w2.cell? ⟨gb120, 1, none⟩ = some (.int .u64 a0_1) := (blk_cell BK120.out 1).trans rfl; have hcz3_2 : w2.cell? ⟨gb120, 2, none⟩ = some (.int .u64 a0_2) := (blk_cell BK120.out 2).trans rfl; have hfz3_0 := blk_frozen BK120.out 0; have hfz3_1 := blk_frozen BK120.out 1; have hfz3_2 := blk_frozen BK120.out 2))
  go_ret
  exact ⟨by first | rfl | (simp [errW_none, errW_some] <;> rfl) | (simp [*, errW_none, errW_some] <;> rfl), by repeat (first | (with_reducible first | exact HB.out | apply below_alloc | apply pw_below_drewN | apply below_drew1 | refine below_set ?_ GE120.out) | exact HB.out)⟩

/-! ### mezzanineref04_Clint_Mtip: function 21 -/
def mezzanineref04_Clint_Mtip.f (a0_0 : Int) (a0_1 : Int) (a0_2 : Int) : Option (Bool) := some (decide (a0_2 ≥ a0_1))
set_option maxHeartbeats 8000000 in
set_option maxRecDepth 100000 in
theorem mezzanineref04_Clint_Mtip.calls (a0_0 : Int) (a0_1 : Int) (a0_2 : Int) (r : Bool) (w : World) (h : mezzanineref04_Clint_Mtip.f a0_0 a0_1 a0_2 = some r) :
    Calls Try.prog 21 #[.agg #[.int .u64 a0_0, .int .u64 a0_1, .int .u64 a0_2]] w fun e w' => e = .returned (.bool r) ∧ Below w.heap.size w w' := by
  have hu32 := Try.underlying32
  have HB := Aside0.mk (Below.refl w.heap.size w)
  have H : (some (decide (a0_2 ≥ a0_1))) = some r := h
  clear h
  obtain rfl := Option.some.inj H
  go_enter Try.func21, Try.ntmps21
  go_wp2_with (first | ((with_reducible refine gate_dst (N := 1) rfl ?_); refine box_event ?hg (N := 1) ?hd (cs := #[.int .u64 a0_0, .int .u64 a0_1, .int .u64 a0_2]) (t := 32) ?hr ?_; (case hd => rfl); (case hg => rfl); (case hr => first | (go_simp; done) | (go_simp; rfl)); intro gb121 hg w2 hbox hb; have n0_ := Aside0.mk (below_step (by repeat (first | (with_reducible first | exact HB.out | apply below_alloc | apply pw_below_drewN | apply below_drew1) | exact HB.out)) hb); have n1_ := Aside0.mk (hbox); have n2_ := Aside0.mk ((by rw [hg]; exact (below_size (by repeat (first | (with_reducible first | exact HB.out | apply below_alloc | apply pw_below_drewN | apply below_drew1) | exact HB.out))) : w.heap.size ≤ gb121)); have n3_ := Aside0.mk ((by rw [hg]; exact (below_size (by repeat (first | (with_reducible first | exact HB.out | apply below_alloc | apply pw_below_drewN | apply below_drew1) | exact HB.out))) : w.heap.size ≤ gb121)); clear HB; have HB := n0_; have BK121 := n1_; have GW121 := n2_; have GE121 := n3_; clear n0_ n1_ n2_ n3_; clear hb hbox hg; have hcz3_0 : w2.cell? ⟨gb121, 0, none⟩ = some (.int .u64 a0_0) := (blk_cell BK121.out 0).trans rfl; have hcz3_1 : w2.cell? ⟨gb121, 1, none⟩ = some (.int .u64 a0_1) := (blk_cell BK121.out 1).trans rfl; have hcz3_2 : w2.cell? ⟨gb121, 2, none⟩ = some (.int .u64 a0_2) := (blk_cell BK121.out 2).trans rfl; have hfz3_0 := blk_frozen BK121.out 0; have hfz3_1 := blk_frozen BK121.out 1; have hfz3_2 := blk_frozen BK121.out 2))
  go_ret
  exact ⟨by first | rfl | (simp [errW_none, errW_some] <;> rfl) | (simp [*, errW_none, errW_some] <;> rfl), by repeat (first | (with_reducible first | exact HB.out | apply below_alloc | apply pw_below_drewN | apply below_drew1 | refine below_set ?_ GE121.out) | exact HB.out)⟩

-- NOT PRINTED: function 6 (mezzaninelaw04_ClintPlays)

end Go.Proofs.Ythdgkafcgaohiaa.Q
