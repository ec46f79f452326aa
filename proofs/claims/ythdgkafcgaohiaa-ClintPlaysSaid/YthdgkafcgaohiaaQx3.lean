/- Where the Lean function of a Go function gives a value, the Go call returns that value and changes nothing that was there: for every input. (By a program of this session, and by hand.) -/
import Derived.Test.YthdgkafcgaohiaaQx0
import Derived.Test.YthdgkafcgaohiaaQx2
import Derived.Test.YthdgkafcgaohiaaQx4
namespace Go.Proofs.Ythdgkafcgaohiaa.Q
open Go.RowKit Go.Proofs.YthdgkafcgaohiaaW.PrintWords Go.Proofs.YthdgkafcgaohiaaW.PrintLast Go.Proofs.YthdgkafcgaohiaaW.PrintMore
attribute [local go_sem] max2_int min2_int max_two min_two max_three min_three max_four min_four   -- for this text's walks alone
set_option linter.unusedVariables false
set_option linter.unusedSimpArgs false

/-! ### mezzanineref04_Clint_Write: by hand -/
section
def mezzanineref04_Clint_Write.f (s c n off nn v : Int) : Option (Bool × Int × Int × Int) :=
  if nn = 8 then (if off = 16384 then some (true, s, v, n) else if off = 49144 then some (true, s, c, v) else some (false, s, c, n))
  else if nn = 4 then (if off = 0 then some (true, Int.tmod v 2, c, n) else if off = 16384 then some (true, s, (IntKind.u64.wrap (IntKind.u64.wrap ((IntKind.u64.wrap (Int.tdiv c 4294967296)) * 4294967296) + (Int.tmod v 4294967296))), n) else if off = 16388 then some (true, s, (IntKind.u64.wrap (IntKind.u64.wrap ((Int.tmod v 4294967296) * 4294967296) + (Int.tmod c 4294967296))), n) else if off = 49144 then some (true, s, c, (IntKind.u64.wrap (IntKind.u64.wrap ((IntKind.u64.wrap (Int.tdiv n 4294967296)) * 4294967296) + (Int.tmod v 4294967296)))) else if off = 49148 then some (true, s, c, (IntKind.u64.wrap (IntKind.u64.wrap ((Int.tmod v 4294967296) * 4294967296) + (Int.tmod n 4294967296)))) else some (false, s, c, n))
  else some (false, s, c, n)
set_option maxHeartbeats 16000000 in
set_option maxRecDepth 100000 in
theorem mezzanineref04_Clint_Write.calls (g : Nat) (s c n off nn v : Int) (r1 : Bool) (r2 r3 r4 : Int) (w0 w : World) (hI : IsS32 w0 w g s c n) (hB : Below w0.heap.size w0 w) (h : mezzanineref04_Clint_Write.f s c n off nn v = some (r1, r2, r3, r4)) :
    Calls Try.prog 12 #[.pointer (some ⟨g, 0, none⟩), .int .u64 off, .int .i64 nn, .int .u64 v] w fun e w' => e = .returned (.bool r1) ∧ IsS32 w0 w' g r2 r3 r4 ∧ Below w0.heap.size w0 w' ∧ KeepBut w w' g none := by
  have hu32 := Try.underlying32
  unfold mezzanineref04_Clint_Write.f at h
  have HI0 := Lib.hid hI
  have HB := Lib.hid hB
  have HK := Lib.hid (KeepBut.refl w g none)
  have hc0 := cellS32_0 hI.1; have hc1 := cellS32_1 hI.1; have hc2 := cellS32_2 hI.1
  have hf0 := blk_frozen hI.1 0; have hf1 := blk_frozen hI.1 1; have hf2 := blk_frozen hI.1 2
  clear hI hB
  by_cases d1 : nn = 8
  · rw [if_pos d1] at h
    have d1b : (nn == 8) = true := beq_iff_eq.mpr d1
    have d1n : (nn != 8) = false := bne_eq_false_iff_eq.mpr d1
    clear d1
    by_cases c1 : off = 16384
    · rw [if_pos c1] at h
      have c1b : (off == 16384) = true := beq_iff_eq.mpr c1
      have c1n : (off != 16384) = false := bne_eq_false_iff_eq.mpr c1
      clear c1
      simp only [Option.some.injEq, Prod.mk.injEq] at h
      obtain ⟨rfl, rfl, rfl, rfl⟩ := h
      go_enter Try.func12, Try.ntmps12
      go_wp2
      go_ret
      exact ⟨rfl, by repeat (first | (with_reducible first | exact HI0.out | apply IsS32.drewN | apply IsS32.drew | apply IsS32.set_0 | apply IsS32.set_1 | apply IsS32.set_2) | exact HI0.out), by repeat (first | (with_reducible first | exact HB.out | apply pw_below_drewN | apply below_drew1 | refine below_set ?_ (IsS32.ge HI0.out)) | exact HB.out), by repeat (first | (with_reducible first | exact HK.out | apply KeepBut.set_ | apply keep_drewN | apply keep_drew) | exact HK.out)⟩
    · rw [if_neg c1] at h
      have c1b : (off == 16384) = false := beq_eq_false_iff_ne.mpr c1
      have c1n : (off != 16384) = true := bne_iff_ne.mpr c1
      clear c1
      by_cases c2 : off = 49144
      · rw [if_pos c2] at h
        have c2b : (off == 49144) = true := beq_iff_eq.mpr c2
        have c2n : (off != 49144) = false := bne_eq_false_iff_eq.mpr c2
        clear c2
        simp only [Option.some.injEq, Prod.mk.injEq] at h
        obtain ⟨rfl, rfl, rfl, rfl⟩ := h
        go_enter Try.func12, Try.ntmps12
        go_wp2
        go_ret
        exact ⟨rfl, by repeat (first | (with_reducible first | exact HI0.out | apply IsS32.drewN | apply IsS32.drew | apply IsS32.set_0 | apply IsS32.set_1 | apply IsS32.set_2) | exact HI0.out), by repeat (first | (with_reducible first | exact HB.out | apply pw_below_drewN | apply below_drew1 | refine below_set ?_ (IsS32.ge HI0.out)) | exact HB.out), by repeat (first | (with_reducible first | exact HK.out | apply KeepBut.set_ | apply keep_drewN | apply keep_drew) | exact HK.out)⟩
      · rw [if_neg c2] at h
        have c2b : (off == 49144) = false := beq_eq_false_iff_ne.mpr c2
        have c2n : (off != 49144) = true := bne_iff_ne.mpr c2
        clear c2
        simp only [Option.some.injEq, Prod.mk.injEq] at h
        obtain ⟨rfl, rfl, rfl, rfl⟩ := h
        go_enter Try.func12, Try.ntmps12
        go_wp2
        go_ret
        exact ⟨rfl, by repeat (first | (with_reducible first | exact HI0.out | apply IsS32.drewN | apply IsS32.drew | apply IsS32.set_0 | apply IsS32.set_1 | apply IsS32.set_2) | exact HI0.out), by repeat (first | (with_reducible first | exact HB.out | apply pw_below_drewN | apply below_drew1 | refine below_set ?_ (IsS32.ge HI0.out)) | exact HB.out), by repeat (first | (with_reducible first | exact HK.out | apply KeepBut.set_ | apply keep_drewN | apply keep_drew) | exact HK.out)⟩
  · rw [if_neg d1] at h
    have d1b : (nn == 8) = false := beq_eq_false_iff_ne.mpr d1
    have d1n : (nn != 8) = true := bne_iff_ne.mpr d1
    clear d1
    by_cases d2 : nn = 4
    · rw [if_pos d2] at h
      have d2b : (nn == 4) = true := beq_iff_eq.mpr d2
      have d2n : (nn != 4) = false := bne_eq_false_iff_eq.mpr d2
      clear d2
      by_cases c1 : off = 0
      · rw [if_pos c1] at h
        have c1b : (off == 0) = true := beq_iff_eq.mpr c1
        have c1n : (off != 0) = false := bne_eq_false_iff_eq.mpr c1
        clear c1
        simp only [Option.some.injEq, Prod.mk.injEq] at h
        obtain ⟨rfl, rfl, rfl, rfl⟩ := h
        go_enter Try.func12, Try.ntmps12
        go_wp2
        go_ret
        exact ⟨rfl, by repeat (first | (with_reducible first | exact HI0.out | apply IsS32.drewN | apply IsS32.drew | apply IsS32.set_0 | apply IsS32.set_1 | apply IsS32.set_2) | exact HI0.out), by repeat (first | (with_reducible first | exact HB.out | apply pw_below_drewN | apply below_drew1 | refine below_set ?_ (IsS32.ge HI0.out)) | exact HB.out), by repeat (first | (with_reducible first | exact HK.out | apply KeepBut.set_ | apply keep_drewN | apply keep_drew) | exact HK.out)⟩
      · rw [if_neg c1] at h
        have c1b : (off == 0) = false := beq_eq_false_iff_ne.mpr c1
        have c1n : (off != 0) = true := bne_iff_ne.mpr c1
        clear c1
        by_cases c2 : off = 16384
        · rw [if_pos c2] at h
          have c2b : (off == 16384) = true := beq_iff_eq.mpr c2
          have c2n : (off != 16384) = false := bne_eq_false_iff_eq.mpr c2
          clear c2
          simp only [Option.some.injEq, Prod.mk.injEq] at h
          obtain ⟨rfl, rfl, rfl, rfl⟩ := h
          go_enter Try.func12, Try.ntmps12
          go_wp2_with fail
          refine (mezzanineref04_high.calls c _ _ rfl).mono ?_
          rintro e w1 ⟨rfl, ⟨nd, rfl⟩⟩
          generalize hq_ : World.drewN w nd = W1
          have HI1 := Lib.hid (show IsS32 w0 W1 g s c n from hq_ ▸ IsS32.drewN HI0.out nd)
          have HB1 := Lib.hid (show Below w0.heap.size w0 W1 from hq_ ▸ pw_below_drewN HB.out nd)
          have HK1 := Lib.hid (show KeepBut w W1 g none from hq_ ▸ keep_drewN HK.out nd)
          clear hq_ hc0 hc1 hc2 hf0 hf1 hf2
          have hc0 := cellS32_0 HI1.out.1; have hc1 := cellS32_1 HI1.out.1; have hc2 := cellS32_2 HI1.out.1
          have hf0 := blk_frozen HI1.out.1 0; have hf1 := blk_frozen HI1.out.1 1; have hf2 := blk_frozen HI1.out.1 2
          go_wp2_with fail
          refine (mezzanineref04_low.calls v _ _ rfl).mono ?_
          rintro e w2 ⟨rfl, ⟨nd2, rfl⟩⟩
          go_wp2
          go_ret
          exact ⟨rfl, by repeat (first | (with_reducible first | exact HI1.out | apply IsS32.drewN | apply IsS32.drew | apply IsS32.set_0 | apply IsS32.set_1 | apply IsS32.set_2) | exact HI1.out), by repeat (first | (with_reducible first | exact HB1.out | apply pw_below_drewN | apply below_drew1 | refine below_set ?_ (IsS32.ge HI1.out)) | exact HB1.out), by repeat (first | (with_reducible first | exact HK1.out | apply KeepBut.set_ | apply keep_drewN | apply keep_drew) | exact HK1.out)⟩
        · rw [if_neg c2] at h
          have c2b : (off == 16384) = false := beq_eq_false_iff_ne.mpr c2
          have c2n : (off != 16384) = true := bne_iff_ne.mpr c2
          clear c2
          by_cases c3 : off = 16388
          · rw [if_pos c3] at h
            have c3b : (off == 16388) = true := beq_iff_eq.mpr c3
            have c3n : (off != 16388) = false := bne_eq_false_iff_eq.mpr c3
            clear c3
            simp only [Option.some.injEq, Prod.mk.injEq] at h
            obtain ⟨rfl, rfl, rfl, rfl⟩ := h
            go_enter Try.func12, Try.ntmps12
            go_wp2_with fail
            refine start_ (n := 13) (S := fun w' => w'.cell? ⟨g, 1, none⟩ = some (.int .u64 c)) (ds := [12]) #[false, false, false, false, false, false, false, false, false, false, false, false, false] (by kernel_rfl) rfl rfl (cellS32_1 (IsS32.drew HI0.out).1) (fun hHeld => ?_)
            have HI1 := Lib.hid (IsS32.drew HI0.out); have HB1 := Lib.hid (below_drew1 HB.out); have HK1 := Lib.hid (keep_drew HK.out)
            clear hc0 hc1 hc2 hf0 hf1 hf2
            generalize World.drew w = W1 at HI1 HB1 HK1 hHeld ⊢
            refine pure_ (i := 0) (N := some 52) (v := ?_) (a' := ?_) #[true, false, false, false, false, false, false, false, false, false, false, false, false] rfl rfl (by kernel_rfl) (fun _ _ _ h => h) (Or.inl ⟨by rfl, ?_⟩) ?_ ?_
            rotate_left
            · intro w'
              go_simp
              with_reducible rfl
            rotate_left
            · simp only [Act.put, List.setIfInBounds_toArray, List.set_cons_zero, List.set_cons_succ, i64_w, i32_w]
              rfl
            refine pure_ (i := 1) (N := some 53) (v := ?_) (a' := ?_) #[true, true, false, false, false, false, false, false, false, false, false, false, false] rfl rfl (by kernel_rfl) (fun _ _ _ h => h) (Or.inl ⟨by rfl, ?_⟩) ?_ ?_
            rotate_left
            · intro w'
              go_simp
              with_reducible rfl
            rotate_left
            · simp only [Act.put, List.setIfInBounds_toArray, List.set_cons_zero, List.set_cons_succ, i64_w, i32_w]
              rfl
            refine pure_ (i := 4) (N := some 56) (v := ?_) (a' := ?_) #[true, true, false, false, true, false, false, false, false, false, false, false, false] rfl rfl (by kernel_rfl) (fun _ _ _ h => h) (Or.inl ⟨by rfl, ?_⟩) ?_ ?_
            rotate_left
            · intro w'
              go_simp
              with_reducible rfl
            rotate_left
            · simp only [Act.put, List.setIfInBounds_toArray, List.set_cons_zero, List.set_cons_succ, i64_w, i32_w]
              rfl
            refine pure_ (i := 5) (N := some 57) (v := ?_) (a' := ?_) #[true, true, false, false, true, true, false, false, false, false, false, false, false] rfl rfl (by kernel_rfl) (fun _ _ _ h => h) (Or.inl ⟨by rfl, ?_⟩) ?_ ?_
            rotate_left
            · intro w'
              go_simp
              with_reducible rfl
            rotate_left
            · simp only [Act.put, List.setIfInBounds_toArray, List.set_cons_zero, List.set_cons_succ, i64_w, i32_w]
              rfl
            refine pure_ (i := 6) (N := some 58) (v := ?_) (a' := ?_) #[true, true, false, false, true, true, true, false, false, false, false, false, false] rfl rfl (by kernel_rfl) (fun _ _ _ h => h) (Or.inl ⟨by rfl, ?_⟩) ?_ ?_
            rotate_left
            · intro w'
              go_simp
              with_reducible rfl
            rotate_left
            · simp only [Act.put, List.setIfInBounds_toArray, List.set_cons_zero, List.set_cons_succ, i64_w, i32_w]
              rfl
            refine take_ (i := 7) (N := some 59) (v := ?_) (a' := ?_) #[true, true, false, false, true, true, true, true, false, false, false, false, false] rfl rfl (by kernel_rfl) (fun _ _ _ h => h) (Or.inl ⟨by rfl, ?_⟩) hHeld ?_ ?_
            rotate_left
            · intro w' s0
              go_simp
              with_reducible rfl
            rotate_left
            · simp only [Act.put, List.setIfInBounds_toArray, List.set_cons_zero, List.set_cons_succ, i64_w, i32_w]
              rfl
            refine one_ (i := 2) (N := some 54) #[true, true, true, false, true, true, true, true, false, false, false, false, false] rfl rfl (by kernel_rfl) (by decide) (fun K hK => ?_)
            refine goes_ Try.func25 (by kernel_rfl) rfl #[.int .u64 v] (by rfl) rfl rfl (by simp only [List.map_toArray, List.map_cons, List.map_nil]; rfl) ?_
            with_reducible refine (mezzanineref04_low.calls v _ _ rfl).mono ?_
            rintro e w2 ⟨rfl, ⟨nd, rfl⟩⟩
            refine ⟨_, rfl, ?_⟩
            have HI2 := Lib.hid (IsS32.drewN HI1.out nd); have HB2 := Lib.hid (pw_below_drewN HB1.out nd); have HK2 := Lib.hid (keep_drewN HK1.out nd)
            generalize World.drewN W1 nd = W2 at HI2 HB2 HK2 ⊢
            refine hK.out _ _ (cellS32_1 HI2.out.1) (fun hHeld => ?_)
            clear hK K
            refine norm_ (a' := ?_) ?_ ?_
            rotate_left
            · show Act.put _ (some 54) _ = _
              simp only [Act.put, List.setIfInBounds_toArray, List.set_cons_zero, List.set_cons_succ, i64_w, i32_w]
              rfl
            refine pure_ (i := 3) (N := some 55) (v := ?_) (a' := ?_) #[true, true, true, true, true, true, true, true, false, false, false, false, false] rfl rfl (by kernel_rfl) (fun _ _ _ h => h) (Or.inl ⟨by rfl, ?_⟩) ?_ ?_
            rotate_left
            · intro w'
              go_simp
              with_reducible rfl
            rotate_left
            · simp only [Act.put, List.setIfInBounds_toArray, List.set_cons_zero, List.set_cons_succ, i64_w, i32_w]
              rfl
            refine one_ (i := 8) (N := some 60) #[true, true, true, true, true, true, true, true, true, false, false, false, false] rfl rfl (by kernel_rfl) (by decide) (fun K hK => ?_)
            refine goes_ Try.func25 (by kernel_rfl) rfl #[.int .u64 c] (by rfl) rfl rfl (by simp only [List.map_toArray, List.map_cons, List.map_nil]; rfl) ?_
            with_reducible refine (mezzanineref04_low.calls c _ _ rfl).mono ?_
            rintro e w3 ⟨rfl, ⟨nd, rfl⟩⟩
            refine ⟨_, rfl, ?_⟩
            have HI3 := Lib.hid (IsS32.drewN HI2.out nd); have HB3 := Lib.hid (pw_below_drewN HB2.out nd); have HK3 := Lib.hid (keep_drewN HK2.out nd)
            generalize World.drewN W2 nd = W3 at HI3 HB3 HK3 ⊢
            refine hK.out _ _ (cellS32_1 HI3.out.1) (fun hHeld => ?_)
            clear hK K
            refine norm_ (a' := ?_) ?_ ?_
            rotate_left
            · show Act.put _ (some 60) _ = _
              simp only [Act.put, List.setIfInBounds_toArray, List.set_cons_zero, List.set_cons_succ, i64_w, i32_w]
              rfl
            refine pure_ (i := 9) (N := some 61) (v := ?_) (a' := ?_) #[true, true, true, true, true, true, true, true, true, true, false, false, false] rfl rfl (by kernel_rfl) (fun _ _ _ h => h) (Or.inl ⟨by rfl, ?_⟩) ?_ ?_
            rotate_left
            · intro w'
              go_simp
              with_reducible rfl
            rotate_left
            · simp only [Act.put, List.setIfInBounds_toArray, List.set_cons_zero, List.set_cons_succ, i64_w, i32_w]
              rfl
            refine pure_ (i := 10) (N := some 62) (v := ?_) (a' := ?_) #[true, true, true, true, true, true, true, true, true, true, true, false, false] rfl rfl (by kernel_rfl) (fun _ _ _ h => h) (Or.inl ⟨by rfl, ?_⟩) ?_ ?_
            rotate_left
            · intro w'
              go_simp
              with_reducible rfl
            rotate_left
            · simp only [Act.put, List.setIfInBounds_toArray, List.set_cons_zero, List.set_cons_succ, i64_w, i32_w]
              rfl
            refine pure_ (i := 11) (N := some 63) (v := ?_) (a' := ?_) #[true, true, true, true, true, true, true, true, true, true, true, true, false] rfl rfl (by kernel_rfl) (fun _ _ _ h => h) (Or.inl ⟨by rfl, ?_⟩) ?_ ?_
            rotate_left
            · intro w'
              go_simp
              with_reducible rfl
            rotate_left
            · simp only [Act.put, List.setIfInBounds_toArray, List.set_cons_zero, List.set_cons_succ, i64_w, i32_w]
              rfl
            refine last_ (i := 12) (N := none) #[true, true, true, true, true, true, true, true, true, true, true, true, true] rfl rfl (by kernel_rfl) (by decide) (fun K hK => ?_)
            have hs := cellS32_1 HI3.out.1; have hfs := blk_frozen HI3.out.1 1
            refine skip_ (w1 := ?_) (by rfl) rfl ?_ ?_
            rotate_left
            · go_simp
              rfl
            refine hK.out _ _ ?_
            clear hK K
            refine done_ (by kernel_rfl) ?_
            go_wp2
            go_ret
            exact ⟨rfl, by repeat (first | (with_reducible first | exact HI3.out | apply IsS32.drewN | apply IsS32.drew | apply IsS32.set_0 | apply IsS32.set_1 | apply IsS32.set_2) | exact HI3.out), by repeat (first | (with_reducible first | exact HB3.out | apply pw_below_drewN | apply below_drew1 | refine below_set ?_ (IsS32.ge HI3.out)) | exact HB3.out), by repeat (first | (with_reducible first | exact HK3.out | apply KeepBut.set_ | apply keep_drewN | apply keep_drew) | exact HK3.out)⟩
          · rw [if_neg c3] at h
            have c3b : (off == 16388) = false := beq_eq_false_iff_ne.mpr c3
            have c3n : (off != 16388) = true := bne_iff_ne.mpr c3
            clear c3
            by_cases c4 : off = 49144
            · rw [if_pos c4] at h
              have c4b : (off == 49144) = true := beq_iff_eq.mpr c4
              have c4n : (off != 49144) = false := bne_eq_false_iff_eq.mpr c4
              clear c4
              simp only [Option.some.injEq, Prod.mk.injEq] at h
              obtain ⟨rfl, rfl, rfl, rfl⟩ := h
              go_enter Try.func12, Try.ntmps12
              go_wp2_with fail
              refine (mezzanineref04_high.calls n _ _ rfl).mono ?_
              rintro e w1 ⟨rfl, ⟨nd, rfl⟩⟩
              generalize hq_ : World.drewN w nd = W1
              have HI1 := Lib.hid (show IsS32 w0 W1 g s c n from hq_ ▸ IsS32.drewN HI0.out nd)
              have HB1 := Lib.hid (show Below w0.heap.size w0 W1 from hq_ ▸ pw_below_drewN HB.out nd)
              have HK1 := Lib.hid (show KeepBut w W1 g none from hq_ ▸ keep_drewN HK.out nd)
              clear hq_ hc0 hc1 hc2 hf0 hf1 hf2
              have hc0 := cellS32_0 HI1.out.1; have hc1 := cellS32_1 HI1.out.1; have hc2 := cellS32_2 HI1.out.1
              have hf0 := blk_frozen HI1.out.1 0; have hf1 := blk_frozen HI1.out.1 1; have hf2 := blk_frozen HI1.out.1 2
              go_wp2_with fail
              refine (mezzanineref04_low.calls v _ _ rfl).mono ?_
              rintro e w2 ⟨rfl, ⟨nd2, rfl⟩⟩
              go_wp2
              go_ret
              exact ⟨rfl, by repeat (first | (with_reducible first | exact HI1.out | apply IsS32.drewN | apply IsS32.drew | apply IsS32.set_0 | apply IsS32.set_1 | apply IsS32.set_2) | exact HI1.out), by repeat (first | (with_reducible first | exact HB1.out | apply pw_below_drewN | apply below_drew1 | refine below_set ?_ (IsS32.ge HI1.out)) | exact HB1.out), by repeat (first | (with_reducible first | exact HK1.out | apply KeepBut.set_ | apply keep_drewN | apply keep_drew) | exact HK1.out)⟩
            · rw [if_neg c4] at h
              have c4b : (off == 49144) = false := beq_eq_false_iff_ne.mpr c4
              have c4n : (off != 49144) = true := bne_iff_ne.mpr c4
              clear c4
              by_cases c5 : off = 49148
              · rw [if_pos c5] at h
                have c5b : (off == 49148) = true := beq_iff_eq.mpr c5
                have c5n : (off != 49148) = false := bne_eq_false_iff_eq.mpr c5
                clear c5
                simp only [Option.some.injEq, Prod.mk.injEq] at h
                obtain ⟨rfl, rfl, rfl, rfl⟩ := h
                go_enter Try.func12, Try.ntmps12
                go_wp2_with fail
                refine start_ (n := 13) (S := fun w' => w'.cell? ⟨g, 2, none⟩ = some (.int .u64 n)) (ds := [12]) #[false, false, false, false, false, false, false, false, false, false, false, false, false] (by kernel_rfl) rfl rfl (cellS32_2 (IsS32.drew HI0.out).1) (fun hHeld => ?_)
                have HI1 := Lib.hid (IsS32.drew HI0.out); have HB1 := Lib.hid (below_drew1 HB.out); have HK1 := Lib.hid (keep_drew HK.out)
                clear hc0 hc1 hc2 hf0 hf1 hf2
                generalize World.drew w = W1 at HI1 HB1 HK1 hHeld ⊢
                refine pure_ (i := 0) (N := some 80) (v := ?_) (a' := ?_) #[true, false, false, false, false, false, false, false, false, false, false, false, false] rfl rfl (by kernel_rfl) (fun _ _ _ h => h) (Or.inl ⟨by rfl, ?_⟩) ?_ ?_
                rotate_left
                · intro w'
                  go_simp
                  with_reducible rfl
                rotate_left
                · simp only [Act.put, List.setIfInBounds_toArray, List.set_cons_zero, List.set_cons_succ, i64_w, i32_w]
                  rfl
                refine pure_ (i := 1) (N := some 81) (v := ?_) (a' := ?_) #[true, true, false, false, false, false, false, false, false, false, false, false, false] rfl rfl (by kernel_rfl) (fun _ _ _ h => h) (Or.inl ⟨by rfl, ?_⟩) ?_ ?_
                rotate_left
                · intro w'
                  go_simp
                  with_reducible rfl
                rotate_left
                · simp only [Act.put, List.setIfInBounds_toArray, List.set_cons_zero, List.set_cons_succ, i64_w, i32_w]
                  rfl
                refine pure_ (i := 4) (N := some 84) (v := ?_) (a' := ?_) #[true, true, false, false, true, false, false, false, false, false, false, false, false] rfl rfl (by kernel_rfl) (fun _ _ _ h => h) (Or.inl ⟨by rfl, ?_⟩) ?_ ?_
                rotate_left
                · intro w'
                  go_simp
                  with_reducible rfl
                rotate_left
                · simp only [Act.put, List.setIfInBounds_toArray, List.set_cons_zero, List.set_cons_succ, i64_w, i32_w]
                  rfl
                refine pure_ (i := 5) (N := some 85) (v := ?_) (a' := ?_) #[true, true, false, false, true, true, false, false, false, false, false, false, false] rfl rfl (by kernel_rfl) (fun _ _ _ h => h) (Or.inl ⟨by rfl, ?_⟩) ?_ ?_
                rotate_left
                · intro w'
                  go_simp
                  with_reducible rfl
                rotate_left
                · simp only [Act.put, List.setIfInBounds_toArray, List.set_cons_zero, List.set_cons_succ, i64_w, i32_w]
                  rfl
                refine pure_ (i := 6) (N := some 86) (v := ?_) (a' := ?_) #[true, true, false, false, true, true, true, false, false, false, false, false, false] rfl rfl (by kernel_rfl) (fun _ _ _ h => h) (Or.inl ⟨by rfl, ?_⟩) ?_ ?_
                rotate_left
                · intro w'
                  go_simp
                  with_reducible rfl
                rotate_left
                · simp only [Act.put, List.setIfInBounds_toArray, List.set_cons_zero, List.set_cons_succ, i64_w, i32_w]
                  rfl
                refine take_ (i := 7) (N := some 87) (v := ?_) (a' := ?_) #[true, true, false, false, true, true, true, true, false, false, false, false, false] rfl rfl (by kernel_rfl) (fun _ _ _ h => h) (Or.inl ⟨by rfl, ?_⟩) hHeld ?_ ?_
                rotate_left
                · intro w' s0
                  go_simp
                  with_reducible rfl
                rotate_left
                · simp only [Act.put, List.setIfInBounds_toArray, List.set_cons_zero, List.set_cons_succ, i64_w, i32_w]
                  rfl
                refine one_ (i := 2) (N := some 82) #[true, true, true, false, true, true, true, true, false, false, false, false, false] rfl rfl (by kernel_rfl) (by decide) (fun K hK => ?_)
                refine goes_ Try.func25 (by kernel_rfl) rfl #[.int .u64 v] (by rfl) rfl rfl (by simp only [List.map_toArray, List.map_cons, List.map_nil]; rfl) ?_
                with_reducible refine (mezzanineref04_low.calls v _ _ rfl).mono ?_
                rintro e w2 ⟨rfl, ⟨nd, rfl⟩⟩
                refine ⟨_, rfl, ?_⟩
                have HI2 := Lib.hid (IsS32.drewN HI1.out nd); have HB2 := Lib.hid (pw_below_drewN HB1.out nd); have HK2 := Lib.hid (keep_drewN HK1.out nd)
                generalize World.drewN W1 nd = W2 at HI2 HB2 HK2 ⊢
                refine hK.out _ _ (cellS32_2 HI2.out.1) (fun hHeld => ?_)
                clear hK K
                refine norm_ (a' := ?_) ?_ ?_
                rotate_left
                · show Act.put _ (some 82) _ = _
                  simp only [Act.put, List.setIfInBounds_toArray, List.set_cons_zero, List.set_cons_succ, i64_w, i32_w]
                  rfl
                refine pure_ (i := 3) (N := some 83) (v := ?_) (a' := ?_) #[true, true, true, true, true, true, true, true, false, false, false, false, false] rfl rfl (by kernel_rfl) (fun _ _ _ h => h) (Or.inl ⟨by rfl, ?_⟩) ?_ ?_
                rotate_left
                · intro w'
                  go_simp
                  with_reducible rfl
                rotate_left
                · simp only [Act.put, List.setIfInBounds_toArray, List.set_cons_zero, List.set_cons_succ, i64_w, i32_w]
                  rfl
                refine one_ (i := 8) (N := some 88) #[true, true, true, true, true, true, true, true, true, false, false, false, false] rfl rfl (by kernel_rfl) (by decide) (fun K hK => ?_)
                refine goes_ Try.func25 (by kernel_rfl) rfl #[.int .u64 n] (by rfl) rfl rfl (by simp only [List.map_toArray, List.map_cons, List.map_nil]; rfl) ?_
                with_reducible refine (mezzanineref04_low.calls n _ _ rfl).mono ?_
                rintro e w3 ⟨rfl, ⟨nd, rfl⟩⟩
                refine ⟨_, rfl, ?_⟩
                have HI3 := Lib.hid (IsS32.drewN HI2.out nd); have HB3 := Lib.hid (pw_below_drewN HB2.out nd); have HK3 := Lib.hid (keep_drewN HK2.out nd)
                generalize World.drewN W2 nd = W3 at HI3 HB3 HK3 ⊢
                refine hK.out _ _ (cellS32_2 HI3.out.1) (fun hHeld => ?_)
                clear hK K
                refine norm_ (a' := ?_) ?_ ?_
                rotate_left
                · show Act.put _ (some 88) _ = _
                  simp only [Act.put, List.setIfInBounds_toArray, List.set_cons_zero, List.set_cons_succ, i64_w, i32_w]
                  rfl
                refine pure_ (i := 9) (N := some 89) (v := ?_) (a' := ?_) #[true, true, true, true, true, true, true, true, true, true, false, false, false] rfl rfl (by kernel_rfl) (fun _ _ _ h => h) (Or.inl ⟨by rfl, ?_⟩) ?_ ?_
                rotate_left
                · intro w'
                  go_simp
                  with_reducible rfl
                rotate_left
                · simp only [Act.put, List.setIfInBounds_toArray, List.set_cons_zero, List.set_cons_succ, i64_w, i32_w]
                  rfl
                refine pure_ (i := 10) (N := some 90) (v := ?_) (a' := ?_) #[true, true, true, true, true, true, true, true, true, true, true, false, false] rfl rfl (by kernel_rfl) (fun _ _ _ h => h) (Or.inl ⟨by rfl, ?_⟩) ?_ ?_
                rotate_left
                · intro w'
                  go_simp
                  with_reducible rfl
                rotate_left
                · simp only [Act.put, List.setIfInBounds_toArray, List.set_cons_zero, List.set_cons_succ, i64_w, i32_w]
                  rfl
                refine pure_ (i := 11) (N := some 91) (v := ?_) (a' := ?_) #[true, true, true, true, true, true, true, true, true, true, true, true, false] rfl rfl (by kernel_rfl) (fun _ _ _ h => h) (Or.inl ⟨by rfl, ?_⟩) ?_ ?_
                rotate_left
                · intro w'
                  go_simp
                  with_reducible rfl
                rotate_left
                · simp only [Act.put, List.setIfInBounds_toArray, List.set_cons_zero, List.set_cons_succ, i64_w, i32_w]
                  rfl
                refine last_ (i := 12) (N := none) #[true, true, true, true, true, true, true, true, true, true, true, true, true] rfl rfl (by kernel_rfl) (by decide) (fun K hK => ?_)
                have hs := cellS32_2 HI3.out.1; have hfs := blk_frozen HI3.out.1 2
                refine skip_ (w1 := ?_) (by rfl) rfl ?_ ?_
                rotate_left
                · go_simp
                  rfl
                refine hK.out _ _ ?_
                clear hK K
                refine done_ (by kernel_rfl) ?_
                go_wp2
                go_ret
                exact ⟨rfl, by repeat (first | (with_reducible first | exact HI3.out | apply IsS32.drewN | apply IsS32.drew | apply IsS32.set_0 | apply IsS32.set_1 | apply IsS32.set_2) | exact HI3.out), by repeat (first | (with_reducible first | exact HB3.out | apply pw_below_drewN | apply below_drew1 | refine below_set ?_ (IsS32.ge HI3.out)) | exact HB3.out), by repeat (first | (with_reducible first | exact HK3.out | apply KeepBut.set_ | apply keep_drewN | apply keep_drew) | exact HK3.out)⟩
              · rw [if_neg c5] at h
                have c5b : (off == 49148) = false := beq_eq_false_iff_ne.mpr c5
                have c5n : (off != 49148) = true := bne_iff_ne.mpr c5
                clear c5
                simp only [Option.some.injEq, Prod.mk.injEq] at h
                obtain ⟨rfl, rfl, rfl, rfl⟩ := h
                go_enter Try.func12, Try.ntmps12
                go_wp2
                go_ret
                exact ⟨rfl, by repeat (first | (with_reducible first | exact HI0.out | apply IsS32.drewN | apply IsS32.drew | apply IsS32.set_0 | apply IsS32.set_1 | apply IsS32.set_2) | exact HI0.out), by repeat (first | (with_reducible first | exact HB.out | apply pw_below_drewN | apply below_drew1 | refine below_set ?_ (IsS32.ge HI0.out)) | exact HB.out), by repeat (first | (with_reducible first | exact HK.out | apply KeepBut.set_ | apply keep_drewN | apply keep_drew) | exact HK.out)⟩
    · rw [if_neg d2] at h
      have d2b : (nn == 4) = false := beq_eq_false_iff_ne.mpr d2
      have d2n : (nn != 4) = true := bne_iff_ne.mpr d2
      clear d2
      simp only [Option.some.injEq, Prod.mk.injEq] at h
      obtain ⟨rfl, rfl, rfl, rfl⟩ := h
      go_enter Try.func12, Try.ntmps12
      go_wp2
      go_ret
      exact ⟨rfl, by repeat (first | (with_reducible first | exact HI0.out | apply IsS32.drewN | apply IsS32.drew | apply IsS32.set_0 | apply IsS32.set_1 | apply IsS32.set_2) | exact HI0.out), by repeat (first | (with_reducible first | exact HB.out | apply pw_below_drewN | apply below_drew1 | refine below_set ?_ (IsS32.ge HI0.out)) | exact HB.out), by repeat (first | (with_reducible first | exact HK.out | apply KeepBut.set_ | apply keep_drewN | apply keep_drew) | exact HK.out)⟩
end

end Go.Proofs.Ythdgkafcgaohiaa.Q
