/- Where the Lean function of a Go function gives a value, the Go call returns that value and changes nothing that was there: for every input. (By a program of this session, and by hand.) -/
import Derived.Test.YtbfdehkejohjhaaQx0
import Derived.Test.YtbfdehkejohjhaaQx11
import Derived.Test.YtbfdehkejohjhaaQx13
namespace Go.Proofs.Ytbfdehkejohjhaa.Q
open Go.RowKit Go.Proofs.YtbfdehkejohjhaaW.PrintWords Go.Proofs.YtbfdehkejohjhaaW.PrintLast Go.Proofs.YtbfdehkejohjhaaW.PrintMore
attribute [local go_sem] max2_int min2_int max_two min_two max_three min_three max_four min_four   -- for this text's walks alone
set_option linter.unusedVariables false
set_option linter.unusedSimpArgs false

/-! ### mezzaninelaw21_AluPairs: function 5 -/
mutual
def mezzaninelaw21_AluPairs.j0 : Nat → Int → Int → Bool → Option (Bool)
  | 0, _, _, _ => none
  | k + 1, x0, x1, x20 => if x20 = true then (some false) else ((mezzaninelaw21_value.f k 44 x0 x1).bind fun t257 => ((mezzaninelaw21_value.f k 43 x0 x1).bind fun t258 => ((mezzaninelaw21_value.f k 35 x0 x1).bind fun t259 => (if (IntKind.u64.wrap (t257 + t258)) = t259 then ((mezzaninelaw21_value.f k 38 x0 x1).bind fun t260 => ((mezzaninelaw21_taken.f 7 x0 x1).bind fun t261 => (if ((t260 == 1) != t261) = true then (mezzaninelaw21_AluPairs.j1 k x0 x1 true) else ((mezzaninelaw21_value.f k 39 x0 x1).bind fun t262 => ((mezzaninelaw21_taken.f 9 x0 x1).bind fun t263 => (mezzaninelaw21_AluPairs.j1 k x0 x1 ((t262 == 1) != t263))))))) else (some false)))))
def mezzaninelaw21_AluPairs.j1 : Nat → Int → Int → Bool → Option (Bool)
  | 0, _, _, _ => none
  | k + 1, x0, x1, x49 => if x49 = true then (some false) else ((mezzaninelaw21_taken.f 7 x0 x1).bind fun t264 => ((mezzaninelaw21_taken.f 8 x0 x1).bind fun t265 => (if (t264 == t265) = true then (mezzaninelaw21_AluPairs.j2 k x0 x1 true) else ((mezzaninelaw21_taken.f 9 x0 x1).bind fun t266 => ((mezzaninelaw21_taken.f 10 x0 x1).bind fun t267 => (if (t266 == t267) = true then (mezzaninelaw21_AluPairs.j2 k x0 x1 true) else ((mezzaninelaw21_taken.f 5 x0 x1).bind fun t268 => ((mezzaninelaw21_taken.f 6 x0 x1).bind fun t269 => (mezzaninelaw21_AluPairs.j2 k x0 x1 (t268 == t269))))))))))
def mezzaninelaw21_AluPairs.j2 : Nat → Int → Int → Bool → Option (Bool)
  | 0, _, _, _ => none
  | k + 1, x0, x1, x74 => if x74 = true then (some false) else ((mezzaninelaw21_taken.f 5 x0 x1).bind fun t270 => (if t270 = true then ((mezzaninelaw21_taken.f 7 x0 x1).bind fun t271 => (if t271 = true then (some false) else ((mezzaninelaw21_taken.f 9 x0 x1).bind fun t272 => (if t272 = true then (some false) else ((mezzaninelaw21_wakes.f k).bind fun t273 => (some t273)))))) else ((mezzaninelaw21_wakes.f k).bind fun t274 => (some t274))))
end
def mezzaninelaw21_AluPairs.f (k : Nat) (a0 : Int) (a1 : Int) : Option (Bool) := (mezzaninelaw21_value.f k 35 a0 a1).bind fun t253 => ((mezzaninelaw21_value.f k 36 t253 a1).bind fun t254 => (if t254 = a0 then ((mezzaninelaw21_value.f k 40 a0 a1).bind fun t255 => ((mezzaninelaw21_value.f k 40 t255 a1).bind fun t256 => (mezzaninelaw21_AluPairs.j0 k a0 a1 (t256 != a0)))) else (mezzaninelaw21_AluPairs.j0 k a0 a1 true)))
theorem mezzaninelaw21_AluPairs.mono_l : ∀ k, (∀ y0 y1 y2, LeO (mezzaninelaw21_AluPairs.j0 k y0 y1 y2) (mezzaninelaw21_AluPairs.j0 (k + 1) y0 y1 y2)) ∧ (∀ y0 y1 y2, LeO (mezzaninelaw21_AluPairs.j1 k y0 y1 y2) (mezzaninelaw21_AluPairs.j1 (k + 1) y0 y1 y2)) ∧ (∀ y0 y1 y2, LeO (mezzaninelaw21_AluPairs.j2 k y0 y1 y2) (mezzaninelaw21_AluPairs.j2 (k + 1) y0 y1 y2))
  | 0 => ⟨fun _ _ _ r h => by simp [mezzaninelaw21_AluPairs.j0] at h, fun _ _ _ r h => by simp [mezzaninelaw21_AluPairs.j1] at h, fun _ _ _ r h => by simp [mezzaninelaw21_AluPairs.j2] at h⟩
  | k + 1 => by
    obtain ⟨ih0, ih1, ih2⟩ := mezzaninelaw21_AluPairs.mono_l k
    refine ⟨?_, ?_, ?_⟩
    · intro y0 y1 y2
      unfold mezzaninelaw21_AluPairs.j0
      repeat' first
      | (with_reducible exact ih0 _ _ _)
      | (with_reducible exact ih1 _ _ _)
      | (with_reducible exact ih2 _ _ _)
      | (with_reducible exact mezzaninelaw21_value.mono _ _ _ _)
      | (with_reducible exact mezzaninelaw21_wakes.mono _)
      | (with_reducible exact LeO.refl _)
      | (with_reducible exact LeO.none _)
      | (with_reducible refine LeO.ite ?_ ?_)
      | (with_reducible refine LeO.bind ?_ (fun _ => ?_))
      | exact ih0 _ _ _
      | exact ih1 _ _ _
      | exact ih2 _ _ _
      | exact mezzaninelaw21_value.mono _ _ _ _
      | exact mezzaninelaw21_wakes.mono _
      | exact LeO.none _
      | refine LeO.ite ?_ ?_
      | refine LeO.bind ?_ (fun _ => ?_)
    · intro y0 y1 y2
      unfold mezzaninelaw21_AluPairs.j1
      repeat' first
      | (with_reducible exact ih0 _ _ _)
      | (with_reducible exact ih1 _ _ _)
      | (with_reducible exact ih2 _ _ _)
      | (with_reducible exact mezzaninelaw21_value.mono _ _ _ _)
      | (with_reducible exact mezzaninelaw21_wakes.mono _)
      | (with_reducible exact LeO.refl _)
      | (with_reducible exact LeO.none _)
      | (with_reducible refine LeO.ite ?_ ?_)
      | (with_reducible refine LeO.bind ?_ (fun _ => ?_))
      | exact ih0 _ _ _
      | exact ih1 _ _ _
      | exact ih2 _ _ _
      | exact mezzaninelaw21_value.mono _ _ _ _
      | exact mezzaninelaw21_wakes.mono _
      | exact LeO.none _
      | refine LeO.ite ?_ ?_
      | refine LeO.bind ?_ (fun _ => ?_)
    · intro y0 y1 y2
      unfold mezzaninelaw21_AluPairs.j2
      repeat' first
      | (with_reducible exact ih0 _ _ _)
      | (with_reducible exact ih1 _ _ _)
      | (with_reducible exact ih2 _ _ _)
      | (with_reducible exact mezzaninelaw21_value.mono _ _ _ _)
      | (with_reducible exact mezzaninelaw21_wakes.mono _)
      | (with_reducible exact LeO.refl _)
      | (with_reducible exact LeO.none _)
      | (with_reducible refine LeO.ite ?_ ?_)
      | (with_reducible refine LeO.bind ?_ (fun _ => ?_))
      | exact ih0 _ _ _
      | exact ih1 _ _ _
      | exact ih2 _ _ _
      | exact mezzaninelaw21_value.mono _ _ _ _
      | exact mezzaninelaw21_wakes.mono _
      | exact LeO.none _
      | refine LeO.ite ?_ ?_
      | refine LeO.bind ?_ (fun _ => ?_)
theorem mezzaninelaw21_AluPairs.mono : ∀ a0 a1 k, LeO (mezzaninelaw21_AluPairs.f k a0 a1) (mezzaninelaw21_AluPairs.f (k + 1) a0 a1) := by
  intro a0 a1 k
  obtain ⟨ih0, ih1, ih2⟩ := mezzaninelaw21_AluPairs.mono_l k
  unfold mezzaninelaw21_AluPairs.f
  repeat' first
      | (with_reducible exact ih0 _ _ _)
      | (with_reducible exact ih1 _ _ _)
      | (with_reducible exact ih2 _ _ _)
      | (with_reducible exact mezzaninelaw21_value.mono _ _ _ _)
      | (with_reducible exact mezzaninelaw21_wakes.mono _)
      | (with_reducible exact LeO.refl _)
      | (with_reducible exact LeO.none _)
      | (with_reducible refine LeO.ite ?_ ?_)
      | (with_reducible refine LeO.bind ?_ (fun _ => ?_))
      | exact ih0 _ _ _
      | exact ih1 _ _ _
      | exact ih2 _ _ _
      | exact mezzaninelaw21_value.mono _ _ _ _
      | exact mezzaninelaw21_wakes.mono _
      | exact LeO.none _
      | refine LeO.ite ?_ ?_
      | refine LeO.bind ?_ (fun _ => ?_)
set_option maxHeartbeats 8000000 in
set_option maxRecDepth 100000 in
theorem mezzaninelaw21_AluPairs.calls (k : Nat) (a0 : Int) (a1 : Int) (r : Bool) (w : World) (ht : r = true) (h : mezzaninelaw21_AluPairs.f k a0 a1 = some r) :
    Calls Try.prog 5 #[.int .u64 a0, .int .u64 a1] w fun e w' => e = .returned (.bool r) ∧ Below w.heap.size w w' := by
  have HB := Aside0.mk (Below.refl w.heap.size w)
  have HT := Aside0.mk ht
  clear ht
  have H : ((mezzaninelaw21_value.f k 35 a0 a1).bind fun t253 => ((mezzaninelaw21_value.f k 36 t253 a1).bind fun t254 => (if t254 = a0 then ((mezzaninelaw21_value.f k 40 a0 a1).bind fun t255 => ((mezzaninelaw21_value.f k 40 t255 a1).bind fun t256 => (mezzaninelaw21_AluPairs.j0 k a0 a1 (t256 != a0)))) else (mezzaninelaw21_AluPairs.j0 k a0 a1 true)))) = some r := h
  clear h
  have HC3 := Aside0.mk H
  clear H
  go_enter Try.func5, Try.ntmps5
  go_upto_region 1 with (fail)
  go_cut [20] (fun v20 wc => ∃ (kq : Nat) (x20_2 : Bool), v20 = .bool x20_2 ∧ Aside0 (mezzaninelaw21_AluPairs.j0 kq a0 a1 x20_2 = some r) ∧ Aside0 (kq ≤ k) ∧ Aside0 (Below w.heap.size w wc))
  case first =>
    have H := HC3.out
    clear HC3
    replace H := Option.bind_eq_some_iff.mp H
    obtain ⟨t253, A40, H⟩ := H
    replace H : ((mezzaninelaw21_value.f k 36 t253 a1).bind fun t254 => (if t254 = a0 then ((mezzaninelaw21_value.f k 40 a0 a1).bind fun t255 => ((mezzaninelaw21_value.f k 40 t255 a1).bind fun t256 => (mezzaninelaw21_AluPairs.j0 k a0 a1 (t256 != a0)))) else (mezzaninelaw21_AluPairs.j0 k a0 a1 true))) = some r := H
    have A4 := Aside0.mk A40
    clear A40
    replace H := Option.bind_eq_some_iff.mp H
    obtain ⟨t254, A50, H⟩ := H
    replace H : (if t254 = a0 then ((mezzaninelaw21_value.f k 40 a0 a1).bind fun t255 => ((mezzaninelaw21_value.f k 40 t255 a1).bind fun t256 => (mezzaninelaw21_AluPairs.j0 k a0 a1 (t256 != a0)))) else (mezzaninelaw21_AluPairs.j0 k a0 a1 true)) = some r := H
    have A5 := Aside0.mk A50
    clear A50
    by_cases c6 : t254 = a0
    · rw [if_pos c6] at H
      have c6b0 : (t254 == a0) = true := beq_iff_eq.mpr c6
      have c6b1 : (t254 != a0) = false := bne_eq_false_iff_eq.mpr c6
      clear c6
      (first | rw [c6b0] | (simp only [i64_w, i32_w]; rw [c6b0]) | skip)
      replace H := Option.bind_eq_some_iff.mp H
      obtain ⟨t255, A70, H⟩ := H
      replace H : ((mezzaninelaw21_value.f k 40 t255 a1).bind fun t256 => (mezzaninelaw21_AluPairs.j0 k a0 a1 (t256 != a0))) = some r := H
      have A7 := Aside0.mk A70
      clear A70
      replace H := Option.bind_eq_some_iff.mp H
      obtain ⟨t256, A80, H⟩ := H
      replace H : (mezzaninelaw21_AluPairs.j0 k a0 a1 (t256 != a0)) = some r := H
      have A8 := Aside0.mk A80
      clear A80
      have H' := Aside0.mk H
      clear H
      go_wp2_with (first | ((with_reducible refine gate_callee (f := 16) rfl ?_); refine goesL_ (some 7) rfl rfl Try.func16 (by kernel_rfl) rfl #[.int .i64 35, .int .u64 a0, .int .u64 a1] rfl (by (try simp only [List.map_toArray, List.map_cons, List.map_nil]); first | done | rfl | (simp only [List.length_drop, List.length_take]; rfl)) ?_; (with_reducible refine (mezzaninelaw21_value.calls k 35 a0 a1 t253 _ A4.out).mono ?_); rintro e w9 ⟨rfl, hb⟩; refine ⟨_, rfl, ?_⟩; have n0_ := Aside0.mk (below_step (by repeat (first | (with_reducible first | exact HB.out | apply below_alloc | apply pw_below_drewN | apply below_drew1) | exact HB.out)) hb); clear HB; have HB := n0_; clear n0_; (try clear hb); (try clear hb2); (try clear hk); (try clear hi)) | ((with_reducible refine gate_callee (f := 16) rfl ?_); refine goesL_ (some 9) rfl rfl Try.func16 (by kernel_rfl) rfl #[.int .i64 36, .int .u64 t253, .int .u64 a1] rfl (by (try simp only [List.map_toArray, List.map_cons, List.map_nil]); first | done | rfl | (simp only [List.length_drop, List.length_take]; rfl)) ?_; (with_reducible refine (mezzaninelaw21_value.calls k 36 t253 a1 t254 _ A5.out).mono ?_); rintro e w10 ⟨rfl, hb⟩; refine ⟨_, rfl, ?_⟩; have n0_ := Aside0.mk (below_step (by repeat (first | (with_reducible first | exact HB.out | apply below_alloc | apply pw_below_drewN | apply below_drew1) | exact HB.out)) hb); clear HB; have HB := n0_; clear n0_; (try clear hb); (try clear hb2); (try clear hk); (try clear hi)) | (go_at_call 16; (with_reducible refine (mezzaninelaw21_value.calls k 40 a0 a1 t255 _ A7.out).mono ?_); rintro e w11 ⟨rfl, hb⟩; have n0_ := Aside0.mk (below_step (by repeat (first | (with_reducible first | exact HB.out | apply below_alloc | apply pw_below_drewN | apply below_drew1) | exact HB.out)) hb); clear HB; have HB := n0_; clear n0_; (try clear hb); (try clear hb2); (try clear hk); (try clear hi)) | (go_at_call 16; (with_reducible refine (mezzaninelaw21_value.calls k 40 t255 a1 t256 _ A8.out).mono ?_); rintro e w12 ⟨rfl, hb⟩; have n0_ := Aside0.mk (below_step (by repeat (first | (with_reducible first | exact HB.out | apply below_alloc | apply pw_below_drewN | apply below_drew1) | exact HB.out)) hb); clear HB; have HB := n0_; clear n0_; (try clear hb); (try clear hb2); (try clear hk); (try clear hi)))
      go_meet
      case rel => exact ⟨_, ((t256 != a0)), (by first | rfl | (simp; done) | (simp [*]; done)), H', ⟨by first | omega | exact Nat.le_refl _⟩, ⟨by repeat (first | (with_reducible first | exact HB.out | apply below_alloc | apply pw_below_drewN | apply below_drew1) | exact HB.out)⟩⟩
    · rw [if_neg c6] at H
      have c6b0 : (t254 == a0) = false := beq_eq_false_iff_ne.mpr c6
      have c6b1 : (t254 != a0) = true := bne_iff_ne.mpr c6
      (first | rw [c6b0] | (simp only [i64_w, i32_w]; rw [c6b0]) | skip)
      exact absurd H (by rw [HT.out]; cases k <;> simp [mezzaninelaw21_AluPairs.j0])
  case rest =>
    clear HC3
    try clear c1
    try clear p2
    try clear c5
    try clear c6
    try clear c6b0
    try clear c6b1
    obtain ⟨kq, x20_2, rfl, HA, HJ2, HB⟩ := hcut
    cases kq with
    | zero => exact absurd HA.out (by simp [mezzaninelaw21_AluPairs.j0])
    | succ kj2 =>
      have H := HA.out
      clear HA
      simp only [mezzaninelaw21_AluPairs.j0] at H
      by_cases c13 : x20_2 = true
      · subst c13
        have H1 : (some false) = some r := by rw [if_pos rfl] at H; exact H
        clear H
        have H := H1
        clear H1
        exact absurd (Option.some.inj H) (by rw [HT.out]; decide)
      · replace c13 := Bool.eq_false_iff.mpr c13
        subst c13
        have H1 : ((mezzaninelaw21_value.f kj2 44 a0 a1).bind fun t257 => ((mezzaninelaw21_value.f kj2 43 a0 a1).bind fun t258 => ((mezzaninelaw21_value.f kj2 35 a0 a1).bind fun t259 => (if (IntKind.u64.wrap (t257 + t258)) = t259 then ((mezzaninelaw21_value.f kj2 38 a0 a1).bind fun t260 => ((mezzaninelaw21_taken.f 7 a0 a1).bind fun t261 => (if ((t260 == 1) != t261) = true then (mezzaninelaw21_AluPairs.j1 kj2 a0 a1 true) else ((mezzaninelaw21_value.f kj2 39 a0 a1).bind fun t262 => ((mezzaninelaw21_taken.f 9 a0 a1).bind fun t263 => (mezzaninelaw21_AluPairs.j1 kj2 a0 a1 ((t262 == 1) != t263))))))) else (some false))))) = some r := by rw [if_neg (show ¬ (false = true) by decide)] at H; exact H
        clear H
        have H := H1
        clear H1
        replace H := Option.bind_eq_some_iff.mp H
        obtain ⟨t257, A140, H⟩ := H
        replace H : ((mezzaninelaw21_value.f kj2 43 a0 a1).bind fun t258 => ((mezzaninelaw21_value.f kj2 35 a0 a1).bind fun t259 => (if (IntKind.u64.wrap (t257 + t258)) = t259 then ((mezzaninelaw21_value.f kj2 38 a0 a1).bind fun t260 => ((mezzaninelaw21_taken.f 7 a0 a1).bind fun t261 => (if ((t260 == 1) != t261) = true then (mezzaninelaw21_AluPairs.j1 kj2 a0 a1 true) else ((mezzaninelaw21_value.f kj2 39 a0 a1).bind fun t262 => ((mezzaninelaw21_taken.f 9 a0 a1).bind fun t263 => (mezzaninelaw21_AluPairs.j1 kj2 a0 a1 ((t262 == 1) != t263))))))) else (some false)))) = some r := H
        have A14 := Aside0.mk A140
        clear A140
        replace H := Option.bind_eq_some_iff.mp H
        obtain ⟨t258, A150, H⟩ := H
        replace H : ((mezzaninelaw21_value.f kj2 35 a0 a1).bind fun t259 => (if (IntKind.u64.wrap (t257 + t258)) = t259 then ((mezzaninelaw21_value.f kj2 38 a0 a1).bind fun t260 => ((mezzaninelaw21_taken.f 7 a0 a1).bind fun t261 => (if ((t260 == 1) != t261) = true then (mezzaninelaw21_AluPairs.j1 kj2 a0 a1 true) else ((mezzaninelaw21_value.f kj2 39 a0 a1).bind fun t262 => ((mezzaninelaw21_taken.f 9 a0 a1).bind fun t263 => (mezzaninelaw21_AluPairs.j1 kj2 a0 a1 ((t262 == 1) != t263))))))) else (some false))) = some r := H
        have A15 := Aside0.mk A150
        clear A150
        replace H := Option.bind_eq_some_iff.mp H
        obtain ⟨t259, A160, H⟩ := H
        replace H : (if (IntKind.u64.wrap (t257 + t258)) = t259 then ((mezzaninelaw21_value.f kj2 38 a0 a1).bind fun t260 => ((mezzaninelaw21_taken.f 7 a0 a1).bind fun t261 => (if ((t260 == 1) != t261) = true then (mezzaninelaw21_AluPairs.j1 kj2 a0 a1 true) else ((mezzaninelaw21_value.f kj2 39 a0 a1).bind fun t262 => ((mezzaninelaw21_taken.f 9 a0 a1).bind fun t263 => (mezzaninelaw21_AluPairs.j1 kj2 a0 a1 ((t262 == 1) != t263))))))) else (some false)) = some r := H
        have A16 := Aside0.mk A160
        clear A160
        by_cases c17 : (IntKind.u64.wrap (t257 + t258)) = t259
        · rw [if_pos c17] at H
          have c17b0 : ((IntKind.u64.wrap (t257 + t258)) == t259) = true := beq_iff_eq.mpr c17
          have c17b1 : ((IntKind.u64.wrap (t257 + t258)) != t259) = false := bne_eq_false_iff_eq.mpr c17
          clear c17
          have HC18 := Aside0.mk H
          clear H
          go_upto_region 5 with (first | ((with_reducible refine gate_callee (f := 16) rfl ?_); refine goesL_ (some 23) rfl rfl Try.func16 (by kernel_rfl) rfl #[.int .i64 44, .int .u64 a0, .int .u64 a1] rfl (by (try simp only [List.map_toArray, List.map_cons, List.map_nil]); first | done | rfl | (simp only [List.length_drop, List.length_take]; rfl)) ?_; (with_reducible refine (mezzaninelaw21_value.calls kj2 44 a0 a1 t257 _ A14.out).mono ?_); rintro e w19 ⟨rfl, hb⟩; refine ⟨_, rfl, ?_⟩; have n0_ := Aside0.mk (below_step (by repeat (first | (with_reducible first | exact HB.out | apply below_alloc | apply pw_below_drewN | apply below_drew1) | exact HB.out)) hb); clear HB; have HB := n0_; clear n0_; (try clear hb); (try clear hb2); (try clear hk); (try clear hi)) | ((with_reducible refine gate_callee (f := 16) rfl ?_); refine goesL_ (some 26) rfl rfl Try.func16 (by kernel_rfl) rfl #[.int .i64 43, .int .u64 a0, .int .u64 a1] rfl (by (try simp only [List.map_toArray, List.map_cons, List.map_nil]); first | done | rfl | (simp only [List.length_drop, List.length_take]; rfl)) ?_; (with_reducible refine (mezzaninelaw21_value.calls kj2 43 a0 a1 t258 _ A15.out).mono ?_); rintro e w20 ⟨rfl, hb⟩; refine ⟨_, rfl, ?_⟩; have n0_ := Aside0.mk (below_step (by repeat (first | (with_reducible first | exact HB.out | apply below_alloc | apply pw_below_drewN | apply below_drew1) | exact HB.out)) hb); clear HB; have HB := n0_; clear n0_; (try clear hb); (try clear hb2); (try clear hk); (try clear hi)) | ((with_reducible refine gate_callee (f := 16) rfl ?_); refine goesL_ (some 30) rfl rfl Try.func16 (by kernel_rfl) rfl #[.int .i64 35, .int .u64 a0, .int .u64 a1] rfl (by (try simp only [List.map_toArray, List.map_cons, List.map_nil]); first | done | rfl | (simp only [List.length_drop, List.length_take]; rfl)) ?_; (with_reducible refine (mezzaninelaw21_value.calls kj2 35 a0 a1 t259 _ A16.out).mono ?_); rintro e w21 ⟨rfl, hb⟩; refine ⟨_, rfl, ?_⟩; have n0_ := Aside0.mk (below_step (by repeat (first | (with_reducible first | exact HB.out | apply below_alloc | apply pw_below_drewN | apply below_drew1) | exact HB.out)) hb); clear HB; have HB := n0_; clear n0_; (try clear hb); (try clear hb2); (try clear hk); (try clear hi)))
          (try simp only [Act.put, List.setIfInBounds_toArray, List.set_cons_zero, List.set_cons_succ])
          go_cut [49] (fun v49 wc => ∃ (kq : Nat) (x49_17 : Bool), v49 = .bool x49_17 ∧ Aside0 (mezzaninelaw21_AluPairs.j1 kq a0 a1 x49_17 = some r) ∧ Aside0 (kq ≤ kj2) ∧ Aside0 (Below w.heap.size w wc))
          case first =>
            have H := HC18.out
            clear HC18
            replace H := Option.bind_eq_some_iff.mp H
            obtain ⟨t260, A220, H⟩ := H
            replace H : ((mezzaninelaw21_taken.f 7 a0 a1).bind fun t261 => (if ((t260 == 1) != t261) = true then (mezzaninelaw21_AluPairs.j1 kj2 a0 a1 true) else ((mezzaninelaw21_value.f kj2 39 a0 a1).bind fun t262 => ((mezzaninelaw21_taken.f 9 a0 a1).bind fun t263 => (mezzaninelaw21_AluPairs.j1 kj2 a0 a1 ((t262 == 1) != t263)))))) = some r := H
            have A22 := Aside0.mk A220
            clear A220
            replace H := Option.bind_eq_some_iff.mp H
            obtain ⟨t261, A230, H⟩ := H
            replace H : (if ((t260 == 1) != t261) = true then (mezzaninelaw21_AluPairs.j1 kj2 a0 a1 true) else ((mezzaninelaw21_value.f kj2 39 a0 a1).bind fun t262 => ((mezzaninelaw21_taken.f 9 a0 a1).bind fun t263 => (mezzaninelaw21_AluPairs.j1 kj2 a0 a1 ((t262 == 1) != t263))))) = some r := H
            have A23 := Aside0.mk A230
            clear A230
            by_cases c24 : ((t260 == 1) != t261) = true
            · rw [if_pos c24] at H
              have c24b0 : ((t260 == 1) != t261) = true := c24
              (try (have c24b1 : decide ((t260 == 1) = t261) = false := by simpa using c24))
              (try (have c24b2 : ((t260 == 1) == t261) = false := by simpa using c24))
              (try (have c24b3 : ¬ ((t260 == 1) = t261) := by simpa using c24))
              clear c24
              (first | rw [c24b0] | (simp only [i64_w, i32_w]; rw [c24b0]) | skip)
              exact absurd H (by rw [HT.out]; cases kj2 <;> simp [mezzaninelaw21_AluPairs.j1])
            · rw [if_neg c24] at H
              have c24b0 : ((t260 == 1) != t261) = false := by simpa using c24
              (try (have c24b1 : decide ((t260 == 1) = t261) = true := by simpa using c24))
              (try (have c24b2 : ((t260 == 1) == t261) = true := by simpa using c24))
              clear c24
              (first | rw [c24b0] | (simp only [i64_w, i32_w]; rw [c24b0]) | skip)
              replace H := Option.bind_eq_some_iff.mp H
              obtain ⟨t262, A250, H⟩ := H
              replace H : ((mezzaninelaw21_taken.f 9 a0 a1).bind fun t263 => (mezzaninelaw21_AluPairs.j1 kj2 a0 a1 ((t262 == 1) != t263))) = some r := H
              have A25 := Aside0.mk A250
              clear A250
              replace H := Option.bind_eq_some_iff.mp H
              obtain ⟨t263, A260, H⟩ := H
              replace H : (mezzaninelaw21_AluPairs.j1 kj2 a0 a1 ((t262 == 1) != t263)) = some r := H
              have A26 := Aside0.mk A260
              clear A260
              have H' := Aside0.mk H
              clear H
              go_wp2_with (first | ((with_reducible refine gate_callee (f := 16) rfl ?_); refine goesL_ (some 34) rfl rfl Try.func16 (by kernel_rfl) rfl #[.int .i64 38, .int .u64 a0, .int .u64 a1] rfl (by (try simp only [List.map_toArray, List.map_cons, List.map_nil]); first | done | rfl | (simp only [List.length_drop, List.length_take]; rfl)) ?_; (with_reducible refine (mezzaninelaw21_value.calls kj2 38 a0 a1 t260 _ A22.out).mono ?_); rintro e w27 ⟨rfl, hb⟩; refine ⟨_, rfl, ?_⟩; have n0_ := Aside0.mk (below_step (by repeat (first | (with_reducible first | exact HB.out | apply below_alloc | apply pw_below_drewN | apply below_drew1) | exact HB.out)) hb); clear HB; have HB := n0_; clear n0_; (try clear hb); (try clear hb2); (try clear hk); (try clear hi)) | ((with_reducible refine gate_callee (f := 17) rfl ?_); refine goesL_ (some 38) rfl rfl Try.func17 (by kernel_rfl) rfl #[.int .i64 7, .int .u64 a0, .int .u64 a1] rfl (by (try simp only [List.map_toArray, List.map_cons, List.map_nil]); first | done | rfl | (simp only [List.length_drop, List.length_take]; rfl)) ?_; (with_reducible refine (mezzaninelaw21_taken.calls 7 a0 a1 t261 _ A23.out).mono ?_); rintro e w28 ⟨rfl, hb⟩; refine ⟨_, rfl, ?_⟩; have n0_ := Aside0.mk (below_step (by repeat (first | (with_reducible first | exact HB.out | apply below_alloc | apply pw_below_drewN | apply below_drew1) | exact HB.out)) hb); clear HB; have HB := n0_; clear n0_; (try clear hb); (try clear hb2); (try clear hk); (try clear hi)) | (go_at_call 16; (with_reducible refine (mezzaninelaw21_value.calls kj2 39 a0 a1 t262 _ A25.out).mono ?_); rintro e w29 ⟨rfl, hb⟩; have n0_ := Aside0.mk (below_step (by repeat (first | (with_reducible first | exact HB.out | apply below_alloc | apply pw_below_drewN | apply below_drew1) | exact HB.out)) hb); clear HB; have HB := n0_; clear n0_; (try clear hb); (try clear hb2); (try clear hk); (try clear hi)) | (go_at_call 17; (with_reducible refine (mezzaninelaw21_taken.calls 9 a0 a1 t263 _ A26.out).mono ?_); rintro e w30 ⟨rfl, hb⟩; have n0_ := Aside0.mk (below_step (by repeat (first | (with_reducible first | exact HB.out | apply below_alloc | apply pw_below_drewN | apply below_drew1) | exact HB.out)) hb); clear HB; have HB := n0_; clear n0_; (try clear hb); (try clear hb2); (try clear hk); (try clear hi)))
              go_meet
              case rel => exact ⟨_, (((t262 == 1) != t263)), (by first | rfl | (simp; done) | (simp [*]; done)), H', ⟨by have := HJ2.out; first | omega | exact Nat.le_refl _⟩, ⟨by repeat (first | (with_reducible first | exact HB.out | apply below_alloc | apply pw_below_drewN | apply below_drew1) | exact HB.out)⟩⟩
          case rest =>
            clear HC18
            try clear c1
            try clear c2
            try clear p2
            try clear c5
            try clear c6
            try clear c6b0
            try clear c6b1
            try clear c13
            try clear c16
            try clear c17
            try clear c17b0
            try clear c17b1
            try clear c24
            try clear c24b0
            try clear c24b1
            try clear c24b2
            try clear p2
            obtain ⟨kq, x49_17, rfl, HA, HJ17, HB⟩ := hcut
            cases kq with
            | zero => exact absurd HA.out (by simp [mezzaninelaw21_AluPairs.j1])
            | succ kj17 =>
              have H := HA.out
              clear HA
              simp only [mezzaninelaw21_AluPairs.j1] at H
              by_cases c31 : x49_17 = true
              · subst c31
                have H1 : (some false) = some r := by rw [if_pos rfl] at H; exact H
                clear H
                have H := H1
                clear H1
                exact absurd (Option.some.inj H) (by rw [HT.out]; decide)
              · replace c31 := Bool.eq_false_iff.mpr c31
                subst c31
                have H1 : ((mezzaninelaw21_taken.f 7 a0 a1).bind fun t264 => ((mezzaninelaw21_taken.f 8 a0 a1).bind fun t265 => (if (t264 == t265) = true then (mezzaninelaw21_AluPairs.j2 kj17 a0 a1 true) else ((mezzaninelaw21_taken.f 9 a0 a1).bind fun t266 => ((mezzaninelaw21_taken.f 10 a0 a1).bind fun t267 => (if (t266 == t267) = true then (mezzaninelaw21_AluPairs.j2 kj17 a0 a1 true) else ((mezzaninelaw21_taken.f 5 a0 a1).bind fun t268 => ((mezzaninelaw21_taken.f 6 a0 a1).bind fun t269 => (mezzaninelaw21_AluPairs.j2 kj17 a0 a1 (t268 == t269)))))))))) = some r := by rw [if_neg (show ¬ (false = true) by decide)] at H; exact H
                clear H
                have H := H1
                clear H1
                have HC32 := Aside0.mk H
                clear H
                go_upto_region 7 with (fail)
                go_cut [74] (fun v74 wc => ∃ (kq : Nat) (x74_31 : Bool), v74 = .bool x74_31 ∧ Aside0 (mezzaninelaw21_AluPairs.j2 kq a0 a1 x74_31 = some r) ∧ Aside0 (kq ≤ kj17) ∧ Aside0 (Below w.heap.size w wc))
                case first =>
                  have H := HC32.out
                  clear HC32
                  replace H := Option.bind_eq_some_iff.mp H
                  obtain ⟨t264, A330, H⟩ := H
                  replace H : ((mezzaninelaw21_taken.f 8 a0 a1).bind fun t265 => (if (t264 == t265) = true then (mezzaninelaw21_AluPairs.j2 kj17 a0 a1 true) else ((mezzaninelaw21_taken.f 9 a0 a1).bind fun t266 => ((mezzaninelaw21_taken.f 10 a0 a1).bind fun t267 => (if (t266 == t267) = true then (mezzaninelaw21_AluPairs.j2 kj17 a0 a1 true) else ((mezzaninelaw21_taken.f 5 a0 a1).bind fun t268 => ((mezzaninelaw21_taken.f 6 a0 a1).bind fun t269 => (mezzaninelaw21_AluPairs.j2 kj17 a0 a1 (t268 == t269))))))))) = some r := H
                  have A33 := Aside0.mk A330
                  clear A330
                  replace H := Option.bind_eq_some_iff.mp H
                  obtain ⟨t265, A340, H⟩ := H
                  replace H : (if (t264 == t265) = true then (mezzaninelaw21_AluPairs.j2 kj17 a0 a1 true) else ((mezzaninelaw21_taken.f 9 a0 a1).bind fun t266 => ((mezzaninelaw21_taken.f 10 a0 a1).bind fun t267 => (if (t266 == t267) = true then (mezzaninelaw21_AluPairs.j2 kj17 a0 a1 true) else ((mezzaninelaw21_taken.f 5 a0 a1).bind fun t268 => ((mezzaninelaw21_taken.f 6 a0 a1).bind fun t269 => (mezzaninelaw21_AluPairs.j2 kj17 a0 a1 (t268 == t269)))))))) = some r := H
                  have A34 := Aside0.mk A340
                  clear A340
                  by_cases c35 : (t264 == t265) = true
                  · rw [if_pos c35] at H
                    have c35b0 : (t264 == t265) = true := c35
                    (try (have c35b1 : decide (t264 = t265) = true := by simpa using c35))
                    (try (have c35b2 : (t264 == t265) = true := by simpa using c35))
                    clear c35
                    (first | rw [c35b0] | (simp only [i64_w, i32_w]; rw [c35b0]) | skip)
                    exact absurd H (by rw [HT.out]; cases kj17 <;> simp [mezzaninelaw21_AluPairs.j2])
                  · rw [if_neg c35] at H
                    have c35b0 : (t264 == t265) = false := by simpa using c35
                    (try (have c35b1 : decide (t264 = t265) = false := by simpa using c35))
                    (try (have c35b2 : (t264 == t265) = false := by simpa using c35))
                    (try (have c35b3 : ¬ (t264 = t265) := by simpa using c35))
                    clear c35
                    (first | rw [c35b0] | (simp only [i64_w, i32_w]; rw [c35b0]) | skip)
                    replace H := Option.bind_eq_some_iff.mp H
                    obtain ⟨t266, A360, H⟩ := H
                    replace H : ((mezzaninelaw21_taken.f 10 a0 a1).bind fun t267 => (if (t266 == t267) = true then (mezzaninelaw21_AluPairs.j2 kj17 a0 a1 true) else ((mezzaninelaw21_taken.f 5 a0 a1).bind fun t268 => ((mezzaninelaw21_taken.f 6 a0 a1).bind fun t269 => (mezzaninelaw21_AluPairs.j2 kj17 a0 a1 (t268 == t269)))))) = some r := H
                    have A36 := Aside0.mk A360
                    clear A360
                    replace H := Option.bind_eq_some_iff.mp H
                    obtain ⟨t267, A370, H⟩ := H
                    replace H : (if (t266 == t267) = true then (mezzaninelaw21_AluPairs.j2 kj17 a0 a1 true) else ((mezzaninelaw21_taken.f 5 a0 a1).bind fun t268 => ((mezzaninelaw21_taken.f 6 a0 a1).bind fun t269 => (mezzaninelaw21_AluPairs.j2 kj17 a0 a1 (t268 == t269))))) = some r := H
                    have A37 := Aside0.mk A370
                    clear A370
                    by_cases c38 : (t266 == t267) = true
                    · rw [if_pos c38] at H
                      have c38b0 : (t266 == t267) = true := c38
                      (try (have c38b1 : decide (t266 = t267) = true := by simpa using c38))
                      (try (have c38b2 : (t266 == t267) = true := by simpa using c38))
                      clear c38
                      exact absurd H (by rw [HT.out]; cases kj17 <;> simp [mezzaninelaw21_AluPairs.j2])
                    · rw [if_neg c38] at H
                      have c38b0 : (t266 == t267) = false := by simpa using c38
                      (try (have c38b1 : decide (t266 = t267) = false := by simpa using c38))
                      (try (have c38b2 : (t266 == t267) = false := by simpa using c38))
                      (try (have c38b3 : ¬ (t266 = t267) := by simpa using c38))
                      clear c38
                      replace H := Option.bind_eq_some_iff.mp H
                      obtain ⟨t268, A390, H⟩ := H
                      replace H : ((mezzaninelaw21_taken.f 6 a0 a1).bind fun t269 => (mezzaninelaw21_AluPairs.j2 kj17 a0 a1 (t268 == t269))) = some r := H
                      have A39 := Aside0.mk A390
                      clear A390
                      replace H := Option.bind_eq_some_iff.mp H
                      obtain ⟨t269, A400, H⟩ := H
                      replace H : (mezzaninelaw21_AluPairs.j2 kj17 a0 a1 (t268 == t269)) = some r := H
                      have A40 := Aside0.mk A400
                      clear A400
                      have H' := Aside0.mk H
                      clear H
                      go_wp2_with (first | ((with_reducible refine gate_callee (f := 17) rfl ?_); refine goesL_ (some 52) rfl rfl Try.func17 (by kernel_rfl) rfl #[.int .i64 7, .int .u64 a0, .int .u64 a1] rfl (by (try simp only [List.map_toArray, List.map_cons, List.map_nil]); first | done | rfl | (simp only [List.length_drop, List.length_take]; rfl)) ?_; (with_reducible refine (mezzaninelaw21_taken.calls 7 a0 a1 t264 _ A33.out).mono ?_); rintro e w41 ⟨rfl, hb⟩; refine ⟨_, rfl, ?_⟩; have n0_ := Aside0.mk (below_step (by repeat (first | (with_reducible first | exact HB.out | apply below_alloc | apply pw_below_drewN | apply below_drew1) | exact HB.out)) hb); clear HB; have HB := n0_; clear n0_; (try clear hb); (try clear hb2); (try clear hk); (try clear hi)) | ((with_reducible refine gate_callee (f := 17) rfl ?_); refine goesL_ (some 55) rfl rfl Try.func17 (by kernel_rfl) rfl #[.int .i64 8, .int .u64 a0, .int .u64 a1] rfl (by (try simp only [List.map_toArray, List.map_cons, List.map_nil]); first | done | rfl | (simp only [List.length_drop, List.length_take]; rfl)) ?_; (with_reducible refine (mezzaninelaw21_taken.calls 8 a0 a1 t265 _ A34.out).mono ?_); rintro e w42 ⟨rfl, hb⟩; refine ⟨_, rfl, ?_⟩; have n0_ := Aside0.mk (below_step (by repeat (first | (with_reducible first | exact HB.out | apply below_alloc | apply pw_below_drewN | apply below_drew1) | exact HB.out)) hb); clear HB; have HB := n0_; clear n0_; (try clear hb); (try clear hb2); (try clear hk); (try clear hi)) | (go_at_call 17; (with_reducible refine (mezzaninelaw21_taken.calls 9 a0 a1 t266 _ A36.out).mono ?_); rintro e w43 ⟨rfl, hb⟩; have n0_ := Aside0.mk (below_step (by repeat (first | (with_reducible first | exact HB.out | apply below_alloc | apply pw_below_drewN | apply below_drew1) | exact HB.out)) hb); clear HB; have HB := n0_; clear n0_; (try clear hb); (try clear hb2); (try clear hk); (try clear hi)) | (go_at_call 17; (with_reducible refine (mezzaninelaw21_taken.calls 10 a0 a1 t267 _ A37.out).mono ?_); rintro e w44 ⟨rfl, hb⟩; have n0_ := Aside0.mk (below_step (by repeat (first | (with_reducible first | exact HB.out | apply below_alloc | apply pw_below_drewN | apply below_drew1) | exact HB.out)) hb); clear HB; have HB := n0_; clear n0_; (try clear hb); (try clear hb2); (try clear hk); (try clear hi)) | (go_at_call 17; (with_reducible refine (mezzaninelaw21_taken.calls 5 a0 a1 t268 _ A39.out).mono ?_); rintro e w45 ⟨rfl, hb⟩; have n0_ := Aside0.mk (below_step (by repeat (first | (with_reducible first | exact HB.out | apply below_alloc | apply pw_below_drewN | apply below_drew1) | exact HB.out)) hb); clear HB; have HB := n0_; clear n0_; (try clear hb); (try clear hb2); (try clear hk); (try clear hi)) | (go_at_call 17; (with_reducible refine (mezzaninelaw21_taken.calls 6 a0 a1 t269 _ A40.out).mono ?_); rintro e w46 ⟨rfl, hb⟩; have n0_ := Aside0.mk (below_step (by repeat (first | (with_reducible first | exact HB.out | apply below_alloc | apply pw_below_drewN | apply below_drew1) | exact HB.out)) hb); clear HB; have HB := n0_; clear n0_; (try clear hb); (try clear hb2); (try clear hk); (try clear hi)))
                      go_meet
                      case rel => exact ⟨_, ((t268 == t269)), (by first | rfl | (simp; done) | (simp [*]; done)), H', ⟨by have := HJ2.out; have := HJ17.out; first | omega | exact Nat.le_refl _⟩, ⟨by repeat (first | (with_reducible first | exact HB.out | apply below_alloc | apply pw_below_drewN | apply below_drew1) | exact HB.out)⟩⟩
                case rest =>
                  clear HC32
                  try clear c1
                  try clear c2
                  try clear p2
                  try clear c3
                  try clear c5
                  try clear c6
                  try clear c6b0
                  try clear c6b1
                  try clear c13
                  try clear c16
                  try clear c17
                  try clear c17b0
                  try clear c17b1
                  try clear c24
                  try clear c24b0
                  try clear c24b1
                  try clear c24b2
                  try clear c31
                  try clear c35
                  try clear c35b0
                  try clear c35b1
                  try clear c35b2
                  try clear c38
                  try clear c38b0
                  try clear c38b1
                  try clear c38b2
                  try clear p2
                  obtain ⟨kq, x74_31, rfl, HA, HJ31, HB⟩ := hcut
                  cases kq with
                  | zero => exact absurd HA.out (by simp [mezzaninelaw21_AluPairs.j2])
                  | succ kj31 =>
                    have H := HA.out
                    clear HA
                    simp only [mezzaninelaw21_AluPairs.j2] at H
                    by_cases c47 : x74_31 = true
                    · subst c47
                      have H1 : (some false) = some r := by rw [if_pos rfl] at H; exact H
                      clear H
                      have H := H1
                      clear H1
                      exact absurd (Option.some.inj H) (by rw [HT.out]; decide)
                    · replace c47 := Bool.eq_false_iff.mpr c47
                      subst c47
                      have H1 : ((mezzaninelaw21_taken.f 5 a0 a1).bind fun t270 => (if t270 = true then ((mezzaninelaw21_taken.f 7 a0 a1).bind fun t271 => (if t271 = true then (some false) else ((mezzaninelaw21_taken.f 9 a0 a1).bind fun t272 => (if t272 = true then (some false) else ((mezzaninelaw21_wakes.f kj31).bind fun t273 => (some t273)))))) else ((mezzaninelaw21_wakes.f kj31).bind fun t274 => (some t274)))) = some r := by rw [if_neg (show ¬ (false = true) by decide)] at H; exact H
                      clear H
                      have H := H1
                      clear H1
                      replace H := Option.bind_eq_some_iff.mp H
                      obtain ⟨t270, A480, H⟩ := H
                      replace H : (if t270 = true then ((mezzaninelaw21_taken.f 7 a0 a1).bind fun t271 => (if t271 = true then (some false) else ((mezzaninelaw21_taken.f 9 a0 a1).bind fun t272 => (if t272 = true then (some false) else ((mezzaninelaw21_wakes.f kj31).bind fun t273 => (some t273)))))) else ((mezzaninelaw21_wakes.f kj31).bind fun t274 => (some t274))) = some r := H
                      have A48 := Aside0.mk A480
                      clear A480
                      by_cases c49 : t270 = true
                      · subst c49
                        have H1 : ((mezzaninelaw21_taken.f 7 a0 a1).bind fun t271 => (if t271 = true then (some false) else ((mezzaninelaw21_taken.f 9 a0 a1).bind fun t272 => (if t272 = true then (some false) else ((mezzaninelaw21_wakes.f kj31).bind fun t273 => (some t273)))))) = some r := by rw [if_pos rfl] at H; exact H
                        clear H
                        have H := H1
                        clear H1
                        replace H := Option.bind_eq_some_iff.mp H
                        obtain ⟨t271, A500, H⟩ := H
                        replace H : (if t271 = true then (some false) else ((mezzaninelaw21_taken.f 9 a0 a1).bind fun t272 => (if t272 = true then (some false) else ((mezzaninelaw21_wakes.f kj31).bind fun t273 => (some t273))))) = some r := H
                        have A50 := Aside0.mk A500
                        clear A500
                        by_cases c51 : t271 = true
                        · subst c51
                          have H1 : (some false) = some r := by rw [if_pos rfl] at H; exact H
                          clear H
                          have H := H1
                          clear H1
                          exact absurd (Option.some.inj H) (by rw [HT.out]; decide)
                        · replace c51 := Bool.eq_false_iff.mpr c51
                          subst c51
                          have H1 : ((mezzaninelaw21_taken.f 9 a0 a1).bind fun t272 => (if t272 = true then (some false) else ((mezzaninelaw21_wakes.f kj31).bind fun t273 => (some t273)))) = some r := by rw [if_neg (show ¬ (false = true) by decide)] at H; exact H
                          clear H
                          have H := H1
                          clear H1
                          replace H := Option.bind_eq_some_iff.mp H
                          obtain ⟨t272, A520, H⟩ := H
                          replace H : (if t272 = true then (some false) else ((mezzaninelaw21_wakes.f kj31).bind fun t273 => (some t273))) = some r := H
                          have A52 := Aside0.mk A520
                          clear A520
                          by_cases c53 : t272 = true
                          · subst c53
                            have H1 : (some false) = some r := by rw [if_pos rfl] at H; exact H
                            clear H
                            have H := H1
                            clear H1
                            exact absurd (Option.some.inj H) (by rw [HT.out]; decide)
                          · replace c53 := Bool.eq_false_iff.mpr c53
                            subst c53
                            have H1 : ((mezzaninelaw21_wakes.f kj31).bind fun t273 => (some t273)) = some r := by rw [if_neg (show ¬ (false = true) by decide)] at H; exact H
                            clear H
                            have H := H1
                            clear H1
                            replace H := Option.bind_eq_some_iff.mp H
                            obtain ⟨t273, A540, H⟩ := H
                            replace H : (some t273) = some r := H
                            have A54 := Aside0.mk A540
                            clear A540
                            obtain rfl := Option.some.inj H
                            go_wp2_with (first | ((with_reducible refine gate_callee (f := 17) rfl ?_); refine goesL_ (some 77) rfl rfl Try.func17 (by kernel_rfl) rfl #[.int .i64 5, .int .u64 a0, .int .u64 a1] rfl (by (try simp only [List.map_toArray, List.map_cons, List.map_nil]); first | done | rfl | (simp only [List.length_drop, List.length_take]; rfl)) ?_; (with_reducible refine (mezzaninelaw21_taken.calls 5 a0 a1 true _ A48.out).mono ?_); rintro e w55 ⟨rfl, hb⟩; refine ⟨_, rfl, ?_⟩; have n0_ := Aside0.mk (below_step (by repeat (first | (with_reducible first | exact HB.out | apply below_alloc | apply pw_below_drewN | apply below_drew1) | exact HB.out)) hb); clear HB; have HB := n0_; clear n0_; (try clear hb); (try clear hb2); (try clear hk); (try clear hi)) | (go_at_call 17; (with_reducible refine (mezzaninelaw21_taken.calls 7 a0 a1 false _ A50.out).mono ?_); rintro e w56 ⟨rfl, hb⟩; have n0_ := Aside0.mk (below_step (by repeat (first | (with_reducible first | exact HB.out | apply below_alloc | apply pw_below_drewN | apply below_drew1) | exact HB.out)) hb); clear HB; have HB := n0_; clear n0_; (try clear hb); (try clear hb2); (try clear hk); (try clear hi)) | (go_at_call 17; (with_reducible refine (mezzaninelaw21_taken.calls 9 a0 a1 false _ A52.out).mono ?_); rintro e w57 ⟨rfl, hb⟩; have n0_ := Aside0.mk (below_step (by repeat (first | (with_reducible first | exact HB.out | apply below_alloc | apply pw_below_drewN | apply below_drew1) | exact HB.out)) hb); clear HB; have HB := n0_; clear n0_; (try clear hb); (try clear hb2); (try clear hk); (try clear hi)) | ((with_reducible refine gate_callee (f := 11) rfl ?_); refine goesL_ (some 88) rfl rfl Try.func11 (by kernel_rfl) rfl #[] rfl (by (try simp only [List.map_toArray, List.map_cons, List.map_nil]); first | done | rfl | (simp only [List.length_drop, List.length_take]; rfl)) ?_; (with_reducible refine (mezzaninelaw21_wakes.calls kj31  t273 _ A54.out).mono ?_); rintro e w58 ⟨rfl, hb⟩; refine ⟨_, rfl, ?_⟩; have n0_ := Aside0.mk (below_step (by repeat (first | (with_reducible first | exact HB.out | apply below_alloc | apply pw_below_drewN | apply below_drew1) | exact HB.out)) hb); clear HB; have HB := n0_; clear n0_; (try clear hb); (try clear hb2); (try clear hk); (try clear hi)))
                            go_ret
                            exact ⟨by first | rfl | (simp [errW_none, errW_some] <;> rfl) | (simp [*, errW_none, errW_some] <;> rfl), by repeat (first | (with_reducible first | exact HB.out | apply below_alloc | apply pw_below_drewN | apply below_drew1) | exact HB.out)⟩
                      · replace c49 := Bool.eq_false_iff.mpr c49
                        subst c49
                        have H1 : ((mezzaninelaw21_wakes.f kj31).bind fun t274 => (some t274)) = some r := by rw [if_neg (show ¬ (false = true) by decide)] at H; exact H
                        clear H
                        have H := H1
                        clear H1
                        replace H := Option.bind_eq_some_iff.mp H
                        obtain ⟨t274, A590, H⟩ := H
                        replace H : (some t274) = some r := H
                        have A59 := Aside0.mk A590
                        clear A590
                        obtain rfl := Option.some.inj H
                        go_wp2_with (first | ((with_reducible refine gate_callee (f := 17) rfl ?_); refine goesL_ (some 77) rfl rfl Try.func17 (by kernel_rfl) rfl #[.int .i64 5, .int .u64 a0, .int .u64 a1] rfl (by (try simp only [List.map_toArray, List.map_cons, List.map_nil]); first | done | rfl | (simp only [List.length_drop, List.length_take]; rfl)) ?_; (with_reducible refine (mezzaninelaw21_taken.calls 5 a0 a1 false _ A48.out).mono ?_); rintro e w60 ⟨rfl, hb⟩; refine ⟨_, rfl, ?_⟩; have n0_ := Aside0.mk (below_step (by repeat (first | (with_reducible first | exact HB.out | apply below_alloc | apply pw_below_drewN | apply below_drew1) | exact HB.out)) hb); clear HB; have HB := n0_; clear n0_; (try clear hb); (try clear hb2); (try clear hk); (try clear hi)) | ((with_reducible refine gate_callee (f := 11) rfl ?_); refine goesL_ (some 88) rfl rfl Try.func11 (by kernel_rfl) rfl #[] rfl (by (try simp only [List.map_toArray, List.map_cons, List.map_nil]); first | done | rfl | (simp only [List.length_drop, List.length_take]; rfl)) ?_; (with_reducible refine (mezzaninelaw21_wakes.calls kj31  t274 _ A59.out).mono ?_); rintro e w61 ⟨rfl, hb⟩; refine ⟨_, rfl, ?_⟩; have n0_ := Aside0.mk (below_step (by repeat (first | (with_reducible first | exact HB.out | apply below_alloc | apply pw_below_drewN | apply below_drew1) | exact HB.out)) hb); clear HB; have HB := n0_; clear n0_; (try clear hb); (try clear hb2); (try clear hk); (try clear hi)))
                        go_ret
                        exact ⟨by first | rfl | (simp [errW_none, errW_some] <;> rfl) | (simp [*, errW_none, errW_some] <;> rfl), by repeat (first | (with_reducible first | exact HB.out | apply below_alloc | apply pw_below_drewN | apply below_drew1) | exact HB.out)⟩
        · rw [if_neg c17] at H
          have c17b0 : ((IntKind.u64.wrap (t257 + t258)) == t259) = false := beq_eq_false_iff_ne.mpr c17
          have c17b1 : ((IntKind.u64.wrap (t257 + t258)) != t259) = true := bne_iff_ne.mpr c17
          exact absurd (Option.some.inj H) (by rw [HT.out]; decide)

/-- THE ONE PURE STATEMENT of mezzaninelaw21_AluPairs: yours. -/
def mezzaninelaw21_AluPairs.Pure : Prop := ∀ (a0 : Int) (a1 : Int), (Lit.int .u64 a0).wf = true → (Lit.int .u64 a1).wf = true → ∃ k, mezzaninelaw21_AluPairs.f k a0 a1 = some true
theorem mezzaninelaw21_AluPairs.walk (P : mezzaninelaw21_AluPairs.Pure) (a0 : Int) (a1 : Int) (w : World) (w0 : (Lit.int .u64 a0).wf = true) (w1 : (Lit.int .u64 a1).wf = true) :
    Calls Try.prog 5 #[.int .u64 a0, .int .u64 a1] w fun e w' => e = .returned (.bool true) ∧ Below w.heap.size w w' := by
  obtain ⟨k, h⟩ := P a0 a1 w0 w1
  refine (mezzaninelaw21_AluPairs.calls k a0 a1 true w rfl h).mono ?_
  rintro e w' ⟨rfl, hd⟩
  exact ⟨rfl, hd⟩

end Go.Proofs.Ytbfdehkejohjhaa.Q
