/- Which register is meant; how a field's bits are put; masks. (By a program of this session.) -/
import Derived.Test.YtlopmcakfalkpaaDoorCField
set_option linter.unusedSimpArgs false
set_option linter.unusedVariables false
namespace Go.Proofs.YtlopmcakfalkpaaDoor.Hx
open Go.RowKit Go.Proofs.YtlopmcakfalkpaaDoor.Q Go.Proofs.YtlopmcakfalkpaaDoorW.PrintWords Go.Proofs.YtlopmcakfalkpaaDoorW.PrintLast Go.Proofs.YtlopmcakfalkpaaDoorW.PrintMore Go.Proofs.YtlopmcakfalkpaaDoor.Rg

/-- The register that a number means to a hart. -/
def meantV (v : Bool) (no : Int) : Int := if v = true then (if no = 256 then 512 else if no = 260 then 516 else if no = 261 then 517 else if no = 320 then 576 else if no = 321 then 577 else if no = 322 then 578 else if no = 323 then 579 else if no = 324 then 580 else if no = 384 then 640 else no) else no
set_option maxHeartbeats 16000000 in
set_option maxRecDepth 100000 in
theorem meant_c (g : Nat) (no : Int) (h : Ht) (w : World) (H : Hb w g h) : Calls Tryd.prog 27 #[.pointer (some ⟨g, 0, none⟩), .int .i64 no] w fun e w' => e = .returned (.int .i64 (meantV h.v no)) ∧ w' = w := by
  have c34 := H.cv; have f34 := H.fr 34
  clear H
  cases hv : h.v
  · rw [hv] at c34
    have hm : meantV false no = no := rfl
    rw [hm]
    clear hm hv
    have hu25 := Tryd.underlying25
    go_enter Tryd.func27, Tryd.ntmps27
    go_wp2
    go_ret
    exact ⟨rfl, rfl⟩
  · rw [hv] at c34
    by_cases h_256 : no = 256
    · subst h_256
      clear hv
      have hu25 := Tryd.underlying25
      go_enter Tryd.func27, Tryd.ntmps27
      go_wp2
      go_ret
      exact ⟨rfl, rfl⟩
    by_cases h_260 : no = 260
    · subst h_260
      clear hv
      have hu25 := Tryd.underlying25
      go_enter Tryd.func27, Tryd.ntmps27
      go_wp2
      go_ret
      exact ⟨rfl, rfl⟩
    by_cases h_261 : no = 261
    · subst h_261
      clear hv
      have hu25 := Tryd.underlying25
      go_enter Tryd.func27, Tryd.ntmps27
      go_wp2
      go_ret
      exact ⟨rfl, rfl⟩
    by_cases h_320 : no = 320
    · subst h_320
      clear hv
      have hu25 := Tryd.underlying25
      go_enter Tryd.func27, Tryd.ntmps27
      go_wp2
      go_ret
      exact ⟨rfl, rfl⟩
    by_cases h_321 : no = 321
    · subst h_321
      clear hv
      have hu25 := Tryd.underlying25
      go_enter Tryd.func27, Tryd.ntmps27
      go_wp2
      go_ret
      exact ⟨rfl, rfl⟩
    by_cases h_322 : no = 322
    · subst h_322
      clear hv
      have hu25 := Tryd.underlying25
      go_enter Tryd.func27, Tryd.ntmps27
      go_wp2
      go_ret
      exact ⟨rfl, rfl⟩
    by_cases h_323 : no = 323
    · subst h_323
      clear hv
      have hu25 := Tryd.underlying25
      go_enter Tryd.func27, Tryd.ntmps27
      go_wp2
      go_ret
      exact ⟨rfl, rfl⟩
    by_cases h_324 : no = 324
    · subst h_324
      clear hv
      have hu25 := Tryd.underlying25
      go_enter Tryd.func27, Tryd.ntmps27
      go_wp2
      go_ret
      exact ⟨rfl, rfl⟩
    by_cases h_384 : no = 384
    · subst h_384
      clear hv
      have hu25 := Tryd.underlying25
      go_enter Tryd.func27, Tryd.ntmps27
      go_wp2
      go_ret
      exact ⟨rfl, rfl⟩
    have e_256 : (no == 256) = false := beq_eq_false_iff_ne.2 h_256
    have e_260 : (no == 260) = false := beq_eq_false_iff_ne.2 h_260
    have e_261 : (no == 261) = false := beq_eq_false_iff_ne.2 h_261
    have e_320 : (no == 320) = false := beq_eq_false_iff_ne.2 h_320
    have e_321 : (no == 321) = false := beq_eq_false_iff_ne.2 h_321
    have e_322 : (no == 322) = false := beq_eq_false_iff_ne.2 h_322
    have e_323 : (no == 323) = false := beq_eq_false_iff_ne.2 h_323
    have e_324 : (no == 324) = false := beq_eq_false_iff_ne.2 h_324
    have e_384 : (no == 384) = false := beq_eq_false_iff_ne.2 h_384
    have hm : meantV true no = no := by unfold meantV; rw [if_pos rfl, if_neg h_256, if_neg h_260, if_neg h_261, if_neg h_320, if_neg h_321, if_neg h_322, if_neg h_323, if_neg h_324, if_neg h_384]
    rw [hm]
    clear hm hv h_256 h_260 h_261 h_320 h_321 h_322 h_323 h_324 h_384
    have hu25 := Tryd.underlying25
    go_enter Tryd.func27, Tryd.ntmps27
    go_wp2
    go_ret
    exact ⟨rfl, rfl⟩
/-- A field's bits of a mask made those of v. -/
def putV (a may v : Int) : Int := Go.bits .or .u64 (Go.bits .andNot .u64 a may) (Go.bits .and .u64 v may)
set_option maxHeartbeats 16000000 in
set_option maxRecDepth 100000 in
theorem put_c (g o : Nat) (may v : Int) (h : Ht) (w : World) (H : Hb w g h) (ho : isU o = true) : Calls Tryd.prog 34 #[.pointer (some ⟨g, o, none⟩), .int .u64 may, .int .u64 v] w fun e w' => e = .returned (.tuple #[]) ∧ w' = w.setCell ⟨g, o, none⟩ (.int .u64 (putV (h.x o) may v)) := by
  have c := H.u o ho; have f := H.fr o
  clear H ho
  go_enter Tryd.func34, Tryd.ntmps34
  go_wp2
  first | go_end0 | ((try simp only [Exit.inBlock, Exit.then]); refine bodyPost_ret (results_none rfl _ _ _) rfl ?_)
  exact ⟨rfl, rfl⟩
def tablesV (no : Int) : Bool := (csr_tables.f no).getD false
def modeV (v : Int) : Bool := (csr_mode.f v).getD false
theorem tables_f (no : Int) : csr_tables.f no = some (tablesV no) := by
  have h : ∃ r, csr_tables.f no = some r := by unfold csr_tables.f; repeat' (first | exact ⟨_, rfl⟩ | split)
  obtain ⟨r, hr⟩ := h
  unfold tablesV; rw [hr]; rfl
theorem mode_f (v : Int) : csr_mode.f v = some (modeV v) := by
  have h : ∃ r, csr_mode.f v = some r := by unfold csr_mode.f; repeat' (first | exact ⟨_, rfl⟩ | split)
  obtain ⟨r, hr⟩ := h
  unfold modeV; rw [hr]; rfl
theorem tables_c (no : Int) (w : World) : Calls Tryd.prog 32 #[.int .i64 no] w fun e w' => e = .returned (.bool (tablesV no)) ∧ Drawn0 w w' := csr_tables.calls no _ w (tables_f no)
theorem mode_c (v : Int) (w : World) : Calls Tryd.prog 33 #[.int .u64 v] w fun e w' => e = .returned (.bool (modeV v)) ∧ Drawn0 w w' := csr_mode.calls v _ w (mode_f v)
end Go.Proofs.YtlopmcakfalkpaaDoor.Hx
