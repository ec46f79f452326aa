/- Where a register lies in a hart; the pointers that the program's field hands out. (By a program of this session.) -/
import Derived.Test.YtpbodidpcbodaaaDoorHeq
import Derived.Test.YtpbodidpcbodaaaDoorHrow
import Derived.Test.YtpbodidpcbodaaaDoorQx5
set_option linter.unusedSimpArgs false
set_option linter.unusedVariables false
namespace Go.Proofs.YtpbodidpcbodaaaDoor.Hx
open Go.RowKit Go.Proofs.YtpbodidpcbodaaaDoor.Q Go.Proofs.YtpbodidpcbodaaaDoorW.PrintWords Go.Proofs.YtpbodidpcbodaaaDoorW.PrintLast Go.Proofs.YtpbodidpcbodaaaDoorW.PrintMore Go.Proofs.YtpbodidpcbodaaaDoor.Rg

def mOff (no : Int) : Option Nat := if no = 768 then some 38 else if no = 770 then some 39 else if no = 771 then some 40 else if no = 772 then some 41 else if no = 773 then some 43 else if no = 774 then some 44 else if no = 832 then some 45 else if no = 833 then some 46 else if no = 834 then some 47 else if no = 835 then some 48 else if no = 843 then some 49 else if no = 842 then some 50 else if no = 2816 then some 75 else if no = 2818 then some 76 else none
def superOff (no : Int) : Option Nat := if no = 261 then some 51 else if no = 262 then some 52 else if no = 320 then some 53 else if no = 321 then some 54 else if no = 322 then some 55 else if no = 323 then some 56 else if no = 384 then some 57 else if no = 512 then some 68 else if no = 517 then some 69 else if no = 576 then some 70 else if no = 577 then some 71 else if no = 578 then some 72 else if no = 579 then some 73 else if no = 640 then some 74 else none
def hypOff (no : Int) : Option Nat := if no = 1536 then some 58 else if no = 1538 then some 59 else if no = 1539 then some 60 else if no = 1605 then some 61 else if no = 1543 then some 63 else if no = 1542 then some 62 else if no = 1603 then some 64 else if no = 1610 then some 65 else if no = 1664 then some 66 else if no = 1541 then some 67 else none
/-- The cell of a register. -/
def fieldOff (no : Int) : Option Nat := match mOff no with
  | some o => some o
  | none => match superOff no with
    | some o => some o
    | none => hypOff no
/-- A register's pointer. -/
def ptrOf (g : Nat) (o : Option Nat) : Value := .pointer (o.map fun j => (⟨g, j, none⟩ : Addr))
set_option maxHeartbeats 16000000 in
set_option maxRecDepth 100000 in
theorem super_c (g : Nat) (no : Int) (w : World) : Calls Tryd.prog 32 #[.pointer (some ⟨g, 0, none⟩), .int .i64 no] w fun e w' => e = .returned (ptrOf g (superOff no)) ∧ w' = w := by
  have hu25 := Tryd.underlying25
  by_cases h_261 : no = 261
  · subst h_261
    go_enter Tryd.func32, Tryd.ntmps32
    go_wp2
    go_ret
    exact ⟨rfl, rfl⟩
  by_cases h_262 : no = 262
  · subst h_262
    go_enter Tryd.func32, Tryd.ntmps32
    go_wp2
    go_ret
    exact ⟨rfl, rfl⟩
  by_cases h_320 : no = 320
  · subst h_320
    go_enter Tryd.func32, Tryd.ntmps32
    go_wp2
    go_ret
    exact ⟨rfl, rfl⟩
  by_cases h_321 : no = 321
  · subst h_321
    go_enter Tryd.func32, Tryd.ntmps32
    go_wp2
    go_ret
    exact ⟨rfl, rfl⟩
  by_cases h_322 : no = 322
  · subst h_322
    go_enter Tryd.func32, Tryd.ntmps32
    go_wp2
    go_ret
    exact ⟨rfl, rfl⟩
  by_cases h_323 : no = 323
  · subst h_323
    go_enter Tryd.func32, Tryd.ntmps32
    go_wp2
    go_ret
    exact ⟨rfl, rfl⟩
  by_cases h_384 : no = 384
  · subst h_384
    go_enter Tryd.func32, Tryd.ntmps32
    go_wp2
    go_ret
    exact ⟨rfl, rfl⟩
  by_cases h_512 : no = 512
  · subst h_512
    go_enter Tryd.func32, Tryd.ntmps32
    go_wp2
    go_ret
    exact ⟨rfl, rfl⟩
  by_cases h_517 : no = 517
  · subst h_517
    go_enter Tryd.func32, Tryd.ntmps32
    go_wp2
    go_ret
    exact ⟨rfl, rfl⟩
  by_cases h_576 : no = 576
  · subst h_576
    go_enter Tryd.func32, Tryd.ntmps32
    go_wp2
    go_ret
    exact ⟨rfl, rfl⟩
  by_cases h_577 : no = 577
  · subst h_577
    go_enter Tryd.func32, Tryd.ntmps32
    go_wp2
    go_ret
    exact ⟨rfl, rfl⟩
  by_cases h_578 : no = 578
  · subst h_578
    go_enter Tryd.func32, Tryd.ntmps32
    go_wp2
    go_ret
    exact ⟨rfl, rfl⟩
  by_cases h_579 : no = 579
  · subst h_579
    go_enter Tryd.func32, Tryd.ntmps32
    go_wp2
    go_ret
    exact ⟨rfl, rfl⟩
  by_cases h_640 : no = 640
  · subst h_640
    go_enter Tryd.func32, Tryd.ntmps32
    go_wp2
    go_ret
    exact ⟨rfl, rfl⟩
  have e_261 : (no == 261) = false := beq_eq_false_iff_ne.2 h_261
  have e_262 : (no == 262) = false := beq_eq_false_iff_ne.2 h_262
  have e_320 : (no == 320) = false := beq_eq_false_iff_ne.2 h_320
  have e_321 : (no == 321) = false := beq_eq_false_iff_ne.2 h_321
  have e_322 : (no == 322) = false := beq_eq_false_iff_ne.2 h_322
  have e_323 : (no == 323) = false := beq_eq_false_iff_ne.2 h_323
  have e_384 : (no == 384) = false := beq_eq_false_iff_ne.2 h_384
  have e_512 : (no == 512) = false := beq_eq_false_iff_ne.2 h_512
  have e_517 : (no == 517) = false := beq_eq_false_iff_ne.2 h_517
  have e_576 : (no == 576) = false := beq_eq_false_iff_ne.2 h_576
  have e_577 : (no == 577) = false := beq_eq_false_iff_ne.2 h_577
  have e_578 : (no == 578) = false := beq_eq_false_iff_ne.2 h_578
  have e_579 : (no == 579) = false := beq_eq_false_iff_ne.2 h_579
  have e_640 : (no == 640) = false := beq_eq_false_iff_ne.2 h_640
  have hn : superOff no = none := by unfold superOff; rw [if_neg h_261, if_neg h_262, if_neg h_320, if_neg h_321, if_neg h_322, if_neg h_323, if_neg h_384, if_neg h_512, if_neg h_517, if_neg h_576, if_neg h_577, if_neg h_578, if_neg h_579, if_neg h_640]
  rw [hn]
  clear hn h_261 h_262 h_320 h_321 h_322 h_323 h_384 h_512 h_517 h_576 h_577 h_578 h_579 h_640
  go_enter Tryd.func32, Tryd.ntmps32
  go_wp2
  go_ret
  exact ⟨rfl, rfl⟩
set_option maxHeartbeats 16000000 in
set_option maxRecDepth 100000 in
theorem hyp_c (g : Nat) (no : Int) (w : World) : Calls Tryd.prog 33 #[.pointer (some ⟨g, 0, none⟩), .int .i64 no] w fun e w' => e = .returned (ptrOf g (hypOff no)) ∧ w' = w := by
  have hu25 := Tryd.underlying25
  by_cases h_1536 : no = 1536
  · subst h_1536
    go_enter Tryd.func33, Tryd.ntmps33
    go_wp2
    go_ret
    exact ⟨rfl, rfl⟩
  by_cases h_1538 : no = 1538
  · subst h_1538
    go_enter Tryd.func33, Tryd.ntmps33
    go_wp2
    go_ret
    exact ⟨rfl, rfl⟩
  by_cases h_1539 : no = 1539
  · subst h_1539
    go_enter Tryd.func33, Tryd.ntmps33
    go_wp2
    go_ret
    exact ⟨rfl, rfl⟩
  by_cases h_1605 : no = 1605
  · subst h_1605
    go_enter Tryd.func33, Tryd.ntmps33
    go_wp2
    go_ret
    exact ⟨rfl, rfl⟩
  by_cases h_1543 : no = 1543
  · subst h_1543
    go_enter Tryd.func33, Tryd.ntmps33
    go_wp2
    go_ret
    exact ⟨rfl, rfl⟩
  by_cases h_1542 : no = 1542
  · subst h_1542
    go_enter Tryd.func33, Tryd.ntmps33
    go_wp2
    go_ret
    exact ⟨rfl, rfl⟩
  by_cases h_1603 : no = 1603
  · subst h_1603
    go_enter Tryd.func33, Tryd.ntmps33
    go_wp2
    go_ret
    exact ⟨rfl, rfl⟩
  by_cases h_1610 : no = 1610
  · subst h_1610
    go_enter Tryd.func33, Tryd.ntmps33
    go_wp2
    go_ret
    exact ⟨rfl, rfl⟩
  by_cases h_1664 : no = 1664
  · subst h_1664
    go_enter Tryd.func33, Tryd.ntmps33
    go_wp2
    go_ret
    exact ⟨rfl, rfl⟩
  by_cases h_1541 : no = 1541
  · subst h_1541
    go_enter Tryd.func33, Tryd.ntmps33
    go_wp2
    go_ret
    exact ⟨rfl, rfl⟩
  have e_1536 : (no == 1536) = false := beq_eq_false_iff_ne.2 h_1536
  have e_1538 : (no == 1538) = false := beq_eq_false_iff_ne.2 h_1538
  have e_1539 : (no == 1539) = false := beq_eq_false_iff_ne.2 h_1539
  have e_1605 : (no == 1605) = false := beq_eq_false_iff_ne.2 h_1605
  have e_1543 : (no == 1543) = false := beq_eq_false_iff_ne.2 h_1543
  have e_1542 : (no == 1542) = false := beq_eq_false_iff_ne.2 h_1542
  have e_1603 : (no == 1603) = false := beq_eq_false_iff_ne.2 h_1603
  have e_1610 : (no == 1610) = false := beq_eq_false_iff_ne.2 h_1610
  have e_1664 : (no == 1664) = false := beq_eq_false_iff_ne.2 h_1664
  have e_1541 : (no == 1541) = false := beq_eq_false_iff_ne.2 h_1541
  have hn : hypOff no = none := by unfold hypOff; rw [if_neg h_1536, if_neg h_1538, if_neg h_1539, if_neg h_1605, if_neg h_1543, if_neg h_1542, if_neg h_1603, if_neg h_1610, if_neg h_1664, if_neg h_1541]
  rw [hn]
  clear hn h_1536 h_1538 h_1539 h_1605 h_1543 h_1542 h_1603 h_1610 h_1664 h_1541
  go_enter Tryd.func33, Tryd.ntmps33
  go_wp2
  go_ret
  exact ⟨rfl, rfl⟩
set_option maxHeartbeats 16000000 in
set_option maxRecDepth 100000 in
theorem field_c (g : Nat) (no : Int) (w : World) : Calls Tryd.prog 27 #[.pointer (some ⟨g, 0, none⟩), .int .i64 no] w fun e w' => e = .returned (ptrOf g (fieldOff no)) ∧ w' = w := by
  have hu25 := Tryd.underlying25
  by_cases h_768 : no = 768
  · subst h_768
    go_enter Tryd.func27, Tryd.ntmps27
    go_wp2
    go_ret
    exact ⟨rfl, rfl⟩
  by_cases h_770 : no = 770
  · subst h_770
    go_enter Tryd.func27, Tryd.ntmps27
    go_wp2
    go_ret
    exact ⟨rfl, rfl⟩
  by_cases h_771 : no = 771
  · subst h_771
    go_enter Tryd.func27, Tryd.ntmps27
    go_wp2
    go_ret
    exact ⟨rfl, rfl⟩
  by_cases h_772 : no = 772
  · subst h_772
    go_enter Tryd.func27, Tryd.ntmps27
    go_wp2
    go_ret
    exact ⟨rfl, rfl⟩
  by_cases h_773 : no = 773
  · subst h_773
    go_enter Tryd.func27, Tryd.ntmps27
    go_wp2
    go_ret
    exact ⟨rfl, rfl⟩
  by_cases h_774 : no = 774
  · subst h_774
    go_enter Tryd.func27, Tryd.ntmps27
    go_wp2
    go_ret
    exact ⟨rfl, rfl⟩
  by_cases h_832 : no = 832
  · subst h_832
    go_enter Tryd.func27, Tryd.ntmps27
    go_wp2
    go_ret
    exact ⟨rfl, rfl⟩
  by_cases h_833 : no = 833
  · subst h_833
    go_enter Tryd.func27, Tryd.ntmps27
    go_wp2
    go_ret
    exact ⟨rfl, rfl⟩
  by_cases h_834 : no = 834
  · subst h_834
    go_enter Tryd.func27, Tryd.ntmps27
    go_wp2
    go_ret
    exact ⟨rfl, rfl⟩
  by_cases h_835 : no = 835
  · subst h_835
    go_enter Tryd.func27, Tryd.ntmps27
    go_wp2
    go_ret
    exact ⟨rfl, rfl⟩
  by_cases h_843 : no = 843
  · subst h_843
    go_enter Tryd.func27, Tryd.ntmps27
    go_wp2
    go_ret
    exact ⟨rfl, rfl⟩
  by_cases h_842 : no = 842
  · subst h_842
    go_enter Tryd.func27, Tryd.ntmps27
    go_wp2
    go_ret
    exact ⟨rfl, rfl⟩
  by_cases h_2816 : no = 2816
  · subst h_2816
    go_enter Tryd.func27, Tryd.ntmps27
    go_wp2
    go_ret
    exact ⟨rfl, rfl⟩
  by_cases h_2818 : no = 2818
  · subst h_2818
    go_enter Tryd.func27, Tryd.ntmps27
    go_wp2
    go_ret
    exact ⟨rfl, rfl⟩
  have e_768 : (no == 768) = false := beq_eq_false_iff_ne.2 h_768
  have e_770 : (no == 770) = false := beq_eq_false_iff_ne.2 h_770
  have e_771 : (no == 771) = false := beq_eq_false_iff_ne.2 h_771
  have e_772 : (no == 772) = false := beq_eq_false_iff_ne.2 h_772
  have e_773 : (no == 773) = false := beq_eq_false_iff_ne.2 h_773
  have e_774 : (no == 774) = false := beq_eq_false_iff_ne.2 h_774
  have e_832 : (no == 832) = false := beq_eq_false_iff_ne.2 h_832
  have e_833 : (no == 833) = false := beq_eq_false_iff_ne.2 h_833
  have e_834 : (no == 834) = false := beq_eq_false_iff_ne.2 h_834
  have e_835 : (no == 835) = false := beq_eq_false_iff_ne.2 h_835
  have e_843 : (no == 843) = false := beq_eq_false_iff_ne.2 h_843
  have e_842 : (no == 842) = false := beq_eq_false_iff_ne.2 h_842
  have e_2816 : (no == 2816) = false := beq_eq_false_iff_ne.2 h_2816
  have e_2818 : (no == 2818) = false := beq_eq_false_iff_ne.2 h_2818
  have hm : mOff no = none := by unfold mOff; rw [if_neg h_768, if_neg h_770, if_neg h_771, if_neg h_772, if_neg h_773, if_neg h_774, if_neg h_832, if_neg h_833, if_neg h_834, if_neg h_835, if_neg h_843, if_neg h_842, if_neg h_2816, if_neg h_2818]
  clear h_768 h_770 h_771 h_772 h_773 h_774 h_832 h_833 h_834 h_835 h_843 h_842 h_2816 h_2818
  have hS := super_c g no
  cases hs : superOff no with
  | some j =>
    have hf : fieldOff no = some j := by unfold fieldOff; rw [hm, hs]
    rw [hs] at hS; rw [hf]
    have HS := Lib.hid hS
    clear hS hm hs hf
    go_enter Tryd.func27, Tryd.ntmps27
    go_wp2_with fail
    refine (HS.out _).mono ?_
    rintro e w1 ⟨rfl, rfl⟩
    simp only [ptrOf, Option.map_some]
    go_wp2
    go_ret
    exact ⟨rfl, rfl⟩
  | none =>
    have hf : fieldOff no = hypOff no := by unfold fieldOff; rw [hm, hs]
    rw [hs] at hS; rw [hf]
    have HS := Lib.hid hS; have HH := Lib.hid (hyp_c g no)
    clear hS hm hs hf
    go_enter Tryd.func27, Tryd.ntmps27
    go_wp2_with fail
    refine (HS.out _).mono ?_
    rintro e w1 ⟨rfl, rfl⟩
    simp only [ptrOf, Option.map_none]
    go_wp2_with fail
    refine (HH.out _).mono ?_
    rintro e w1 ⟨rfl, rfl⟩
    go_wp2
    go_ret
    exact ⟨rfl, rfl⟩
end Go.Proofs.YtpbodidpcbodaaaDoor.Hx
