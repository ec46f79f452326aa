/- What a guest's supervisor may do a host's may, where mstatus.TVM is 0: of any hart, any number. -/
import Derived.Test.YtbmmafebekehdaaDoorQx8
import Derived.Test.YtbmmafebekehdaaDoorQCheck
import Derived.Test.YtbmmafebekehdaaDoorQWakes11
set_option linter.unusedSimpArgs false
set_option linter.unusedVariables false
namespace Go.Proofs.YtbmmafebekehdaaDoor.Pure
open Go.RowKit Go.Proofs.YtbmmafebekehdaaDoor.Q Go.Proofs.YtbmmafebekehdaaDoorW.PrintWords Go.Proofs.YtbmmafebekehdaaDoorW.PrintLast Go.Proofs.YtbmmafebekehdaaDoorW.PrintMore Go.Proofs.YtbmmafebekehdaaDoor.Bv Go.Proofs.YtbmmafebekehdaaDoor.QN
theorem tvm_off {x : Int} (h0 : 0 ≤ x) (h1 : x < 18446744073709551616) : Go.bits .and .u64 (Go.bits .andNot .u64 x 1048576) 1048576 = 0 := by
  obtain ⟨y, rfl⟩ := U_of h0 h1
  rw [andNot_u64, ofInt_U, and_u64, ofInt_U, BitVec.and_assoc, show (~~~ BitVec.ofInt 64 1048576) &&& BitVec.ofInt 64 1048576 = 0#64 from by decide, BitVec.and_zero]; rfl
theorem guest_all (kn : Bool) (ms mc sc hs hc no : Int) (w : Bool) (hm : Go.bits .and .u64 ms 1048576 = 0) :
    (chk kn 1 true ms mc sc hs hc no w = 0 → chk kn 1 false ms mc sc hs hc no w = 0) ∧ (chk kn 1 true ms mc sc hs hc no w = 2 → chk kn 1 false ms mc sc hs hc no w = 2) := by
  unfold chk tail ctr rest
  generalize (2 : Int) ^ (no - 3072).toNat = p
  cases kn
  · simp
  by_cases g0 : w = true ∧ 3072 ≤ no
  · simp [g0]
  by_cases g1 : 3072 ≤ no ∧ no ≤ 3074
  · have hw : w = false := by
      cases w
      · rfl
      · exact absurd ⟨rfl, g1.1⟩ g0
    subst hw
    by_cases g2 : Go.bits .and .u64 mc p = 0 <;> by_cases g3 : Go.bits .and .u64 hc p = 0 <;> simp [g1, g2, g3]
  · by_cases g2 : no / 256 % 4 = 3 ∨ no / 256 % 4 = 0
    · simp [g0, g1, g2]
    · by_cases g3 : no / 256 % 4 = 2 <;> by_cases g4 : no = 384 <;> by_cases g5 : no = 1664 <;> by_cases g6 : Go.bits .and .u64 hs 1048576 = 0 <;> simp [g0, g1, g2, g3, g4, g5, g6, hm]
theorem CsrnoGuest : mezzaninelaw11_CsrnoGuest.Pure := by
  intro h0 h1 h2 h3 h4 h5 h6 h7 h8 h9 h10 h11 h12 h13 h14 h15 h16 h17 h18 h19 h20 h21 h22 h23 h24 h25 h26 h27 h28 h29 h30 h31 h32 h33 h34 h35 h36 h37 h38 h39 h40 h41 h42 h43 h44 h45 h46 h47 h48 h49 h50 h51 h52 h53 h54 h55 h56 h57 h58 h59 h60 h61 h62 h63 h64 h65 h66 h67 h68 h69 h70 h71 h72 h73 h74 h75 h76 no w w0 w1 w2 w3 w4 w5 w6 w7 w8 w9 w10 w11 w12 w13 w14 w15 w16 w17 w18 w19 w20 w21 w22 w23 w24 w25 w26 w27 w28 w29 w30 w31 w32 w33 w37 w38 w39 w40 w41 w42 w43 w44 w45 w46 w47 w48 w49 w50 w51 w52 w53 w54 w55 w56 w57 w58 w59 w60 w61 w62 w63 w64 w65 w66 w67 w68 w69 w70 w71 w72 w73 w74 w75 w76 wn
  obtain ⟨m0, m1⟩ := u64_in w38
  refine ⟨40, ?_⟩
  unfold mezzaninelaw11_CsrnoGuest.f
  rw [check_eq 35, bsm, check_eq 35, bsm, csrno_wakes, bsm]
  obtain ⟨e0, e2⟩ := guest_all (kn no) (Go.bits .andNot .u64 h38 1048576) h44 h52 h58 h62 no w (tvm_off m0 m1)
  by_cases g0 : chk (kn no) 1 true (Go.bits .andNot .u64 h38 1048576) h44 h52 h58 h62 no w = 0
  · rw [if_pos g0, if_pos (e0 g0), if_neg (by rw [g0]; decide)]
  · rw [if_neg g0]
    by_cases g2 : chk (kn no) 1 true (Go.bits .andNot .u64 h38 1048576) h44 h52 h58 h62 no w = 2
    · rw [if_pos g2, if_pos (e2 g2)]
    · rw [if_neg g2]
end Go.Proofs.YtbmmafebekehdaaDoor.Pure
