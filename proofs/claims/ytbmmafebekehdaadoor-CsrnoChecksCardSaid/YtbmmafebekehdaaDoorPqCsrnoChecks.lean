/- Which exception comes of touching a register is the document's: of any hart, any number, reading and writing. -/
import Derived.Test.YtbmmafebekehdaaDoorQx8
import Derived.Test.YtbmmafebekehdaaDoorQCheck
import Derived.Test.YtbmmafebekehdaaDoorQWakes11
set_option linter.unusedSimpArgs false
set_option linter.unusedVariables false
namespace Go.Proofs.YtbmmafebekehdaaDoor.Pure
open Go.RowKit Go.Proofs.YtbmmafebekehdaaDoor.Q Go.Proofs.YtbmmafebekehdaaDoorW.PrintWords Go.Proofs.YtbmmafebekehdaaDoorW.PrintLast Go.Proofs.YtbmmafebekehdaaDoorW.PrintMore Go.Proofs.YtbmmafebekehdaaDoor.Bv Go.Proofs.YtbmmafebekehdaaDoor.QN
theorem CsrnoChecks : mezzaninelaw11_CsrnoChecks.Pure := by
  intro h0 h1 h2 h3 h4 h5 h6 h7 h8 h9 h10 h11 h12 h13 h14 h15 h16 h17 h18 h19 h20 h21 h22 h23 h24 h25 h26 h27 h28 h29 h30 h31 h32 h33 h34 h35 h36 h37 h38 h39 h40 h41 h42 h43 h44 h45 h46 h47 h48 h49 h50 h51 h52 h53 h54 h55 h56 h57 h58 h59 h60 h61 h62 h63 h64 h65 h66 h67 h68 h69 h70 h71 h72 h73 h74 h75 h76 no w w0 w1 w2 w3 w4 w5 w6 w7 w8 w9 w10 w11 w12 w13 w14 w15 w16 w17 w18 w19 w20 w21 w22 w23 w24 w25 w26 w27 w28 w29 w30 w31 w32 w33 w37 w38 w39 w40 w41 w42 w43 w44 w45 w46 w47 w48 w49 w50 w51 w52 w53 w54 w55 w56 w57 w58 w59 w60 w61 w62 w63 w64 w65 w66 w67 w68 w69 w70 w71 w72 w73 w74 w75 w76 wn
  obtain ⟨m0, m1⟩ := u64_in w38; obtain ⟨s0, s1⟩ := u64_in w58
  refine ⟨40, ?_⟩
  unfold mezzaninelaw11_CsrnoChecks.f
  rw [check_eq 35, bsm, rcheck_eq 35 h0 h1 h2 h3 h4 h5 h6 h7 h8 h9 h10 h11 h12 h13 h14 h15 h16 h17 h18 h19 h20 h21 h22 h23 h24 h25 h26 h27 h28 h29 h30 h31 h32 h33 h34 h35 h36 h37 h38 h39 h40 h41 h42 h43 h44 h45 h46 h47 h48 h49 h50 h51 h52 h53 h54 h55 h56 h57 h58 h59 h60 h61 h62 h63 h64 h65 h66 h67 h68 h69 h70 h71 h72 h73 h74 h75 h76 no w m0 m1 s0 s1, bsm, if_pos rfl, csrno_wakes, bsm]
end Go.Proofs.YtbmmafebekehdaaDoor.Pure
