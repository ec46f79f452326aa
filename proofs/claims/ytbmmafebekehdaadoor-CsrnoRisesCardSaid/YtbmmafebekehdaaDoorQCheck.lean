/- Which exception comes of touching a register: what the printed Check, and the document's, tell. -/
import Derived.Test.YtbmmafebekehdaaDoorQx2
import Derived.Test.YtbmmafebekehdaaDoorQx3
import Derived.Test.YtbmmafebekehdaaDoorQx7
import Derived.Test.YtbmmafebekehdaaDoorQCsrno
set_option linter.unusedSimpArgs false
set_option linter.unusedVariables false
namespace Go.Proofs.YtbmmafebekehdaaDoor.QN
open Go.RowKit Go.Proofs.YtbmmafebekehdaaDoor.Q Go.Proofs.YtbmmafebekehdaaDoorW.PrintWords Go.Proofs.YtbmmafebekehdaaDoorW.PrintLast Go.Proofs.YtbmmafebekehdaaDoorW.PrintMore Go.Proofs.YtbmmafebekehdaaDoor.Bv
/-- What comes of reading the counter of a bit. -/
def ctr (priv : Int) (v : Bool) (sc mc hc b : Int) : Int :=
  if Go.bits .and .u64 mc b = 0 then 2 else if v = true then (if Go.bits .and .u64 hc b = 0 then 22 else if priv = 0 then (if Go.bits .and .u64 sc b = 0 then 22 else 0) else 0) else if priv = 0 then (if Go.bits .and .u64 sc b = 0 then 2 else 0) else 0
theorem counter_eq (k : Nat) (h0 h1 h2 h3 h4 h5 h6 h7 h8 h9 h10 h11 h12 h13 h14 h15 h16 h17 h18 h19 h20 h21 h22 h23 h24 h25 h26 h27 h28 h29 h30 h31 h32 h33 : Int) (h34 h35 h36 : Bool) (h37 h38 h39 h40 h41 h42 h43 h44 h45 h46 h47 h48 h49 h50 h51 h52 h53 h54 h55 h56 h57 h58 h59 h60 h61 h62 h63 h64 h65 h66 h67 h68 h69 h70 h71 h72 h73 h74 h75 h76 : Int) (b : Int) : csrno_counter.f (k + 2) h0 h1 h2 h3 h4 h5 h6 h7 h8 h9 h10 h11 h12 h13 h14 h15 h16 h17 h18 h19 h20 h21 h22 h23 h24 h25 h26 h27 h28 h29 h30 h31 h32 h33 h34 h35 h36 h37 h38 h39 h40 h41 h42 h43 h44 h45 h46 h47 h48 h49 h50 h51 h52 h53 h54 h55 h56 h57 h58 h59 h60 h61 h62 h63 h64 h65 h66 h67 h68 h69 h70 h71 h72 h73 h74 h75 h76 b = some (ctr h33 h34 h52 h44 h62 b) := by
  unfold csrno_counter.f ctr
  simp only [csrno_counter.j0]
  simp only [csrno_counter.j1]
  by_cases h1 : h33 = 0 <;> by_cases h2 : Go.bits .and .u64 h44 b = 0 <;> by_cases h3 : Go.bits .and .u64 h62 b = 0 <;> by_cases h4 : Go.bits .and .u64 h52 b = 0 <;> cases h34 <;> simp [h1, h2, h3, h4]
/-- What comes of the others. -/
def rest (priv : Int) (v : Bool) (ms hs no lv : Int) : Int :=
  if v = true then (if priv = 0 then 22 else if lv = 2 then 22 else if no = 384 then (if Go.bits .and .u64 hs 1048576 = 0 then 0 else 22) else 0)
  else if priv = 0 then 2 else if no = 384 then (if Go.bits .and .u64 ms 1048576 = 0 then 0 else 2) else if no = 1664 then (if Go.bits .and .u64 ms 1048576 = 0 then 0 else 2) else 0
theorem ck3 (k : Nat) (no lv : Int) (b : Bool) (h0 h1 h2 h3 h4 h5 h6 h7 h8 h9 h10 h11 h12 h13 h14 h15 h16 h17 h18 h19 h20 h21 h22 h23 h24 h25 h26 h27 h28 h29 h30 h31 h32 h33 : Int) (h34 h35 h36 : Bool) (h37 h38 h39 h40 h41 h42 h43 h44 h45 h46 h47 h48 h49 h50 h51 h52 h53 h54 h55 h56 h57 h58 h59 h60 h61 h62 h63 h64 h65 h66 h67 h68 h69 h70 h71 h72 h73 h74 h75 h76 : Int) : csrno_Check.j3 (k + 1) no lv b h0 h1 h2 h3 h4 h5 h6 h7 h8 h9 h10 h11 h12 h13 h14 h15 h16 h17 h18 h19 h20 h21 h22 h23 h24 h25 h26 h27 h28 h29 h30 h31 h32 h33 h34 h35 h36 h37 h38 h39 h40 h41 h42 h43 h44 h45 h46 h47 h48 h49 h50 h51 h52 h53 h54 h55 h56 h57 h58 h59 h60 h61 h62 h63 h64 h65 h66 h67 h68 h69 h70 h71 h72 h73 h74 h75 h76 = some (if b = true then 2 else rest h33 h34 h38 h58 no lv) := by
  rw [csrno_Check.j3]; unfold rest; simp only [apply_ite some]
theorem two_pow3 {no : Int} (h0 : 3072 ≤ no) (h1 : no ≤ 3074) : 0 ≤ Go.bits .and .i64 no 3 ∧ shl .u64 1 (Go.bits .and .i64 no 3) = 2 ^ (no - 3072).toNat := by
  have h : no = 3072 ∨ no = 3073 ∨ no = 3074 := by omega
  rcases h with rfl | rfl | rfl <;> decide
theorem ck2 (k : Nat) (no lv : Int) (b : Bool) (hb : b = true → 3072 ≤ no ∧ no ≤ 3074) (h0 h1 h2 h3 h4 h5 h6 h7 h8 h9 h10 h11 h12 h13 h14 h15 h16 h17 h18 h19 h20 h21 h22 h23 h24 h25 h26 h27 h28 h29 h30 h31 h32 h33 : Int) (h34 h35 h36 : Bool) (h37 h38 h39 h40 h41 h42 h43 h44 h45 h46 h47 h48 h49 h50 h51 h52 h53 h54 h55 h56 h57 h58 h59 h60 h61 h62 h63 h64 h65 h66 h67 h68 h69 h70 h71 h72 h73 h74 h75 h76 : Int) : csrno_Check.j2 (k + 3) no lv b h0 h1 h2 h3 h4 h5 h6 h7 h8 h9 h10 h11 h12 h13 h14 h15 h16 h17 h18 h19 h20 h21 h22 h23 h24 h25 h26 h27 h28 h29 h30 h31 h32 h33 h34 h35 h36 h37 h38 h39 h40 h41 h42 h43 h44 h45 h46 h47 h48 h49 h50 h51 h52 h53 h54 h55 h56 h57 h58 h59 h60 h61 h62 h63 h64 h65 h66 h67 h68 h69 h70 h71 h72 h73 h74 h75 h76 = some (if b = true then ctr h33 h34 h52 h44 h62 (2 ^ (no - 3072).toNat) else if lv = 3 ∨ lv = 0 then 2 else rest h33 h34 h38 h58 no lv) := by
  rw [csrno_Check.j2, ck3, ck3]
  cases b
  · simp only [Bool.false_eq_true, if_false]
    by_cases h3 : lv = 3
    · simp [h3]
    · by_cases h0 : lv = 0
      · simp [h0]
      · simp [h3, h0]
  · obtain ⟨g0, g1⟩ := hb rfl
    obtain ⟨e0, e1⟩ := two_pow3 g0 g1
    rw [if_pos rfl, if_pos e0, e1, counter_eq, bsm, if_pos rfl]
theorem and3 {n : Int} (h0 : 0 ≤ n) (h1 : n < 64) : Go.bits .and .i64 n 3 = n % 4 := by
  have h : ∀ n : Fin 64, Go.bits .and .i64 (n.val : Int) 3 = (n.val : Int) % 4 := by decide +kernel
  have := h ⟨n.toNat, by omega⟩
  rwa [show ((n.toNat : Nat) : Int) = n by omega] at this
/-- What comes behind the first questions. -/
def tail (priv : Int) (v : Bool) (ms mc sc hs hc no : Int) : Int :=
  if priv ≠ 0 ∧ priv ≠ 1 then 0 else if 3072 ≤ no ∧ no ≤ 3074 then ctr priv v sc mc hc (2 ^ (no - 3072).toNat) else if no / 256 % 4 = 3 ∨ no / 256 % 4 = 0 then 2 else rest priv v ms hs no (no / 256 % 4)
theorem ck1 (k : Nat) (no : Int) (n0 : 0 ≤ no) (n1 : no < 4096) (b : Bool) (h0 h1 h2 h3 h4 h5 h6 h7 h8 h9 h10 h11 h12 h13 h14 h15 h16 h17 h18 h19 h20 h21 h22 h23 h24 h25 h26 h27 h28 h29 h30 h31 h32 h33 : Int) (h34 h35 h36 : Bool) (h37 h38 h39 h40 h41 h42 h43 h44 h45 h46 h47 h48 h49 h50 h51 h52 h53 h54 h55 h56 h57 h58 h59 h60 h61 h62 h63 h64 h65 h66 h67 h68 h69 h70 h71 h72 h73 h74 h75 h76 : Int) : csrno_Check.j1 (k + 4) no b h0 h1 h2 h3 h4 h5 h6 h7 h8 h9 h10 h11 h12 h13 h14 h15 h16 h17 h18 h19 h20 h21 h22 h23 h24 h25 h26 h27 h28 h29 h30 h31 h32 h33 h34 h35 h36 h37 h38 h39 h40 h41 h42 h43 h44 h45 h46 h47 h48 h49 h50 h51 h52 h53 h54 h55 h56 h57 h58 h59 h60 h61 h62 h63 h64 h65 h66 h67 h68 h69 h70 h71 h72 h73 h74 h75 h76 = some (if b = true then 0 else if 3072 ≤ no ∧ no ≤ 3074 then ctr h33 h34 h52 h44 h62 (2 ^ (no - 3072).toNat) else if no / 256 % 4 = 3 ∨ no / 256 % 4 = 0 then 2 else rest h33 h34 h38 h58 no (no / 256 % 4)) := by
  rw [csrno_Check.j1, and3 (by omega) (by omega), ck2 k no _ false (fun h => by cases h)]
  cases b
  · simp only [Bool.false_eq_true, if_false]
    by_cases h : no ≥ 3072
    · rw [if_pos h, ck2 k no _ (decide (no ≤ 3074)) (fun h2 => ⟨h, of_decide_eq_true h2⟩)]
      by_cases h2 : no ≤ 3074
      · rw [decide_eq_true h2, if_pos rfl, if_pos (show 3072 ≤ no ∧ no ≤ 3074 from ⟨h, h2⟩)]
      · rw [decide_eq_false h2, if_neg (show ¬(3072 ≤ no ∧ no ≤ 3074) from fun h3 => h2 h3.2)]; rfl
    · rw [if_neg h, if_neg (show ¬(3072 ≤ no ∧ no ≤ 3074) from fun h3 => h h3.1)]
  · rw [if_pos rfl, if_pos rfl]
theorem ck0 (k : Nat) (no : Int) (n0 : 0 ≤ no) (n1 : no < 4096) (b : Bool) (h0 h1 h2 h3 h4 h5 h6 h7 h8 h9 h10 h11 h12 h13 h14 h15 h16 h17 h18 h19 h20 h21 h22 h23 h24 h25 h26 h27 h28 h29 h30 h31 h32 h33 : Int) (h34 h35 h36 : Bool) (h37 h38 h39 h40 h41 h42 h43 h44 h45 h46 h47 h48 h49 h50 h51 h52 h53 h54 h55 h56 h57 h58 h59 h60 h61 h62 h63 h64 h65 h66 h67 h68 h69 h70 h71 h72 h73 h74 h75 h76 : Int) : csrno_Check.j0 (k + 5) no b h0 h1 h2 h3 h4 h5 h6 h7 h8 h9 h10 h11 h12 h13 h14 h15 h16 h17 h18 h19 h20 h21 h22 h23 h24 h25 h26 h27 h28 h29 h30 h31 h32 h33 h34 h35 h36 h37 h38 h39 h40 h41 h42 h43 h44 h45 h46 h47 h48 h49 h50 h51 h52 h53 h54 h55 h56 h57 h58 h59 h60 h61 h62 h63 h64 h65 h66 h67 h68 h69 h70 h71 h72 h73 h74 h75 h76 = some (if b = true then 2 else tail h33 h34 h38 h44 h52 h58 h62 no) := by
  rw [csrno_Check.j0, ck1 k no n0 n1, ck1 k no n0 n1]
  unfold tail
  cases b
  · simp only [Bool.false_eq_true, if_false]
    by_cases h0 : h33 = 0
    · rw [if_pos h0, if_neg (show ¬(h33 ≠ 0 ∧ h33 ≠ 1) from fun h => h.1 h0)]
    · rw [if_neg h0]
      by_cases h1 : h33 = 1
      · rw [if_neg (show ¬((h33 != 1) = true) by simp [h1]), if_neg (show ¬(h33 ≠ 0 ∧ h33 ≠ 1) from fun h => h.2 h1)]
      · rw [if_pos (show (h33 != 1) = true by simp [h1]), if_pos (show h33 ≠ 0 ∧ h33 ≠ 1 from ⟨h0, h1⟩)]
  · rw [if_pos rfl, if_pos rfl]
/-- Which exception comes of touching a register. -/
def chk (kn : Bool) (priv : Int) (v : Bool) (ms mc sc hs hc no : Int) (w : Bool) : Int :=
  if kn = false then 2 else if w = true ∧ 3072 ≤ no then 2 else tail priv v ms mc sc hs hc no
/-- Is there such a register? -/
def kn (n : Int) : Bool := decide (findFrom n 56 ≥ 0)
theorem kn_range {n : Int} (h : kn n = true) : 0 ≤ n ∧ n < 4096 := by
  have h2 := of_decide_eq_true h
  rcases findFrom_range n 56 with e | ⟨j, hj, e, he⟩
  · omega
  · rw [← he]; exact rowNo_range j hj
theorem check_eq (k : Nat) (h0 h1 h2 h3 h4 h5 h6 h7 h8 h9 h10 h11 h12 h13 h14 h15 h16 h17 h18 h19 h20 h21 h22 h23 h24 h25 h26 h27 h28 h29 h30 h31 h32 h33 : Int) (h34 h35 h36 : Bool) (h37 h38 h39 h40 h41 h42 h43 h44 h45 h46 h47 h48 h49 h50 h51 h52 h53 h54 h55 h56 h57 h58 h59 h60 h61 h62 h63 h64 h65 h66 h67 h68 h69 h70 h71 h72 h73 h74 h75 h76 : Int) (no : Int) (w : Bool) : csrno_Check.f (k + 5) h0 h1 h2 h3 h4 h5 h6 h7 h8 h9 h10 h11 h12 h13 h14 h15 h16 h17 h18 h19 h20 h21 h22 h23 h24 h25 h26 h27 h28 h29 h30 h31 h32 h33 h34 h35 h36 h37 h38 h39 h40 h41 h42 h43 h44 h45 h46 h47 h48 h49 h50 h51 h52 h53 h54 h55 h56 h57 h58 h59 h60 h61 h62 h63 h64 h65 h66 h67 h68 h69 h70 h71 h72 h73 h74 h75 h76 no w = some (chk (kn no) h33 h34 h38 h44 h52 h58 h62 no w) := by
  unfold csrno_Check.f
  rw [known_eq, bsm, show decide (findFrom no 56 ≥ 0) = kn no from rfl]
  unfold chk
  cases h : kn no
  · rw [if_neg (show ¬(false = true) by decide), if_pos rfl, show k + 5 = k + 4 + 1 from rfl, csrno_Check.j0, if_pos rfl]
  · obtain ⟨n0, n1⟩ := kn_range h
    rw [if_pos rfl, ck0 k no n0 n1, ck0 k no n0 n1]
    cases w
    · simp only [Bool.false_eq_true, if_false, false_and, reduceCtorEq]
    · rw [if_pos rfl]
      by_cases h3 : 3072 ≤ no
      · rw [if_pos (show (no / 1024 == 3) = true by rw [show no / 1024 = 3 by omega]; rfl), if_neg (show ¬(true = false) by decide), if_pos (show true = true ∧ 3072 ≤ no from ⟨rfl, h3⟩)]
      · rw [if_neg (show ¬((no / 1024 == 3) = true) by simp; omega), if_neg (show ¬(true = false) by decide), if_neg (show ¬(true = true ∧ 3072 ≤ no) from fun h => h3 h.2)]
/-! ### the document's -/
theorem and_pow (n i : Nat) : n &&& 2 ^ i = 0 ↔ n.testBit i = false := by
  constructor
  · intro h
    have := congrArg (fun m => Nat.testBit m i) h
    simpa [Nat.testBit_and, Nat.testBit_two_pow_self] using this
  · intro h
    apply Nat.eq_of_testBit_eq
    intro j
    rw [Nat.testBit_and, Nat.testBit_two_pow, Nat.zero_testBit]
    by_cases e : i = j
    · subst e; simp [h]
    · simp [e]
theorem bit20 {x : Int} (h0 : 0 ≤ x) (h1 : x < 18446744073709551616) : (Go.bits .and .u64 (x / 1048576) 1 = 1) = ¬(Go.bits .and .u64 x 1048576 = 0) := by
  obtain ⟨n, rfl⟩ := Int.eq_ofNat_of_zero_le h0
  rw [show ((n : Int) / 1048576) = ((n / 1048576 : Nat) : Int) by omega, show (1048576 : Int) = ((2 ^ 20 : Nat) : Int) from rfl, show (1 : Int) = ((2 ^ 1 - 1 : Nat) : Int) from rfl,
    u64_and_nat _ _ (by omega) (by decide), u64_and_nat _ _ (by omega) (by decide), Nat.and_two_pow_sub_one_eq_mod]
  rw [eq_iff_iff, show (((n &&& 2 ^ 20 : Nat) : Int) = 0) = (n &&& 2 ^ 20 = 0) by rw [eq_iff_iff]; omega, and_pow, Nat.testBit_eq_decide_div_mod_eq, decide_eq_false_iff_not, Decidable.not_not]
  omega
theorem rk3 (k : Nat) (b : Bool) : mezzanineref11_Check.j3 (k + 1) b = some (if b = true then 22 else 0) := by
  rw [mezzanineref11_Check.j3]; simp only [apply_ite some]
theorem rk4 (k : Nat) (no lv : Int) (b : Bool) (h0 h1 h2 h3 h4 h5 h6 h7 h8 h9 h10 h11 h12 h13 h14 h15 h16 h17 h18 h19 h20 h21 h22 h23 h24 h25 h26 h27 h28 h29 h30 h31 h32 h33 : Int) (h34 h35 h36 : Bool) (h37 h38 h39 h40 h41 h42 h43 h44 h45 h46 h47 h48 h49 h50 h51 h52 h53 h54 h55 h56 h57 h58 h59 h60 h61 h62 h63 h64 h65 h66 h67 h68 h69 h70 h71 h72 h73 h74 h75 h76 : Int) (m0 : 0 ≤ h38) (m1 : h38 < 18446744073709551616) (s0 : 0 ≤ h58) (s1 : h58 < 18446744073709551616) : mezzanineref11_Check.j4 (k + 2) no lv b h0 h1 h2 h3 h4 h5 h6 h7 h8 h9 h10 h11 h12 h13 h14 h15 h16 h17 h18 h19 h20 h21 h22 h23 h24 h25 h26 h27 h28 h29 h30 h31 h32 h33 h34 h35 h36 h37 h38 h39 h40 h41 h42 h43 h44 h45 h46 h47 h48 h49 h50 h51 h52 h53 h54 h55 h56 h57 h58 h59 h60 h61 h62 h63 h64 h65 h66 h67 h68 h69 h70 h71 h72 h73 h74 h75 h76 = some (if b = true then 2 else rest h33 h34 h38 h58 no lv) := by
  rw [mezzanineref11_Check.j4, mezzanineref11_Check.j5, mezzanineref11_Check.j5]
  simp only [bit20 m0 m1, bit20 s0 s1]
  unfold rest
  by_cases g1 : h33 = 0 <;> by_cases g2 : no = 384 <;> by_cases g3 : no = 1664 <;> by_cases g4 : lv = 2 <;> by_cases g5 : Go.bits .and .u64 h38 1048576 = 0 <;> by_cases g6 : Go.bits .and .u64 h58 1048576 = 0 <;> cases h34 <;> cases b <;> simp [g1, g2, g3, g4, g5, g6] <;> omega
theorem two_pow3' {no : Int} (h0 : 3072 ≤ no) (h1 : no ≤ 3074) : 0 ≤ IntKind.u64.wrap (wrap64 (no - 3072)) ∧ shl .u64 1 (IntKind.u64.wrap (wrap64 (no - 3072))) = 2 ^ (no - 3072).toNat := by
  have h : no = 3072 ∨ no = 3073 ∨ no = 3074 := by omega
  rcases h with rfl | rfl | rfl <;> decide +kernel
theorem rk2 (k : Nat) (no : Int) (n0 : 0 ≤ no) (n1 : no < 4096) (b : Bool) (hb : b = true → 3072 ≤ no ∧ no ≤ 3074) (h0 h1 h2 h3 h4 h5 h6 h7 h8 h9 h10 h11 h12 h13 h14 h15 h16 h17 h18 h19 h20 h21 h22 h23 h24 h25 h26 h27 h28 h29 h30 h31 h32 h33 : Int) (h34 h35 h36 : Bool) (h37 h38 h39 h40 h41 h42 h43 h44 h45 h46 h47 h48 h49 h50 h51 h52 h53 h54 h55 h56 h57 h58 h59 h60 h61 h62 h63 h64 h65 h66 h67 h68 h69 h70 h71 h72 h73 h74 h75 h76 : Int) (m0 : 0 ≤ h38) (m1 : h38 < 18446744073709551616) (s0 : 0 ≤ h58) (s1 : h58 < 18446744073709551616) :
    mezzanineref11_Check.j2 (k + 3) no b h0 h1 h2 h3 h4 h5 h6 h7 h8 h9 h10 h11 h12 h13 h14 h15 h16 h17 h18 h19 h20 h21 h22 h23 h24 h25 h26 h27 h28 h29 h30 h31 h32 h33 h34 h35 h36 h37 h38 h39 h40 h41 h42 h43 h44 h45 h46 h47 h48 h49 h50 h51 h52 h53 h54 h55 h56 h57 h58 h59 h60 h61 h62 h63 h64 h65 h66 h67 h68 h69 h70 h71 h72 h73 h74 h75 h76 = some (if b = true then ctr h33 h34 h52 h44 h62 (2 ^ (no - 3072).toNat) else if no / 256 % 4 = 3 ∨ no / 256 % 4 = 0 then 2 else rest h33 h34 h38 h58 no (no / 256 % 4)) := by
  have elv : Int.tmod (wrap64 (Int.tdiv no 256)) 4 = no / 256 % 4 := by rw [Int.tdiv_eq_ediv_of_nonneg n0, show wrap64 (no / 256) = no / 256 by unfold wrap64; omega, Int.tmod_eq_emod_of_nonneg (by omega)]
  rw [mezzanineref11_Check.j2, elv, rk4 k _ _ _ h0 h1 h2 h3 h4 h5 h6 h7 h8 h9 h10 h11 h12 h13 h14 h15 h16 h17 h18 h19 h20 h21 h22 h23 h24 h25 h26 h27 h28 h29 h30 h31 h32 h33 h34 h35 h36 h37 h38 h39 h40 h41 h42 h43 h44 h45 h46 h47 h48 h49 h50 h51 h52 h53 h54 h55 h56 h57 h58 h59 h60 h61 h62 h63 h64 h65 h66 h67 h68 h69 h70 h71 h72 h73 h74 h75 h76 m0 m1 s0 s1, rk4 k _ _ _ h0 h1 h2 h3 h4 h5 h6 h7 h8 h9 h10 h11 h12 h13 h14 h15 h16 h17 h18 h19 h20 h21 h22 h23 h24 h25 h26 h27 h28 h29 h30 h31 h32 h33 h34 h35 h36 h37 h38 h39 h40 h41 h42 h43 h44 h45 h46 h47 h48 h49 h50 h51 h52 h53 h54 h55 h56 h57 h58 h59 h60 h61 h62 h63 h64 h65 h66 h67 h68 h69 h70 h71 h72 h73 h74 h75 h76 m0 m1 s0 s1, rk3, rk3]
  cases b
  · simp only [Bool.false_eq_true, if_false]
    by_cases h3 : no / 256 % 4 = 3
    · simp [h3]
    · by_cases h0 : no / 256 % 4 = 0
      · simp [h0]
      · simp [h3, h0]
  · obtain ⟨g0, g1⟩ := hb rfl
    obtain ⟨e0, e1⟩ := two_pow3' g0 g1
    rw [if_pos rfl, if_pos e0, e1, if_pos rfl]
    generalize (2 : Int) ^ (no - 3072).toNat = p
    unfold ctr
    by_cases h1 : h33 = 0 <;> by_cases h2 : Go.bits .and .u64 h44 p = 0 <;> by_cases h3 : Go.bits .and .u64 h62 p = 0 <;> by_cases h4 : Go.bits .and .u64 h52 p = 0 <;> cases h34 <;> simp [h1, h2, h3, h4]
theorem rk0 (k : Nat) (no : Int) (n0 : 0 ≤ no) (n1 : no < 4096) (b : Bool) (h0 h1 h2 h3 h4 h5 h6 h7 h8 h9 h10 h11 h12 h13 h14 h15 h16 h17 h18 h19 h20 h21 h22 h23 h24 h25 h26 h27 h28 h29 h30 h31 h32 h33 : Int) (h34 h35 h36 : Bool) (h37 h38 h39 h40 h41 h42 h43 h44 h45 h46 h47 h48 h49 h50 h51 h52 h53 h54 h55 h56 h57 h58 h59 h60 h61 h62 h63 h64 h65 h66 h67 h68 h69 h70 h71 h72 h73 h74 h75 h76 : Int) (m0 : 0 ≤ h38) (m1 : h38 < 18446744073709551616) (s0 : 0 ≤ h58) (s1 : h58 < 18446744073709551616) :
    mezzanineref11_Check.j0 (k + 5) no b h0 h1 h2 h3 h4 h5 h6 h7 h8 h9 h10 h11 h12 h13 h14 h15 h16 h17 h18 h19 h20 h21 h22 h23 h24 h25 h26 h27 h28 h29 h30 h31 h32 h33 h34 h35 h36 h37 h38 h39 h40 h41 h42 h43 h44 h45 h46 h47 h48 h49 h50 h51 h52 h53 h54 h55 h56 h57 h58 h59 h60 h61 h62 h63 h64 h65 h66 h67 h68 h69 h70 h71 h72 h73 h74 h75 h76 = some (if b = true then 2 else tail h33 h34 h38 h44 h52 h58 h62 no) := by
  have j1 (c : Bool) : mezzanineref11_Check.j1 (k + 4) no c h0 h1 h2 h3 h4 h5 h6 h7 h8 h9 h10 h11 h12 h13 h14 h15 h16 h17 h18 h19 h20 h21 h22 h23 h24 h25 h26 h27 h28 h29 h30 h31 h32 h33 h34 h35 h36 h37 h38 h39 h40 h41 h42 h43 h44 h45 h46 h47 h48 h49 h50 h51 h52 h53 h54 h55 h56 h57 h58 h59 h60 h61 h62 h63 h64 h65 h66 h67 h68 h69 h70 h71 h72 h73 h74 h75 h76 = some (if c = true then 0 else if 3072 ≤ no ∧ no ≤ 3074 then ctr h33 h34 h52 h44 h62 (2 ^ (no - 3072).toNat) else if no / 256 % 4 = 3 ∨ no / 256 % 4 = 0 then 2 else rest h33 h34 h38 h58 no (no / 256 % 4)) := by
    rw [mezzanineref11_Check.j1]
    cases c
    · simp only [Bool.false_eq_true, if_false]
      by_cases g2 : no = 3072
      · rw [if_pos g2, rk2 k no n0 n1 true (fun _ => by omega) h0 h1 h2 h3 h4 h5 h6 h7 h8 h9 h10 h11 h12 h13 h14 h15 h16 h17 h18 h19 h20 h21 h22 h23 h24 h25 h26 h27 h28 h29 h30 h31 h32 h33 h34 h35 h36 h37 h38 h39 h40 h41 h42 h43 h44 h45 h46 h47 h48 h49 h50 h51 h52 h53 h54 h55 h56 h57 h58 h59 h60 h61 h62 h63 h64 h65 h66 h67 h68 h69 h70 h71 h72 h73 h74 h75 h76 m0 m1 s0 s1, if_pos rfl, if_pos (show 3072 ≤ no ∧ no ≤ 3074 by omega)]
      · rw [if_neg g2]
        by_cases g3 : no = 3073
        · rw [if_pos g3, rk2 k no n0 n1 true (fun _ => by omega) h0 h1 h2 h3 h4 h5 h6 h7 h8 h9 h10 h11 h12 h13 h14 h15 h16 h17 h18 h19 h20 h21 h22 h23 h24 h25 h26 h27 h28 h29 h30 h31 h32 h33 h34 h35 h36 h37 h38 h39 h40 h41 h42 h43 h44 h45 h46 h47 h48 h49 h50 h51 h52 h53 h54 h55 h56 h57 h58 h59 h60 h61 h62 h63 h64 h65 h66 h67 h68 h69 h70 h71 h72 h73 h74 h75 h76 m0 m1 s0 s1, if_pos rfl, if_pos (show 3072 ≤ no ∧ no ≤ 3074 by omega)]
        · rw [if_neg g3, rk2 k no n0 n1 (no == 3074) (fun h => by have := beq_iff_eq.mp h; omega) h0 h1 h2 h3 h4 h5 h6 h7 h8 h9 h10 h11 h12 h13 h14 h15 h16 h17 h18 h19 h20 h21 h22 h23 h24 h25 h26 h27 h28 h29 h30 h31 h32 h33 h34 h35 h36 h37 h38 h39 h40 h41 h42 h43 h44 h45 h46 h47 h48 h49 h50 h51 h52 h53 h54 h55 h56 h57 h58 h59 h60 h61 h62 h63 h64 h65 h66 h67 h68 h69 h70 h71 h72 h73 h74 h75 h76 m0 m1 s0 s1]
          by_cases g4 : no = 3074
          · rw [if_pos (show (no == 3074) = true by rw [g4]; rfl), if_pos (show 3072 ≤ no ∧ no ≤ 3074 by omega)]
          · rw [if_neg (show ¬((no == 3074) = true) by simp [g4]), if_neg (show ¬(3072 ≤ no ∧ no ≤ 3074) by omega)]
    · rw [if_pos rfl, if_pos rfl]
  rw [mezzanineref11_Check.j0, j1, j1]
  unfold tail
  cases b
  · simp only [Bool.false_eq_true, if_false]
    by_cases h0 : h33 = 0
    · rw [if_pos h0, if_neg (show ¬(h33 ≠ 0 ∧ h33 ≠ 1) from fun h => h.1 h0)]
    · rw [if_neg h0]
      by_cases h1 : h33 = 1
      · rw [if_neg (show ¬((h33 != 1) = true) by simp [h1]), if_neg (show ¬(h33 ≠ 0 ∧ h33 ≠ 1) from fun h => h.2 h1)]
      · rw [if_pos (show (h33 != 1) = true by simp [h1]), if_pos (show h33 ≠ 0 ∧ h33 ≠ 1 from ⟨h0, h1⟩)]
  · rw [if_pos rfl, if_pos rfl]
theorem rcheck_eq (k : Nat) (h0 h1 h2 h3 h4 h5 h6 h7 h8 h9 h10 h11 h12 h13 h14 h15 h16 h17 h18 h19 h20 h21 h22 h23 h24 h25 h26 h27 h28 h29 h30 h31 h32 h33 : Int) (h34 h35 h36 : Bool) (h37 h38 h39 h40 h41 h42 h43 h44 h45 h46 h47 h48 h49 h50 h51 h52 h53 h54 h55 h56 h57 h58 h59 h60 h61 h62 h63 h64 h65 h66 h67 h68 h69 h70 h71 h72 h73 h74 h75 h76 : Int) (no : Int) (w : Bool) (m0 : 0 ≤ h38) (m1 : h38 < 18446744073709551616) (s0 : 0 ≤ h58) (s1 : h58 < 18446744073709551616) :
    mezzanineref11_Check.f (k + 5) h0 h1 h2 h3 h4 h5 h6 h7 h8 h9 h10 h11 h12 h13 h14 h15 h16 h17 h18 h19 h20 h21 h22 h23 h24 h25 h26 h27 h28 h29 h30 h31 h32 h33 h34 h35 h36 h37 h38 h39 h40 h41 h42 h43 h44 h45 h46 h47 h48 h49 h50 h51 h52 h53 h54 h55 h56 h57 h58 h59 h60 h61 h62 h63 h64 h65 h66 h67 h68 h69 h70 h71 h72 h73 h74 h75 h76 no w = some (chk (kn no) h33 h34 h38 h44 h52 h58 h62 no w) := by
  unfold mezzanineref11_Check.f chk
  have hk := known_name no
  rw [rname_eq, bsm]
  cases h : kn no
  · rw [show decide (findFrom no 56 ≥ 0) = kn no from rfl, h] at hk
    rw [if_pos (by simpa using hk.symm), if_pos rfl]
  · obtain ⟨n0, n1⟩ := kn_range h
    rw [show decide (findFrom no 56 ≥ 0) = kn no from rfl, h] at hk
    rw [if_neg (show ¬(_ = ([] : List UInt8)) by simpa using hk.symm), rk0 k no n0 n1 _ h0 h1 h2 h3 h4 h5 h6 h7 h8 h9 h10 h11 h12 h13 h14 h15 h16 h17 h18 h19 h20 h21 h22 h23 h24 h25 h26 h27 h28 h29 h30 h31 h32 h33 h34 h35 h36 h37 h38 h39 h40 h41 h42 h43 h44 h45 h46 h47 h48 h49 h50 h51 h52 h53 h54 h55 h56 h57 h58 h59 h60 h61 h62 h63 h64 h65 h66 h67 h68 h69 h70 h71 h72 h73 h74 h75 h76 m0 m1 s0 s1, rk0 k no n0 n1 _ h0 h1 h2 h3 h4 h5 h6 h7 h8 h9 h10 h11 h12 h13 h14 h15 h16 h17 h18 h19 h20 h21 h22 h23 h24 h25 h26 h27 h28 h29 h30 h31 h32 h33 h34 h35 h36 h37 h38 h39 h40 h41 h42 h43 h44 h45 h46 h47 h48 h49 h50 h51 h52 h53 h54 h55 h56 h57 h58 h59 h60 h61 h62 h63 h64 h65 h66 h67 h68 h69 h70 h71 h72 h73 h74 h75 h76 m0 m1 s0 s1]
    cases w
    · simp only [Bool.false_eq_true, if_false, false_and, reduceCtorEq]
    · rw [if_pos rfl]
      by_cases h3 : 3072 ≤ no
      · rw [if_pos (show decide (no ≥ 3072) = true from decide_eq_true h3), if_neg (show ¬(true = false) by decide), if_pos (show true = true ∧ 3072 ≤ no from ⟨rfl, h3⟩)]
      · rw [if_neg (show ¬(decide (no ≥ 3072) = true) by simpa using h3), if_neg (show ¬(true = false) by decide), if_neg (show ¬(true = true ∧ 3072 ≤ no) from fun h => h3 h.2)]
end Go.Proofs.YtbmmafebekehdaaDoor.QN
