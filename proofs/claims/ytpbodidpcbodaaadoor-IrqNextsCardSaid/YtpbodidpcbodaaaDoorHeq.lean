/- '==' of two harts told compactly, as one Bool. -/
import Derived.Test.YtpbodidpcbodaaaDoorHt
import Derived.Test.YtpbodidpcbodaaaDoorWEqStruct
import Derived.ChangeKeysEq
set_option linter.unusedSimpArgs false
set_option linter.unusedVariables false
namespace Go.Proofs.YtpbodidpcbodaaaDoor.Hx
open Go.RowKit Go.Proofs.YtpbodidpcbodaaaDoorW.PrintWords Go.Proofs.YtpbodidpcbodaaaDoorW.PrintLast Go.Proofs.YtpbodidpcbodaaaDoorW.PrintMore
def xeq (h k : Ht) : Bool := (h.x 1 == k.x 1) && ((h.x 2 == k.x 2) && ((h.x 3 == k.x 3) && ((h.x 4 == k.x 4) && ((h.x 5 == k.x 5) && ((h.x 6 == k.x 6) && ((h.x 7 == k.x 7) && ((h.x 8 == k.x 8) && ((h.x 9 == k.x 9) && ((h.x 10 == k.x 10) && ((h.x 11 == k.x 11) && ((h.x 12 == k.x 12) && ((h.x 13 == k.x 13) && ((h.x 14 == k.x 14) && ((h.x 15 == k.x 15) && ((h.x 16 == k.x 16) && ((h.x 17 == k.x 17) && ((h.x 18 == k.x 18) && ((h.x 19 == k.x 19) && ((h.x 20 == k.x 20) && ((h.x 21 == k.x 21) && ((h.x 22 == k.x 22) && ((h.x 23 == k.x 23) && ((h.x 24 == k.x 24) && ((h.x 25 == k.x 25) && ((h.x 26 == k.x 26) && ((h.x 27 == k.x 27) && ((h.x 28 == k.x 28) && ((h.x 29 == k.x 29) && ((h.x 30 == k.x 30) && ((h.x 31 == k.x 31) && ((h.x 32 == k.x 32))))))))))))))))))))))))))))))))
/-- Are two harts the same? -/
def heq (h k : Ht) : Bool := (h.x 0 == k.x 0) && (xeq h k && ((h.x 33 == k.x 33) && ((h.v == k.v) && ((h.wt == k.wt) && ((h.hl == k.hl) && ((h.x 37 == k.x 37) && ((h.x 38 == k.x 38) && ((h.x 39 == k.x 39) && ((h.x 40 == k.x 40) && ((h.x 41 == k.x 41) && ((h.x 42 == k.x 42) && ((h.x 43 == k.x 43) && ((h.x 44 == k.x 44) && ((h.x 45 == k.x 45) && ((h.x 46 == k.x 46) && ((h.x 47 == k.x 47) && ((h.x 48 == k.x 48) && ((h.x 49 == k.x 49) && ((h.x 50 == k.x 50) && ((h.x 51 == k.x 51) && ((h.x 52 == k.x 52) && ((h.x 53 == k.x 53) && ((h.x 54 == k.x 54) && ((h.x 55 == k.x 55) && ((h.x 56 == k.x 56) && ((h.x 57 == k.x 57) && ((h.x 58 == k.x 58) && ((h.x 59 == k.x 59) && ((h.x 60 == k.x 60) && ((h.x 61 == k.x 61) && ((h.x 62 == k.x 62) && ((h.x 63 == k.x 63) && ((h.x 64 == k.x 64) && ((h.x 65 == k.x 65) && ((h.x 66 == k.x 66) && ((h.x 67 == k.x 67) && ((h.x 68 == k.x 68) && ((h.x 69 == k.x 69) && ((h.x 70 == k.x 70) && ((h.x 71 == k.x 71) && ((h.x 72 == k.x 72) && ((h.x 73 == k.x 73) && ((h.x 74 == k.x 74) && ((h.x 75 == k.x 75) && ((h.x 76 == k.x 76))))))))))))))))))))))))))))))))))))))))))))))
section
variable {P : Program} {d : Nat} {e : TypeId} {c i : Nat} {is : List Nat} {xs ys : Array Value} {a b : Value} {r s : Bool} {w : World}
theorem eqi_cons (ha : (part e xs (i * c)).run P w = .ok a w) (hb : (part e ys (i * c)).run P w = .ok b w) (he : (Op.equalIn d e a b).run P w = .ok r w) (hr : (Op.eqItems d e c xs ys is).run P w = .ok s w) : (Op.eqItems d e c xs ys (i :: is)).run P w = .ok (r && s) w := by
  simp only [Op.eqItems, Sem.run_bind, ha, hb, he, Result.andThen_ok]
  cases r
  · simp
  · simpa using hr
theorem eqi_last (ha : (part e xs (i * c)).run P w = .ok a w) (hb : (part e ys (i * c)).run P w = .ok b w) (he : (Op.equalIn d e a b).run P w = .ok r w) : (Op.eqItems d e c xs ys [i]).run P w = .ok r w := by
  have h := eqi_cons (is := []) ha hb he (s := true) (by simp [Op.eqItems])
  rwa [Bool.and_true] at h
end
theorem partU {w : World} {xs : Array Value} {j : Nat} {v : Value} (h : xs[j]? = some v) : (part 22 xs j).run Tryd.prog w = .ok v w := run_part_plain (P := Tryd.prog) w (by kernel_rfl) h
theorem partP {w : World} {xs : Array Value} {j : Nat} {v : Value} (h : xs[j]? = some v) : (part 5 xs j).run Tryd.prog w = .ok v w := run_part_plain (P := Tryd.prog) w (by kernel_rfl) h
theorem partB {w : World} {xs : Array Value} {j : Nat} {v : Value} (h : xs[j]? = some v) : (part 4 xs j).run Tryd.prog w = .ok v w := run_part_plain (P := Tryd.prog) w (by kernel_rfl) h
set_option maxHeartbeats 4000000 in
set_option maxRecDepth 100000 in
theorem eqX (d : Nat) (w : World) (h k : Ht) : (Op.equalIn (d + 2) 23 (.agg #[.int .u64 (h.x 1), .int .u64 (h.x 2), .int .u64 (h.x 3), .int .u64 (h.x 4), .int .u64 (h.x 5), .int .u64 (h.x 6), .int .u64 (h.x 7), .int .u64 (h.x 8), .int .u64 (h.x 9), .int .u64 (h.x 10), .int .u64 (h.x 11), .int .u64 (h.x 12), .int .u64 (h.x 13), .int .u64 (h.x 14), .int .u64 (h.x 15), .int .u64 (h.x 16), .int .u64 (h.x 17), .int .u64 (h.x 18), .int .u64 (h.x 19), .int .u64 (h.x 20), .int .u64 (h.x 21), .int .u64 (h.x 22), .int .u64 (h.x 23), .int .u64 (h.x 24), .int .u64 (h.x 25), .int .u64 (h.x 26), .int .u64 (h.x 27), .int .u64 (h.x 28), .int .u64 (h.x 29), .int .u64 (h.x 30), .int .u64 (h.x 31), .int .u64 (h.x 32)]) (.agg #[.int .u64 (k.x 1), .int .u64 (k.x 2), .int .u64 (k.x 3), .int .u64 (k.x 4), .int .u64 (k.x 5), .int .u64 (k.x 6), .int .u64 (k.x 7), .int .u64 (k.x 8), .int .u64 (k.x 9), .int .u64 (k.x 10), .int .u64 (k.x 11), .int .u64 (k.x 12), .int .u64 (k.x 13), .int .u64 (k.x 14), .int .u64 (k.x 15), .int .u64 (k.x 16), .int .u64 (k.x 17), .int .u64 (k.x 18), .int .u64 (k.x 19), .int .u64 (k.x 20), .int .u64 (k.x 21), .int .u64 (k.x 22), .int .u64 (k.x 23), .int .u64 (k.x 24), .int .u64 (k.x 25), .int .u64 (k.x 26), .int .u64 (k.x 27), .int .u64 (k.x 28), .int .u64 (k.x 29), .int .u64 (k.x 30), .int .u64 (k.x 31), .int .u64 (k.x 32)])).run Tryd.prog w = .ok (xeq h k) w := by
  obtain ⟨i, hi⟩ := Option.isSome_iff_exists.1 (show (Tryd.prog.info? 22).isSome = true by kernel_rfl)
  rw [run_equalIn_array w (d + 1) _ _ Tryd.underlying23 hi]
  show (Op.eqItems (d + 1) 22 (Tryd.prog.cellsOf 22) _ _ [0, 1, 2, 3, 4, 5, 6, 7, 8, 9, 10, 11, 12, 13, 14, 15, 16, 17, 18, 19, 20, 21, 22, 23, 24, 25, 26, 27, 28, 29, 30, 31]).run Tryd.prog w = _
  rw [show Tryd.prog.cellsOf 22 = 1 from by kernel_rfl]
  refine eqi_cons (a := .int .u64 (h.x 1)) (b := .int .u64 (k.x 1)) (by exact partU rfl) (by exact partU rfl) (run_equalIn_int w d 22 .u64 .u64 _ _ Tryd.underlying22) ?_
  refine eqi_cons (a := .int .u64 (h.x 2)) (b := .int .u64 (k.x 2)) (by exact partU rfl) (by exact partU rfl) (run_equalIn_int w d 22 .u64 .u64 _ _ Tryd.underlying22) ?_
  refine eqi_cons (a := .int .u64 (h.x 3)) (b := .int .u64 (k.x 3)) (by exact partU rfl) (by exact partU rfl) (run_equalIn_int w d 22 .u64 .u64 _ _ Tryd.underlying22) ?_
  refine eqi_cons (a := .int .u64 (h.x 4)) (b := .int .u64 (k.x 4)) (by exact partU rfl) (by exact partU rfl) (run_equalIn_int w d 22 .u64 .u64 _ _ Tryd.underlying22) ?_
  refine eqi_cons (a := .int .u64 (h.x 5)) (b := .int .u64 (k.x 5)) (by exact partU rfl) (by exact partU rfl) (run_equalIn_int w d 22 .u64 .u64 _ _ Tryd.underlying22) ?_
  refine eqi_cons (a := .int .u64 (h.x 6)) (b := .int .u64 (k.x 6)) (by exact partU rfl) (by exact partU rfl) (run_equalIn_int w d 22 .u64 .u64 _ _ Tryd.underlying22) ?_
  refine eqi_cons (a := .int .u64 (h.x 7)) (b := .int .u64 (k.x 7)) (by exact partU rfl) (by exact partU rfl) (run_equalIn_int w d 22 .u64 .u64 _ _ Tryd.underlying22) ?_
  refine eqi_cons (a := .int .u64 (h.x 8)) (b := .int .u64 (k.x 8)) (by exact partU rfl) (by exact partU rfl) (run_equalIn_int w d 22 .u64 .u64 _ _ Tryd.underlying22) ?_
  refine eqi_cons (a := .int .u64 (h.x 9)) (b := .int .u64 (k.x 9)) (by exact partU rfl) (by exact partU rfl) (run_equalIn_int w d 22 .u64 .u64 _ _ Tryd.underlying22) ?_
  refine eqi_cons (a := .int .u64 (h.x 10)) (b := .int .u64 (k.x 10)) (by exact partU rfl) (by exact partU rfl) (run_equalIn_int w d 22 .u64 .u64 _ _ Tryd.underlying22) ?_
  refine eqi_cons (a := .int .u64 (h.x 11)) (b := .int .u64 (k.x 11)) (by exact partU rfl) (by exact partU rfl) (run_equalIn_int w d 22 .u64 .u64 _ _ Tryd.underlying22) ?_
  refine eqi_cons (a := .int .u64 (h.x 12)) (b := .int .u64 (k.x 12)) (by exact partU rfl) (by exact partU rfl) (run_equalIn_int w d 22 .u64 .u64 _ _ Tryd.underlying22) ?_
  refine eqi_cons (a := .int .u64 (h.x 13)) (b := .int .u64 (k.x 13)) (by exact partU rfl) (by exact partU rfl) (run_equalIn_int w d 22 .u64 .u64 _ _ Tryd.underlying22) ?_
  refine eqi_cons (a := .int .u64 (h.x 14)) (b := .int .u64 (k.x 14)) (by exact partU rfl) (by exact partU rfl) (run_equalIn_int w d 22 .u64 .u64 _ _ Tryd.underlying22) ?_
  refine eqi_cons (a := .int .u64 (h.x 15)) (b := .int .u64 (k.x 15)) (by exact partU rfl) (by exact partU rfl) (run_equalIn_int w d 22 .u64 .u64 _ _ Tryd.underlying22) ?_
  refine eqi_cons (a := .int .u64 (h.x 16)) (b := .int .u64 (k.x 16)) (by exact partU rfl) (by exact partU rfl) (run_equalIn_int w d 22 .u64 .u64 _ _ Tryd.underlying22) ?_
  refine eqi_cons (a := .int .u64 (h.x 17)) (b := .int .u64 (k.x 17)) (by exact partU rfl) (by exact partU rfl) (run_equalIn_int w d 22 .u64 .u64 _ _ Tryd.underlying22) ?_
  refine eqi_cons (a := .int .u64 (h.x 18)) (b := .int .u64 (k.x 18)) (by exact partU rfl) (by exact partU rfl) (run_equalIn_int w d 22 .u64 .u64 _ _ Tryd.underlying22) ?_
  refine eqi_cons (a := .int .u64 (h.x 19)) (b := .int .u64 (k.x 19)) (by exact partU rfl) (by exact partU rfl) (run_equalIn_int w d 22 .u64 .u64 _ _ Tryd.underlying22) ?_
  refine eqi_cons (a := .int .u64 (h.x 20)) (b := .int .u64 (k.x 20)) (by exact partU rfl) (by exact partU rfl) (run_equalIn_int w d 22 .u64 .u64 _ _ Tryd.underlying22) ?_
  refine eqi_cons (a := .int .u64 (h.x 21)) (b := .int .u64 (k.x 21)) (by exact partU rfl) (by exact partU rfl) (run_equalIn_int w d 22 .u64 .u64 _ _ Tryd.underlying22) ?_
  refine eqi_cons (a := .int .u64 (h.x 22)) (b := .int .u64 (k.x 22)) (by exact partU rfl) (by exact partU rfl) (run_equalIn_int w d 22 .u64 .u64 _ _ Tryd.underlying22) ?_
  refine eqi_cons (a := .int .u64 (h.x 23)) (b := .int .u64 (k.x 23)) (by exact partU rfl) (by exact partU rfl) (run_equalIn_int w d 22 .u64 .u64 _ _ Tryd.underlying22) ?_
  refine eqi_cons (a := .int .u64 (h.x 24)) (b := .int .u64 (k.x 24)) (by exact partU rfl) (by exact partU rfl) (run_equalIn_int w d 22 .u64 .u64 _ _ Tryd.underlying22) ?_
  refine eqi_cons (a := .int .u64 (h.x 25)) (b := .int .u64 (k.x 25)) (by exact partU rfl) (by exact partU rfl) (run_equalIn_int w d 22 .u64 .u64 _ _ Tryd.underlying22) ?_
  refine eqi_cons (a := .int .u64 (h.x 26)) (b := .int .u64 (k.x 26)) (by exact partU rfl) (by exact partU rfl) (run_equalIn_int w d 22 .u64 .u64 _ _ Tryd.underlying22) ?_
  refine eqi_cons (a := .int .u64 (h.x 27)) (b := .int .u64 (k.x 27)) (by exact partU rfl) (by exact partU rfl) (run_equalIn_int w d 22 .u64 .u64 _ _ Tryd.underlying22) ?_
  refine eqi_cons (a := .int .u64 (h.x 28)) (b := .int .u64 (k.x 28)) (by exact partU rfl) (by exact partU rfl) (run_equalIn_int w d 22 .u64 .u64 _ _ Tryd.underlying22) ?_
  refine eqi_cons (a := .int .u64 (h.x 29)) (b := .int .u64 (k.x 29)) (by exact partU rfl) (by exact partU rfl) (run_equalIn_int w d 22 .u64 .u64 _ _ Tryd.underlying22) ?_
  refine eqi_cons (a := .int .u64 (h.x 30)) (b := .int .u64 (k.x 30)) (by exact partU rfl) (by exact partU rfl) (run_equalIn_int w d 22 .u64 .u64 _ _ Tryd.underlying22) ?_
  refine eqi_cons (a := .int .u64 (h.x 31)) (b := .int .u64 (k.x 31)) (by exact partU rfl) (by exact partU rfl) (run_equalIn_int w d 22 .u64 .u64 _ _ Tryd.underlying22) ?_
  exact eqi_last (a := .int .u64 (h.x 32)) (b := .int .u64 (k.x 32)) (by exact partU rfl) (by exact partU rfl) (run_equalIn_int w d 22 .u64 .u64 _ _ Tryd.underlying22)
theorem partX {w : World} (h : Ht) : (part 23 h.cs 1).run Tryd.prog w = .ok (.agg #[.int .u64 (h.x 1), .int .u64 (h.x 2), .int .u64 (h.x 3), .int .u64 (h.x 4), .int .u64 (h.x 5), .int .u64 (h.x 6), .int .u64 (h.x 7), .int .u64 (h.x 8), .int .u64 (h.x 9), .int .u64 (h.x 10), .int .u64 (h.x 11), .int .u64 (h.x 12), .int .u64 (h.x 13), .int .u64 (h.x 14), .int .u64 (h.x 15), .int .u64 (h.x 16), .int .u64 (h.x 17), .int .u64 (h.x 18), .int .u64 (h.x 19), .int .u64 (h.x 20), .int .u64 (h.x 21), .int .u64 (h.x 22), .int .u64 (h.x 23), .int .u64 (h.x 24), .int .u64 (h.x 25), .int .u64 (h.x 26), .int .u64 (h.x 27), .int .u64 (h.x 28), .int .u64 (h.x 29), .int .u64 (h.x 30), .int .u64 (h.x 31), .int .u64 (h.x 32)]) w := by
  have hagg : (isAgg 23).run Tryd.prog w = .ok true w := by unfold isAgg; rw [Sem.run_bind, run_underlying Tryd.underlying23 w]; rfl
  have hi : (Tryd.prog.info? 23).map (·.size) = some 32 := by kernel_rfl
  cases hq : Tryd.prog.info? 23 with
  | none => simp [hq] at hi
  | some i =>
    have hs : i.size = 32 := by simpa [hq] using hi
    have he : h.cs.extract 1 (1 + 32) = #[.int .u64 (h.x 1), .int .u64 (h.x 2), .int .u64 (h.x 3), .int .u64 (h.x 4), .int .u64 (h.x 5), .int .u64 (h.x 6), .int .u64 (h.x 7), .int .u64 (h.x 8), .int .u64 (h.x 9), .int .u64 (h.x 10), .int .u64 (h.x 11), .int .u64 (h.x 12), .int .u64 (h.x 13), .int .u64 (h.x 14), .int .u64 (h.x 15), .int .u64 (h.x 16), .int .u64 (h.x 17), .int .u64 (h.x 18), .int .u64 (h.x 19), .int .u64 (h.x 20), .int .u64 (h.x 21), .int .u64 (h.x 22), .int .u64 (h.x 23), .int .u64 (h.x 24), .int .u64 (h.x 25), .int .u64 (h.x 26), .int .u64 (h.x 27), .int .u64 (h.x 28), .int .u64 (h.x 29), .int .u64 (h.x 30), .int .u64 (h.x 31), .int .u64 (h.x 32)] := by rw [h.cs_lit]; kernel_rfl
    simp only [part, Sem.run_bind, hagg, sizeOf, typeInfo, run_program, hq, hs, he, Sem.run_pure, Result.andThen_ok, if_true]
set_option maxHeartbeats 4000000 in
set_option maxRecDepth 100000 in
theorem eqH (d : Nat) (w : World) (h k : Ht) : (Op.equalIn (d + 4) 25 (.agg h.cs) (.agg k.cs)).run Tryd.prog w = .ok (heq h k) w := by
  refine eqA_of Tryd.underlying25 (by kernel_rfl) ?_
  refine eqf_cons (by rfl) (a := .int .u64 (h.x 0)) (b := .int .u64 (k.x 0)) (partU (by rw [Ht.get _ (by decide)]; rfl)) (partU (by rw [Ht.get _ (by decide)]; rfl)) (run_equalIn_int w (d + 2) _ .u64 .u64 _ _ Tryd.underlying22) ?_
  refine eqf_cons (by rfl) (partX h) (partX k) (eqX (d + 1) w h k) ?_
  refine eqf_cons (by rfl) (a := .int .u8 (h.x 33)) (b := .int .u8 (k.x 33)) (partP (by rw [Ht.get _ (by decide)]; rfl)) (partP (by rw [Ht.get _ (by decide)]; rfl)) (run_equalIn_int w (d + 2) _ .u8 .u8 _ _ Tryd.underlying5) ?_
  refine eqf_cons (by rfl) (a := .bool h.v) (b := .bool k.v) (partB (by rw [Ht.get _ (by decide)]; rfl)) (partB (by rw [Ht.get _ (by decide)]; rfl)) (run_equalIn_bool w (d + 2) _ _ _ Tryd.underlying4) ?_
  refine eqf_cons (by rfl) (a := .bool h.wt) (b := .bool k.wt) (partB (by rw [Ht.get _ (by decide)]; rfl)) (partB (by rw [Ht.get _ (by decide)]; rfl)) (run_equalIn_bool w (d + 2) _ _ _ Tryd.underlying4) ?_
  refine eqf_cons (by rfl) (a := .bool h.hl) (b := .bool k.hl) (partB (by rw [Ht.get _ (by decide)]; rfl)) (partB (by rw [Ht.get _ (by decide)]; rfl)) (run_equalIn_bool w (d + 2) _ _ _ Tryd.underlying4) ?_
  refine eqf_cons (by rfl) (a := .int .u64 (h.x 37)) (b := .int .u64 (k.x 37)) (partU (by rw [Ht.get _ (by decide)]; rfl)) (partU (by rw [Ht.get _ (by decide)]; rfl)) (run_equalIn_int w (d + 2) _ .u64 .u64 _ _ Tryd.underlying22) ?_
  refine eqf_cons (by rfl) (a := .int .u64 (h.x 38)) (b := .int .u64 (k.x 38)) (partU (by rw [Ht.get _ (by decide)]; rfl)) (partU (by rw [Ht.get _ (by decide)]; rfl)) (run_equalIn_int w (d + 2) _ .u64 .u64 _ _ Tryd.underlying22) ?_
  refine eqf_cons (by rfl) (a := .int .u64 (h.x 39)) (b := .int .u64 (k.x 39)) (partU (by rw [Ht.get _ (by decide)]; rfl)) (partU (by rw [Ht.get _ (by decide)]; rfl)) (run_equalIn_int w (d + 2) _ .u64 .u64 _ _ Tryd.underlying22) ?_
  refine eqf_cons (by rfl) (a := .int .u64 (h.x 40)) (b := .int .u64 (k.x 40)) (partU (by rw [Ht.get _ (by decide)]; rfl)) (partU (by rw [Ht.get _ (by decide)]; rfl)) (run_equalIn_int w (d + 2) _ .u64 .u64 _ _ Tryd.underlying22) ?_
  refine eqf_cons (by rfl) (a := .int .u64 (h.x 41)) (b := .int .u64 (k.x 41)) (partU (by rw [Ht.get _ (by decide)]; rfl)) (partU (by rw [Ht.get _ (by decide)]; rfl)) (run_equalIn_int w (d + 2) _ .u64 .u64 _ _ Tryd.underlying22) ?_
  refine eqf_cons (by rfl) (a := .int .u64 (h.x 42)) (b := .int .u64 (k.x 42)) (partU (by rw [Ht.get _ (by decide)]; rfl)) (partU (by rw [Ht.get _ (by decide)]; rfl)) (run_equalIn_int w (d + 2) _ .u64 .u64 _ _ Tryd.underlying22) ?_
  refine eqf_cons (by rfl) (a := .int .u64 (h.x 43)) (b := .int .u64 (k.x 43)) (partU (by rw [Ht.get _ (by decide)]; rfl)) (partU (by rw [Ht.get _ (by decide)]; rfl)) (run_equalIn_int w (d + 2) _ .u64 .u64 _ _ Tryd.underlying22) ?_
  refine eqf_cons (by rfl) (a := .int .u64 (h.x 44)) (b := .int .u64 (k.x 44)) (partU (by rw [Ht.get _ (by decide)]; rfl)) (partU (by rw [Ht.get _ (by decide)]; rfl)) (run_equalIn_int w (d + 2) _ .u64 .u64 _ _ Tryd.underlying22) ?_
  refine eqf_cons (by rfl) (a := .int .u64 (h.x 45)) (b := .int .u64 (k.x 45)) (partU (by rw [Ht.get _ (by decide)]; rfl)) (partU (by rw [Ht.get _ (by decide)]; rfl)) (run_equalIn_int w (d + 2) _ .u64 .u64 _ _ Tryd.underlying22) ?_
  refine eqf_cons (by rfl) (a := .int .u64 (h.x 46)) (b := .int .u64 (k.x 46)) (partU (by rw [Ht.get _ (by decide)]; rfl)) (partU (by rw [Ht.get _ (by decide)]; rfl)) (run_equalIn_int w (d + 2) _ .u64 .u64 _ _ Tryd.underlying22) ?_
  refine eqf_cons (by rfl) (a := .int .u64 (h.x 47)) (b := .int .u64 (k.x 47)) (partU (by rw [Ht.get _ (by decide)]; rfl)) (partU (by rw [Ht.get _ (by decide)]; rfl)) (run_equalIn_int w (d + 2) _ .u64 .u64 _ _ Tryd.underlying22) ?_
  refine eqf_cons (by rfl) (a := .int .u64 (h.x 48)) (b := .int .u64 (k.x 48)) (partU (by rw [Ht.get _ (by decide)]; rfl)) (partU (by rw [Ht.get _ (by decide)]; rfl)) (run_equalIn_int w (d + 2) _ .u64 .u64 _ _ Tryd.underlying22) ?_
  refine eqf_cons (by rfl) (a := .int .u64 (h.x 49)) (b := .int .u64 (k.x 49)) (partU (by rw [Ht.get _ (by decide)]; rfl)) (partU (by rw [Ht.get _ (by decide)]; rfl)) (run_equalIn_int w (d + 2) _ .u64 .u64 _ _ Tryd.underlying22) ?_
  refine eqf_cons (by rfl) (a := .int .u64 (h.x 50)) (b := .int .u64 (k.x 50)) (partU (by rw [Ht.get _ (by decide)]; rfl)) (partU (by rw [Ht.get _ (by decide)]; rfl)) (run_equalIn_int w (d + 2) _ .u64 .u64 _ _ Tryd.underlying22) ?_
  refine eqf_cons (by rfl) (a := .int .u64 (h.x 51)) (b := .int .u64 (k.x 51)) (partU (by rw [Ht.get _ (by decide)]; rfl)) (partU (by rw [Ht.get _ (by decide)]; rfl)) (run_equalIn_int w (d + 2) _ .u64 .u64 _ _ Tryd.underlying22) ?_
  refine eqf_cons (by rfl) (a := .int .u64 (h.x 52)) (b := .int .u64 (k.x 52)) (partU (by rw [Ht.get _ (by decide)]; rfl)) (partU (by rw [Ht.get _ (by decide)]; rfl)) (run_equalIn_int w (d + 2) _ .u64 .u64 _ _ Tryd.underlying22) ?_
  refine eqf_cons (by rfl) (a := .int .u64 (h.x 53)) (b := .int .u64 (k.x 53)) (partU (by rw [Ht.get _ (by decide)]; rfl)) (partU (by rw [Ht.get _ (by decide)]; rfl)) (run_equalIn_int w (d + 2) _ .u64 .u64 _ _ Tryd.underlying22) ?_
  refine eqf_cons (by rfl) (a := .int .u64 (h.x 54)) (b := .int .u64 (k.x 54)) (partU (by rw [Ht.get _ (by decide)]; rfl)) (partU (by rw [Ht.get _ (by decide)]; rfl)) (run_equalIn_int w (d + 2) _ .u64 .u64 _ _ Tryd.underlying22) ?_
  refine eqf_cons (by rfl) (a := .int .u64 (h.x 55)) (b := .int .u64 (k.x 55)) (partU (by rw [Ht.get _ (by decide)]; rfl)) (partU (by rw [Ht.get _ (by decide)]; rfl)) (run_equalIn_int w (d + 2) _ .u64 .u64 _ _ Tryd.underlying22) ?_
  refine eqf_cons (by rfl) (a := .int .u64 (h.x 56)) (b := .int .u64 (k.x 56)) (partU (by rw [Ht.get _ (by decide)]; rfl)) (partU (by rw [Ht.get _ (by decide)]; rfl)) (run_equalIn_int w (d + 2) _ .u64 .u64 _ _ Tryd.underlying22) ?_
  refine eqf_cons (by rfl) (a := .int .u64 (h.x 57)) (b := .int .u64 (k.x 57)) (partU (by rw [Ht.get _ (by decide)]; rfl)) (partU (by rw [Ht.get _ (by decide)]; rfl)) (run_equalIn_int w (d + 2) _ .u64 .u64 _ _ Tryd.underlying22) ?_
  refine eqf_cons (by rfl) (a := .int .u64 (h.x 58)) (b := .int .u64 (k.x 58)) (partU (by rw [Ht.get _ (by decide)]; rfl)) (partU (by rw [Ht.get _ (by decide)]; rfl)) (run_equalIn_int w (d + 2) _ .u64 .u64 _ _ Tryd.underlying22) ?_
  refine eqf_cons (by rfl) (a := .int .u64 (h.x 59)) (b := .int .u64 (k.x 59)) (partU (by rw [Ht.get _ (by decide)]; rfl)) (partU (by rw [Ht.get _ (by decide)]; rfl)) (run_equalIn_int w (d + 2) _ .u64 .u64 _ _ Tryd.underlying22) ?_
  refine eqf_cons (by rfl) (a := .int .u64 (h.x 60)) (b := .int .u64 (k.x 60)) (partU (by rw [Ht.get _ (by decide)]; rfl)) (partU (by rw [Ht.get _ (by decide)]; rfl)) (run_equalIn_int w (d + 2) _ .u64 .u64 _ _ Tryd.underlying22) ?_
  refine eqf_cons (by rfl) (a := .int .u64 (h.x 61)) (b := .int .u64 (k.x 61)) (partU (by rw [Ht.get _ (by decide)]; rfl)) (partU (by rw [Ht.get _ (by decide)]; rfl)) (run_equalIn_int w (d + 2) _ .u64 .u64 _ _ Tryd.underlying22) ?_
  refine eqf_cons (by rfl) (a := .int .u64 (h.x 62)) (b := .int .u64 (k.x 62)) (partU (by rw [Ht.get _ (by decide)]; rfl)) (partU (by rw [Ht.get _ (by decide)]; rfl)) (run_equalIn_int w (d + 2) _ .u64 .u64 _ _ Tryd.underlying22) ?_
  refine eqf_cons (by rfl) (a := .int .u64 (h.x 63)) (b := .int .u64 (k.x 63)) (partU (by rw [Ht.get _ (by decide)]; rfl)) (partU (by rw [Ht.get _ (by decide)]; rfl)) (run_equalIn_int w (d + 2) _ .u64 .u64 _ _ Tryd.underlying22) ?_
  refine eqf_cons (by rfl) (a := .int .u64 (h.x 64)) (b := .int .u64 (k.x 64)) (partU (by rw [Ht.get _ (by decide)]; rfl)) (partU (by rw [Ht.get _ (by decide)]; rfl)) (run_equalIn_int w (d + 2) _ .u64 .u64 _ _ Tryd.underlying22) ?_
  refine eqf_cons (by rfl) (a := .int .u64 (h.x 65)) (b := .int .u64 (k.x 65)) (partU (by rw [Ht.get _ (by decide)]; rfl)) (partU (by rw [Ht.get _ (by decide)]; rfl)) (run_equalIn_int w (d + 2) _ .u64 .u64 _ _ Tryd.underlying22) ?_
  refine eqf_cons (by rfl) (a := .int .u64 (h.x 66)) (b := .int .u64 (k.x 66)) (partU (by rw [Ht.get _ (by decide)]; rfl)) (partU (by rw [Ht.get _ (by decide)]; rfl)) (run_equalIn_int w (d + 2) _ .u64 .u64 _ _ Tryd.underlying22) ?_
  refine eqf_cons (by rfl) (a := .int .u64 (h.x 67)) (b := .int .u64 (k.x 67)) (partU (by rw [Ht.get _ (by decide)]; rfl)) (partU (by rw [Ht.get _ (by decide)]; rfl)) (run_equalIn_int w (d + 2) _ .u64 .u64 _ _ Tryd.underlying22) ?_
  refine eqf_cons (by rfl) (a := .int .u64 (h.x 68)) (b := .int .u64 (k.x 68)) (partU (by rw [Ht.get _ (by decide)]; rfl)) (partU (by rw [Ht.get _ (by decide)]; rfl)) (run_equalIn_int w (d + 2) _ .u64 .u64 _ _ Tryd.underlying22) ?_
  refine eqf_cons (by rfl) (a := .int .u64 (h.x 69)) (b := .int .u64 (k.x 69)) (partU (by rw [Ht.get _ (by decide)]; rfl)) (partU (by rw [Ht.get _ (by decide)]; rfl)) (run_equalIn_int w (d + 2) _ .u64 .u64 _ _ Tryd.underlying22) ?_
  refine eqf_cons (by rfl) (a := .int .u64 (h.x 70)) (b := .int .u64 (k.x 70)) (partU (by rw [Ht.get _ (by decide)]; rfl)) (partU (by rw [Ht.get _ (by decide)]; rfl)) (run_equalIn_int w (d + 2) _ .u64 .u64 _ _ Tryd.underlying22) ?_
  refine eqf_cons (by rfl) (a := .int .u64 (h.x 71)) (b := .int .u64 (k.x 71)) (partU (by rw [Ht.get _ (by decide)]; rfl)) (partU (by rw [Ht.get _ (by decide)]; rfl)) (run_equalIn_int w (d + 2) _ .u64 .u64 _ _ Tryd.underlying22) ?_
  refine eqf_cons (by rfl) (a := .int .u64 (h.x 72)) (b := .int .u64 (k.x 72)) (partU (by rw [Ht.get _ (by decide)]; rfl)) (partU (by rw [Ht.get _ (by decide)]; rfl)) (run_equalIn_int w (d + 2) _ .u64 .u64 _ _ Tryd.underlying22) ?_
  refine eqf_cons (by rfl) (a := .int .u64 (h.x 73)) (b := .int .u64 (k.x 73)) (partU (by rw [Ht.get _ (by decide)]; rfl)) (partU (by rw [Ht.get _ (by decide)]; rfl)) (run_equalIn_int w (d + 2) _ .u64 .u64 _ _ Tryd.underlying22) ?_
  refine eqf_cons (by rfl) (a := .int .u64 (h.x 74)) (b := .int .u64 (k.x 74)) (partU (by rw [Ht.get _ (by decide)]; rfl)) (partU (by rw [Ht.get _ (by decide)]; rfl)) (run_equalIn_int w (d + 2) _ .u64 .u64 _ _ Tryd.underlying22) ?_
  refine eqf_cons (by rfl) (a := .int .u64 (h.x 75)) (b := .int .u64 (k.x 75)) (partU (by rw [Ht.get _ (by decide)]; rfl)) (partU (by rw [Ht.get _ (by decide)]; rfl)) (run_equalIn_int w (d + 2) _ .u64 .u64 _ _ Tryd.underlying22) ?_
  exact eqf_last (by rfl) (a := .int .u64 (h.x 76)) (b := .int .u64 (k.x 76)) (partU (by rw [Ht.get _ (by decide)]; rfl)) (partU (by rw [Ht.get _ (by decide)]; rfl)) (run_equalIn_int w (d + 2) _ .u64 .u64 _ _ Tryd.underlying22)
theorem run_eqH (h k : Ht) (W : World) : (binOp .eql 25 (.agg h.cs) (.agg k.cs)).run Tryd.prog W = .ok (.bool (heq h k)) W := by
  simp only [binOp]
  simp [show (Op.equal 25 (.agg h.cs) (.agg k.cs)).run Tryd.prog W = .ok (heq h k) W from eqH 9996 W h k]
theorem run_neH (h k : Ht) (W : World) : (binOp .neq 25 (.agg h.cs) (.agg k.cs)).run Tryd.prog W = .ok (.bool (!heq h k)) W := by
  simp only [binOp]
  simp [show (Op.equal 25 (.agg h.cs) (.agg k.cs)).run Tryd.prog W = .ok (heq h k) W from eqH 9996 W h k]
theorem guardH (op : BinOp) (x y : Operand) (h k : Ht) (W : World) : (eqGuard op 25 x y (.agg h.cs) (.agg k.cs)).run Tryd.prog W = .ok () W :=
  run_eqGuard_agg W op _ x y _ _ (by kernel_rfl)
theorem heq_self (h : Ht) : heq h h = true := by simp [heq, xeq]
theorem exec_eqH {o : Oper} {ρ : Operand → Value} {w : World} {x y : Operand} {ty : TypeId} {h k : Ht} (ho : o.op = .binOp .eql 25 x y ty) (hx : ρ x = .agg h.cs) (hy : ρ y = .agg k.cs) : (execOp ρ o).run Tryd.prog w = .ok (.value (.bool (heq h k))) w := by
  unfold execOp
  simp only [ho, hx, hy, Sem.run_bind, guardH, run_eqH, Sem.run_pure, Result.andThen_ok]
theorem exec_eqT {o : Oper} {ρ : Operand → Value} {w : World} {x y : Operand} {ty : TypeId} {h : Ht} (ho : o.op = .binOp .eql 25 x y ty) (hx : ρ x = .agg h.cs) (hy : ρ y = .agg h.cs) : (execOp ρ o).run Tryd.prog w = .ok (.value (.bool true)) w := by
  rw [exec_eqH ho hx hy, heq_self]

end Go.Proofs.YtpbodidpcbodaaaDoor.Hx
