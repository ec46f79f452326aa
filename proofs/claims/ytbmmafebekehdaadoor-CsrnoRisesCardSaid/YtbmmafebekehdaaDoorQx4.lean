/- Where the Lean function of a Go function gives a value, the Go call returns that value and changes nothing that was there: for every input. (By a program of this session, and by hand.) -/
import Derived.Test.YtbmmafebekehdaaDoorQx0
import Derived.Test.YtbmmafebekehdaaDoorQx1
import Derived.Test.YtbmmafebekehdaaDoorQx3
namespace Go.Proofs.YtbmmafebekehdaaDoor.Q
open Go.RowKit Go.Proofs.YtbmmafebekehdaaDoorW.PrintWords Go.Proofs.YtbmmafebekehdaaDoorW.PrintLast Go.Proofs.YtbmmafebekehdaaDoorW.PrintMore
attribute [local go_sem] max2_int min2_int max_two min_two max_three min_three max_four min_four   -- for this text's walks alone
set_option linter.unusedVariables false
set_option linter.unusedSimpArgs false

/-! ### mezzaninelaw11_wakes: by hand -/
section
open Go.Proofs.YtbmmafebekehdaaDoor.Bv
abbrev mezzaninelaw11_wakes.hart : Array Value := #[.int .u64 0, .int .u64 0, .int .u64 0, .int .u64 0, .int .u64 0, .int .u64 0, .int .u64 0, .int .u64 0, .int .u64 0, .int .u64 0, .int .u64 0, .int .u64 0, .int .u64 0, .int .u64 0, .int .u64 0, .int .u64 0, .int .u64 0, .int .u64 0, .int .u64 0, .int .u64 0, .int .u64 0, .int .u64 0, .int .u64 0, .int .u64 0, .int .u64 0, .int .u64 0, .int .u64 0, .int .u64 0, .int .u64 0, .int .u64 0, .int .u64 0, .int .u64 0, .int .u64 0, .int .u8 1, .bool true, .bool false, .bool false, .int .u64 0, .int .u64 0, .int .u64 0, .int .u64 0, .int .u64 0, .int .u64 0, .int .u64 0, .int .u64 0, .int .u64 0, .int .u64 0, .int .u64 0, .int .u64 0, .int .u64 0, .int .u64 0, .int .u64 0, .int .u64 0, .int .u64 0, .int .u64 0, .int .u64 0, .int .u64 0, .int .u64 0, .int .u64 0, .int .u64 0, .int .u64 0, .int .u64 0, .int .u64 0, .int .u64 0, .int .u64 0, .int .u64 0, .int .u64 0, .int .u64 0, .int .u64 0, .int .u64 0, .int .u64 0, .int .u64 0, .int .u64 0, .int .u64 0, .int .u64 0, .int .u64 0, .int .u64 0]
abbrev mezzaninelaw11_wakes.none : Array Value := #[.int .u64 0, .int .u64 0, .int .u64 0, .int .u64 0, .int .u64 0, .int .u64 0, .int .u64 0, .int .u64 0, .int .u64 0, .int .u64 0, .int .u64 0, .int .u64 0, .int .u64 0, .int .u64 0, .int .u64 0, .int .u64 0, .int .u64 0, .int .u64 0, .int .u64 0, .int .u64 0, .int .u64 0, .int .u64 0, .int .u64 0, .int .u64 0, .int .u64 0, .int .u64 0, .int .u64 0, .int .u64 0, .int .u64 0, .int .u64 0, .int .u64 0, .int .u64 0, .int .u64 0, .int .u8 0, .bool false, .bool false, .bool false, .int .u64 0, .int .u64 0, .int .u64 0, .int .u64 0, .int .u64 0, .int .u64 0, .int .u64 0, .int .u64 0, .int .u64 0, .int .u64 0, .int .u64 0, .int .u64 0, .int .u64 0, .int .u64 0, .int .u64 0, .int .u64 0, .int .u64 0, .int .u64 0, .int .u64 0, .int .u64 0, .int .u64 0, .int .u64 0, .int .u64 0, .int .u64 0, .int .u64 0, .int .u64 0, .int .u64 0, .int .u64 0, .int .u64 0, .int .u64 0, .int .u64 0, .int .u64 0, .int .u64 0, .int .u64 0, .int .u64 0, .int .u64 0, .int .u64 0, .int .u64 0, .int .u64 0, .int .u64 0]
theorem mezzaninelaw11_wakes.zero : (Tryd.prog.info? 30).map (fun i => (i.zero, i.size)) = some (some (.agg mezzaninelaw11_wakes.none), 77) := by kernel_rfl
theorem mezzaninelaw11_wakes.one : mezzaninelaw11_wakes.hart.all (·.oneCell') = true := by kernel_rfl
def mezzaninelaw11_wakes.g (k : Nat) : Option Bool := (csrno_Check.f k 0 0 0 0 0 0 0 0 0 0 0 0 0 0 0 0 0 0 0 0 0 0 0 0 0 0 0 0 0 0 0 0 0 1 true false false 0 0 0 0 0 0 0 0 0 0 0 0 0 0 0 0 0 0 0 0 0 0 0 0 0 0 0 0 0 0 0 0 0 0 0 0 0 0 0 0 384 true).bind fun a => (csrno_Check.f k 0 0 0 0 0 0 0 0 0 0 0 0 0 0 0 0 0 0 0 0 0 0 0 0 0 0 0 0 0 0 0 0 0 1 true false false 0 0 0 0 0 0 0 0 0 0 0 0 0 0 0 0 0 0 0 0 0 0 0 0 0 0 0 0 0 0 0 0 0 0 0 0 0 0 0 0 1536 false).bind fun b => if a = 0 ∧ b = 22 then some true else Option.none
theorem mezzaninelaw11_wakes.name : csrno_Name.f 768 = some (rowName 19) := rfl
theorem mezzaninelaw11_wakes.same : ((rowName 19).toList == ([109, 115, 116, 97, 116, 117, 115] : List UInt8)) = true := by rw [ByteArray.toList_eq]; rfl
theorem mezzaninelaw11_wakes.number : csrno_Number.f (⟨#[104, 103, 97, 116, 112]⟩ : ByteArray) = some 1664 := by
  unfold csrno_Number.f
  congr 1
  have h : ∀ j : Fin 44, (rowName j.val).data.toList ≠ (⟨#[104, 103, 97, 116, 112]⟩ : ByteArray).data.toList := by decide
  have g : ∀ n m, n + m ≤ 44 → numFrom (⟨#[104, 103, 97, 116, 112]⟩ : ByteArray) (n + (56 - n - m)) m = numFrom (⟨#[104, 103, 97, 116, 112]⟩ : ByteArray) (56 - n - m) (n + m) := by
    intro n
    induction n with
    | zero => intro m hm; rw [Nat.zero_add, Nat.zero_add, Nat.sub_zero]
    | succ n ih =>
      intro m hm
      rw [show n + 1 + (56 - (n + 1) - m) = (n + (56 - n - (m + 1))) + 1 by omega, numFrom, if_neg (by rw [ByteArray.toList_eq, ByteArray.toList_eq]; exact h ⟨m, by omega⟩), ih (m + 1) (by omega), show n + (m + 1) = n + 1 + m by omega, show 56 - n - (m + 1) = 56 - (n + 1) - m by omega]
  have := g 44 0 (by omega)
  rw [show 44 + (56 - 44 - 0) = 56 from rfl, show 56 - 44 - 0 = 11 + 1 from rfl, show 44 + 0 = 44 from rfl] at this
  rw [this, numFrom, if_pos (by rw [ByteArray.toList_eq, ByteArray.toList_eq]; rfl)]; rfl
set_option maxHeartbeats 8000000 in
set_option maxRecDepth 100000 in
theorem mezzaninelaw11_wakes.callsG (k : Nat) (r : Bool) (w : World) (h : mezzaninelaw11_wakes.g k = some r) (hT : Tab w) :
    Calls Tryd.prog 9 #[] w fun e w' => e = .returned (.bool r) ∧ Below w.heap.size w w' := by
  unfold mezzaninelaw11_wakes.g at h
  obtain ⟨a, ha, h1⟩ := Option.bind_eq_some_iff.mp h
  obtain ⟨b, hb, h2⟩ := Option.bind_eq_some_iff.mp h1
  by_cases hab : a = 0 ∧ b = 22
  case neg => rw [if_neg hab] at h2; cases h2
  rw [if_pos hab] at h2
  obtain ⟨rfl, rfl⟩ := hab
  obtain rfl := Option.some.inj h2
  have HA := Lib.hid ha
  have HB := Lib.hid hb
  clear ha hb h h1 h2
  obtain ⟨hz, hi⟩ := zero_of_info mezzaninelaw11_wakes.zero
  have HI := Lib.hid hi
  have HS := Lib.hid mezzaninelaw11_wakes.same
  have hu := Tryd.underlying30
  have HU := Lib.hid hu
  clear hi hu
  go_enter Tryd.func9, Tryd.ntmps9
  go_wp2_with (first | ((with_reducible refine gate_dst (N := 2) rfl ?_); refine Kd.event_run (v := .agg mezzaninelaw11_wakes.hart) (w1 := w) rfl ?hr ?_; (case hr => kernel_rfl)) | (refine wpList_store_row rfl 30 _ _ rfl w.heap.size mezzaninelaw11_wakes.hart rfl rfl 30 mezzaninelaw11_wakes.none (heap_alloc_last _ _) HI.out rfl mezzaninelaw11_wakes.one ?_; rw [blk_stored]))
  have hX := heap_alloc_last w (.cells mezzaninelaw11_wakes.hart 30)
  have hB := (Below.refl w.heap.size w).alloc (Nat.le_refl _) (.cells mezzaninelaw11_wakes.hart 30)
  have HX := Lib.hid hX
  have HBB := Lib.hid hB
  clear hX hB
  refine (csrno_Name.calls 768 (rowName 19) _ mezzaninelaw11_wakes.name (Tab.from hT HBB.out)).mono ?_
  rintro e1 w1 ⟨rfl, ⟨n1, rfl⟩⟩
  have hs := HS.out
  have hX1 := blk_drewN HX.out n1
  have hB1 := below_step HBB.out (Drawn0.below ⟨n1, rfl⟩ : Below (w.alloc (.cells mezzaninelaw11_wakes.hart 30)).heap.size (w.alloc (.cells mezzaninelaw11_wakes.hart 30)) _)
  have HX1 := Lib.hid hX1
  have HB1 := Lib.hid hB1
  clear hX1 hB1
  go_wp2_with fail
  refine (csrno_Number.calls (⟨#[104, 103, 97, 116, 112]⟩ : ByteArray) 1664 _ mezzaninelaw11_wakes.number (Tab.from hT HB1.out)).mono ?_
  rintro e2 w2 ⟨rfl, hb2⟩
  have hX2 := blk_below hb2 HX1.out
  have hB2 := below_step HB1.out hb2
  have HX2 := Lib.hid hX2
  have HB2 := Lib.hid hB2
  clear hX2 hB2 hb2 HX1 HB1
  go_wp2_with fail
  refine wp_load_row 30 (.tmp 1) rfl w.heap.size rfl 30 mezzaninelaw11_wakes.hart (0, 0) _ HX2.out HU.out rfl HI.out ?_
  go_wp2_with fail
  refine (csrno_Check.calls k 0 0 0 0 0 0 0 0 0 0 0 0 0 0 0 0 0 0 0 0 0 0 0 0 0 0 0 0 0 0 0 0 0 1 true false false 0 0 0 0 0 0 0 0 0 0 0 0 0 0 0 0 0 0 0 0 0 0 0 0 0 0 0 0 0 0 0 0 0 0 0 0 0 0 0 0 384 true 0 _ HA.out (Tab.from hT HB2.out)).mono ?_
  rintro e3 w3 ⟨rfl, hb3⟩
  have hX3 := blk_below hb3 HX2.out
  have hB3 := below_step HB2.out hb3
  have HX3 := Lib.hid hX3
  have HB3 := Lib.hid hB3
  clear hX3 hB3 hb3 HX2 HB2
  go_wp2_with fail
  refine wp_load_row 30 (.tmp 1) rfl w.heap.size rfl 30 mezzaninelaw11_wakes.hart (0, 0) _ HX3.out HU.out rfl HI.out ?_
  go_wp2_with fail
  refine (csrno_Check.calls k 0 0 0 0 0 0 0 0 0 0 0 0 0 0 0 0 0 0 0 0 0 0 0 0 0 0 0 0 0 0 0 0 0 1 true false false 0 0 0 0 0 0 0 0 0 0 0 0 0 0 0 0 0 0 0 0 0 0 0 0 0 0 0 0 0 0 0 0 0 0 0 0 0 0 0 0 1536 false 22 _ HB.out (Tab.from hT HB3.out)).mono ?_
  rintro e4 w4 ⟨rfl, hb4⟩
  have hB4 := below_step HB3.out hb4
  have HB4 := Lib.hid hB4
  clear hB4 hb4
  go_wp2
  go_ret
  exact ⟨rfl, HB4.out⟩
def mezzaninelaw11_wakes.f : Option Bool := mezzaninelaw11_wakes.g 20
theorem mezzaninelaw11_wakes.calls (r : Bool) (w : World) (h : mezzaninelaw11_wakes.f = some r) (hT : Tab w) :
    Calls Tryd.prog 9 #[] w fun e w' => e = .returned (.bool r) ∧ Below w.heap.size w w' := mezzaninelaw11_wakes.callsG 20 r w h hT
end

end Go.Proofs.YtbmmafebekehdaaDoor.Q
