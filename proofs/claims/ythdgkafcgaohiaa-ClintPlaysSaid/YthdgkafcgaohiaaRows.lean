/-
  No cell of these rows narrows 'for every input' (looked for: loops, veiled, ifaces, maps, wideKeys, modest, calm, conditions, laid).
  DERIVED. THE GIVEN ROWS OF THIS SEAT. 5 by the template 'for every input the law returns true; each argument reads behind the call as it read before'; 0 by the template 'total and deterministic' (their statements: YthdgkafcgaohiaaTotals.lean).
  GIVEN WITH THE SEED: the statements are not yours to turn. If you find one false, say at which input.
  Laid BY PROGRAM, IN A SANDBOX (cutbox-rows.mjs): the forced cells as the released guide's own fill.sh prints them over the translation 2b2130e6ab0a7ffa… (all of the seat's roots in one cut). By AI agents, Wed Nov 11 2026. No macro, syntax, notation, axiom, sorry.
-/
import Derived.Test.YthdgkafcgaohiaaChecked
import GoSem.Claim
import GoSem.ClaimJoined
import GoSem.ClaimMapViews
import Derived.JoinedTies
import Derived.KernelRfl
namespace Go.Proofs.Ythdgkafcgaohiaa
/- THE CELL 'sum', in the pinned program and in every row, IS THE sha256 OF THE DUMP (.gsa) THAT YthdgkafcgaohiaaProg.lean LOADS. Nothing in Lean hashes anything: it is a label: what it is worth is what the hold of that sum in a sandbox is worth. -/
noncomputable def Try.pinned : Pinned := { name := "ythdgkafcgaohiaa", sum := "2b2130e6ab0a7ffaa3f803da7f540bc203b42cddc1ef30962dda724cf339f8d3", checked := Try.checked }
namespace Rows
def none {H : Type} : Left H := { results := [], args := [] }

/-- 'mezzaninelaw04.ClintSame': WHATEVER THE INPUT: true; the input reads as it did. -/
def clintSameSpec : ChangeSpec := { name := "clintSame", fn := fun _ => fun
  | [d1, d2] => { results := [.lit (.bool true)], args := [d1, d2] }
  | _ => none }
def clintSameRow : OpenClaim := { program := "ythdgkafcgaohiaa", sum := "2b2130e6ab0a7ffaa3f803da7f540bc203b42cddc1ef30962dda724cf339f8d3", func := "mezzanine/mezzaninelaw04.ClintSame", spec := "clintSame", apart := false }
def ClintSameSaid : Prop := clintSameRow.holds Try.pinned (OpenSpec.ofChange clintSameSpec)

/-- ITS FALSE NEIGHBOUR: 'it returns false'. Refute it at one input. -/
def clintSameWrong : ChangeSpec := { name := "clintSame", fn := fun _ => fun
  | [d1, d2] => { results := [.lit (.bool false)], args := [d1, d2] }
  | _ => none }
def ClintSameWrongFalsely : Prop := clintSameRow.holds Try.pinned (OpenSpec.ofChange clintSameWrong)

/-- 'mezzaninelaw04.ClintTicks': WHATEVER THE INPUT: true; the input reads as it did. -/
def clintTicksSpec : ChangeSpec := { name := "clintTicks", fn := fun _ => fun
  | [d1, d2, d3, d4] => { results := [.lit (.bool true)], args := [d1, d2, d3, d4] }
  | _ => none }
def clintTicksRow : OpenClaim := { program := "ythdgkafcgaohiaa", sum := "2b2130e6ab0a7ffaa3f803da7f540bc203b42cddc1ef30962dda724cf339f8d3", func := "mezzanine/mezzaninelaw04.ClintTicks", spec := "clintTicks", apart := false }
def ClintTicksSaid : Prop := clintTicksRow.holds Try.pinned (OpenSpec.ofChange clintTicksSpec)

/-- ITS FALSE NEIGHBOUR: 'it returns false'. Refute it at one input. -/
def clintTicksWrong : ChangeSpec := { name := "clintTicks", fn := fun _ => fun
  | [d1, d2, d3, d4] => { results := [.lit (.bool false)], args := [d1, d2, d3, d4] }
  | _ => none }
def ClintTicksWrongFalsely : Prop := clintTicksRow.holds Try.pinned (OpenSpec.ofChange clintTicksWrong)

/-- 'mezzaninelaw04.ClintKnown': WHATEVER THE INPUT: true; the input reads as it did. -/
def clintKnownSpec : ChangeSpec := { name := "clintKnown", fn := fun _ => fun
  | [] => { results := [.lit (.bool true)], args := [] }
  | _ => none }
def clintKnownRow : OpenClaim := { program := "ythdgkafcgaohiaa", sum := "2b2130e6ab0a7ffaa3f803da7f540bc203b42cddc1ef30962dda724cf339f8d3", func := "mezzanine/mezzaninelaw04.ClintKnown", spec := "clintKnown", unfollowed := true, recurses := true, apart := false }
def ClintKnownSaid : Prop := clintKnownRow.holds Try.pinned (OpenSpec.ofChange clintKnownSpec)

/-- ITS FALSE NEIGHBOUR: 'it returns false'. Refute it at one input. -/
def clintKnownWrong : ChangeSpec := { name := "clintKnown", fn := fun _ => fun
  | [] => { results := [.lit (.bool false)], args := [] }
  | _ => none }
def ClintKnownWrongFalsely : Prop := clintKnownRow.holds Try.pinned (OpenSpec.ofChange clintKnownWrong)

/-- 'mezzaninelaw04.ClintPlays': WHATEVER THE INPUT: true; the input reads as it did. -/
def clintPlaysSpec : ChangeSpec := { name := "clintPlays", fn := fun _ => fun
  | [d1, d2] => { results := [.lit (.bool true)], args := [d1, d2] }
  | _ => none }
def clintPlaysRow : OpenClaim := { program := "ythdgkafcgaohiaa", sum := "2b2130e6ab0a7ffaa3f803da7f540bc203b42cddc1ef30962dda724cf339f8d3", func := "mezzanine/mezzaninelaw04.ClintPlays", spec := "clintPlays", unfollowed := true, recurses := true, apart := false }
def ClintPlaysSaid : Prop := clintPlaysRow.holds Try.pinned (OpenSpec.ofChange clintPlaysSpec)

/-- ITS FALSE NEIGHBOUR: 'it returns false'. Refute it at one input. -/
def clintPlaysWrong : ChangeSpec := { name := "clintPlays", fn := fun _ => fun
  | [d1, d2] => { results := [.lit (.bool false)], args := [d1, d2] }
  | _ => none }
def ClintPlaysWrongFalsely : Prop := clintPlaysRow.holds Try.pinned (OpenSpec.ofChange clintPlaysWrong)

/-- 'mezzaninelaw04.ClintBack': WHATEVER THE INPUT: true; the input reads as it did. -/
def clintBackSpec : ChangeSpec := { name := "clintBack", fn := fun _ => fun
  | [d1, d2, d3] => { results := [.lit (.bool true)], args := [d1, d2, d3] }
  | _ => none }
def clintBackRow : OpenClaim := { program := "ythdgkafcgaohiaa", sum := "2b2130e6ab0a7ffaa3f803da7f540bc203b42cddc1ef30962dda724cf339f8d3", func := "mezzanine/mezzaninelaw04.ClintBack", spec := "clintBack", unfollowed := true, recurses := true, apart := false }
def ClintBackSaid : Prop := clintBackRow.holds Try.pinned (OpenSpec.ofChange clintBackSpec)

/-- ITS FALSE NEIGHBOUR: 'it returns false'. Refute it at one input. -/
def clintBackWrong : ChangeSpec := { name := "clintBack", fn := fun _ => fun
  | [d1, d2, d3] => { results := [.lit (.bool false)], args := [d1, d2, d3] }
  | _ => none }
def ClintBackWrongFalsely : Prop := clintBackRow.holds Try.pinned (OpenSpec.ofChange clintBackWrong)

/- THE SECOND FORM. 'bulk': how many values and letters a reading holds, each counted each time it is reached (what is shared counts as often as it is met; a slice's spare places count too). A statement '..UptoSaid' is the law's where the arguments, and the package variables that the reading takes, are together of bulk at most 1048576: NARROWER than '..Said'. Prove '..Said' where nothing that the law and all that it calls make is longer than what came in: it says more and counts as full. Else prove '..UptoSaid'. A law counts once. -/
mutual
def uptoBulk {H : Type} : DataW H → Nat
  | .lit (.string bytes) => bytes.length + 1
  | .lit _ => 1
  | .nil => 1
  | .ptr d => uptoBulk d + 1
  | .slice elems spare => uptoBulkAll elems + uptoBulkAll spare + 1
  | .agg parts => uptoBulkAll parts + 1
  | .iface _ d => uptoBulk d + 1
  | .map entries => uptoBulkEntries entries + 1
  | .held _ => 1
def uptoBulkAll {H : Type} : List (DataW H) → Nat
  | [] => 0
  | d :: r => uptoBulk d + uptoBulkAll r
def uptoBulkEntries {H : Type} : List (Lit × DataW H) → Nat
  | [] => 0
  | x :: r => uptoBulkEntry x + uptoBulkEntries r
def uptoBulkEntry {H : Type} : Lit × DataW H → Nat
  | (.string bytes, d) => bytes.length + uptoBulk d + 1
  | (_, d) => uptoBulk d + 1
 end
def uptoSmall : (H : Type) → List (DataW H) → Bool := fun _ ds => decide (uptoBulkAll ds ≤ 1048576)
def OpenSpec.upto (s : _root_.Go.ChangeSpec) : _root_.Go.OpenSpec := { _root_.Go.OpenSpec.ofChange s with cond := some uptoSmall }

/-- 'mezzaninelaw04.ClintSame', WHERE WHAT IT READS IS OF BULK AT MOST 1048576: true; the input reads as it did. -/
def clintSameUptoRow : OpenClaim := { program := "ythdgkafcgaohiaa", sum := "2b2130e6ab0a7ffaa3f803da7f540bc203b42cddc1ef30962dda724cf339f8d3", func := "mezzanine/mezzaninelaw04.ClintSame", spec := "clintSame", apart := false, narrowed := true }
def ClintSameUptoSaid : Prop := clintSameUptoRow.holds Try.pinned (OpenSpec.upto clintSameSpec)

/-- 'mezzaninelaw04.ClintTicks', WHERE WHAT IT READS IS OF BULK AT MOST 1048576: true; the input reads as it did. -/
def clintTicksUptoRow : OpenClaim := { program := "ythdgkafcgaohiaa", sum := "2b2130e6ab0a7ffaa3f803da7f540bc203b42cddc1ef30962dda724cf339f8d3", func := "mezzanine/mezzaninelaw04.ClintTicks", spec := "clintTicks", apart := false, narrowed := true }
def ClintTicksUptoSaid : Prop := clintTicksUptoRow.holds Try.pinned (OpenSpec.upto clintTicksSpec)

/-- 'mezzaninelaw04.ClintKnown', WHERE WHAT IT READS IS OF BULK AT MOST 1048576: true; the input reads as it did. -/
def clintKnownUptoRow : OpenClaim := { program := "ythdgkafcgaohiaa", sum := "2b2130e6ab0a7ffaa3f803da7f540bc203b42cddc1ef30962dda724cf339f8d3", func := "mezzanine/mezzaninelaw04.ClintKnown", spec := "clintKnown", unfollowed := true, recurses := true, apart := false, narrowed := true }
def ClintKnownUptoSaid : Prop := clintKnownUptoRow.holds Try.pinned (OpenSpec.upto clintKnownSpec)

/-- 'mezzaninelaw04.ClintPlays', WHERE WHAT IT READS IS OF BULK AT MOST 1048576: true; the input reads as it did. -/
def clintPlaysUptoRow : OpenClaim := { program := "ythdgkafcgaohiaa", sum := "2b2130e6ab0a7ffaa3f803da7f540bc203b42cddc1ef30962dda724cf339f8d3", func := "mezzanine/mezzaninelaw04.ClintPlays", spec := "clintPlays", unfollowed := true, recurses := true, apart := false, narrowed := true }
def ClintPlaysUptoSaid : Prop := clintPlaysUptoRow.holds Try.pinned (OpenSpec.upto clintPlaysSpec)

/-- 'mezzaninelaw04.ClintBack', WHERE WHAT IT READS IS OF BULK AT MOST 1048576: true; the input reads as it did. -/
def clintBackUptoRow : OpenClaim := { program := "ythdgkafcgaohiaa", sum := "2b2130e6ab0a7ffaa3f803da7f540bc203b42cddc1ef30962dda724cf339f8d3", func := "mezzanine/mezzaninelaw04.ClintBack", spec := "clintBack", unfollowed := true, recurses := true, apart := false, narrowed := true }
def ClintBackUptoSaid : Prop := clintBackUptoRow.holds Try.pinned (OpenSpec.upto clintBackSpec)

end Rows
end Go.Proofs.Ythdgkafcgaohiaa
