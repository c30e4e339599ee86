/-
  No cell of these rows narrows 'for every input' (looked for: loops, veiled, ifaces, maps, wideKeys, modest, calm, conditions, laid).
  DERIVED. THE GIVEN ROWS OF THIS SEAT. 6 by the template 'for every input the law returns true; each argument reads behind the call as it read before'; 0 by the template 'total and deterministic' (their statements: YtkjcjlembepdkaaTotals.lean).
  GIVEN WITH THE SEED: the statements are not yours to turn. If you find one false, say at which input.
  Laid BY PROGRAM, IN A SANDBOX (cutbox-rows.mjs): the forced cells as the released guide's own fill.sh prints them over the translation 109e1edb80a67980… (all of the seat's roots in one cut). By AI agents, Wed Nov 11 2026. No macro, syntax, notation, axiom, sorry.
-/
import Derived.Test.YtkjcjlembepdkaaChecked
import GoSem.Claim
import GoSem.ClaimJoined
import GoSem.ClaimMapViews
import Derived.JoinedTies
import Derived.KernelRfl
namespace Go.Proofs.Ytkjcjlembepdkaa
/- THE CELL 'sum', in the pinned program and in every row, IS THE sha256 OF THE DUMP (.gsa) THAT YtkjcjlembepdkaaProg.lean LOADS. Nothing in Lean hashes anything: it is a label: what it is worth is what the hold of that sum in a sandbox is worth. -/
noncomputable def Try.pinned : Pinned := { name := "ytkjcjlembepdkaa", sum := "109e1edb80a6798055ecdbe20c756a3fb08c0d96a5d0b6a7d92b9032a10d7ad4", checked := Try.checked }
namespace Rows
def none {H : Type} : Left H := { results := [], args := [] }

/-- 'waveletlaw46.ColorspecChecks': WHATEVER THE INPUT: true; the input reads as it did. -/
def colorspecChecksSpec : ChangeSpec := { name := "colorspecChecks", fn := fun _ => fun
  | [d1, d2, d3] => { results := [.lit (.bool true)], args := [d1, d2, d3] }
  | _ => none }
def colorspecChecksRow : OpenClaim := { program := "ytkjcjlembepdkaa", sum := "109e1edb80a6798055ecdbe20c756a3fb08c0d96a5d0b6a7d92b9032a10d7ad4", func := "wavelet/waveletlaw46.ColorspecChecks", spec := "colorspecChecks", recurses := true, apart := false }
def ColorspecChecksSaid : Prop := colorspecChecksRow.holds Try.pinned (OpenSpec.ofChange colorspecChecksSpec)

/-- ITS FALSE NEIGHBOUR: 'it returns false'. Refute it at one input. -/
def colorspecChecksWrong : ChangeSpec := { name := "colorspecChecks", fn := fun _ => fun
  | [d1, d2, d3] => { results := [.lit (.bool false)], args := [d1, d2, d3] }
  | _ => none }
def ColorspecChecksWrongFalsely : Prop := colorspecChecksRow.holds Try.pinned (OpenSpec.ofChange colorspecChecksWrong)

/-- 'waveletlaw46.ColorspecExpands': WHATEVER THE INPUT: true; the input reads as it did. -/
def colorspecExpandsSpec : ChangeSpec := { name := "colorspecExpands", fn := fun _ => fun
  | [d1, d2] => { results := [.lit (.bool true)], args := [d1, d2] }
  | _ => none }
def colorspecExpandsRow : OpenClaim := { program := "ytkjcjlembepdkaa", sum := "109e1edb80a6798055ecdbe20c756a3fb08c0d96a5d0b6a7d92b9032a10d7ad4", func := "wavelet/waveletlaw46.ColorspecExpands", spec := "colorspecExpands", recurses := true, apart := false }
def ColorspecExpandsSaid : Prop := colorspecExpandsRow.holds Try.pinned (OpenSpec.ofChange colorspecExpandsSpec)

/-- ITS FALSE NEIGHBOUR: 'it returns false'. Refute it at one input. -/
def colorspecExpandsWrong : ChangeSpec := { name := "colorspecExpands", fn := fun _ => fun
  | [d1, d2] => { results := [.lit (.bool false)], args := [d1, d2] }
  | _ => none }
def ColorspecExpandsWrongFalsely : Prop := colorspecExpandsRow.holds Try.pinned (OpenSpec.ofChange colorspecExpandsWrong)

/-- 'waveletlaw46.ColorspecMaps': WHATEVER THE INPUT: true; the input reads as it did. -/
def colorspecMapsSpec : ChangeSpec := { name := "colorspecMaps", fn := fun _ => fun
  | [d1, d2] => { results := [.lit (.bool true)], args := [d1, d2] }
  | _ => none }
def colorspecMapsRow : OpenClaim := { program := "ytkjcjlembepdkaa", sum := "109e1edb80a6798055ecdbe20c756a3fb08c0d96a5d0b6a7d92b9032a10d7ad4", func := "wavelet/waveletlaw46.ColorspecMaps", spec := "colorspecMaps", recurses := true, apart := false }
def ColorspecMapsSaid : Prop := colorspecMapsRow.holds Try.pinned (OpenSpec.ofChange colorspecMapsSpec)

/-- ITS FALSE NEIGHBOUR: 'it returns false'. Refute it at one input. -/
def colorspecMapsWrong : ChangeSpec := { name := "colorspecMaps", fn := fun _ => fun
  | [d1, d2] => { results := [.lit (.bool false)], args := [d1, d2] }
  | _ => none }
def ColorspecMapsWrongFalsely : Prop := colorspecMapsRow.holds Try.pinned (OpenSpec.ofChange colorspecMapsWrong)

/-- 'waveletlaw46.ColorspecEncodes': WHATEVER THE INPUT: true; the input reads as it did. -/
def colorspecEncodesSpec : ChangeSpec := { name := "colorspecEncodes", fn := fun _ => fun
  | [d1, d2] => { results := [.lit (.bool true)], args := [d1, d2] }
  | _ => none }
def colorspecEncodesRow : OpenClaim := { program := "ytkjcjlembepdkaa", sum := "109e1edb80a6798055ecdbe20c756a3fb08c0d96a5d0b6a7d92b9032a10d7ad4", func := "wavelet/waveletlaw46.ColorspecEncodes", spec := "colorspecEncodes", unfollowed := true, recurses := true, apart := false }
def ColorspecEncodesSaid : Prop := colorspecEncodesRow.holds Try.pinned (OpenSpec.ofChange colorspecEncodesSpec)

/-- ITS FALSE NEIGHBOUR: 'it returns false'. Refute it at one input. -/
def colorspecEncodesWrong : ChangeSpec := { name := "colorspecEncodes", fn := fun _ => fun
  | [d1, d2] => { results := [.lit (.bool false)], args := [d1, d2] }
  | _ => none }
def ColorspecEncodesWrongFalsely : Prop := colorspecEncodesRow.holds Try.pinned (OpenSpec.ofChange colorspecEncodesWrong)

/-- 'waveletlaw46.ColorspecDecodes': WHATEVER THE INPUT: true; the input reads as it did. -/
def colorspecDecodesSpec : ChangeSpec := { name := "colorspecDecodes", fn := fun _ => fun
  | [d] => { results := [.lit (.bool true)], args := [d] }
  | _ => none }
def colorspecDecodesRow : OpenClaim := { program := "ytkjcjlembepdkaa", sum := "109e1edb80a6798055ecdbe20c756a3fb08c0d96a5d0b6a7d92b9032a10d7ad4", func := "wavelet/waveletlaw46.ColorspecDecodes", spec := "colorspecDecodes", recurses := true, apart := false }
def ColorspecDecodesSaid : Prop := colorspecDecodesRow.holds Try.pinned (OpenSpec.ofChange colorspecDecodesSpec)

/-- ITS FALSE NEIGHBOUR: 'it returns false'. Refute it at one input. -/
def colorspecDecodesWrong : ChangeSpec := { name := "colorspecDecodes", fn := fun _ => fun
  | [d] => { results := [.lit (.bool false)], args := [d] }
  | _ => none }
def ColorspecDecodesWrongFalsely : Prop := colorspecDecodesRow.holds Try.pinned (OpenSpec.ofChange colorspecDecodesWrong)

/-- 'waveletlaw46.ColorspecRestores': WHATEVER THE INPUT: true; the input reads as it did. -/
def colorspecRestoresSpec : ChangeSpec := { name := "colorspecRestores", fn := fun _ => fun
  | [d1, d2] => { results := [.lit (.bool true)], args := [d1, d2] }
  | _ => none }
def colorspecRestoresRow : OpenClaim := { program := "ytkjcjlembepdkaa", sum := "109e1edb80a6798055ecdbe20c756a3fb08c0d96a5d0b6a7d92b9032a10d7ad4", func := "wavelet/waveletlaw46.ColorspecRestores", spec := "colorspecRestores", unfollowed := true, recurses := true, apart := false }
def ColorspecRestoresSaid : Prop := colorspecRestoresRow.holds Try.pinned (OpenSpec.ofChange colorspecRestoresSpec)

/-- ITS FALSE NEIGHBOUR: 'it returns false'. Refute it at one input. -/
def colorspecRestoresWrong : ChangeSpec := { name := "colorspecRestores", fn := fun _ => fun
  | [d1, d2] => { results := [.lit (.bool false)], args := [d1, d2] }
  | _ => none }
def ColorspecRestoresWrongFalsely : Prop := colorspecRestoresRow.holds Try.pinned (OpenSpec.ofChange colorspecRestoresWrong)

/- THE SECOND FORM. 'bulk': how many values and letters a reading holds, each counted each time it is reached (what is shared counts as often as it is met; a slice's spare places count too). A statement '..UptoSaid' is the law's where the arguments, and the package variables that the reading takes, are together of bulk at most 1048576: NARROWER than '..Said'. Prove '..Said' where nothing that the law and all that it calls make is longer than what came in: it says more and counts as full. Else prove '..UptoSaid'. A law counts once. -/
mutual
def uptoBulk {H : Type} : DataW H → Nat
  | .lit (.string bytes) => bytes.length + 1
  | .lit _ => 1
  | .nil => 1
  | .ptr d => uptoBulk d + 1
  | .slice elems spare => uptoBulkAll elems + uptoBulkAll spare + 1
  | .agg parts => uptoBulkAll parts + 1
  | .iface _ d => uptoBulk d + 1
  | .map entries => uptoBulkEntries entries + 1
  | .held _ => 1
def uptoBulkAll {H : Type} : List (DataW H) → Nat
  | [] => 0
  | d :: r => uptoBulk d + uptoBulkAll r
def uptoBulkEntries {H : Type} : List (Lit × DataW H) → Nat
  | [] => 0
  | x :: r => uptoBulkEntry x + uptoBulkEntries r
def uptoBulkEntry {H : Type} : Lit × DataW H → Nat
  | (.string bytes, d) => bytes.length + uptoBulk d + 1
  | (_, d) => uptoBulk d + 1
 end
def uptoSmall : (H : Type) → List (DataW H) → Bool := fun _ ds => decide (uptoBulkAll ds ≤ 1048576)
def OpenSpec.upto (s : _root_.Go.ChangeSpec) : _root_.Go.OpenSpec := { _root_.Go.OpenSpec.ofChange s with cond := some uptoSmall }

/-- 'waveletlaw46.ColorspecChecks', WHERE WHAT IT READS IS OF BULK AT MOST 1048576: true; the input reads as it did. -/
def colorspecChecksUptoRow : OpenClaim := { program := "ytkjcjlembepdkaa", sum := "109e1edb80a6798055ecdbe20c756a3fb08c0d96a5d0b6a7d92b9032a10d7ad4", func := "wavelet/waveletlaw46.ColorspecChecks", spec := "colorspecChecks", recurses := true, apart := false, narrowed := true }
def ColorspecChecksUptoSaid : Prop := colorspecChecksUptoRow.holds Try.pinned (OpenSpec.upto colorspecChecksSpec)

/-- 'waveletlaw46.ColorspecExpands', WHERE WHAT IT READS IS OF BULK AT MOST 1048576: true; the input reads as it did. -/
def colorspecExpandsUptoRow : OpenClaim := { program := "ytkjcjlembepdkaa", sum := "109e1edb80a6798055ecdbe20c756a3fb08c0d96a5d0b6a7d92b9032a10d7ad4", func := "wavelet/waveletlaw46.ColorspecExpands", spec := "colorspecExpands", recurses := true, apart := false, narrowed := true }
def ColorspecExpandsUptoSaid : Prop := colorspecExpandsUptoRow.holds Try.pinned (OpenSpec.upto colorspecExpandsSpec)

/-- 'waveletlaw46.ColorspecMaps', WHERE WHAT IT READS IS OF BULK AT MOST 1048576: true; the input reads as it did. -/
def colorspecMapsUptoRow : OpenClaim := { program := "ytkjcjlembepdkaa", sum := "109e1edb80a6798055ecdbe20c756a3fb08c0d96a5d0b6a7d92b9032a10d7ad4", func := "wavelet/waveletlaw46.ColorspecMaps", spec := "colorspecMaps", recurses := true, apart := false, narrowed := true }
def ColorspecMapsUptoSaid : Prop := colorspecMapsUptoRow.holds Try.pinned (OpenSpec.upto colorspecMapsSpec)

/-- 'waveletlaw46.ColorspecEncodes', WHERE WHAT IT READS IS OF BULK AT MOST 1048576: true; the input reads as it did. -/
def colorspecEncodesUptoRow : OpenClaim := { program := "ytkjcjlembepdkaa", sum := "109e1edb80a6798055ecdbe20c756a3fb08c0d96a5d0b6a7d92b9032a10d7ad4", func := "wavelet/waveletlaw46.ColorspecEncodes", spec := "colorspecEncodes", unfollowed := true, recurses := true, apart := false, narrowed := true }
def ColorspecEncodesUptoSaid : Prop := colorspecEncodesUptoRow.holds Try.pinned (OpenSpec.upto colorspecEncodesSpec)

/-- 'waveletlaw46.ColorspecDecodes', WHERE WHAT IT READS IS OF BULK AT MOST 1048576: true; the input reads as it did. -/
def colorspecDecodesUptoRow : OpenClaim := { program := "ytkjcjlembepdkaa", sum := "109e1edb80a6798055ecdbe20c756a3fb08c0d96a5d0b6a7d92b9032a10d7ad4", func := "wavelet/waveletlaw46.ColorspecDecodes", spec := "colorspecDecodes", recurses := true, apart := false, narrowed := true }
def ColorspecDecodesUptoSaid : Prop := colorspecDecodesUptoRow.holds Try.pinned (OpenSpec.upto colorspecDecodesSpec)

/-- 'waveletlaw46.ColorspecRestores', WHERE WHAT IT READS IS OF BULK AT MOST 1048576: true; the input reads as it did. -/
def colorspecRestoresUptoRow : OpenClaim := { program := "ytkjcjlembepdkaa", sum := "109e1edb80a6798055ecdbe20c756a3fb08c0d96a5d0b6a7d92b9032a10d7ad4", func := "wavelet/waveletlaw46.ColorspecRestores", spec := "colorspecRestores", unfollowed := true, recurses := true, apart := false, narrowed := true }
def ColorspecRestoresUptoSaid : Prop := colorspecRestoresUptoRow.holds Try.pinned (OpenSpec.upto colorspecRestoresSpec)

end Rows
end Go.Proofs.Ytkjcjlembepdkaa
