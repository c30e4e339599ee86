/-
  No cell of these rows narrows 'for every input' (looked for: loops, veiled, ifaces, maps, wideKeys, modest, calm, conditions, laid).
  DERIVED. THE GIVEN ROWS OF THIS SEAT. 8 by the template 'for every input the law returns true; each argument reads behind the call as it read before'; 0 by the template 'total and deterministic' (their statements: YtoeoolnkndkefaaTotals.lean).
  GIVEN WITH THE SEED: the statements are not yours to turn. If you find one false, say at which input.
  Laid BY PROGRAM, IN A SANDBOX (cutbox-rows.mjs): the forced cells as the released guide's own fill.sh prints them over the translation 67d448e4222c4169… (all of the seat's roots in one cut). By AI agents, Wed Nov 11 2026. No macro, syntax, notation, axiom, sorry.
-/
import Derived.Test.YtoeoolnkndkefaaChecked
import GoSem.Claim
import GoSem.ClaimJoined
import GoSem.ClaimMapViews
import Derived.JoinedTies
import Derived.KernelRfl
namespace Go.Proofs.Ytoeoolnkndkefaa
/- THE CELL 'sum', in the pinned program and in every row, IS THE sha256 OF THE DUMP (.gsa) THAT YtoeoolnkndkefaaProg.lean LOADS. Nothing in Lean hashes anything: it is a label: what it is worth is what the hold of that sum in a sandbox is worth. -/
noncomputable def Try.pinned : Pinned := { name := "ytoeoolnkndkefaa", sum := "67d448e4222c4169e58dbe7cd121a018eb3908a899e11adffc38986adaecfad9", checked := Try.checked }
namespace Rows
def none {H : Type} : Left H := { results := [], args := [] }

/-- 'waveletlaw07.ColorPixels': WHATEVER THE INPUT: true; the input reads as it did. -/
def colorPixelsSpec : ChangeSpec := { name := "colorPixels", fn := fun _ => fun
  | [d1, d2] => { results := [.lit (.bool true)], args := [d1, d2] }
  | _ => none }
def colorPixelsRow : OpenClaim := { program := "ytoeoolnkndkefaa", sum := "67d448e4222c4169e58dbe7cd121a018eb3908a899e11adffc38986adaecfad9", func := "wavelet/waveletlaw07.ColorPixels", spec := "colorPixels", unfollowed := true, recurses := true, apart := false }
def ColorPixelsSaid : Prop := colorPixelsRow.holds Try.pinned (OpenSpec.ofChange colorPixelsSpec)

/-- ITS FALSE NEIGHBOUR: 'it returns false'. Refute it at one input. -/
def colorPixelsWrong : ChangeSpec := { name := "colorPixels", fn := fun _ => fun
  | [d1, d2] => { results := [.lit (.bool false)], args := [d1, d2] }
  | _ => none }
def ColorPixelsWrongFalsely : Prop := colorPixelsRow.holds Try.pinned (OpenSpec.ofChange colorPixelsWrong)

/-- 'waveletlaw07.ColorApplies': WHATEVER THE INPUT: true; the input reads as it did. -/
def colorAppliesSpec : ChangeSpec := { name := "colorApplies", fn := fun _ => fun
  | [d1, d2] => { results := [.lit (.bool true)], args := [d1, d2] }
  | _ => none }
def colorAppliesRow : OpenClaim := { program := "ytoeoolnkndkefaa", sum := "67d448e4222c4169e58dbe7cd121a018eb3908a899e11adffc38986adaecfad9", func := "wavelet/waveletlaw07.ColorApplies", spec := "colorApplies", unfollowed := true, recurses := true, apart := false }
def ColorAppliesSaid : Prop := colorAppliesRow.holds Try.pinned (OpenSpec.ofChange colorAppliesSpec)

/-- ITS FALSE NEIGHBOUR: 'it returns false'. Refute it at one input. -/
def colorAppliesWrong : ChangeSpec := { name := "colorApplies", fn := fun _ => fun
  | [d1, d2] => { results := [.lit (.bool false)], args := [d1, d2] }
  | _ => none }
def ColorAppliesWrongFalsely : Prop := colorAppliesRow.holds Try.pinned (OpenSpec.ofChange colorAppliesWrong)

/-- 'waveletlaw07.ColorShifts': WHATEVER THE INPUT: true; the input reads as it did. -/
def colorShiftsSpec : ChangeSpec := { name := "colorShifts", fn := fun _ => fun
  | [d1, d2] => { results := [.lit (.bool true)], args := [d1, d2] }
  | _ => none }
def colorShiftsRow : OpenClaim := { program := "ytoeoolnkndkefaa", sum := "67d448e4222c4169e58dbe7cd121a018eb3908a899e11adffc38986adaecfad9", func := "wavelet/waveletlaw07.ColorShifts", spec := "colorShifts", unfollowed := true, recurses := true, apart := false }
def ColorShiftsSaid : Prop := colorShiftsRow.holds Try.pinned (OpenSpec.ofChange colorShiftsSpec)

/-- ITS FALSE NEIGHBOUR: 'it returns false'. Refute it at one input. -/
def colorShiftsWrong : ChangeSpec := { name := "colorShifts", fn := fun _ => fun
  | [d1, d2] => { results := [.lit (.bool false)], args := [d1, d2] }
  | _ => none }
def ColorShiftsWrongFalsely : Prop := colorShiftsRow.holds Try.pinned (OpenSpec.ofChange colorShiftsWrong)

/-- 'waveletlaw07.ColorBounds': WHATEVER THE INPUT: true; the input reads as it did. -/
def colorBoundsSpec : ChangeSpec := { name := "colorBounds", fn := fun _ => fun
  | [d1, d2] => { results := [.lit (.bool true)], args := [d1, d2] }
  | _ => none }
def colorBoundsRow : OpenClaim := { program := "ytoeoolnkndkefaa", sum := "67d448e4222c4169e58dbe7cd121a018eb3908a899e11adffc38986adaecfad9", func := "wavelet/waveletlaw07.ColorBounds", spec := "colorBounds", unfollowed := true, recurses := true, apart := false }
def ColorBoundsSaid : Prop := colorBoundsRow.holds Try.pinned (OpenSpec.ofChange colorBoundsSpec)

/-- ITS FALSE NEIGHBOUR: 'it returns false'. Refute it at one input. -/
def colorBoundsWrong : ChangeSpec := { name := "colorBounds", fn := fun _ => fun
  | [d1, d2] => { results := [.lit (.bool false)], args := [d1, d2] }
  | _ => none }
def ColorBoundsWrongFalsely : Prop := colorBoundsRow.holds Try.pinned (OpenSpec.ofChange colorBoundsWrong)

/-- 'waveletlaw07.ColorRestores': WHATEVER THE INPUT: true; the input reads as it did. -/
def colorRestoresSpec : ChangeSpec := { name := "colorRestores", fn := fun _ => fun
  | [d1, d2, d3] => { results := [.lit (.bool true)], args := [d1, d2, d3] }
  | _ => none }
def colorRestoresRow : OpenClaim := { program := "ytoeoolnkndkefaa", sum := "67d448e4222c4169e58dbe7cd121a018eb3908a899e11adffc38986adaecfad9", func := "wavelet/waveletlaw07.ColorRestores", spec := "colorRestores", unfollowed := true, recurses := true, apart := false }
def ColorRestoresSaid : Prop := colorRestoresRow.holds Try.pinned (OpenSpec.ofChange colorRestoresSpec)

/-- ITS FALSE NEIGHBOUR: 'it returns false'. Refute it at one input. -/
def colorRestoresWrong : ChangeSpec := { name := "colorRestores", fn := fun _ => fun
  | [d1, d2, d3] => { results := [.lit (.bool false)], args := [d1, d2, d3] }
  | _ => none }
def ColorRestoresWrongFalsely : Prop := colorRestoresRow.holds Try.pinned (OpenSpec.ofChange colorRestoresWrong)

/-- 'waveletlaw07.ColorRanges': WHATEVER THE INPUT: true; the input reads as it did. -/
def colorRangesSpec : ChangeSpec := { name := "colorRanges", fn := fun _ => fun
  | [d1, d2, d3] => { results := [.lit (.bool true)], args := [d1, d2, d3] }
  | _ => none }
def colorRangesRow : OpenClaim := { program := "ytoeoolnkndkefaa", sum := "67d448e4222c4169e58dbe7cd121a018eb3908a899e11adffc38986adaecfad9", func := "wavelet/waveletlaw07.ColorRanges", spec := "colorRanges", unfollowed := true, recurses := true, apart := false }
def ColorRangesSaid : Prop := colorRangesRow.holds Try.pinned (OpenSpec.ofChange colorRangesSpec)

/-- ITS FALSE NEIGHBOUR: 'it returns false'. Refute it at one input. -/
def colorRangesWrong : ChangeSpec := { name := "colorRanges", fn := fun _ => fun
  | [d1, d2, d3] => { results := [.lit (.bool false)], args := [d1, d2, d3] }
  | _ => none }
def ColorRangesWrongFalsely : Prop := colorRangesRow.holds Try.pinned (OpenSpec.ofChange colorRangesWrong)

/-- 'waveletlaw07.ColorUndoes': WHATEVER THE INPUT: true; the input reads as it did. -/
def colorUndoesSpec : ChangeSpec := { name := "colorUndoes", fn := fun _ => fun
  | [d1, d2] => { results := [.lit (.bool true)], args := [d1, d2] }
  | _ => none }
def colorUndoesRow : OpenClaim := { program := "ytoeoolnkndkefaa", sum := "67d448e4222c4169e58dbe7cd121a018eb3908a899e11adffc38986adaecfad9", func := "wavelet/waveletlaw07.ColorUndoes", spec := "colorUndoes", unfollowed := true, recurses := true, apart := false }
def ColorUndoesSaid : Prop := colorUndoesRow.holds Try.pinned (OpenSpec.ofChange colorUndoesSpec)

/-- ITS FALSE NEIGHBOUR: 'it returns false'. Refute it at one input. -/
def colorUndoesWrong : ChangeSpec := { name := "colorUndoes", fn := fun _ => fun
  | [d1, d2] => { results := [.lit (.bool false)], args := [d1, d2] }
  | _ => none }
def ColorUndoesWrongFalsely : Prop := colorUndoesRow.holds Try.pinned (OpenSpec.ofChange colorUndoesWrong)

/-- 'waveletlaw07.ColorReturns': WHATEVER THE INPUT: true; the input reads as it did. -/
def colorReturnsSpec : ChangeSpec := { name := "colorReturns", fn := fun _ => fun
  | [d1, d2] => { results := [.lit (.bool true)], args := [d1, d2] }
  | _ => none }
def colorReturnsRow : OpenClaim := { program := "ytoeoolnkndkefaa", sum := "67d448e4222c4169e58dbe7cd121a018eb3908a899e11adffc38986adaecfad9", func := "wavelet/waveletlaw07.ColorReturns", spec := "colorReturns", unfollowed := true, recurses := true, apart := false }
def ColorReturnsSaid : Prop := colorReturnsRow.holds Try.pinned (OpenSpec.ofChange colorReturnsSpec)

/-- ITS FALSE NEIGHBOUR: 'it returns false'. Refute it at one input. -/
def colorReturnsWrong : ChangeSpec := { name := "colorReturns", fn := fun _ => fun
  | [d1, d2] => { results := [.lit (.bool false)], args := [d1, d2] }
  | _ => none }
def ColorReturnsWrongFalsely : Prop := colorReturnsRow.holds Try.pinned (OpenSpec.ofChange colorReturnsWrong)

/- THE SECOND FORM. 'bulk': how many values and letters a reading holds, each counted each time it is reached (what is shared counts as often as it is met; a slice's spare places count too). A statement '..UptoSaid' is the law's where the arguments, and the package variables that the reading takes, are together of bulk at most 1048576: NARROWER than '..Said'. Prove '..Said' where nothing that the law and all that it calls make is longer than what came in: it says more and counts as full. Else prove '..UptoSaid'. A law counts once. -/
mutual
def uptoBulk {H : Type} : DataW H → Nat
  | .lit (.string bytes) => bytes.length + 1
  | .lit _ => 1
  | .nil => 1
  | .ptr d => uptoBulk d + 1
  | .slice elems spare => uptoBulkAll elems + uptoBulkAll spare + 1
  | .agg parts => uptoBulkAll parts + 1
  | .iface _ d => uptoBulk d + 1
  | .map entries => uptoBulkEntries entries + 1
  | .held _ => 1
def uptoBulkAll {H : Type} : List (DataW H) → Nat
  | [] => 0
  | d :: r => uptoBulk d + uptoBulkAll r
def uptoBulkEntries {H : Type} : List (Lit × DataW H) → Nat
  | [] => 0
  | x :: r => uptoBulkEntry x + uptoBulkEntries r
def uptoBulkEntry {H : Type} : Lit × DataW H → Nat
  | (.string bytes, d) => bytes.length + uptoBulk d + 1
  | (_, d) => uptoBulk d + 1
 end
def uptoSmall : (H : Type) → List (DataW H) → Bool := fun _ ds => decide (uptoBulkAll ds ≤ 1048576)
def OpenSpec.upto (s : _root_.Go.ChangeSpec) : _root_.Go.OpenSpec := { _root_.Go.OpenSpec.ofChange s with cond := some uptoSmall }

/-- 'waveletlaw07.ColorPixels', WHERE WHAT IT READS IS OF BULK AT MOST 1048576: true; the input reads as it did. -/
def colorPixelsUptoRow : OpenClaim := { program := "ytoeoolnkndkefaa", sum := "67d448e4222c4169e58dbe7cd121a018eb3908a899e11adffc38986adaecfad9", func := "wavelet/waveletlaw07.ColorPixels", spec := "colorPixels", unfollowed := true, recurses := true, apart := false, narrowed := true }
def ColorPixelsUptoSaid : Prop := colorPixelsUptoRow.holds Try.pinned (OpenSpec.upto colorPixelsSpec)

/-- 'waveletlaw07.ColorApplies', WHERE WHAT IT READS IS OF BULK AT MOST 1048576: true; the input reads as it did. -/
def colorAppliesUptoRow : OpenClaim := { program := "ytoeoolnkndkefaa", sum := "67d448e4222c4169e58dbe7cd121a018eb3908a899e11adffc38986adaecfad9", func := "wavelet/waveletlaw07.ColorApplies", spec := "colorApplies", unfollowed := true, recurses := true, apart := false, narrowed := true }
def ColorAppliesUptoSaid : Prop := colorAppliesUptoRow.holds Try.pinned (OpenSpec.upto colorAppliesSpec)

/-- 'waveletlaw07.ColorShifts', WHERE WHAT IT READS IS OF BULK AT MOST 1048576: true; the input reads as it did. -/
def colorShiftsUptoRow : OpenClaim := { program := "ytoeoolnkndkefaa", sum := "67d448e4222c4169e58dbe7cd121a018eb3908a899e11adffc38986adaecfad9", func := "wavelet/waveletlaw07.ColorShifts", spec := "colorShifts", unfollowed := true, recurses := true, apart := false, narrowed := true }
def ColorShiftsUptoSaid : Prop := colorShiftsUptoRow.holds Try.pinned (OpenSpec.upto colorShiftsSpec)

/-- 'waveletlaw07.ColorBounds', WHERE WHAT IT READS IS OF BULK AT MOST 1048576: true; the input reads as it did. -/
def colorBoundsUptoRow : OpenClaim := { program := "ytoeoolnkndkefaa", sum := "67d448e4222c4169e58dbe7cd121a018eb3908a899e11adffc38986adaecfad9", func := "wavelet/waveletlaw07.ColorBounds", spec := "colorBounds", unfollowed := true, recurses := true, apart := false, narrowed := true }
def ColorBoundsUptoSaid : Prop := colorBoundsUptoRow.holds Try.pinned (OpenSpec.upto colorBoundsSpec)

/-- 'waveletlaw07.ColorRestores', WHERE WHAT IT READS IS OF BULK AT MOST 1048576: true; the input reads as it did. -/
def colorRestoresUptoRow : OpenClaim := { program := "ytoeoolnkndkefaa", sum := "67d448e4222c4169e58dbe7cd121a018eb3908a899e11adffc38986adaecfad9", func := "wavelet/waveletlaw07.ColorRestores", spec := "colorRestores", unfollowed := true, recurses := true, apart := false, narrowed := true }
def ColorRestoresUptoSaid : Prop := colorRestoresUptoRow.holds Try.pinned (OpenSpec.upto colorRestoresSpec)

/-- 'waveletlaw07.ColorRanges', WHERE WHAT IT READS IS OF BULK AT MOST 1048576: true; the input reads as it did. -/
def colorRangesUptoRow : OpenClaim := { program := "ytoeoolnkndkefaa", sum := "67d448e4222c4169e58dbe7cd121a018eb3908a899e11adffc38986adaecfad9", func := "wavelet/waveletlaw07.ColorRanges", spec := "colorRanges", unfollowed := true, recurses := true, apart := false, narrowed := true }
def ColorRangesUptoSaid : Prop := colorRangesUptoRow.holds Try.pinned (OpenSpec.upto colorRangesSpec)

/-- 'waveletlaw07.ColorUndoes', WHERE WHAT IT READS IS OF BULK AT MOST 1048576: true; the input reads as it did. -/
def colorUndoesUptoRow : OpenClaim := { program := "ytoeoolnkndkefaa", sum := "67d448e4222c4169e58dbe7cd121a018eb3908a899e11adffc38986adaecfad9", func := "wavelet/waveletlaw07.ColorUndoes", spec := "colorUndoes", unfollowed := true, recurses := true, apart := false, narrowed := true }
def ColorUndoesUptoSaid : Prop := colorUndoesUptoRow.holds Try.pinned (OpenSpec.upto colorUndoesSpec)

/-- 'waveletlaw07.ColorReturns', WHERE WHAT IT READS IS OF BULK AT MOST 1048576: true; the input reads as it did. -/
def colorReturnsUptoRow : OpenClaim := { program := "ytoeoolnkndkefaa", sum := "67d448e4222c4169e58dbe7cd121a018eb3908a899e11adffc38986adaecfad9", func := "wavelet/waveletlaw07.ColorReturns", spec := "colorReturns", unfollowed := true, recurses := true, apart := false, narrowed := true }
def ColorReturnsUptoSaid : Prop := colorReturnsUptoRow.holds Try.pinned (OpenSpec.upto colorReturnsSpec)

end Rows
end Go.Proofs.Ytoeoolnkndkefaa
