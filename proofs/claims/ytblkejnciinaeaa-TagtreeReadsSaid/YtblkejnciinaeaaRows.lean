/-
  No cell of these rows narrows 'for every input' (looked for: loops, veiled, ifaces, maps, wideKeys, modest, calm, conditions, laid).
  DERIVED. THE GIVEN ROWS OF THIS SEAT. 8 by the template 'for every input the law returns true; each argument reads behind the call as it read before'; 0 by the template 'total and deterministic' (their statements: YtblkejnciinaeaaTotals.lean).
  GIVEN WITH THE SEED: the statements are not yours to turn. If you find one false, say at which input.
  Laid BY PROGRAM, IN A SANDBOX (cutbox-rows.mjs): the forced cells as the released guide's own fill.sh prints them over the translation a408651a3f731fa1… (all of the seat's roots in one cut). By AI agents, Wed Nov 11 2026. No macro, syntax, notation, axiom, sorry.
-/
import Derived.Test.YtblkejnciinaeaaChecked
import GoSem.Claim
import GoSem.ClaimJoined
import GoSem.ClaimMapViews
import Derived.JoinedTies
import Derived.KernelRfl
namespace Go.Proofs.Ytblkejnciinaeaa
/- THE CELL 'sum', in the pinned program and in every row, IS THE sha256 OF THE DUMP (.gsa) THAT YtblkejnciinaeaaProg.lean LOADS. Nothing in Lean hashes anything: it is a label: what it is worth is what the hold of that sum in a sandbox is worth. -/
noncomputable def Try.pinned : Pinned := { name := "ytblkejnciinaeaa", sum := "a408651a3f731fa122c64b713043009c50d24c97cee2e11788426e5381f3a237", checked := Try.checked }
namespace Rows
def none {H : Type} : Left H := { results := [], args := [] }

/-- 'waveletlaw10.TagtreeSizes': WHATEVER THE INPUT: true; the input reads as it did. -/
def tagtreeSizesSpec : ChangeSpec := { name := "tagtreeSizes", fn := fun _ => fun
  | [d1, d2] => { results := [.lit (.bool true)], args := [d1, d2] }
  | _ => none }
def tagtreeSizesRow : OpenClaim := { program := "ytblkejnciinaeaa", sum := "a408651a3f731fa122c64b713043009c50d24c97cee2e11788426e5381f3a237", func := "wavelet/waveletlaw10.TagtreeSizes", spec := "tagtreeSizes", unfollowed := true, recurses := true, apart := false }
def TagtreeSizesSaid : Prop := tagtreeSizesRow.holds Try.pinned (OpenSpec.ofChange tagtreeSizesSpec)

/-- ITS FALSE NEIGHBOUR: 'it returns false'. Refute it at one input. -/
def tagtreeSizesWrong : ChangeSpec := { name := "tagtreeSizes", fn := fun _ => fun
  | [d1, d2] => { results := [.lit (.bool false)], args := [d1, d2] }
  | _ => none }
def TagtreeSizesWrongFalsely : Prop := tagtreeSizesRow.holds Try.pinned (OpenSpec.ofChange tagtreeSizesWrong)

/-- 'waveletlaw10.TagtreeWrites': WHATEVER THE INPUT: true; the input reads as it did. -/
def tagtreeWritesSpec : ChangeSpec := { name := "tagtreeWrites", fn := fun _ => fun
  | [d1, d2, d3] => { results := [.lit (.bool true)], args := [d1, d2, d3] }
  | _ => none }
def tagtreeWritesRow : OpenClaim := { program := "ytblkejnciinaeaa", sum := "a408651a3f731fa122c64b713043009c50d24c97cee2e11788426e5381f3a237", func := "wavelet/waveletlaw10.TagtreeWrites", spec := "tagtreeWrites", unfollowed := true, recurses := true, apart := false }
def TagtreeWritesSaid : Prop := tagtreeWritesRow.holds Try.pinned (OpenSpec.ofChange tagtreeWritesSpec)

/-- ITS FALSE NEIGHBOUR: 'it returns false'. Refute it at one input. -/
def tagtreeWritesWrong : ChangeSpec := { name := "tagtreeWrites", fn := fun _ => fun
  | [d1, d2, d3] => { results := [.lit (.bool false)], args := [d1, d2, d3] }
  | _ => none }
def TagtreeWritesWrongFalsely : Prop := tagtreeWritesRow.holds Try.pinned (OpenSpec.ofChange tagtreeWritesWrong)

/-- 'waveletlaw10.TagtreeOnce': WHATEVER THE INPUT: true; the input reads as it did. -/
def tagtreeOnceSpec : ChangeSpec := { name := "tagtreeOnce", fn := fun _ => fun
  | [d1, d2, d3] => { results := [.lit (.bool true)], args := [d1, d2, d3] }
  | _ => none }
def tagtreeOnceRow : OpenClaim := { program := "ytblkejnciinaeaa", sum := "a408651a3f731fa122c64b713043009c50d24c97cee2e11788426e5381f3a237", func := "wavelet/waveletlaw10.TagtreeOnce", spec := "tagtreeOnce", unfollowed := true, recurses := true, apart := false }
def TagtreeOnceSaid : Prop := tagtreeOnceRow.holds Try.pinned (OpenSpec.ofChange tagtreeOnceSpec)

/-- ITS FALSE NEIGHBOUR: 'it returns false'. Refute it at one input. -/
def tagtreeOnceWrong : ChangeSpec := { name := "tagtreeOnce", fn := fun _ => fun
  | [d1, d2, d3] => { results := [.lit (.bool false)], args := [d1, d2, d3] }
  | _ => none }
def TagtreeOnceWrongFalsely : Prop := tagtreeOnceRow.holds Try.pinned (OpenSpec.ofChange tagtreeOnceWrong)

/-- 'waveletlaw10.TagtreeReads': WHATEVER THE INPUT: true; the input reads as it did. -/
def tagtreeReadsSpec : ChangeSpec := { name := "tagtreeReads", fn := fun _ => fun
  | [d] => { results := [.lit (.bool true)], args := [d] }
  | _ => none }
def tagtreeReadsRow : OpenClaim := { program := "ytblkejnciinaeaa", sum := "a408651a3f731fa122c64b713043009c50d24c97cee2e11788426e5381f3a237", func := "wavelet/waveletlaw10.TagtreeReads", spec := "tagtreeReads", unfollowed := true, recurses := true, apart := false }
def TagtreeReadsSaid : Prop := tagtreeReadsRow.holds Try.pinned (OpenSpec.ofChange tagtreeReadsSpec)

/-- ITS FALSE NEIGHBOUR: 'it returns false'. Refute it at one input. -/
def tagtreeReadsWrong : ChangeSpec := { name := "tagtreeReads", fn := fun _ => fun
  | [d] => { results := [.lit (.bool false)], args := [d] }
  | _ => none }
def TagtreeReadsWrongFalsely : Prop := tagtreeReadsRow.holds Try.pinned (OpenSpec.ofChange tagtreeReadsWrong)

/-- 'waveletlaw10.TagtreeMixes': WHATEVER THE INPUT: true; the input reads as it did. -/
def tagtreeMixesSpec : ChangeSpec := { name := "tagtreeMixes", fn := fun _ => fun
  | [d1, d2, d3, d4, d5] => { results := [.lit (.bool true)], args := [d1, d2, d3, d4, d5] }
  | _ => none }
def tagtreeMixesRow : OpenClaim := { program := "ytblkejnciinaeaa", sum := "a408651a3f731fa122c64b713043009c50d24c97cee2e11788426e5381f3a237", func := "wavelet/waveletlaw10.TagtreeMixes", spec := "tagtreeMixes", unfollowed := true, recurses := true, apart := false }
def TagtreeMixesSaid : Prop := tagtreeMixesRow.holds Try.pinned (OpenSpec.ofChange tagtreeMixesSpec)

/-- ITS FALSE NEIGHBOUR: 'it returns false'. Refute it at one input. -/
def tagtreeMixesWrong : ChangeSpec := { name := "tagtreeMixes", fn := fun _ => fun
  | [d1, d2, d3, d4, d5] => { results := [.lit (.bool false)], args := [d1, d2, d3, d4, d5] }
  | _ => none }
def TagtreeMixesWrongFalsely : Prop := tagtreeMixesRow.holds Try.pinned (OpenSpec.ofChange tagtreeMixesWrong)

/-- 'waveletlaw10.TagtreeReturns': WHATEVER THE INPUT: true; the input reads as it did. -/
def tagtreeReturnsSpec : ChangeSpec := { name := "tagtreeReturns", fn := fun _ => fun
  | [d1, d2, d3] => { results := [.lit (.bool true)], args := [d1, d2, d3] }
  | _ => none }
def tagtreeReturnsRow : OpenClaim := { program := "ytblkejnciinaeaa", sum := "a408651a3f731fa122c64b713043009c50d24c97cee2e11788426e5381f3a237", func := "wavelet/waveletlaw10.TagtreeReturns", spec := "tagtreeReturns", unfollowed := true, recurses := true, apart := false }
def TagtreeReturnsSaid : Prop := tagtreeReturnsRow.holds Try.pinned (OpenSpec.ofChange tagtreeReturnsSpec)

/-- ITS FALSE NEIGHBOUR: 'it returns false'. Refute it at one input. -/
def tagtreeReturnsWrong : ChangeSpec := { name := "tagtreeReturns", fn := fun _ => fun
  | [d1, d2, d3] => { results := [.lit (.bool false)], args := [d1, d2, d3] }
  | _ => none }
def TagtreeReturnsWrongFalsely : Prop := tagtreeReturnsRow.holds Try.pinned (OpenSpec.ofChange tagtreeReturnsWrong)

/-- 'waveletlaw10.TagtreeClones': WHATEVER THE INPUT: true; the input reads as it did. -/
def tagtreeClonesSpec : ChangeSpec := { name := "tagtreeClones", fn := fun _ => fun
  | [d1, d2, d3, d4] => { results := [.lit (.bool true)], args := [d1, d2, d3, d4] }
  | _ => none }
def tagtreeClonesRow : OpenClaim := { program := "ytblkejnciinaeaa", sum := "a408651a3f731fa122c64b713043009c50d24c97cee2e11788426e5381f3a237", func := "wavelet/waveletlaw10.TagtreeClones", spec := "tagtreeClones", unfollowed := true, recurses := true, apart := false }
def TagtreeClonesSaid : Prop := tagtreeClonesRow.holds Try.pinned (OpenSpec.ofChange tagtreeClonesSpec)

/-- ITS FALSE NEIGHBOUR: 'it returns false'. Refute it at one input. -/
def tagtreeClonesWrong : ChangeSpec := { name := "tagtreeClones", fn := fun _ => fun
  | [d1, d2, d3, d4] => { results := [.lit (.bool false)], args := [d1, d2, d3, d4] }
  | _ => none }
def TagtreeClonesWrongFalsely : Prop := tagtreeClonesRow.holds Try.pinned (OpenSpec.ofChange tagtreeClonesWrong)

/-- 'waveletlaw10.TagtreeNobody': WHATEVER THE INPUT: true; the input reads as it did. -/
def tagtreeNobodySpec : ChangeSpec := { name := "tagtreeNobody", fn := fun _ => fun
  | [d1, d2, d3, d4] => { results := [.lit (.bool true)], args := [d1, d2, d3, d4] }
  | _ => none }
def tagtreeNobodyRow : OpenClaim := { program := "ytblkejnciinaeaa", sum := "a408651a3f731fa122c64b713043009c50d24c97cee2e11788426e5381f3a237", func := "wavelet/waveletlaw10.TagtreeNobody", spec := "tagtreeNobody", unfollowed := true, recurses := true, apart := false }
def TagtreeNobodySaid : Prop := tagtreeNobodyRow.holds Try.pinned (OpenSpec.ofChange tagtreeNobodySpec)

/-- ITS FALSE NEIGHBOUR: 'it returns false'. Refute it at one input. -/
def tagtreeNobodyWrong : ChangeSpec := { name := "tagtreeNobody", fn := fun _ => fun
  | [d1, d2, d3, d4] => { results := [.lit (.bool false)], args := [d1, d2, d3, d4] }
  | _ => none }
def TagtreeNobodyWrongFalsely : Prop := tagtreeNobodyRow.holds Try.pinned (OpenSpec.ofChange tagtreeNobodyWrong)

/- THE SECOND FORM. 'bulk': how many values and letters a reading holds, each counted each time it is reached (what is shared counts as often as it is met; a slice's spare places count too). A statement '..UptoSaid' is the law's where the arguments, and the package variables that the reading takes, are together of bulk at most 1048576: NARROWER than '..Said'. Prove '..Said' where nothing that the law and all that it calls make is longer than what came in: it says more and counts as full. Else prove '..UptoSaid'. A law counts once. -/
mutual
def uptoBulk {H : Type} : DataW H → Nat
  | .lit (.string bytes) => bytes.length + 1
  | .lit _ => 1
  | .nil => 1
  | .ptr d => uptoBulk d + 1
  | .slice elems spare => uptoBulkAll elems + uptoBulkAll spare + 1
  | .agg parts => uptoBulkAll parts + 1
  | .iface _ d => uptoBulk d + 1
  | .map entries => uptoBulkEntries entries + 1
  | .held _ => 1
def uptoBulkAll {H : Type} : List (DataW H) → Nat
  | [] => 0
  | d :: r => uptoBulk d + uptoBulkAll r
def uptoBulkEntries {H : Type} : List (Lit × DataW H) → Nat
  | [] => 0
  | x :: r => uptoBulkEntry x + uptoBulkEntries r
def uptoBulkEntry {H : Type} : Lit × DataW H → Nat
  | (.string bytes, d) => bytes.length + uptoBulk d + 1
  | (_, d) => uptoBulk d + 1
 end
def uptoSmall : (H : Type) → List (DataW H) → Bool := fun _ ds => decide (uptoBulkAll ds ≤ 1048576)
def OpenSpec.upto (s : _root_.Go.ChangeSpec) : _root_.Go.OpenSpec := { _root_.Go.OpenSpec.ofChange s with cond := some uptoSmall }

/-- 'waveletlaw10.TagtreeSizes', WHERE WHAT IT READS IS OF BULK AT MOST 1048576: true; the input reads as it did. -/
def tagtreeSizesUptoRow : OpenClaim := { program := "ytblkejnciinaeaa", sum := "a408651a3f731fa122c64b713043009c50d24c97cee2e11788426e5381f3a237", func := "wavelet/waveletlaw10.TagtreeSizes", spec := "tagtreeSizes", unfollowed := true, recurses := true, apart := false, narrowed := true }
def TagtreeSizesUptoSaid : Prop := tagtreeSizesUptoRow.holds Try.pinned (OpenSpec.upto tagtreeSizesSpec)

/-- 'waveletlaw10.TagtreeWrites', WHERE WHAT IT READS IS OF BULK AT MOST 1048576: true; the input reads as it did. -/
def tagtreeWritesUptoRow : OpenClaim := { program := "ytblkejnciinaeaa", sum := "a408651a3f731fa122c64b713043009c50d24c97cee2e11788426e5381f3a237", func := "wavelet/waveletlaw10.TagtreeWrites", spec := "tagtreeWrites", unfollowed := true, recurses := true, apart := false, narrowed := true }
def TagtreeWritesUptoSaid : Prop := tagtreeWritesUptoRow.holds Try.pinned (OpenSpec.upto tagtreeWritesSpec)

/-- 'waveletlaw10.TagtreeOnce', WHERE WHAT IT READS IS OF BULK AT MOST 1048576: true; the input reads as it did. -/
def tagtreeOnceUptoRow : OpenClaim := { program := "ytblkejnciinaeaa", sum := "a408651a3f731fa122c64b713043009c50d24c97cee2e11788426e5381f3a237", func := "wavelet/waveletlaw10.TagtreeOnce", spec := "tagtreeOnce", unfollowed := true, recurses := true, apart := false, narrowed := true }
def TagtreeOnceUptoSaid : Prop := tagtreeOnceUptoRow.holds Try.pinned (OpenSpec.upto tagtreeOnceSpec)

/-- 'waveletlaw10.TagtreeReads', WHERE WHAT IT READS IS OF BULK AT MOST 1048576: true; the input reads as it did. -/
def tagtreeReadsUptoRow : OpenClaim := { program := "ytblkejnciinaeaa", sum := "a408651a3f731fa122c64b713043009c50d24c97cee2e11788426e5381f3a237", func := "wavelet/waveletlaw10.TagtreeReads", spec := "tagtreeReads", unfollowed := true, recurses := true, apart := false, narrowed := true }
def TagtreeReadsUptoSaid : Prop := tagtreeReadsUptoRow.holds Try.pinned (OpenSpec.upto tagtreeReadsSpec)

/-- 'waveletlaw10.TagtreeMixes', WHERE WHAT IT READS IS OF BULK AT MOST 1048576: true; the input reads as it did. -/
def tagtreeMixesUptoRow : OpenClaim := { program := "ytblkejnciinaeaa", sum := "a408651a3f731fa122c64b713043009c50d24c97cee2e11788426e5381f3a237", func := "wavelet/waveletlaw10.TagtreeMixes", spec := "tagtreeMixes", unfollowed := true, recurses := true, apart := false, narrowed := true }
def TagtreeMixesUptoSaid : Prop := tagtreeMixesUptoRow.holds Try.pinned (OpenSpec.upto tagtreeMixesSpec)

/-- 'waveletlaw10.TagtreeReturns', WHERE WHAT IT READS IS OF BULK AT MOST 1048576: true; the input reads as it did. -/
def tagtreeReturnsUptoRow : OpenClaim := { program := "ytblkejnciinaeaa", sum := "a408651a3f731fa122c64b713043009c50d24c97cee2e11788426e5381f3a237", func := "wavelet/waveletlaw10.TagtreeReturns", spec := "tagtreeReturns", unfollowed := true, recurses := true, apart := false, narrowed := true }
def TagtreeReturnsUptoSaid : Prop := tagtreeReturnsUptoRow.holds Try.pinned (OpenSpec.upto tagtreeReturnsSpec)

/-- 'waveletlaw10.TagtreeClones', WHERE WHAT IT READS IS OF BULK AT MOST 1048576: true; the input reads as it did. -/
def tagtreeClonesUptoRow : OpenClaim := { program := "ytblkejnciinaeaa", sum := "a408651a3f731fa122c64b713043009c50d24c97cee2e11788426e5381f3a237", func := "wavelet/waveletlaw10.TagtreeClones", spec := "tagtreeClones", unfollowed := true, recurses := true, apart := false, narrowed := true }
def TagtreeClonesUptoSaid : Prop := tagtreeClonesUptoRow.holds Try.pinned (OpenSpec.upto tagtreeClonesSpec)

/-- 'waveletlaw10.TagtreeNobody', WHERE WHAT IT READS IS OF BULK AT MOST 1048576: true; the input reads as it did. -/
def tagtreeNobodyUptoRow : OpenClaim := { program := "ytblkejnciinaeaa", sum := "a408651a3f731fa122c64b713043009c50d24c97cee2e11788426e5381f3a237", func := "wavelet/waveletlaw10.TagtreeNobody", spec := "tagtreeNobody", unfollowed := true, recurses := true, apart := false, narrowed := true }
def TagtreeNobodyUptoSaid : Prop := tagtreeNobodyUptoRow.holds Try.pinned (OpenSpec.upto tagtreeNobodySpec)

end Rows
end Go.Proofs.Ytblkejnciinaeaa
