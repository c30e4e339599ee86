/-
  No cell of these rows narrows 'for every input' (looked for: loops, veiled, ifaces, maps, wideKeys, modest, calm, conditions, laid).
  DERIVED. THE GIVEN ROWS OF THIS SEAT. 7 by the template 'for every input the law returns true; each argument reads behind the call as it read before'; 0 by the template 'total and deterministic' (their statements: YtiapgcgpdndkiaaTotals.lean).
  GIVEN WITH THE SEED: the statements are not yours to turn. If you find one false, say at which input.
  Laid BY PROGRAM, IN A SANDBOX (cutbox-rows.mjs): the forced cells as the released guide's own fill.sh prints them over the translation acfa74e3f1162163… (all of the seat's roots in one cut). By AI agents, Wed Nov 11 2026. No macro, syntax, notation, axiom, sorry.
-/
import Derived.Test.YtiapgcgpdndkiaaChecked
import GoSem.Claim
import GoSem.ClaimJoined
import GoSem.ClaimMapViews
import Derived.JoinedTies
import Derived.KernelRfl
namespace Go.Proofs.Ytiapgcgpdndkiaa
/- THE CELL 'sum', in the pinned program and in every row, IS THE sha256 OF THE DUMP (.gsa) THAT YtiapgcgpdndkiaaProg.lean LOADS. Nothing in Lean hashes anything: it is a label: what it is worth is what the hold of that sum in a sandbox is worth. -/
noncomputable def Try.pinned : Pinned := { name := "ytiapgcgpdndkiaa", sum := "acfa74e3f1162163574339bd1cad146be6d61fb6eaf801f17de7ae39e38a85b1", checked := Try.checked }
namespace Rows
def none {H : Type} : Left H := { results := [], args := [] }

/-- 'waveletlaw09.BitioWrites': WHATEVER THE INPUT: true; the input reads as it did. -/
def bitioWritesSpec : ChangeSpec := { name := "bitioWrites", fn := fun _ => fun
  | [d] => { results := [.lit (.bool true)], args := [d] }
  | _ => none }
def bitioWritesRow : OpenClaim := { program := "ytiapgcgpdndkiaa", sum := "acfa74e3f1162163574339bd1cad146be6d61fb6eaf801f17de7ae39e38a85b1", func := "wavelet/waveletlaw09.BitioWrites", spec := "bitioWrites", unfollowed := true, recurses := true, apart := false }
def BitioWritesSaid : Prop := bitioWritesRow.holds Try.pinned (OpenSpec.ofChange bitioWritesSpec)

/-- ITS FALSE NEIGHBOUR: 'it returns false'. Refute it at one input. -/
def bitioWritesWrong : ChangeSpec := { name := "bitioWrites", fn := fun _ => fun
  | [d] => { results := [.lit (.bool false)], args := [d] }
  | _ => none }
def BitioWritesWrongFalsely : Prop := bitioWritesRow.holds Try.pinned (OpenSpec.ofChange bitioWritesWrong)

/-- 'waveletlaw09.BitioStuffs': WHATEVER THE INPUT: true; the input reads as it did. -/
def bitioStuffsSpec : ChangeSpec := { name := "bitioStuffs", fn := fun _ => fun
  | [d] => { results := [.lit (.bool true)], args := [d] }
  | _ => none }
def bitioStuffsRow : OpenClaim := { program := "ytiapgcgpdndkiaa", sum := "acfa74e3f1162163574339bd1cad146be6d61fb6eaf801f17de7ae39e38a85b1", func := "wavelet/waveletlaw09.BitioStuffs", spec := "bitioStuffs", unfollowed := true, recurses := true, apart := false }
def BitioStuffsSaid : Prop := bitioStuffsRow.holds Try.pinned (OpenSpec.ofChange bitioStuffsSpec)

/-- ITS FALSE NEIGHBOUR: 'it returns false'. Refute it at one input. -/
def bitioStuffsWrong : ChangeSpec := { name := "bitioStuffs", fn := fun _ => fun
  | [d] => { results := [.lit (.bool false)], args := [d] }
  | _ => none }
def BitioStuffsWrongFalsely : Prop := bitioStuffsRow.holds Try.pinned (OpenSpec.ofChange bitioStuffsWrong)

/-- 'waveletlaw09.BitioCanonical': WHATEVER THE INPUT: true; the input reads as it did. -/
def bitioCanonicalSpec : ChangeSpec := { name := "bitioCanonical", fn := fun _ => fun
  | [d1, d2] => { results := [.lit (.bool true)], args := [d1, d2] }
  | _ => none }
def bitioCanonicalRow : OpenClaim := { program := "ytiapgcgpdndkiaa", sum := "acfa74e3f1162163574339bd1cad146be6d61fb6eaf801f17de7ae39e38a85b1", func := "wavelet/waveletlaw09.BitioCanonical", spec := "bitioCanonical", unfollowed := true, recurses := true, apart := false }
def BitioCanonicalSaid : Prop := bitioCanonicalRow.holds Try.pinned (OpenSpec.ofChange bitioCanonicalSpec)

/-- ITS FALSE NEIGHBOUR: 'it returns false'. Refute it at one input. -/
def bitioCanonicalWrong : ChangeSpec := { name := "bitioCanonical", fn := fun _ => fun
  | [d1, d2] => { results := [.lit (.bool false)], args := [d1, d2] }
  | _ => none }
def BitioCanonicalWrongFalsely : Prop := bitioCanonicalRow.holds Try.pinned (OpenSpec.ofChange bitioCanonicalWrong)

/-- 'waveletlaw09.BitioOwns': WHATEVER THE INPUT: true; the input reads as it did. -/
def bitioOwnsSpec : ChangeSpec := { name := "bitioOwns", fn := fun _ => fun
  | [d1, d2] => { results := [.lit (.bool true)], args := [d1, d2] }
  | _ => none }
def bitioOwnsRow : OpenClaim := { program := "ytiapgcgpdndkiaa", sum := "acfa74e3f1162163574339bd1cad146be6d61fb6eaf801f17de7ae39e38a85b1", func := "wavelet/waveletlaw09.BitioOwns", spec := "bitioOwns", unfollowed := true, recurses := true, apart := false }
def BitioOwnsSaid : Prop := bitioOwnsRow.holds Try.pinned (OpenSpec.ofChange bitioOwnsSpec)

/-- ITS FALSE NEIGHBOUR: 'it returns false'. Refute it at one input. -/
def bitioOwnsWrong : ChangeSpec := { name := "bitioOwns", fn := fun _ => fun
  | [d1, d2] => { results := [.lit (.bool false)], args := [d1, d2] }
  | _ => none }
def BitioOwnsWrongFalsely : Prop := bitioOwnsRow.holds Try.pinned (OpenSpec.ofChange bitioOwnsWrong)

/-- 'waveletlaw09.BitioReads': WHATEVER THE INPUT: true; the input reads as it did. -/
def bitioReadsSpec : ChangeSpec := { name := "bitioReads", fn := fun _ => fun
  | [d1, d2] => { results := [.lit (.bool true)], args := [d1, d2] }
  | _ => none }
def bitioReadsRow : OpenClaim := { program := "ytiapgcgpdndkiaa", sum := "acfa74e3f1162163574339bd1cad146be6d61fb6eaf801f17de7ae39e38a85b1", func := "wavelet/waveletlaw09.BitioReads", spec := "bitioReads", unfollowed := true, recurses := true, apart := false }
def BitioReadsSaid : Prop := bitioReadsRow.holds Try.pinned (OpenSpec.ofChange bitioReadsSpec)

/-- ITS FALSE NEIGHBOUR: 'it returns false'. Refute it at one input. -/
def bitioReadsWrong : ChangeSpec := { name := "bitioReads", fn := fun _ => fun
  | [d1, d2] => { results := [.lit (.bool false)], args := [d1, d2] }
  | _ => none }
def BitioReadsWrongFalsely : Prop := bitioReadsRow.holds Try.pinned (OpenSpec.ofChange bitioReadsWrong)

/-- 'waveletlaw09.BitioReturns': WHATEVER THE INPUT: true; the input reads as it did. -/
def bitioReturnsSpec : ChangeSpec := { name := "bitioReturns", fn := fun _ => fun
  | [d1, d2] => { results := [.lit (.bool true)], args := [d1, d2] }
  | _ => none }
def bitioReturnsRow : OpenClaim := { program := "ytiapgcgpdndkiaa", sum := "acfa74e3f1162163574339bd1cad146be6d61fb6eaf801f17de7ae39e38a85b1", func := "wavelet/waveletlaw09.BitioReturns", spec := "bitioReturns", unfollowed := true, recurses := true, apart := false }
def BitioReturnsSaid : Prop := bitioReturnsRow.holds Try.pinned (OpenSpec.ofChange bitioReturnsSpec)

/-- ITS FALSE NEIGHBOUR: 'it returns false'. Refute it at one input. -/
def bitioReturnsWrong : ChangeSpec := { name := "bitioReturns", fn := fun _ => fun
  | [d1, d2] => { results := [.lit (.bool false)], args := [d1, d2] }
  | _ => none }
def BitioReturnsWrongFalsely : Prop := bitioReturnsRow.holds Try.pinned (OpenSpec.ofChange bitioReturnsWrong)

/-- 'waveletlaw09.BitioNobody': WHATEVER THE INPUT: true; the input reads as it did. -/
def bitioNobodySpec : ChangeSpec := { name := "bitioNobody", fn := fun _ => fun
  | [d1, d2] => { results := [.lit (.bool true)], args := [d1, d2] }
  | _ => none }
def bitioNobodyRow : OpenClaim := { program := "ytiapgcgpdndkiaa", sum := "acfa74e3f1162163574339bd1cad146be6d61fb6eaf801f17de7ae39e38a85b1", func := "wavelet/waveletlaw09.BitioNobody", spec := "bitioNobody", unfollowed := true, recurses := true, apart := false }
def BitioNobodySaid : Prop := bitioNobodyRow.holds Try.pinned (OpenSpec.ofChange bitioNobodySpec)

/-- ITS FALSE NEIGHBOUR: 'it returns false'. Refute it at one input. -/
def bitioNobodyWrong : ChangeSpec := { name := "bitioNobody", fn := fun _ => fun
  | [d1, d2] => { results := [.lit (.bool false)], args := [d1, d2] }
  | _ => none }
def BitioNobodyWrongFalsely : Prop := bitioNobodyRow.holds Try.pinned (OpenSpec.ofChange bitioNobodyWrong)

/- THE SECOND FORM. 'bulk': how many values and letters a reading holds, each counted each time it is reached (what is shared counts as often as it is met; a slice's spare places count too). A statement '..UptoSaid' is the law's where the arguments, and the package variables that the reading takes, are together of bulk at most 1048576: NARROWER than '..Said'. Prove '..Said' where nothing that the law and all that it calls make is longer than what came in: it says more and counts as full. Else prove '..UptoSaid'. A law counts once. -/
mutual
def uptoBulk {H : Type} : DataW H → Nat
  | .lit (.string bytes) => bytes.length + 1
  | .lit _ => 1
  | .nil => 1
  | .ptr d => uptoBulk d + 1
  | .slice elems spare => uptoBulkAll elems + uptoBulkAll spare + 1
  | .agg parts => uptoBulkAll parts + 1
  | .iface _ d => uptoBulk d + 1
  | .map entries => uptoBulkEntries entries + 1
  | .held _ => 1
def uptoBulkAll {H : Type} : List (DataW H) → Nat
  | [] => 0
  | d :: r => uptoBulk d + uptoBulkAll r
def uptoBulkEntries {H : Type} : List (Lit × DataW H) → Nat
  | [] => 0
  | x :: r => uptoBulkEntry x + uptoBulkEntries r
def uptoBulkEntry {H : Type} : Lit × DataW H → Nat
  | (.string bytes, d) => bytes.length + uptoBulk d + 1
  | (_, d) => uptoBulk d + 1
 end
def uptoSmall : (H : Type) → List (DataW H) → Bool := fun _ ds => decide (uptoBulkAll ds ≤ 1048576)
def OpenSpec.upto (s : _root_.Go.ChangeSpec) : _root_.Go.OpenSpec := { _root_.Go.OpenSpec.ofChange s with cond := some uptoSmall }

/-- 'waveletlaw09.BitioWrites', WHERE WHAT IT READS IS OF BULK AT MOST 1048576: true; the input reads as it did. -/
def bitioWritesUptoRow : OpenClaim := { program := "ytiapgcgpdndkiaa", sum := "acfa74e3f1162163574339bd1cad146be6d61fb6eaf801f17de7ae39e38a85b1", func := "wavelet/waveletlaw09.BitioWrites", spec := "bitioWrites", unfollowed := true, recurses := true, apart := false, narrowed := true }
def BitioWritesUptoSaid : Prop := bitioWritesUptoRow.holds Try.pinned (OpenSpec.upto bitioWritesSpec)

/-- 'waveletlaw09.BitioStuffs', WHERE WHAT IT READS IS OF BULK AT MOST 1048576: true; the input reads as it did. -/
def bitioStuffsUptoRow : OpenClaim := { program := "ytiapgcgpdndkiaa", sum := "acfa74e3f1162163574339bd1cad146be6d61fb6eaf801f17de7ae39e38a85b1", func := "wavelet/waveletlaw09.BitioStuffs", spec := "bitioStuffs", unfollowed := true, recurses := true, apart := false, narrowed := true }
def BitioStuffsUptoSaid : Prop := bitioStuffsUptoRow.holds Try.pinned (OpenSpec.upto bitioStuffsSpec)

/-- 'waveletlaw09.BitioCanonical', WHERE WHAT IT READS IS OF BULK AT MOST 1048576: true; the input reads as it did. -/
def bitioCanonicalUptoRow : OpenClaim := { program := "ytiapgcgpdndkiaa", sum := "acfa74e3f1162163574339bd1cad146be6d61fb6eaf801f17de7ae39e38a85b1", func := "wavelet/waveletlaw09.BitioCanonical", spec := "bitioCanonical", unfollowed := true, recurses := true, apart := false, narrowed := true }
def BitioCanonicalUptoSaid : Prop := bitioCanonicalUptoRow.holds Try.pinned (OpenSpec.upto bitioCanonicalSpec)

/-- 'waveletlaw09.BitioOwns', WHERE WHAT IT READS IS OF BULK AT MOST 1048576: true; the input reads as it did. -/
def bitioOwnsUptoRow : OpenClaim := { program := "ytiapgcgpdndkiaa", sum := "acfa74e3f1162163574339bd1cad146be6d61fb6eaf801f17de7ae39e38a85b1", func := "wavelet/waveletlaw09.BitioOwns", spec := "bitioOwns", unfollowed := true, recurses := true, apart := false, narrowed := true }
def BitioOwnsUptoSaid : Prop := bitioOwnsUptoRow.holds Try.pinned (OpenSpec.upto bitioOwnsSpec)

/-- 'waveletlaw09.BitioReads', WHERE WHAT IT READS IS OF BULK AT MOST 1048576: true; the input reads as it did. -/
def bitioReadsUptoRow : OpenClaim := { program := "ytiapgcgpdndkiaa", sum := "acfa74e3f1162163574339bd1cad146be6d61fb6eaf801f17de7ae39e38a85b1", func := "wavelet/waveletlaw09.BitioReads", spec := "bitioReads", unfollowed := true, recurses := true, apart := false, narrowed := true }
def BitioReadsUptoSaid : Prop := bitioReadsUptoRow.holds Try.pinned (OpenSpec.upto bitioReadsSpec)

/-- 'waveletlaw09.BitioReturns', WHERE WHAT IT READS IS OF BULK AT MOST 1048576: true; the input reads as it did. -/
def bitioReturnsUptoRow : OpenClaim := { program := "ytiapgcgpdndkiaa", sum := "acfa74e3f1162163574339bd1cad146be6d61fb6eaf801f17de7ae39e38a85b1", func := "wavelet/waveletlaw09.BitioReturns", spec := "bitioReturns", unfollowed := true, recurses := true, apart := false, narrowed := true }
def BitioReturnsUptoSaid : Prop := bitioReturnsUptoRow.holds Try.pinned (OpenSpec.upto bitioReturnsSpec)

/-- 'waveletlaw09.BitioNobody', WHERE WHAT IT READS IS OF BULK AT MOST 1048576: true; the input reads as it did. -/
def bitioNobodyUptoRow : OpenClaim := { program := "ytiapgcgpdndkiaa", sum := "acfa74e3f1162163574339bd1cad146be6d61fb6eaf801f17de7ae39e38a85b1", func := "wavelet/waveletlaw09.BitioNobody", spec := "bitioNobody", unfollowed := true, recurses := true, apart := false, narrowed := true }
def BitioNobodyUptoSaid : Prop := bitioNobodyUptoRow.holds Try.pinned (OpenSpec.upto bitioNobodySpec)

end Rows
end Go.Proofs.Ytiapgcgpdndkiaa
