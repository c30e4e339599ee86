/-
  No cell of these rows narrows 'for every input' (looked for: loops, veiled, ifaces, maps, wideKeys, modest, calm, conditions, laid).
  DERIVED. THE GIVEN ROWS OF THIS SEAT. 7 by the template 'for every input the law returns true; each argument reads behind the call as it read before'; 0 by the template 'total and deterministic' (their statements: YtjajknghcbpblaaTotals.lean).
  GIVEN WITH THE SEED: the statements are not yours to turn. If you find one false, say at which input.
  Laid BY PROGRAM, IN A SANDBOX (cutbox-rows.mjs): the forced cells as the released guide's own fill.sh prints them over the translation f82983f9644d4da1… (all of the seat's roots in one cut). By AI agents, Wed Nov 11 2026. No macro, syntax, notation, axiom, sorry.
-/
import Derived.Test.YtjajknghcbpblaaChecked
import GoSem.Claim
import GoSem.ClaimJoined
import GoSem.ClaimMapViews
import Derived.JoinedTies
import Derived.KernelRfl
namespace Go.Proofs.Ytjajknghcbpblaa
/- THE CELL 'sum', in the pinned program and in every row, IS THE sha256 OF THE DUMP (.gsa) THAT YtjajknghcbpblaaProg.lean LOADS. Nothing in Lean hashes anything: it is a label: what it is worth is what the hold of that sum in a sandbox is worth. -/
noncomputable def Try.pinned : Pinned := { name := "ytjajknghcbpblaa", sum := "f82983f9644d4da1a0fc6cefbe58353a829c8c5eed0bd6f0d66c233521b7e5cc", checked := Try.checked }
namespace Rows
def none {H : Type} : Left H := { results := [], args := [] }

/-- 'waveletlaw27.PacketChecksum': WHATEVER THE INPUT: true; the input reads as it did. -/
def packetChecksumSpec : ChangeSpec := { name := "packetChecksum", fn := fun _ => fun
  | [d] => { results := [.lit (.bool true)], args := [d] }
  | _ => none }
def packetChecksumRow : OpenClaim := { program := "ytjajknghcbpblaa", sum := "f82983f9644d4da1a0fc6cefbe58353a829c8c5eed0bd6f0d66c233521b7e5cc", func := "wavelet/waveletlaw27.PacketChecksum", spec := "packetChecksum", apart := false }
def PacketChecksumSaid : Prop := packetChecksumRow.holds Try.pinned (OpenSpec.ofChange packetChecksumSpec)

/-- ITS FALSE NEIGHBOUR: 'it returns false'. Refute it at one input. -/
def packetChecksumWrong : ChangeSpec := { name := "packetChecksum", fn := fun _ => fun
  | [d] => { results := [.lit (.bool false)], args := [d] }
  | _ => none }
def PacketChecksumWrongFalsely : Prop := packetChecksumRow.holds Try.pinned (OpenSpec.ofChange packetChecksumWrong)

/-- 'waveletlaw27.PacketAppends': WHATEVER THE INPUT: true; the input reads as it did. -/
def packetAppendsSpec : ChangeSpec := { name := "packetAppends", fn := fun _ => fun
  | [d1, d2, d3, d4, d5] => { results := [.lit (.bool true)], args := [d1, d2, d3, d4, d5] }
  | _ => none }
def packetAppendsRow : OpenClaim := { program := "ytjajknghcbpblaa", sum := "f82983f9644d4da1a0fc6cefbe58353a829c8c5eed0bd6f0d66c233521b7e5cc", func := "wavelet/waveletlaw27.PacketAppends", spec := "packetAppends", apart := false }
def PacketAppendsSaid : Prop := packetAppendsRow.holds Try.pinned (OpenSpec.ofChange packetAppendsSpec)

/-- ITS FALSE NEIGHBOUR: 'it returns false'. Refute it at one input. -/
def packetAppendsWrong : ChangeSpec := { name := "packetAppends", fn := fun _ => fun
  | [d1, d2, d3, d4, d5] => { results := [.lit (.bool false)], args := [d1, d2, d3, d4, d5] }
  | _ => none }
def PacketAppendsWrongFalsely : Prop := packetAppendsRow.holds Try.pinned (OpenSpec.ofChange packetAppendsWrong)

/-- 'waveletlaw27.PacketFrames': WHATEVER THE INPUT: true; the input reads as it did. -/
def packetFramesSpec : ChangeSpec := { name := "packetFrames", fn := fun _ => fun
  | [d1, d2, d3, d4] => { results := [.lit (.bool true)], args := [d1, d2, d3, d4] }
  | _ => none }
def packetFramesRow : OpenClaim := { program := "ytjajknghcbpblaa", sum := "f82983f9644d4da1a0fc6cefbe58353a829c8c5eed0bd6f0d66c233521b7e5cc", func := "wavelet/waveletlaw27.PacketFrames", spec := "packetFrames", apart := false }
def PacketFramesSaid : Prop := packetFramesRow.holds Try.pinned (OpenSpec.ofChange packetFramesSpec)

/-- ITS FALSE NEIGHBOUR: 'it returns false'. Refute it at one input. -/
def packetFramesWrong : ChangeSpec := { name := "packetFrames", fn := fun _ => fun
  | [d1, d2, d3, d4] => { results := [.lit (.bool false)], args := [d1, d2, d3, d4] }
  | _ => none }
def PacketFramesWrongFalsely : Prop := packetFramesRow.holds Try.pinned (OpenSpec.ofChange packetFramesWrong)

/-- 'waveletlaw27.PacketDetects': WHATEVER THE INPUT: true; the input reads as it did. -/
def packetDetectsSpec : ChangeSpec := { name := "packetDetects", fn := fun _ => fun
  | [d1, d2, d3, d4, d5] => { results := [.lit (.bool true)], args := [d1, d2, d3, d4, d5] }
  | _ => none }
def packetDetectsRow : OpenClaim := { program := "ytjajknghcbpblaa", sum := "f82983f9644d4da1a0fc6cefbe58353a829c8c5eed0bd6f0d66c233521b7e5cc", func := "wavelet/waveletlaw27.PacketDetects", spec := "packetDetects", apart := false }
def PacketDetectsSaid : Prop := packetDetectsRow.holds Try.pinned (OpenSpec.ofChange packetDetectsSpec)

/-- ITS FALSE NEIGHBOUR: 'it returns false'. Refute it at one input. -/
def packetDetectsWrong : ChangeSpec := { name := "packetDetects", fn := fun _ => fun
  | [d1, d2, d3, d4, d5] => { results := [.lit (.bool false)], args := [d1, d2, d3, d4, d5] }
  | _ => none }
def PacketDetectsWrongFalsely : Prop := packetDetectsRow.holds Try.pinned (OpenSpec.ofChange packetDetectsWrong)

/-- 'waveletlaw27.PacketNobody': WHATEVER THE INPUT: true; the input reads as it did. -/
def packetNobodySpec : ChangeSpec := { name := "packetNobody", fn := fun _ => fun
  | [d1, d2, d3, d4] => { results := [.lit (.bool true)], args := [d1, d2, d3, d4] }
  | _ => none }
def packetNobodyRow : OpenClaim := { program := "ytjajknghcbpblaa", sum := "f82983f9644d4da1a0fc6cefbe58353a829c8c5eed0bd6f0d66c233521b7e5cc", func := "wavelet/waveletlaw27.PacketNobody", spec := "packetNobody", unfollowed := true, recurses := true, apart := false }
def PacketNobodySaid : Prop := packetNobodyRow.holds Try.pinned (OpenSpec.ofChange packetNobodySpec)

/-- ITS FALSE NEIGHBOUR: 'it returns false'. Refute it at one input. -/
def packetNobodyWrong : ChangeSpec := { name := "packetNobody", fn := fun _ => fun
  | [d1, d2, d3, d4] => { results := [.lit (.bool false)], args := [d1, d2, d3, d4] }
  | _ => none }
def PacketNobodyWrongFalsely : Prop := packetNobodyRow.holds Try.pinned (OpenSpec.ofChange packetNobodyWrong)

/-- 'waveletlaw27.PacketReads': WHATEVER THE INPUT: true; the input reads as it did. -/
def packetReadsSpec : ChangeSpec := { name := "packetReads", fn := fun _ => fun
  | [d] => { results := [.lit (.bool true)], args := [d] }
  | _ => none }
def packetReadsRow : OpenClaim := { program := "ytjajknghcbpblaa", sum := "f82983f9644d4da1a0fc6cefbe58353a829c8c5eed0bd6f0d66c233521b7e5cc", func := "wavelet/waveletlaw27.PacketReads", spec := "packetReads", unfollowed := true, recurses := true, apart := false }
def PacketReadsSaid : Prop := packetReadsRow.holds Try.pinned (OpenSpec.ofChange packetReadsSpec)

/-- ITS FALSE NEIGHBOUR: 'it returns false'. Refute it at one input. -/
def packetReadsWrong : ChangeSpec := { name := "packetReads", fn := fun _ => fun
  | [d] => { results := [.lit (.bool false)], args := [d] }
  | _ => none }
def PacketReadsWrongFalsely : Prop := packetReadsRow.holds Try.pinned (OpenSpec.ofChange packetReadsWrong)

/-- 'waveletlaw27.PacketReturns': WHATEVER THE INPUT: true; the input reads as it did. -/
def packetReturnsSpec : ChangeSpec := { name := "packetReturns", fn := fun _ => fun
  | [d1, d2, d3] => { results := [.lit (.bool true)], args := [d1, d2, d3] }
  | _ => none }
def packetReturnsRow : OpenClaim := { program := "ytjajknghcbpblaa", sum := "f82983f9644d4da1a0fc6cefbe58353a829c8c5eed0bd6f0d66c233521b7e5cc", func := "wavelet/waveletlaw27.PacketReturns", spec := "packetReturns", unfollowed := true, recurses := true, apart := false }
def PacketReturnsSaid : Prop := packetReturnsRow.holds Try.pinned (OpenSpec.ofChange packetReturnsSpec)

/-- ITS FALSE NEIGHBOUR: 'it returns false'. Refute it at one input. -/
def packetReturnsWrong : ChangeSpec := { name := "packetReturns", fn := fun _ => fun
  | [d1, d2, d3] => { results := [.lit (.bool false)], args := [d1, d2, d3] }
  | _ => none }
def PacketReturnsWrongFalsely : Prop := packetReturnsRow.holds Try.pinned (OpenSpec.ofChange packetReturnsWrong)

/- THE SECOND FORM. 'bulk': how many values and letters a reading holds, each counted each time it is reached (what is shared counts as often as it is met; a slice's spare places count too). A statement '..UptoSaid' is the law's where the arguments, and the package variables that the reading takes, are together of bulk at most 1048576: NARROWER than '..Said'. Prove '..Said' where nothing that the law and all that it calls make is longer than what came in: it says more and counts as full. Else prove '..UptoSaid'. A law counts once. -/
mutual
def uptoBulk {H : Type} : DataW H → Nat
  | .lit (.string bytes) => bytes.length + 1
  | .lit _ => 1
  | .nil => 1
  | .ptr d => uptoBulk d + 1
  | .slice elems spare => uptoBulkAll elems + uptoBulkAll spare + 1
  | .agg parts => uptoBulkAll parts + 1
  | .iface _ d => uptoBulk d + 1
  | .map entries => uptoBulkEntries entries + 1
  | .held _ => 1
def uptoBulkAll {H : Type} : List (DataW H) → Nat
  | [] => 0
  | d :: r => uptoBulk d + uptoBulkAll r
def uptoBulkEntries {H : Type} : List (Lit × DataW H) → Nat
  | [] => 0
  | x :: r => uptoBulkEntry x + uptoBulkEntries r
def uptoBulkEntry {H : Type} : Lit × DataW H → Nat
  | (.string bytes, d) => bytes.length + uptoBulk d + 1
  | (_, d) => uptoBulk d + 1
 end
def uptoSmall : (H : Type) → List (DataW H) → Bool := fun _ ds => decide (uptoBulkAll ds ≤ 1048576)
def OpenSpec.upto (s : _root_.Go.ChangeSpec) : _root_.Go.OpenSpec := { _root_.Go.OpenSpec.ofChange s with cond := some uptoSmall }

/-- 'waveletlaw27.PacketChecksum', WHERE WHAT IT READS IS OF BULK AT MOST 1048576: true; the input reads as it did. -/
def packetChecksumUptoRow : OpenClaim := { program := "ytjajknghcbpblaa", sum := "f82983f9644d4da1a0fc6cefbe58353a829c8c5eed0bd6f0d66c233521b7e5cc", func := "wavelet/waveletlaw27.PacketChecksum", spec := "packetChecksum", apart := false, narrowed := true }
def PacketChecksumUptoSaid : Prop := packetChecksumUptoRow.holds Try.pinned (OpenSpec.upto packetChecksumSpec)

/-- 'waveletlaw27.PacketAppends', WHERE WHAT IT READS IS OF BULK AT MOST 1048576: true; the input reads as it did. -/
def packetAppendsUptoRow : OpenClaim := { program := "ytjajknghcbpblaa", sum := "f82983f9644d4da1a0fc6cefbe58353a829c8c5eed0bd6f0d66c233521b7e5cc", func := "wavelet/waveletlaw27.PacketAppends", spec := "packetAppends", apart := false, narrowed := true }
def PacketAppendsUptoSaid : Prop := packetAppendsUptoRow.holds Try.pinned (OpenSpec.upto packetAppendsSpec)

/-- 'waveletlaw27.PacketFrames', WHERE WHAT IT READS IS OF BULK AT MOST 1048576: true; the input reads as it did. -/
def packetFramesUptoRow : OpenClaim := { program := "ytjajknghcbpblaa", sum := "f82983f9644d4da1a0fc6cefbe58353a829c8c5eed0bd6f0d66c233521b7e5cc", func := "wavelet/waveletlaw27.PacketFrames", spec := "packetFrames", apart := false, narrowed := true }
def PacketFramesUptoSaid : Prop := packetFramesUptoRow.holds Try.pinned (OpenSpec.upto packetFramesSpec)

/-- 'waveletlaw27.PacketDetects', WHERE WHAT IT READS IS OF BULK AT MOST 1048576: true; the input reads as it did. -/
def packetDetectsUptoRow : OpenClaim := { program := "ytjajknghcbpblaa", sum := "f82983f9644d4da1a0fc6cefbe58353a829c8c5eed0bd6f0d66c233521b7e5cc", func := "wavelet/waveletlaw27.PacketDetects", spec := "packetDetects", apart := false, narrowed := true }
def PacketDetectsUptoSaid : Prop := packetDetectsUptoRow.holds Try.pinned (OpenSpec.upto packetDetectsSpec)

/-- 'waveletlaw27.PacketNobody', WHERE WHAT IT READS IS OF BULK AT MOST 1048576: true; the input reads as it did. -/
def packetNobodyUptoRow : OpenClaim := { program := "ytjajknghcbpblaa", sum := "f82983f9644d4da1a0fc6cefbe58353a829c8c5eed0bd6f0d66c233521b7e5cc", func := "wavelet/waveletlaw27.PacketNobody", spec := "packetNobody", unfollowed := true, recurses := true, apart := false, narrowed := true }
def PacketNobodyUptoSaid : Prop := packetNobodyUptoRow.holds Try.pinned (OpenSpec.upto packetNobodySpec)

/-- 'waveletlaw27.PacketReads', WHERE WHAT IT READS IS OF BULK AT MOST 1048576: true; the input reads as it did. -/
def packetReadsUptoRow : OpenClaim := { program := "ytjajknghcbpblaa", sum := "f82983f9644d4da1a0fc6cefbe58353a829c8c5eed0bd6f0d66c233521b7e5cc", func := "wavelet/waveletlaw27.PacketReads", spec := "packetReads", unfollowed := true, recurses := true, apart := false, narrowed := true }
def PacketReadsUptoSaid : Prop := packetReadsUptoRow.holds Try.pinned (OpenSpec.upto packetReadsSpec)

/-- 'waveletlaw27.PacketReturns', WHERE WHAT IT READS IS OF BULK AT MOST 1048576: true; the input reads as it did. -/
def packetReturnsUptoRow : OpenClaim := { program := "ytjajknghcbpblaa", sum := "f82983f9644d4da1a0fc6cefbe58353a829c8c5eed0bd6f0d66c233521b7e5cc", func := "wavelet/waveletlaw27.PacketReturns", spec := "packetReturns", unfollowed := true, recurses := true, apart := false, narrowed := true }
def PacketReturnsUptoSaid : Prop := packetReturnsUptoRow.holds Try.pinned (OpenSpec.upto packetReturnsSpec)

end Rows
end Go.Proofs.Ytjajknghcbpblaa
