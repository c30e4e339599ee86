/-
  No cell of these rows narrows 'for every input' (looked for: loops, veiled, ifaces, maps, wideKeys, modest, calm, conditions, laid).
  DERIVED. THE GIVEN ROWS OF THIS SEAT. 9 by the template 'for every input the law returns true; each argument reads behind the call as it read before'; 0 by the template 'total and deterministic' (their statements: YtloncbnceccbaaaTotals.lean).
  GIVEN WITH THE SEED: the statements are not yours to turn. If you find one false, say at which input.
  Laid BY PROGRAM, IN A SANDBOX (cutbox-rows.mjs): the forced cells as the released guide's own fill.sh prints them over the translation a91ae41393b35001… (all of the seat's roots in one cut). By AI agents, Wed Nov 11 2026. No macro, syntax, notation, axiom, sorry.
-/
import Derived.Test.YtloncbnceccbaaaChecked
import GoSem.Claim
import GoSem.ClaimJoined
import GoSem.ClaimMapViews
import Derived.JoinedTies
import Derived.KernelRfl
namespace Go.Proofs.Ytloncbnceccbaaa
/- THE CELL 'sum', in the pinned program and in every row, IS THE sha256 OF THE DUMP (.gsa) THAT YtloncbnceccbaaaProg.lean LOADS. Nothing in Lean hashes anything: it is a label: what it is worth is what the hold of that sum in a sandbox is worth. -/
noncomputable def Try.pinned : Pinned := { name := "ytloncbnceccbaaa", sum := "a91ae41393b35001baedfdf81f5fac0d6b1e1fff87bb9b5edd9681d75379f82b", checked := Try.checked }
namespace Rows
def none {H : Type} : Left H := { results := [], args := [] }

/-- 'waveletlaw08.QuantIndexes': WHATEVER THE INPUT: true; the input reads as it did. -/
def quantIndexesSpec : ChangeSpec := { name := "quantIndexes", fn := fun _ => fun
  | [d1, d2, d3] => { results := [.lit (.bool true)], args := [d1, d2, d3] }
  | _ => none }
def quantIndexesRow : OpenClaim := { program := "ytloncbnceccbaaa", sum := "a91ae41393b35001baedfdf81f5fac0d6b1e1fff87bb9b5edd9681d75379f82b", func := "wavelet/waveletlaw08.QuantIndexes", spec := "quantIndexes", recurses := true, apart := false }
def QuantIndexesSaid : Prop := quantIndexesRow.holds Try.pinned (OpenSpec.ofChange quantIndexesSpec)

/-- ITS FALSE NEIGHBOUR: 'it returns false'. Refute it at one input. -/
def quantIndexesWrong : ChangeSpec := { name := "quantIndexes", fn := fun _ => fun
  | [d1, d2, d3] => { results := [.lit (.bool false)], args := [d1, d2, d3] }
  | _ => none }
def QuantIndexesWrongFalsely : Prop := quantIndexesRow.holds Try.pinned (OpenSpec.ofChange quantIndexesWrong)

/-- 'waveletlaw08.QuantIntervals': WHATEVER THE INPUT: true; the input reads as it did. -/
def quantIntervalsSpec : ChangeSpec := { name := "quantIntervals", fn := fun _ => fun
  | [d1, d2, d3] => { results := [.lit (.bool true)], args := [d1, d2, d3] }
  | _ => none }
def quantIntervalsRow : OpenClaim := { program := "ytloncbnceccbaaa", sum := "a91ae41393b35001baedfdf81f5fac0d6b1e1fff87bb9b5edd9681d75379f82b", func := "wavelet/waveletlaw08.QuantIntervals", spec := "quantIntervals", apart := false }
def QuantIntervalsSaid : Prop := quantIntervalsRow.holds Try.pinned (OpenSpec.ofChange quantIntervalsSpec)

/-- ITS FALSE NEIGHBOUR: 'it returns false'. Refute it at one input. -/
def quantIntervalsWrong : ChangeSpec := { name := "quantIntervals", fn := fun _ => fun
  | [d1, d2, d3] => { results := [.lit (.bool false)], args := [d1, d2, d3] }
  | _ => none }
def QuantIntervalsWrongFalsely : Prop := quantIntervalsRow.holds Try.pinned (OpenSpec.ofChange quantIntervalsWrong)

/-- 'waveletlaw08.QuantReconstructs': WHATEVER THE INPUT: true; the input reads as it did. -/
def quantReconstructsSpec : ChangeSpec := { name := "quantReconstructs", fn := fun _ => fun
  | [d1, d2, d3] => { results := [.lit (.bool true)], args := [d1, d2, d3] }
  | _ => none }
def quantReconstructsRow : OpenClaim := { program := "ytloncbnceccbaaa", sum := "a91ae41393b35001baedfdf81f5fac0d6b1e1fff87bb9b5edd9681d75379f82b", func := "wavelet/waveletlaw08.QuantReconstructs", spec := "quantReconstructs", recurses := true, apart := false }
def QuantReconstructsSaid : Prop := quantReconstructsRow.holds Try.pinned (OpenSpec.ofChange quantReconstructsSpec)

/-- ITS FALSE NEIGHBOUR: 'it returns false'. Refute it at one input. -/
def quantReconstructsWrong : ChangeSpec := { name := "quantReconstructs", fn := fun _ => fun
  | [d1, d2, d3] => { results := [.lit (.bool false)], args := [d1, d2, d3] }
  | _ => none }
def QuantReconstructsWrongFalsely : Prop := quantReconstructsRow.holds Try.pinned (OpenSpec.ofChange quantReconstructsWrong)

/-- 'waveletlaw08.QuantPlanes': WHATEVER THE INPUT: true; the input reads as it did. -/
def quantPlanesSpec : ChangeSpec := { name := "quantPlanes", fn := fun _ => fun
  | [d1, d2, d3] => { results := [.lit (.bool true)], args := [d1, d2, d3] }
  | _ => none }
def quantPlanesRow : OpenClaim := { program := "ytloncbnceccbaaa", sum := "a91ae41393b35001baedfdf81f5fac0d6b1e1fff87bb9b5edd9681d75379f82b", func := "wavelet/waveletlaw08.QuantPlanes", spec := "quantPlanes", recurses := true, apart := false }
def QuantPlanesSaid : Prop := quantPlanesRow.holds Try.pinned (OpenSpec.ofChange quantPlanesSpec)

/-- ITS FALSE NEIGHBOUR: 'it returns false'. Refute it at one input. -/
def quantPlanesWrong : ChangeSpec := { name := "quantPlanes", fn := fun _ => fun
  | [d1, d2, d3] => { results := [.lit (.bool false)], args := [d1, d2, d3] }
  | _ => none }
def QuantPlanesWrongFalsely : Prop := quantPlanesRow.holds Try.pinned (OpenSpec.ofChange quantPlanesWrong)

/-- 'waveletlaw08.QuantUnscales': WHATEVER THE INPUT: true; the input reads as it did. -/
def quantUnscalesSpec : ChangeSpec := { name := "quantUnscales", fn := fun _ => fun
  | [d1, d2, d3] => { results := [.lit (.bool true)], args := [d1, d2, d3] }
  | _ => none }
def quantUnscalesRow : OpenClaim := { program := "ytloncbnceccbaaa", sum := "a91ae41393b35001baedfdf81f5fac0d6b1e1fff87bb9b5edd9681d75379f82b", func := "wavelet/waveletlaw08.QuantUnscales", spec := "quantUnscales", apart := false }
def QuantUnscalesSaid : Prop := quantUnscalesRow.holds Try.pinned (OpenSpec.ofChange quantUnscalesSpec)

/-- ITS FALSE NEIGHBOUR: 'it returns false'. Refute it at one input. -/
def quantUnscalesWrong : ChangeSpec := { name := "quantUnscales", fn := fun _ => fun
  | [d1, d2, d3] => { results := [.lit (.bool false)], args := [d1, d2, d3] }
  | _ => none }
def QuantUnscalesWrongFalsely : Prop := quantUnscalesRow.holds Try.pinned (OpenSpec.ofChange quantUnscalesWrong)

/-- 'waveletlaw08.QuantApplies': WHATEVER THE INPUT: true; the input reads as it did. -/
def quantAppliesSpec : ChangeSpec := { name := "quantApplies", fn := fun _ => fun
  | [d1, d2, d3] => { results := [.lit (.bool true)], args := [d1, d2, d3] }
  | _ => none }
def quantAppliesRow : OpenClaim := { program := "ytloncbnceccbaaa", sum := "a91ae41393b35001baedfdf81f5fac0d6b1e1fff87bb9b5edd9681d75379f82b", func := "wavelet/waveletlaw08.QuantApplies", spec := "quantApplies", recurses := true, apart := false }
def QuantAppliesSaid : Prop := quantAppliesRow.holds Try.pinned (OpenSpec.ofChange quantAppliesSpec)

/-- ITS FALSE NEIGHBOUR: 'it returns false'. Refute it at one input. -/
def quantAppliesWrong : ChangeSpec := { name := "quantApplies", fn := fun _ => fun
  | [d1, d2, d3] => { results := [.lit (.bool false)], args := [d1, d2, d3] }
  | _ => none }
def QuantAppliesWrongFalsely : Prop := quantAppliesRow.holds Try.pinned (OpenSpec.ofChange quantAppliesWrong)

/-- 'waveletlaw08.QuantOrders': WHATEVER THE INPUT: true; the input reads as it did. -/
def quantOrdersSpec : ChangeSpec := { name := "quantOrders", fn := fun _ => fun
  | [d1, d2, d3] => { results := [.lit (.bool true)], args := [d1, d2, d3] }
  | _ => none }
def quantOrdersRow : OpenClaim := { program := "ytloncbnceccbaaa", sum := "a91ae41393b35001baedfdf81f5fac0d6b1e1fff87bb9b5edd9681d75379f82b", func := "wavelet/waveletlaw08.QuantOrders", spec := "quantOrders", apart := false }
def QuantOrdersSaid : Prop := quantOrdersRow.holds Try.pinned (OpenSpec.ofChange quantOrdersSpec)

/-- ITS FALSE NEIGHBOUR: 'it returns false'. Refute it at one input. -/
def quantOrdersWrong : ChangeSpec := { name := "quantOrders", fn := fun _ => fun
  | [d1, d2, d3] => { results := [.lit (.bool false)], args := [d1, d2, d3] }
  | _ => none }
def QuantOrdersWrongFalsely : Prop := quantOrdersRow.holds Try.pinned (OpenSpec.ofChange quantOrdersWrong)

/-- 'waveletlaw08.QuantContains': WHATEVER THE INPUT: true; the input reads as it did. -/
def quantContainsSpec : ChangeSpec := { name := "quantContains", fn := fun _ => fun
  | [d1, d2, d3] => { results := [.lit (.bool true)], args := [d1, d2, d3] }
  | _ => none }
def quantContainsRow : OpenClaim := { program := "ytloncbnceccbaaa", sum := "a91ae41393b35001baedfdf81f5fac0d6b1e1fff87bb9b5edd9681d75379f82b", func := "wavelet/waveletlaw08.QuantContains", spec := "quantContains", apart := false }
def QuantContainsSaid : Prop := quantContainsRow.holds Try.pinned (OpenSpec.ofChange quantContainsSpec)

/-- ITS FALSE NEIGHBOUR: 'it returns false'. Refute it at one input. -/
def quantContainsWrong : ChangeSpec := { name := "quantContains", fn := fun _ => fun
  | [d1, d2, d3] => { results := [.lit (.bool false)], args := [d1, d2, d3] }
  | _ => none }
def QuantContainsWrongFalsely : Prop := quantContainsRow.holds Try.pinned (OpenSpec.ofChange quantContainsWrong)

/-- 'waveletlaw08.QuantScales': WHATEVER THE INPUT: true; the input reads as it did. -/
def quantScalesSpec : ChangeSpec := { name := "quantScales", fn := fun _ => fun
  | [d1, d2] => { results := [.lit (.bool true)], args := [d1, d2] }
  | _ => none }
def quantScalesRow : OpenClaim := { program := "ytloncbnceccbaaa", sum := "a91ae41393b35001baedfdf81f5fac0d6b1e1fff87bb9b5edd9681d75379f82b", func := "wavelet/waveletlaw08.QuantScales", spec := "quantScales", apart := false }
def QuantScalesSaid : Prop := quantScalesRow.holds Try.pinned (OpenSpec.ofChange quantScalesSpec)

/-- ITS FALSE NEIGHBOUR: 'it returns false'. Refute it at one input. -/
def quantScalesWrong : ChangeSpec := { name := "quantScales", fn := fun _ => fun
  | [d1, d2] => { results := [.lit (.bool false)], args := [d1, d2] }
  | _ => none }
def QuantScalesWrongFalsely : Prop := quantScalesRow.holds Try.pinned (OpenSpec.ofChange quantScalesWrong)

/- THE SECOND FORM. 'bulk': how many values and letters a reading holds, each counted each time it is reached (what is shared counts as often as it is met; a slice's spare places count too). A statement '..UptoSaid' is the law's where the arguments, and the package variables that the reading takes, are together of bulk at most 1048576: NARROWER than '..Said'. Prove '..Said' where nothing that the law and all that it calls make is longer than what came in: it says more and counts as full. Else prove '..UptoSaid'. A law counts once. -/
mutual
def uptoBulk {H : Type} : DataW H → Nat
  | .lit (.string bytes) => bytes.length + 1
  | .lit _ => 1
  | .nil => 1
  | .ptr d => uptoBulk d + 1
  | .slice elems spare => uptoBulkAll elems + uptoBulkAll spare + 1
  | .agg parts => uptoBulkAll parts + 1
  | .iface _ d => uptoBulk d + 1
  | .map entries => uptoBulkEntries entries + 1
  | .held _ => 1
def uptoBulkAll {H : Type} : List (DataW H) → Nat
  | [] => 0
  | d :: r => uptoBulk d + uptoBulkAll r
def uptoBulkEntries {H : Type} : List (Lit × DataW H) → Nat
  | [] => 0
  | x :: r => uptoBulkEntry x + uptoBulkEntries r
def uptoBulkEntry {H : Type} : Lit × DataW H → Nat
  | (.string bytes, d) => bytes.length + uptoBulk d + 1
  | (_, d) => uptoBulk d + 1
 end
def uptoSmall : (H : Type) → List (DataW H) → Bool := fun _ ds => decide (uptoBulkAll ds ≤ 1048576)
def OpenSpec.upto (s : _root_.Go.ChangeSpec) : _root_.Go.OpenSpec := { _root_.Go.OpenSpec.ofChange s with cond := some uptoSmall }

/-- 'waveletlaw08.QuantIndexes', WHERE WHAT IT READS IS OF BULK AT MOST 1048576: true; the input reads as it did. -/
def quantIndexesUptoRow : OpenClaim := { program := "ytloncbnceccbaaa", sum := "a91ae41393b35001baedfdf81f5fac0d6b1e1fff87bb9b5edd9681d75379f82b", func := "wavelet/waveletlaw08.QuantIndexes", spec := "quantIndexes", recurses := true, apart := false, narrowed := true }
def QuantIndexesUptoSaid : Prop := quantIndexesUptoRow.holds Try.pinned (OpenSpec.upto quantIndexesSpec)

/-- 'waveletlaw08.QuantIntervals', WHERE WHAT IT READS IS OF BULK AT MOST 1048576: true; the input reads as it did. -/
def quantIntervalsUptoRow : OpenClaim := { program := "ytloncbnceccbaaa", sum := "a91ae41393b35001baedfdf81f5fac0d6b1e1fff87bb9b5edd9681d75379f82b", func := "wavelet/waveletlaw08.QuantIntervals", spec := "quantIntervals", apart := false, narrowed := true }
def QuantIntervalsUptoSaid : Prop := quantIntervalsUptoRow.holds Try.pinned (OpenSpec.upto quantIntervalsSpec)

/-- 'waveletlaw08.QuantReconstructs', WHERE WHAT IT READS IS OF BULK AT MOST 1048576: true; the input reads as it did. -/
def quantReconstructsUptoRow : OpenClaim := { program := "ytloncbnceccbaaa", sum := "a91ae41393b35001baedfdf81f5fac0d6b1e1fff87bb9b5edd9681d75379f82b", func := "wavelet/waveletlaw08.QuantReconstructs", spec := "quantReconstructs", recurses := true, apart := false, narrowed := true }
def QuantReconstructsUptoSaid : Prop := quantReconstructsUptoRow.holds Try.pinned (OpenSpec.upto quantReconstructsSpec)

/-- 'waveletlaw08.QuantPlanes', WHERE WHAT IT READS IS OF BULK AT MOST 1048576: true; the input reads as it did. -/
def quantPlanesUptoRow : OpenClaim := { program := "ytloncbnceccbaaa", sum := "a91ae41393b35001baedfdf81f5fac0d6b1e1fff87bb9b5edd9681d75379f82b", func := "wavelet/waveletlaw08.QuantPlanes", spec := "quantPlanes", recurses := true, apart := false, narrowed := true }
def QuantPlanesUptoSaid : Prop := quantPlanesUptoRow.holds Try.pinned (OpenSpec.upto quantPlanesSpec)

/-- 'waveletlaw08.QuantUnscales', WHERE WHAT IT READS IS OF BULK AT MOST 1048576: true; the input reads as it did. -/
def quantUnscalesUptoRow : OpenClaim := { program := "ytloncbnceccbaaa", sum := "a91ae41393b35001baedfdf81f5fac0d6b1e1fff87bb9b5edd9681d75379f82b", func := "wavelet/waveletlaw08.QuantUnscales", spec := "quantUnscales", apart := false, narrowed := true }
def QuantUnscalesUptoSaid : Prop := quantUnscalesUptoRow.holds Try.pinned (OpenSpec.upto quantUnscalesSpec)

/-- 'waveletlaw08.QuantApplies', WHERE WHAT IT READS IS OF BULK AT MOST 1048576: true; the input reads as it did. -/
def quantAppliesUptoRow : OpenClaim := { program := "ytloncbnceccbaaa", sum := "a91ae41393b35001baedfdf81f5fac0d6b1e1fff87bb9b5edd9681d75379f82b", func := "wavelet/waveletlaw08.QuantApplies", spec := "quantApplies", recurses := true, apart := false, narrowed := true }
def QuantAppliesUptoSaid : Prop := quantAppliesUptoRow.holds Try.pinned (OpenSpec.upto quantAppliesSpec)

/-- 'waveletlaw08.QuantOrders', WHERE WHAT IT READS IS OF BULK AT MOST 1048576: true; the input reads as it did. -/
def quantOrdersUptoRow : OpenClaim := { program := "ytloncbnceccbaaa", sum := "a91ae41393b35001baedfdf81f5fac0d6b1e1fff87bb9b5edd9681d75379f82b", func := "wavelet/waveletlaw08.QuantOrders", spec := "quantOrders", apart := false, narrowed := true }
def QuantOrdersUptoSaid : Prop := quantOrdersUptoRow.holds Try.pinned (OpenSpec.upto quantOrdersSpec)

/-- 'waveletlaw08.QuantContains', WHERE WHAT IT READS IS OF BULK AT MOST 1048576: true; the input reads as it did. -/
def quantContainsUptoRow : OpenClaim := { program := "ytloncbnceccbaaa", sum := "a91ae41393b35001baedfdf81f5fac0d6b1e1fff87bb9b5edd9681d75379f82b", func := "wavelet/waveletlaw08.QuantContains", spec := "quantContains", apart := false, narrowed := true }
def QuantContainsUptoSaid : Prop := quantContainsUptoRow.holds Try.pinned (OpenSpec.upto quantContainsSpec)

/-- 'waveletlaw08.QuantScales', WHERE WHAT IT READS IS OF BULK AT MOST 1048576: true; the input reads as it did. -/
def quantScalesUptoRow : OpenClaim := { program := "ytloncbnceccbaaa", sum := "a91ae41393b35001baedfdf81f5fac0d6b1e1fff87bb9b5edd9681d75379f82b", func := "wavelet/waveletlaw08.QuantScales", spec := "quantScales", apart := false, narrowed := true }
def QuantScalesUptoSaid : Prop := quantScalesUptoRow.holds Try.pinned (OpenSpec.upto quantScalesSpec)

end Rows
end Go.Proofs.Ytloncbnceccbaaa
