/-
  No cell of these rows narrows 'for every input' (looked for: loops, veiled, ifaces, maps, wideKeys, modest, calm, conditions, laid).
  DERIVED. THE GIVEN ROWS OF THIS SEAT. 6 by the template 'for every input the law returns true; each argument reads behind the call as it read before'; 0 by the template 'total and deterministic' (their statements: YtmanlfonppfhaaaTotals.lean).
  GIVEN WITH THE SEED: the statements are not yours to turn. If you find one false, say at which input.
  Laid BY PROGRAM, IN A SANDBOX (cutbox-rows.mjs): the forced cells as the released guide's own fill.sh prints them over the translation a7f09dd914352d17… (all of the seat's roots in one cut). By AI agents, Wed Nov 11 2026. No macro, syntax, notation, axiom, sorry.
-/
import Derived.Test.YtmanlfonppfhaaaChecked
import GoSem.Claim
import GoSem.ClaimJoined
import GoSem.ClaimMapViews
import Derived.JoinedTies
import Derived.KernelRfl
namespace Go.Proofs.Ytmanlfonppfhaaa
/- THE CELL 'sum', in the pinned program and in every row, IS THE sha256 OF THE DUMP (.gsa) THAT YtmanlfonppfhaaaProg.lean LOADS. Nothing in Lean hashes anything: it is a label: what it is worth is what the hold of that sum in a sandbox is worth. -/
noncomputable def Try.pinned : Pinned := { name := "ytmanlfonppfhaaa", sum := "a7f09dd914352d178311ce4e0671feb27b2c32b4d06335cac97f8267059a2bd5", checked := Try.checked }
namespace Rows
def none {H : Type} : Left H := { results := [], args := [] }

/-- 'waveletlaw26.PktheadNews': WHATEVER THE INPUT: true; the input reads as it did. -/
def pktheadNewsSpec : ChangeSpec := { name := "pktheadNews", fn := fun _ => fun
  | [d] => { results := [.lit (.bool true)], args := [d] }
  | _ => none }
def pktheadNewsRow : OpenClaim := { program := "ytmanlfonppfhaaa", sum := "a7f09dd914352d178311ce4e0671feb27b2c32b4d06335cac97f8267059a2bd5", func := "wavelet/waveletlaw26.PktheadNews", spec := "pktheadNews", unfollowed := true, recurses := true, apart := false }
def PktheadNewsSaid : Prop := pktheadNewsRow.holds Try.pinned (OpenSpec.ofChange pktheadNewsSpec)

/-- ITS FALSE NEIGHBOUR: 'it returns false'. Refute it at one input. -/
def pktheadNewsWrong : ChangeSpec := { name := "pktheadNews", fn := fun _ => fun
  | [d] => { results := [.lit (.bool false)], args := [d] }
  | _ => none }
def PktheadNewsWrongFalsely : Prop := pktheadNewsRow.holds Try.pinned (OpenSpec.ofChange pktheadNewsWrong)

/-- 'waveletlaw26.PktheadDecodes': WHATEVER THE INPUT: true; the input reads as it did. -/
def pktheadDecodesSpec : ChangeSpec := { name := "pktheadDecodes", fn := fun _ => fun
  | [d1, d2] => { results := [.lit (.bool true)], args := [d1, d2] }
  | _ => none }
def pktheadDecodesRow : OpenClaim := { program := "ytmanlfonppfhaaa", sum := "a7f09dd914352d178311ce4e0671feb27b2c32b4d06335cac97f8267059a2bd5", func := "wavelet/waveletlaw26.PktheadDecodes", spec := "pktheadDecodes", unfollowed := true, recurses := true, apart := false }
def PktheadDecodesSaid : Prop := pktheadDecodesRow.holds Try.pinned (OpenSpec.ofChange pktheadDecodesSpec)

/-- ITS FALSE NEIGHBOUR: 'it returns false'. Refute it at one input. -/
def pktheadDecodesWrong : ChangeSpec := { name := "pktheadDecodes", fn := fun _ => fun
  | [d1, d2] => { results := [.lit (.bool false)], args := [d1, d2] }
  | _ => none }
def PktheadDecodesWrongFalsely : Prop := pktheadDecodesRow.holds Try.pinned (OpenSpec.ofChange pktheadDecodesWrong)

/-- 'waveletlaw26.PktheadParts': WHATEVER THE INPUT: true; the input reads as it did. -/
def pktheadPartsSpec : ChangeSpec := { name := "pktheadParts", fn := fun _ => fun
  | [d1, d2, d3] => { results := [.lit (.bool true)], args := [d1, d2, d3] }
  | _ => none }
def pktheadPartsRow : OpenClaim := { program := "ytmanlfonppfhaaa", sum := "a7f09dd914352d178311ce4e0671feb27b2c32b4d06335cac97f8267059a2bd5", func := "wavelet/waveletlaw26.PktheadParts", spec := "pktheadParts", unfollowed := true, recurses := true, apart := false }
def PktheadPartsSaid : Prop := pktheadPartsRow.holds Try.pinned (OpenSpec.ofChange pktheadPartsSpec)

/-- ITS FALSE NEIGHBOUR: 'it returns false'. Refute it at one input. -/
def pktheadPartsWrong : ChangeSpec := { name := "pktheadParts", fn := fun _ => fun
  | [d1, d2, d3] => { results := [.lit (.bool false)], args := [d1, d2, d3] }
  | _ => none }
def PktheadPartsWrongFalsely : Prop := pktheadPartsRow.holds Try.pinned (OpenSpec.ofChange pktheadPartsWrong)

/-- 'waveletlaw26.PktheadBack': WHATEVER THE INPUT: true; the input reads as it did. -/
def pktheadBackSpec : ChangeSpec := { name := "pktheadBack", fn := fun _ => fun
  | [d1, d2, d3] => { results := [.lit (.bool true)], args := [d1, d2, d3] }
  | _ => none }
def pktheadBackRow : OpenClaim := { program := "ytmanlfonppfhaaa", sum := "a7f09dd914352d178311ce4e0671feb27b2c32b4d06335cac97f8267059a2bd5", func := "wavelet/waveletlaw26.PktheadBack", spec := "pktheadBack", unfollowed := true, recurses := true, apart := false }
def PktheadBackSaid : Prop := pktheadBackRow.holds Try.pinned (OpenSpec.ofChange pktheadBackSpec)

/-- ITS FALSE NEIGHBOUR: 'it returns false'. Refute it at one input. -/
def pktheadBackWrong : ChangeSpec := { name := "pktheadBack", fn := fun _ => fun
  | [d1, d2, d3] => { results := [.lit (.bool false)], args := [d1, d2, d3] }
  | _ => none }
def PktheadBackWrongFalsely : Prop := pktheadBackRow.holds Try.pinned (OpenSpec.ofChange pktheadBackWrong)

/-- 'waveletlaw26.PktheadDivides': WHATEVER THE INPUT: true; the input reads as it did. -/
def pktheadDividesSpec : ChangeSpec := { name := "pktheadDivides", fn := fun _ => fun
  | [d1, d2] => { results := [.lit (.bool true)], args := [d1, d2] }
  | _ => none }
def pktheadDividesRow : OpenClaim := { program := "ytmanlfonppfhaaa", sum := "a7f09dd914352d178311ce4e0671feb27b2c32b4d06335cac97f8267059a2bd5", func := "wavelet/waveletlaw26.PktheadDivides", spec := "pktheadDivides", unfollowed := true, recurses := true, apart := false }
def PktheadDividesSaid : Prop := pktheadDividesRow.holds Try.pinned (OpenSpec.ofChange pktheadDividesSpec)

/-- ITS FALSE NEIGHBOUR: 'it returns false'. Refute it at one input. -/
def pktheadDividesWrong : ChangeSpec := { name := "pktheadDivides", fn := fun _ => fun
  | [d1, d2] => { results := [.lit (.bool false)], args := [d1, d2] }
  | _ => none }
def PktheadDividesWrongFalsely : Prop := pktheadDividesRow.holds Try.pinned (OpenSpec.ofChange pktheadDividesWrong)

/-- 'waveletlaw26.PktheadNobody': WHATEVER THE INPUT: true; the input reads as it did. -/
def pktheadNobodySpec : ChangeSpec := { name := "pktheadNobody", fn := fun _ => fun
  | [d1, d2] => { results := [.lit (.bool true)], args := [d1, d2] }
  | _ => none }
def pktheadNobodyRow : OpenClaim := { program := "ytmanlfonppfhaaa", sum := "a7f09dd914352d178311ce4e0671feb27b2c32b4d06335cac97f8267059a2bd5", func := "wavelet/waveletlaw26.PktheadNobody", spec := "pktheadNobody", unfollowed := true, recurses := true, apart := false }
def PktheadNobodySaid : Prop := pktheadNobodyRow.holds Try.pinned (OpenSpec.ofChange pktheadNobodySpec)

/-- ITS FALSE NEIGHBOUR: 'it returns false'. Refute it at one input. -/
def pktheadNobodyWrong : ChangeSpec := { name := "pktheadNobody", fn := fun _ => fun
  | [d1, d2] => { results := [.lit (.bool false)], args := [d1, d2] }
  | _ => none }
def PktheadNobodyWrongFalsely : Prop := pktheadNobodyRow.holds Try.pinned (OpenSpec.ofChange pktheadNobodyWrong)

/- THE SECOND FORM. 'bulk': how many values and letters a reading holds, each counted each time it is reached (what is shared counts as often as it is met; a slice's spare places count too). A statement '..UptoSaid' is the law's where the arguments, and the package variables that the reading takes, are together of bulk at most 1048576: NARROWER than '..Said'. Prove '..Said' where nothing that the law and all that it calls make is longer than what came in: it says more and counts as full. Else prove '..UptoSaid'. A law counts once. -/
mutual
def uptoBulk {H : Type} : DataW H → Nat
  | .lit (.string bytes) => bytes.length + 1
  | .lit _ => 1
  | .nil => 1
  | .ptr d => uptoBulk d + 1
  | .slice elems spare => uptoBulkAll elems + uptoBulkAll spare + 1
  | .agg parts => uptoBulkAll parts + 1
  | .iface _ d => uptoBulk d + 1
  | .map entries => uptoBulkEntries entries + 1
  | .held _ => 1
def uptoBulkAll {H : Type} : List (DataW H) → Nat
  | [] => 0
  | d :: r => uptoBulk d + uptoBulkAll r
def uptoBulkEntries {H : Type} : List (Lit × DataW H) → Nat
  | [] => 0
  | x :: r => uptoBulkEntry x + uptoBulkEntries r
def uptoBulkEntry {H : Type} : Lit × DataW H → Nat
  | (.string bytes, d) => bytes.length + uptoBulk d + 1
  | (_, d) => uptoBulk d + 1
 end
def uptoSmall : (H : Type) → List (DataW H) → Bool := fun _ ds => decide (uptoBulkAll ds ≤ 1048576)
def OpenSpec.upto (s : _root_.Go.ChangeSpec) : _root_.Go.OpenSpec := { _root_.Go.OpenSpec.ofChange s with cond := some uptoSmall }

/-- 'waveletlaw26.PktheadNews', WHERE WHAT IT READS IS OF BULK AT MOST 1048576: true; the input reads as it did. -/
def pktheadNewsUptoRow : OpenClaim := { program := "ytmanlfonppfhaaa", sum := "a7f09dd914352d178311ce4e0671feb27b2c32b4d06335cac97f8267059a2bd5", func := "wavelet/waveletlaw26.PktheadNews", spec := "pktheadNews", unfollowed := true, recurses := true, apart := false, narrowed := true }
def PktheadNewsUptoSaid : Prop := pktheadNewsUptoRow.holds Try.pinned (OpenSpec.upto pktheadNewsSpec)

/-- 'waveletlaw26.PktheadDecodes', WHERE WHAT IT READS IS OF BULK AT MOST 1048576: true; the input reads as it did. -/
def pktheadDecodesUptoRow : OpenClaim := { program := "ytmanlfonppfhaaa", sum := "a7f09dd914352d178311ce4e0671feb27b2c32b4d06335cac97f8267059a2bd5", func := "wavelet/waveletlaw26.PktheadDecodes", spec := "pktheadDecodes", unfollowed := true, recurses := true, apart := false, narrowed := true }
def PktheadDecodesUptoSaid : Prop := pktheadDecodesUptoRow.holds Try.pinned (OpenSpec.upto pktheadDecodesSpec)

/-- 'waveletlaw26.PktheadParts', WHERE WHAT IT READS IS OF BULK AT MOST 1048576: true; the input reads as it did. -/
def pktheadPartsUptoRow : OpenClaim := { program := "ytmanlfonppfhaaa", sum := "a7f09dd914352d178311ce4e0671feb27b2c32b4d06335cac97f8267059a2bd5", func := "wavelet/waveletlaw26.PktheadParts", spec := "pktheadParts", unfollowed := true, recurses := true, apart := false, narrowed := true }
def PktheadPartsUptoSaid : Prop := pktheadPartsUptoRow.holds Try.pinned (OpenSpec.upto pktheadPartsSpec)

/-- 'waveletlaw26.PktheadBack', WHERE WHAT IT READS IS OF BULK AT MOST 1048576: true; the input reads as it did. -/
def pktheadBackUptoRow : OpenClaim := { program := "ytmanlfonppfhaaa", sum := "a7f09dd914352d178311ce4e0671feb27b2c32b4d06335cac97f8267059a2bd5", func := "wavelet/waveletlaw26.PktheadBack", spec := "pktheadBack", unfollowed := true, recurses := true, apart := false, narrowed := true }
def PktheadBackUptoSaid : Prop := pktheadBackUptoRow.holds Try.pinned (OpenSpec.upto pktheadBackSpec)

/-- 'waveletlaw26.PktheadDivides', WHERE WHAT IT READS IS OF BULK AT MOST 1048576: true; the input reads as it did. -/
def pktheadDividesUptoRow : OpenClaim := { program := "ytmanlfonppfhaaa", sum := "a7f09dd914352d178311ce4e0671feb27b2c32b4d06335cac97f8267059a2bd5", func := "wavelet/waveletlaw26.PktheadDivides", spec := "pktheadDivides", unfollowed := true, recurses := true, apart := false, narrowed := true }
def PktheadDividesUptoSaid : Prop := pktheadDividesUptoRow.holds Try.pinned (OpenSpec.upto pktheadDividesSpec)

/-- 'waveletlaw26.PktheadNobody', WHERE WHAT IT READS IS OF BULK AT MOST 1048576: true; the input reads as it did. -/
def pktheadNobodyUptoRow : OpenClaim := { program := "ytmanlfonppfhaaa", sum := "a7f09dd914352d178311ce4e0671feb27b2c32b4d06335cac97f8267059a2bd5", func := "wavelet/waveletlaw26.PktheadNobody", spec := "pktheadNobody", unfollowed := true, recurses := true, apart := false, narrowed := true }
def PktheadNobodyUptoSaid : Prop := pktheadNobodyUptoRow.holds Try.pinned (OpenSpec.upto pktheadNobodySpec)

end Rows
end Go.Proofs.Ytmanlfonppfhaaa
