/-
  No cell of these rows narrows 'for every input' (looked for: loops, veiled, ifaces, maps, wideKeys, modest, calm, conditions, laid).
  DERIVED. THE GIVEN ROWS OF THIS SEAT. 8 by the template 'for every input the law returns true; each argument reads behind the call as it read before'; 0 by the template 'total and deterministic' (their statements: YtblpaolcgkjcgaaTotals.lean).
  GIVEN WITH THE SEED: the statements are not yours to turn. If you find one false, say at which input.
  Laid BY PROGRAM, IN A SANDBOX (cutbox-rows.mjs): the forced cells as the released guide's own fill.sh prints them over the translation d3602aa9035b50b0… (all of the seat's roots in one cut). By AI agents, Wed Nov 11 2026. No macro, syntax, notation, axiom, sorry.
-/
import Derived.Test.YtblpaolcgkjcgaaChecked
import GoSem.Claim
import GoSem.ClaimJoined
import GoSem.ClaimMapViews
import Derived.JoinedTies
import Derived.KernelRfl
namespace Go.Proofs.Ytblpaolcgkjcgaa
/- THE CELL 'sum', in the pinned program and in every row, IS THE sha256 OF THE DUMP (.gsa) THAT YtblpaolcgkjcgaaProg.lean LOADS. Nothing in Lean hashes anything: it is a label: what it is worth is what the hold of that sum in a sandbox is worth. -/
noncomputable def Try.pinned : Pinned := { name := "ytblpaolcgkjcgaa", sum := "d3602aa9035b50b0960544ab127c3f69fa9e1f6146586a8d408855e68df44a49", checked := Try.checked }
namespace Rows
def none {H : Type} : Left H := { results := [], args := [] }

/-- 'waveletlaw14.CblkScans': WHATEVER THE INPUT: true; the input reads as it did. -/
def cblkScansSpec : ChangeSpec := { name := "cblkScans", fn := fun _ => fun
  | [d1, d2] => { results := [.lit (.bool true)], args := [d1, d2] }
  | _ => none }
def cblkScansRow : OpenClaim := { program := "ytblpaolcgkjcgaa", sum := "d3602aa9035b50b0960544ab127c3f69fa9e1f6146586a8d408855e68df44a49", func := "wavelet/waveletlaw14.CblkScans", spec := "cblkScans", apart := false }
def CblkScansSaid : Prop := cblkScansRow.holds Try.pinned (OpenSpec.ofChange cblkScansSpec)

/-- ITS FALSE NEIGHBOUR: 'it returns false'. Refute it at one input. -/
def cblkScansWrong : ChangeSpec := { name := "cblkScans", fn := fun _ => fun
  | [d1, d2] => { results := [.lit (.bool false)], args := [d1, d2] }
  | _ => none }
def CblkScansWrongFalsely : Prop := cblkScansRow.holds Try.pinned (OpenSpec.ofChange cblkScansWrong)

/-- 'waveletlaw14.CblkPasses': WHATEVER THE INPUT: true; the input reads as it did. -/
def cblkPassesSpec : ChangeSpec := { name := "cblkPasses", fn := fun _ => fun
  | [d1, d2] => { results := [.lit (.bool true)], args := [d1, d2] }
  | _ => none }
def cblkPassesRow : OpenClaim := { program := "ytblpaolcgkjcgaa", sum := "d3602aa9035b50b0960544ab127c3f69fa9e1f6146586a8d408855e68df44a49", func := "wavelet/waveletlaw14.CblkPasses", spec := "cblkPasses", apart := false }
def CblkPassesSaid : Prop := cblkPassesRow.holds Try.pinned (OpenSpec.ofChange cblkPassesSpec)

/-- ITS FALSE NEIGHBOUR: 'it returns false'. Refute it at one input. -/
def cblkPassesWrong : ChangeSpec := { name := "cblkPasses", fn := fun _ => fun
  | [d1, d2] => { results := [.lit (.bool false)], args := [d1, d2] }
  | _ => none }
def CblkPassesWrongFalsely : Prop := cblkPassesRow.holds Try.pinned (OpenSpec.ofChange cblkPassesWrong)

/-- 'waveletlaw14.CblkOrders': WHATEVER THE INPUT: true; the input reads as it did. -/
def cblkOrdersSpec : ChangeSpec := { name := "cblkOrders", fn := fun _ => fun
  | [d1, d2, d3] => { results := [.lit (.bool true)], args := [d1, d2, d3] }
  | _ => none }
def cblkOrdersRow : OpenClaim := { program := "ytblpaolcgkjcgaa", sum := "d3602aa9035b50b0960544ab127c3f69fa9e1f6146586a8d408855e68df44a49", func := "wavelet/waveletlaw14.CblkOrders", spec := "cblkOrders", apart := false }
def CblkOrdersSaid : Prop := cblkOrdersRow.holds Try.pinned (OpenSpec.ofChange cblkOrdersSpec)

/-- ITS FALSE NEIGHBOUR: 'it returns false'. Refute it at one input. -/
def cblkOrdersWrong : ChangeSpec := { name := "cblkOrders", fn := fun _ => fun
  | [d1, d2, d3] => { results := [.lit (.bool false)], args := [d1, d2, d3] }
  | _ => none }
def CblkOrdersWrongFalsely : Prop := cblkOrdersRow.holds Try.pinned (OpenSpec.ofChange cblkOrdersWrong)

/-- 'waveletlaw14.CblkNeighbors': WHATEVER THE INPUT: true; the input reads as it did. -/
def cblkNeighborsSpec : ChangeSpec := { name := "cblkNeighbors", fn := fun _ => fun
  | [d1, d2, d3] => { results := [.lit (.bool true)], args := [d1, d2, d3] }
  | _ => none }
def cblkNeighborsRow : OpenClaim := { program := "ytblpaolcgkjcgaa", sum := "d3602aa9035b50b0960544ab127c3f69fa9e1f6146586a8d408855e68df44a49", func := "wavelet/waveletlaw14.CblkNeighbors", spec := "cblkNeighbors", apart := false }
def CblkNeighborsSaid : Prop := cblkNeighborsRow.holds Try.pinned (OpenSpec.ofChange cblkNeighborsSpec)

/-- ITS FALSE NEIGHBOUR: 'it returns false'. Refute it at one input. -/
def cblkNeighborsWrong : ChangeSpec := { name := "cblkNeighbors", fn := fun _ => fun
  | [d1, d2, d3] => { results := [.lit (.bool false)], args := [d1, d2, d3] }
  | _ => none }
def CblkNeighborsWrongFalsely : Prop := cblkNeighborsRow.holds Try.pinned (OpenSpec.ofChange cblkNeighborsWrong)

/-- 'waveletlaw14.CblkGrows': WHATEVER THE INPUT: true; the input reads as it did. -/
def cblkGrowsSpec : ChangeSpec := { name := "cblkGrows", fn := fun _ => fun
  | [d1, d2, d3] => { results := [.lit (.bool true)], args := [d1, d2, d3] }
  | _ => none }
def cblkGrowsRow : OpenClaim := { program := "ytblpaolcgkjcgaa", sum := "d3602aa9035b50b0960544ab127c3f69fa9e1f6146586a8d408855e68df44a49", func := "wavelet/waveletlaw14.CblkGrows", spec := "cblkGrows", apart := false }
def CblkGrowsSaid : Prop := cblkGrowsRow.holds Try.pinned (OpenSpec.ofChange cblkGrowsSpec)

/-- ITS FALSE NEIGHBOUR: 'it returns false'. Refute it at one input. -/
def cblkGrowsWrong : ChangeSpec := { name := "cblkGrows", fn := fun _ => fun
  | [d1, d2, d3] => { results := [.lit (.bool false)], args := [d1, d2, d3] }
  | _ => none }
def CblkGrowsWrongFalsely : Prop := cblkGrowsRow.holds Try.pinned (OpenSpec.ofChange cblkGrowsWrong)

/-- 'waveletlaw14.CblkKeeps': WHATEVER THE INPUT: true; the input reads as it did. -/
def cblkKeepsSpec : ChangeSpec := { name := "cblkKeeps", fn := fun _ => fun
  | [d1, d2, d3] => { results := [.lit (.bool true)], args := [d1, d2, d3] }
  | _ => none }
def cblkKeepsRow : OpenClaim := { program := "ytblpaolcgkjcgaa", sum := "d3602aa9035b50b0960544ab127c3f69fa9e1f6146586a8d408855e68df44a49", func := "wavelet/waveletlaw14.CblkKeeps", spec := "cblkKeeps", apart := false }
def CblkKeepsSaid : Prop := cblkKeepsRow.holds Try.pinned (OpenSpec.ofChange cblkKeepsSpec)

/-- ITS FALSE NEIGHBOUR: 'it returns false'. Refute it at one input. -/
def cblkKeepsWrong : ChangeSpec := { name := "cblkKeeps", fn := fun _ => fun
  | [d1, d2, d3] => { results := [.lit (.bool false)], args := [d1, d2, d3] }
  | _ => none }
def CblkKeepsWrongFalsely : Prop := cblkKeepsRow.holds Try.pinned (OpenSpec.ofChange cblkKeepsWrong)

/-- 'waveletlaw14.CblkPlays': WHATEVER THE INPUT: true; the input reads as it did. -/
def cblkPlaysSpec : ChangeSpec := { name := "cblkPlays", fn := fun _ => fun
  | [d1, d2, d3] => { results := [.lit (.bool true)], args := [d1, d2, d3] }
  | _ => none }
def cblkPlaysRow : OpenClaim := { program := "ytblpaolcgkjcgaa", sum := "d3602aa9035b50b0960544ab127c3f69fa9e1f6146586a8d408855e68df44a49", func := "wavelet/waveletlaw14.CblkPlays", spec := "cblkPlays", apart := false }
def CblkPlaysSaid : Prop := cblkPlaysRow.holds Try.pinned (OpenSpec.ofChange cblkPlaysSpec)

/-- ITS FALSE NEIGHBOUR: 'it returns false'. Refute it at one input. -/
def cblkPlaysWrong : ChangeSpec := { name := "cblkPlays", fn := fun _ => fun
  | [d1, d2, d3] => { results := [.lit (.bool false)], args := [d1, d2, d3] }
  | _ => none }
def CblkPlaysWrongFalsely : Prop := cblkPlaysRow.holds Try.pinned (OpenSpec.ofChange cblkPlaysWrong)

/-- 'waveletlaw14.CblkNobody': WHATEVER THE INPUT: true; the input reads as it did. -/
def cblkNobodySpec : ChangeSpec := { name := "cblkNobody", fn := fun _ => fun
  | [d1, d2] => { results := [.lit (.bool true)], args := [d1, d2] }
  | _ => none }
def cblkNobodyRow : OpenClaim := { program := "ytblpaolcgkjcgaa", sum := "d3602aa9035b50b0960544ab127c3f69fa9e1f6146586a8d408855e68df44a49", func := "wavelet/waveletlaw14.CblkNobody", spec := "cblkNobody", apart := false }
def CblkNobodySaid : Prop := cblkNobodyRow.holds Try.pinned (OpenSpec.ofChange cblkNobodySpec)

/-- ITS FALSE NEIGHBOUR: 'it returns false'. Refute it at one input. -/
def cblkNobodyWrong : ChangeSpec := { name := "cblkNobody", fn := fun _ => fun
  | [d1, d2] => { results := [.lit (.bool false)], args := [d1, d2] }
  | _ => none }
def CblkNobodyWrongFalsely : Prop := cblkNobodyRow.holds Try.pinned (OpenSpec.ofChange cblkNobodyWrong)

/- THE SECOND FORM. 'bulk': how many values and letters a reading holds, each counted each time it is reached (what is shared counts as often as it is met; a slice's spare places count too). A statement '..UptoSaid' is the law's where the arguments, and the package variables that the reading takes, are together of bulk at most 1048576: NARROWER than '..Said'. Prove '..Said' where nothing that the law and all that it calls make is longer than what came in: it says more and counts as full. Else prove '..UptoSaid'. A law counts once. -/
mutual
def uptoBulk {H : Type} : DataW H → Nat
  | .lit (.string bytes) => bytes.length + 1
  | .lit _ => 1
  | .nil => 1
  | .ptr d => uptoBulk d + 1
  | .slice elems spare => uptoBulkAll elems + uptoBulkAll spare + 1
  | .agg parts => uptoBulkAll parts + 1
  | .iface _ d => uptoBulk d + 1
  | .map entries => uptoBulkEntries entries + 1
  | .held _ => 1
def uptoBulkAll {H : Type} : List (DataW H) → Nat
  | [] => 0
  | d :: r => uptoBulk d + uptoBulkAll r
def uptoBulkEntries {H : Type} : List (Lit × DataW H) → Nat
  | [] => 0
  | x :: r => uptoBulkEntry x + uptoBulkEntries r
def uptoBulkEntry {H : Type} : Lit × DataW H → Nat
  | (.string bytes, d) => bytes.length + uptoBulk d + 1
  | (_, d) => uptoBulk d + 1
 end
def uptoSmall : (H : Type) → List (DataW H) → Bool := fun _ ds => decide (uptoBulkAll ds ≤ 1048576)
def OpenSpec.upto (s : _root_.Go.ChangeSpec) : _root_.Go.OpenSpec := { _root_.Go.OpenSpec.ofChange s with cond := some uptoSmall }

/-- 'waveletlaw14.CblkScans', WHERE WHAT IT READS IS OF BULK AT MOST 1048576: true; the input reads as it did. -/
def cblkScansUptoRow : OpenClaim := { program := "ytblpaolcgkjcgaa", sum := "d3602aa9035b50b0960544ab127c3f69fa9e1f6146586a8d408855e68df44a49", func := "wavelet/waveletlaw14.CblkScans", spec := "cblkScans", apart := false, narrowed := true }
def CblkScansUptoSaid : Prop := cblkScansUptoRow.holds Try.pinned (OpenSpec.upto cblkScansSpec)

/-- 'waveletlaw14.CblkPasses', WHERE WHAT IT READS IS OF BULK AT MOST 1048576: true; the input reads as it did. -/
def cblkPassesUptoRow : OpenClaim := { program := "ytblpaolcgkjcgaa", sum := "d3602aa9035b50b0960544ab127c3f69fa9e1f6146586a8d408855e68df44a49", func := "wavelet/waveletlaw14.CblkPasses", spec := "cblkPasses", apart := false, narrowed := true }
def CblkPassesUptoSaid : Prop := cblkPassesUptoRow.holds Try.pinned (OpenSpec.upto cblkPassesSpec)

/-- 'waveletlaw14.CblkOrders', WHERE WHAT IT READS IS OF BULK AT MOST 1048576: true; the input reads as it did. -/
def cblkOrdersUptoRow : OpenClaim := { program := "ytblpaolcgkjcgaa", sum := "d3602aa9035b50b0960544ab127c3f69fa9e1f6146586a8d408855e68df44a49", func := "wavelet/waveletlaw14.CblkOrders", spec := "cblkOrders", apart := false, narrowed := true }
def CblkOrdersUptoSaid : Prop := cblkOrdersUptoRow.holds Try.pinned (OpenSpec.upto cblkOrdersSpec)

/-- 'waveletlaw14.CblkNeighbors', WHERE WHAT IT READS IS OF BULK AT MOST 1048576: true; the input reads as it did. -/
def cblkNeighborsUptoRow : OpenClaim := { program := "ytblpaolcgkjcgaa", sum := "d3602aa9035b50b0960544ab127c3f69fa9e1f6146586a8d408855e68df44a49", func := "wavelet/waveletlaw14.CblkNeighbors", spec := "cblkNeighbors", apart := false, narrowed := true }
def CblkNeighborsUptoSaid : Prop := cblkNeighborsUptoRow.holds Try.pinned (OpenSpec.upto cblkNeighborsSpec)

/-- 'waveletlaw14.CblkGrows', WHERE WHAT IT READS IS OF BULK AT MOST 1048576: true; the input reads as it did. -/
def cblkGrowsUptoRow : OpenClaim := { program := "ytblpaolcgkjcgaa", sum := "d3602aa9035b50b0960544ab127c3f69fa9e1f6146586a8d408855e68df44a49", func := "wavelet/waveletlaw14.CblkGrows", spec := "cblkGrows", apart := false, narrowed := true }
def CblkGrowsUptoSaid : Prop := cblkGrowsUptoRow.holds Try.pinned (OpenSpec.upto cblkGrowsSpec)

/-- 'waveletlaw14.CblkKeeps', WHERE WHAT IT READS IS OF BULK AT MOST 1048576: true; the input reads as it did. -/
def cblkKeepsUptoRow : OpenClaim := { program := "ytblpaolcgkjcgaa", sum := "d3602aa9035b50b0960544ab127c3f69fa9e1f6146586a8d408855e68df44a49", func := "wavelet/waveletlaw14.CblkKeeps", spec := "cblkKeeps", apart := false, narrowed := true }
def CblkKeepsUptoSaid : Prop := cblkKeepsUptoRow.holds Try.pinned (OpenSpec.upto cblkKeepsSpec)

/-- 'waveletlaw14.CblkPlays', WHERE WHAT IT READS IS OF BULK AT MOST 1048576: true; the input reads as it did. -/
def cblkPlaysUptoRow : OpenClaim := { program := "ytblpaolcgkjcgaa", sum := "d3602aa9035b50b0960544ab127c3f69fa9e1f6146586a8d408855e68df44a49", func := "wavelet/waveletlaw14.CblkPlays", spec := "cblkPlays", apart := false, narrowed := true }
def CblkPlaysUptoSaid : Prop := cblkPlaysUptoRow.holds Try.pinned (OpenSpec.upto cblkPlaysSpec)

/-- 'waveletlaw14.CblkNobody', WHERE WHAT IT READS IS OF BULK AT MOST 1048576: true; the input reads as it did. -/
def cblkNobodyUptoRow : OpenClaim := { program := "ytblpaolcgkjcgaa", sum := "d3602aa9035b50b0960544ab127c3f69fa9e1f6146586a8d408855e68df44a49", func := "wavelet/waveletlaw14.CblkNobody", spec := "cblkNobody", apart := false, narrowed := true }
def CblkNobodyUptoSaid : Prop := cblkNobodyUptoRow.holds Try.pinned (OpenSpec.upto cblkNobodySpec)

end Rows
end Go.Proofs.Ytblpaolcgkjcgaa
