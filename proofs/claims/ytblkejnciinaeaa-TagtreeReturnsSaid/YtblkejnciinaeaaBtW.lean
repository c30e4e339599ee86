/- Bitio: what the calls of a writer come to. -/
import Derived.Test.YtblkejnciinaeaaBtB
set_option linter.unusedVariables false
set_option linter.unusedSimpArgs false
namespace Go.Proofs.Ytblkejnciinaeaa.Sh
open Go.Proofs.Ytblkejnciinaeaa.FW Go.IntWalk
/-- What the calls of a writer return, and the bits that they append. -/
def wP (x : Int) : Int × List Int := if x = 0 ∨ x = 1 then (0, [x]) else (1, [])
def wB (v n : Int) : Int × List Int := if 0 ≤ n ∧ n ≤ 32 ∧ 0 ≤ v ∧ v < 2 ^ n.toNat then (0, bt v.toNat n.toNat) else (1, [])
def gm (v : Nat) : List Int := List.replicate v.log2 0 ++ bt v (v.log2 + 1)
def wG (v : Int) : Int × List Int := if 1 ≤ v ∧ v < 4294967296 then (0, gm v.toNat) else (1, [])
def wU (v : Int) : Int × List Int := if 0 ≤ v ∧ v ≤ 65535 then (0, List.replicate v.toNat 1 ++ [0]) else (1, [])
theorem bit_n (v m : Nat) : v / 2 ^ m &&& 1 = v / 2 ^ m % 2 := Nat.and_one_is_mod _
end Go.Proofs.Ytblkejnciinaeaa.Sh
