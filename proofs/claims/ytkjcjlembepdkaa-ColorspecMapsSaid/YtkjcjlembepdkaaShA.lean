/- Lean functions that stand for Go's,over an explicit heap,and the proofs that they do (written by this claim's program sh2.py). -/
import Derived.Test.YtkjcjlembepdkaaProg
import Derived.Test.YtkjcjlembepdkaaFwG
set_option maxRecDepth 100000
set_option linter.unusedVariables false
set_option linter.unusedSimpArgs false
namespace Go.Proofs.Ytkjcjlembepdkaa.Sh
open Go.Proofs.Ytkjcjlembepdkaa.FW
abbrev Oa := Option Addr
def An : Ann := ⟨[],[9,10,12,13,14,15,18,22,25,27,28,29,31,32,34,35,36,38,39,41,43,44,47,48,52,59,62,63,65,69,71,72,73,74,75,76,77,78,79,80,81,82,83,84,85,86],[16,17,19,20,23,24,30,33,40,45,46,50],[3,4,5,6,7,8,11,16,17,19,21,23,26,37,42,49,50,51,53,54,55,56,57,58,60,61,64,66,67,68,70]⟩

end Go.Proofs.Ytkjcjlembepdkaa.Sh
