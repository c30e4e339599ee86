/- Lean functions that stand for Go's,over an explicit heap,and the proofs that they do (written by this claim's program sh2.py). -/
import Derived.Test.YtmanlfonppfhaaaProg
import Derived.Test.YtmanlfonppfhaaaFwG
set_option maxRecDepth 100000
set_option linter.unusedVariables false
set_option linter.unusedSimpArgs false
namespace Go.Proofs.Ytmanlfonppfhaaa.Sh
open Go.Proofs.Ytmanlfonppfhaaa.FW
abbrev Oa := Option Addr
def An : Ann := ⟨[],[3,5,7,9,12,13,14,15,18,19,24,26,30,38,44,54,55,57,58,62,65,66,69,78,79,84,93,97,98,99,101,102,103,104,105,106,107,108,109,110,111,112,113,114,115,116,117,118],[10,11,16,17,20,21,23,25,27,28,29,31,32,33,34,35,36,39,42,43,47,49,50,52,56,100],[4,6,8,16,17,22,23,31,34,37,40,41,45,46,47,48,51,52,53,59,60,61,63,64,67,68,70,71,72,73,74,75,76,77,80,81,82,83,85,86,87,88,89,90,91,92,94,95,96]⟩

end Go.Proofs.Ytmanlfonppfhaaa.Sh
