/- Lean functions that stand for Go's,over an explicit heap,and the proofs that they do (written by this claim's program sh2.py). -/
import Derived.Test.YtjajknghcbpblaaProg
import Derived.Test.YtjajknghcbpblaaFwG
set_option maxRecDepth 100000
set_option linter.unusedVariables false
set_option linter.unusedSimpArgs false
namespace Go.Proofs.Ytjajknghcbpblaa.Sh
open Go.Proofs.Ytjajknghcbpblaa.FW
abbrev Oa := Option Addr
def An : Ann := ⟨[],[3,4,5,10,11,12,15,16,17,18,19,21,22,26,29,31,32,33,34,35,36,38,40,44,47,55,56,59,60,62,64,68,71,84,85,88,98,99,101,102,111,116,118,119,120,121,122,123,124,125,126,127,128,129,130,131,132,133,134,135,136,137],[13,14,20,23,24,25,28,37,39,41,42,43,45,48,51,52,53,54,57,58,61,63,74,76,78,80,96,114,117],[6,7,8,9,20,25,27,28,30,39,45,46,49,50,53,58,65,66,67,69,70,72,73,74,75,77,78,79,81,82,83,86,87,89,90,91,92,93,94,95,97,100,103,104,105,106,107,108,109,110,112,113,115]⟩

end Go.Proofs.Ytjajknghcbpblaa.Sh
