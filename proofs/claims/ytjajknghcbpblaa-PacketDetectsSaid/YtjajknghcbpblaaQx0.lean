-- Written for this claim with the kit's print.py (several laws of the seat in one namespace); some proofs were turned by hand.
import Derived.Test.YtjajknghcbpblaaProg
import Derived.Laws.CopyOwn
import Derived.Lib.SlBytesConst
import Derived.Below
import Derived.Deep.Draws
import Derived.Deep.AppendLies
import Derived.Maps.AppendAt
import Derived.OwnWalk
import Derived.Laws.BytesArg
import Derived.Laws.MakeOwn
import Derived.Laws.OwnMore
import Derived.Deep.OwnRows
import Derived.Tactics
import Derived.Lib.ConvBytes
import Derived.Laws.Slices
import Derived.WalkKit
import Derived.KernelRfl
import Derived.RowKit3
import Derived.Deep.LoopGhost
import Derived.Deep.QuietTactic
import Derived.BigQuiet
import Derived.WideLaws
import Derived.Deep.DeepCutAuto
import Derived.Deep.CutBlock
import Derived.Deep.RegionHeld3
import Derived.Laws.Rows
import Derived.Lib.AppendStr
import Derived.ArgAppend
import Derived.Laws.IdiomCopy
import Derived.OrdersHeld
import Derived.Laws.BitsLemmas
import Derived.RowKit
import Derived.Test.YtjajknghcbpblaaWWords
import Derived.Test.YtjajknghcbpblaaWLast
import Derived.Test.YtjajknghcbpblaaWTab
import Derived.Test.YtjajknghcbpblaaWFour
import Derived.Test.YtjajknghcbpblaaWQPut
import Derived.Test.YtjajknghcbpblaaWApart
import Derived.Test.YtjajknghcbpblaaWArr
import Derived.Test.YtjajknghcbpblaaWZeros
import Derived.Test.YtjajknghcbpblaaWFoot
import Derived.Test.YtjajknghcbpblaaWKept
import Derived.Test.YtjajknghcbpblaaWShare
import Derived.Test.YtjajknghcbpblaaWN
import Derived.Test.YtjajknghcbpblaaWFootNe
import Derived.Test.YtjajknghcbpblaaWAt
import Derived.Test.YtjajknghcbpblaaWEqStruct
import Derived.Test.YtjajknghcbpblaaWRepsOne
import Derived.Test.YtjajknghcbpblaaWInv
import Derived.Test.YtjajknghcbpblaaWInvWords
import Derived.Test.YtjajknghcbpblaaWGuard
import Derived.Test.YtjajknghcbpblaaWNEv
import Derived.Test.YtjajknghcbpblaaWMore
namespace Go.Proofs.Ytjajknghcbpblaa.Q
open Go.RowKit Go.Proofs.YtjajknghcbpblaaW.PrintWords Go.Proofs.YtjajknghcbpblaaW.PrintLast Go.Proofs.YtjajknghcbpblaaW.PrintMore
attribute [local go_sem] max2_int min2_int max_two min_two max_three min_three max_four min_four   -- for this text's walks alone
set_option linter.unusedVariables false
set_option linter.unusedSimpArgs false



def errW : Option Int → Value
  | none => .nilIface
  | some c => .iface 0 (.int .i64 c)
theorem errW_none : errW none = .nilIface := rfl
theorem errW_some (c : Int) : errW (some c) = .iface 0 (.int .i64 c) := rfl

theorem info5 : (Try.prog.info? 5).map (fun i => (i.zero, i.size, i.bytes)) = some (some (.int .u8 0), 1, 1) := by kernel_rfl
-- the values' own types

end Go.Proofs.Ytjajknghcbpblaa.Q
