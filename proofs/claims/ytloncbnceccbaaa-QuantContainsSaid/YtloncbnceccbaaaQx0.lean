-- Written for this claim with the kit's print.py (several laws of the seat in one namespace); some proofs were turned by hand.
import Derived.Test.YtloncbnceccbaaaProg
import Derived.Below
import Derived.Deep.Draws
import Derived.Deep.AppendLies
import Derived.Maps.AppendAt
import Derived.OwnWalk
import Derived.Laws.BytesArg
import Derived.Laws.MakeOwn
import Derived.Laws.OwnMore
import Derived.Deep.OwnRows
import Derived.Tactics
import Derived.Lib.ConvBytes
import Derived.Laws.Slices
import Derived.WalkKit
import Derived.KernelRfl
import Derived.RowKit3
import Derived.Deep.LoopGhost
import Derived.Deep.QuietTactic
import Derived.BigQuiet
import Derived.WideLaws
import Derived.Deep.DeepCutAuto
import Derived.Deep.CutBlock
import Derived.Deep.RegionHeld3
import Derived.Laws.Rows
import Derived.Lib.AppendStr
import Derived.ArgAppend
import Derived.Laws.IdiomCopy
import Derived.OrdersHeld
import Derived.Laws.BitsLemmas
import Derived.RowKit
import Derived.Test.YtloncbnceccbaaaWWords
import Derived.Test.YtloncbnceccbaaaWLast
import Derived.Test.YtloncbnceccbaaaWTab
import Derived.Test.YtloncbnceccbaaaWFour
import Derived.Test.YtloncbnceccbaaaWQPut
import Derived.Test.YtloncbnceccbaaaWApart
import Derived.Test.YtloncbnceccbaaaWArr
import Derived.Test.YtloncbnceccbaaaWZeros
import Derived.Test.YtloncbnceccbaaaWFoot
import Derived.Test.YtloncbnceccbaaaWKept
import Derived.Test.YtloncbnceccbaaaWShare
import Derived.Test.YtloncbnceccbaaaWN
import Derived.Test.YtloncbnceccbaaaWFootNe
import Derived.Test.YtloncbnceccbaaaWAt
import Derived.Test.YtloncbnceccbaaaWEqStruct
import Derived.Test.YtloncbnceccbaaaWRepsOne
import Derived.Test.YtloncbnceccbaaaWInv
import Derived.Test.YtloncbnceccbaaaWInvWords
import Derived.Test.YtloncbnceccbaaaWGuard
import Derived.Test.YtloncbnceccbaaaWNEv
import Derived.Test.YtloncbnceccbaaaWMore
namespace Go.Proofs.Ytloncbnceccbaaa.Q
open Go.RowKit Go.Proofs.YtloncbnceccbaaaW.PrintWords Go.Proofs.YtloncbnceccbaaaW.PrintLast Go.Proofs.YtloncbnceccbaaaW.PrintMore
attribute [local go_sem] max2_int min2_int max_two min_two max_three min_three max_four min_four   -- for this text's walks alone
set_option linter.unusedVariables false
set_option linter.unusedSimpArgs false



def errW : Option Int → Value
  | none => .nilIface
  | some c => .iface 0 (.int .i64 c)
theorem errW_none : errW none = .nilIface := rfl
theorem errW_some (c : Int) : errW (some c) = .iface 0 (.int .i64 c) := rfl

theorem info3 : (Try.prog.info? 3).map (fun i => (i.zero, i.size, i.bytes)) = some (some (.int .i64 0), 1, 8) := by kernel_rfl
-- the values' own types

end Go.Proofs.Ytloncbnceccbaaa.Q
