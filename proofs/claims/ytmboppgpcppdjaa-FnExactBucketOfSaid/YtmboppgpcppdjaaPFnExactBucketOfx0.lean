-- Written by this session's changed copy of the kit's printer (wip/patch_print.py): not the kit's own print.
import Derived.Test.YtmboppgpcppdjaaProg
import Derived.Below
import Derived.Deep.Draws
import Derived.Deep.AppendLies
import Derived.Maps.AppendAt
import Derived.OwnWalk
import Derived.Laws.BytesArg
import Derived.Laws.MakeOwn
import Derived.Laws.OwnMore
import Derived.Deep.OwnRows
import Derived.Tactics
import Derived.Lib.ConvBytes
import Derived.Laws.Slices
import Derived.WalkKit
import Derived.KernelRfl
import Derived.RowKit3
import Derived.Deep.LoopGhost
import Derived.Deep.QuietTactic
import Derived.BigQuiet
import Derived.WideLaws
import Derived.Deep.DeepCutAuto
import Derived.Deep.CutBlock
import Derived.Deep.RegionHeld3
import Derived.Laws.Rows
import Derived.Lib.AppendStr
import Derived.ArgAppend
import Derived.Laws.IdiomCopy
import Derived.OrdersHeld
import Derived.Laws.BitsLemmas
import Derived.RowKit
import Derived.Test.YtmboppgpcppdjaaWWords
import Derived.Test.YtmboppgpcppdjaaWLast
import Derived.Test.YtmboppgpcppdjaaWTab
import Derived.Test.YtmboppgpcppdjaaWFour
import Derived.Test.YtmboppgpcppdjaaWQPut
import Derived.Test.YtmboppgpcppdjaaWApart
import Derived.Test.YtmboppgpcppdjaaWArr
import Derived.Test.YtmboppgpcppdjaaWZeros
import Derived.Test.YtmboppgpcppdjaaWFoot
import Derived.Test.YtmboppgpcppdjaaWKept
import Derived.Test.YtmboppgpcppdjaaWShare
import Derived.Test.YtmboppgpcppdjaaWN
import Derived.Test.YtmboppgpcppdjaaWFootNe
import Derived.Test.YtmboppgpcppdjaaWAt
import Derived.Test.YtmboppgpcppdjaaWEqStruct
import Derived.Test.YtmboppgpcppdjaaWRepsOne
import Derived.Test.YtmboppgpcppdjaaWInv
import Derived.Test.YtmboppgpcppdjaaWInvWords
import Derived.Test.YtmboppgpcppdjaaWGuard
import Derived.Test.YtmboppgpcppdjaaWNEv
import Derived.Test.YtmboppgpcppdjaaWMore
namespace Go.Proofs.Ytmboppgpcppdjaa.PFnExactBucketOf
open Go.RowKit Go.Proofs.YtmboppgpcppdjaaW.PrintWords Go.Proofs.YtmboppgpcppdjaaW.PrintLast Go.Proofs.YtmboppgpcppdjaaW.PrintMore
attribute [local go_sem] max2_int min2_int max_two min_two max_three min_three max_four min_four   -- for this text's walks alone
set_option linter.unusedVariables false
set_option linter.unusedSimpArgs false



def errW : Option Int → Value
  | none => .nilIface
  | some c => .iface 0 (.int .i64 c)
theorem errW_none : errW none = .nilIface := rfl
theorem errW_some (c : Int) : errW (some c) = .iface 0 (.int .i64 c) := rfl

-- the values' own types

end Go.Proofs.Ytmboppgpcppdjaa.PFnExactBucketOf
