-- PRINTED BY print.sh 35421559b90ae4d0a3588c463048766b98c2df88dd9212a6774a882060cdf62d: not written by this session
import Derived.Test.YtmboppgpcppdjaaProg
import Derived.Below
import Derived.Deep.Draws
import Derived.Deep.AppendLies
import Derived.Maps.AppendAt
import Derived.OwnWalk
import Derived.Laws.BytesArg
import Derived.Laws.MakeOwn
import Derived.Laws.OwnMore
import Derived.Deep.OwnRows
import Derived.Tactics
import Derived.Lib.ConvBytes
import Derived.Laws.Slices
import Derived.WalkKit
import Derived.KernelRfl
import Derived.RowKit3
import Derived.Deep.LoopGhost
import Derived.Deep.QuietTactic
import Derived.BigQuiet
import Derived.WideLaws
import Derived.Deep.DeepCutAuto
import Derived.Deep.CutBlock
import Derived.Deep.RegionHeld3
import Derived.Laws.Rows
import Derived.Lib.AppendStr
import Derived.ArgAppend
import Derived.Laws.IdiomCopy
import Derived.OrdersHeld
import Derived.Laws.BitsLemmas
import Derived.RowKit
import Derived.Test.YtmboppgpcppdjaaWWords
import Derived.Test.YtmboppgpcppdjaaWLast
import Derived.Test.YtmboppgpcppdjaaWTab
import Derived.Test.YtmboppgpcppdjaaWFour
import Derived.Test.YtmboppgpcppdjaaWQPut
import Derived.Test.YtmboppgpcppdjaaWApart
import Derived.Test.YtmboppgpcppdjaaWArr
import Derived.Test.YtmboppgpcppdjaaWZeros
import Derived.Test.YtmboppgpcppdjaaWFoot
import Derived.Test.YtmboppgpcppdjaaWKept
import Derived.Test.YtmboppgpcppdjaaWShare
import Derived.Test.YtmboppgpcppdjaaWN
import Derived.Test.YtmboppgpcppdjaaWFootNe
import Derived.Test.YtmboppgpcppdjaaWAt
import Derived.Test.YtmboppgpcppdjaaWEqStruct
import Derived.Test.YtmboppgpcppdjaaWRepsOne
import Derived.Test.YtmboppgpcppdjaaWInv
import Derived.Test.YtmboppgpcppdjaaWInvWords
import Derived.Test.YtmboppgpcppdjaaWGuard
import Derived.Test.YtmboppgpcppdjaaWNEv
import Derived.Test.YtmboppgpcppdjaaWMore
namespace Go.Proofs.Ytmboppgpcppdjaa.PFnExactGetNum
open Go.RowKit Go.Proofs.YtmboppgpcppdjaaW.PrintWords Go.Proofs.YtmboppgpcppdjaaW.PrintLast Go.Proofs.YtmboppgpcppdjaaW.PrintMore
attribute [local go_sem] max2_int min2_int max_two min_two max_three min_three max_four min_four   -- for this text's walks alone
set_option linter.unusedVariables false
set_option linter.unusedSimpArgs false



def errW : Option Int → Value
  | none => .nilIface
  | some c => .iface 0 (.int .i64 c)
theorem errW_none : errW none = .nilIface := rfl
theorem errW_some (c : Int) : errW (some c) = .iface 0 (.int .i64 c) := rfl

theorem info5 : (Try.prog.info? 5).map (fun i => (i.zero, i.size, i.bytes)) = some (some (.int .u8 0), 1, 1) := by kernel_rfl
-- the values' own types

end Go.Proofs.Ytmboppgpcppdjaa.PFnExactGetNum
