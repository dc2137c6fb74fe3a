-- Written by this session's changed copy of the kit's printer (wip/patch_print.py): not the kit's own print.
import Derived.Test.YtkpicmjncfhnmaaDoorProg
import Derived.Below
import Derived.Deep.Draws
import Derived.Deep.AppendLies
import Derived.Maps.AppendAt
import Derived.OwnWalk
import Derived.Laws.BytesArg
import Derived.Laws.MakeOwn
import Derived.Laws.OwnMore
import Derived.Deep.OwnRows
import Derived.Tactics
import Derived.Lib.ConvBytes
import Derived.Laws.Slices
import Derived.WalkKit
import Derived.KernelRfl
import Derived.RowKit3
import Derived.Deep.LoopGhost
import Derived.Deep.QuietTactic
import Derived.BigQuiet
import Derived.WideLaws
import Derived.Deep.DeepCutAuto
import Derived.Deep.CutBlock
import Derived.Deep.RegionHeld3
import Derived.Laws.Rows
import Derived.Lib.AppendStr
import Derived.ArgAppend
import Derived.Laws.IdiomCopy
import Derived.OrdersHeld
import Derived.Laws.BitsLemmas
import Derived.RowKit
import Derived.Shelf.Spec.TrailingZeros
import Derived.Test.YtkpicmjncfhnmaaDoorWWords
import Derived.Test.YtkpicmjncfhnmaaDoorWLast
import Derived.Test.YtkpicmjncfhnmaaDoorWTab
import Derived.Test.YtkpicmjncfhnmaaDoorWFour
import Derived.Test.YtkpicmjncfhnmaaDoorWQPut
import Derived.Test.YtkpicmjncfhnmaaDoorWApart
import Derived.Test.YtkpicmjncfhnmaaDoorWArr
import Derived.Test.YtkpicmjncfhnmaaDoorWZeros
import Derived.Test.YtkpicmjncfhnmaaDoorWFoot
import Derived.Test.YtkpicmjncfhnmaaDoorWKept
import Derived.Test.YtkpicmjncfhnmaaDoorWShare
import Derived.Test.YtkpicmjncfhnmaaDoorWN
import Derived.Test.YtkpicmjncfhnmaaDoorWFootNe
import Derived.Test.YtkpicmjncfhnmaaDoorWAt
import Derived.Test.YtkpicmjncfhnmaaDoorWEqStruct
import Derived.Test.YtkpicmjncfhnmaaDoorWRepsOne
import Derived.Test.YtkpicmjncfhnmaaDoorWInv
import Derived.Test.YtkpicmjncfhnmaaDoorWInvWords
import Derived.Test.YtkpicmjncfhnmaaDoorWGuard
import Derived.Test.YtkpicmjncfhnmaaDoorWNEv
import Derived.Test.YtkpicmjncfhnmaaDoorWMore
namespace Go.Proofs.YtkpicmjncfhnmaaDoor.PFnAdded
open Go.RowKit Go.Proofs.YtkpicmjncfhnmaaDoorW.PrintWords Go.Proofs.YtkpicmjncfhnmaaDoorW.PrintLast Go.Proofs.YtkpicmjncfhnmaaDoorW.PrintMore
attribute [local go_sem] max2_int min2_int max_two min_two max_three min_three max_four min_four   -- for this text's walks alone
set_option linter.unusedVariables false
set_option linter.unusedSimpArgs false



def errW : Option Int → Value
  | none => .nilIface
  | some c => .iface 0 (.int .i64 c)
theorem errW_none : errW none = .nilIface := rfl
theorem errW_some (c : Int) : errW (some c) = .iface 0 (.int .i64 c) := rfl

theorem info3 : (Tryd.prog.info? 3).map (fun i => (i.zero, i.size, i.bytes)) = some (some (.int .i64 0), 1, 8) := by kernel_rfl
theorem info5 : (Tryd.prog.info? 5).map (fun i => (i.zero, i.size, i.bytes)) = some (some (.int .u8 0), 1, 1) := by kernel_rfl
-- the values' own types

end Go.Proofs.YtkpicmjncfhnmaaDoor.PFnAdded
