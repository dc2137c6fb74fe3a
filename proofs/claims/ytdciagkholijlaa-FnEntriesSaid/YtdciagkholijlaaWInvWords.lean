-- The words that the kit's print.sh laid for this seat, cut down by this session to what this claim names (its wip/slim_claim.py).
import Derived.Test.YtdciagkholijlaaWInv
import Derived.Test.YtdciagkholijlaaWFootNe
namespace Go.Proofs.YtdciagkholijlaaW.PrintWords
open Go.RowKit
end Go.Proofs.YtdciagkholijlaaW.PrintWords
namespace Go.Proofs.YtdciagkholijlaaW.PrintLast
section
variable {ops : Array Oper} {a : Act} {o og : Oper} {g : Nat} {t : Tmp} {u : Bool}
end
end Go.Proofs.YtdciagkholijlaaW.PrintLast
