-- The words that the kit's print.sh laid for this seat, cut down by this session to what this claim names (its wip/slim_claim.py).
import Derived.Test.YtfknjoebomicnaaWInv
import Derived.Test.YtfknjoebomicnaaWFootNe
namespace Go.Proofs.YtfknjoebomicnaaW.PrintWords
open Go.RowKit
end Go.Proofs.YtfknjoebomicnaaW.PrintWords
namespace Go.Proofs.YtfknjoebomicnaaW.PrintLast
section
variable {ops : Array Oper} {a : Act} {o og : Oper} {g : Nat} {t : Tmp} {u : Bool}
end
end Go.Proofs.YtfknjoebomicnaaW.PrintLast
