-- The words that the kit's print.sh laid for this seat, cut down by this session to what this claim names (its wip/slim_claim.py).
import Derived.Test.YtkpicmjncfhnmaaDoorWInv
import Derived.Test.YtkpicmjncfhnmaaDoorWFootNe
namespace Go.Proofs.YtkpicmjncfhnmaaDoorW.PrintWords
open Go.RowKit
end Go.Proofs.YtkpicmjncfhnmaaDoorW.PrintWords
namespace Go.Proofs.YtkpicmjncfhnmaaDoorW.PrintLast
section
variable {ops : Array Oper} {a : Act} {o og : Oper} {g : Nat} {t : Tmp} {u : Bool}
end
end Go.Proofs.YtkpicmjncfhnmaaDoorW.PrintLast
