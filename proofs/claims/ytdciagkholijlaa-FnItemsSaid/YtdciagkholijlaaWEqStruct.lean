-- The words that the kit's print.sh laid for this seat, cut down by this session to what this claim names (its wip/slim_claim.py).
import Derived.Test.YtdciagkholijlaaWWords
import Derived.Laws.StructEq
namespace Go.Proofs.YtdciagkholijlaaW.PrintWords
open Go.RowKit
section
variable {P : Program} {d : Nat} {xs ys : Array Value} {f : Field} {fs : List Field} {a b : Value} {r s : Bool} {w : World}
end
end Go.Proofs.YtdciagkholijlaaW.PrintWords
