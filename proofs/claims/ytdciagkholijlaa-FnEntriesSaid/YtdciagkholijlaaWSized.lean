-- The words that the kit's print.sh laid for this seat, cut down by this session to what this claim names (its wip/slim_claim.py).
import Derived.SizedLaws
import Derived.ChangeSlices
namespace Go.Proofs.YtdciagkholijlaaW.PrintWords
open Go.ChangeShapes Go.WideShapes
end Go.Proofs.YtdciagkholijlaaW.PrintWords
