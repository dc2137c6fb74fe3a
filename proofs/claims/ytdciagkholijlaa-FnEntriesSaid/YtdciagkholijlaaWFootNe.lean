-- The words that the kit's print.sh laid for this seat, cut down by this session to what this claim names (its wip/slim_claim.py).
import Derived.Test.YtdciagkholijlaaWN
namespace Go.Proofs.YtdciagkholijlaaW.PrintWords
open Go.RowKit
namespace Kd
section
variable {α : Type} {d : Kd α} {W : World} {g n : Nat} {S ok : Nat → Prop} {A : Option Addr} {ad : Addr} {xs : List α}
end
end Kd
end Go.Proofs.YtdciagkholijlaaW.PrintWords
