/- The law on the constants answers true. -/
import Derived.Test.YtmboppgpcppdjaaPFnExactConstantsx1
namespace Go.Proofs.Ytmboppgpcppdjaa.Pure
open Go.RowKit Go.Proofs.Ytmboppgpcppdjaa.PFnExactConstants Go.Proofs.YtmboppgpcppdjaaW.PrintWords Go.Proofs.YtmboppgpcppdjaaW.PrintLast

theorem FnExactConstants : laws_FnExactConstants.Pure := rfl

end Go.Proofs.Ytmboppgpcppdjaa.Pure
