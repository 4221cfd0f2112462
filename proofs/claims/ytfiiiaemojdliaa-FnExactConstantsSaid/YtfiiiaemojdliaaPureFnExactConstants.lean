/- Each exported constant of the program has the value that the reference gives; no condition. -/
import Derived.Test.YtfiiiaemojdliaaPFnExactConstantsx1
namespace Go.Proofs.Ytfiiiaemojdliaa.Pure
open Go.RowKit Go.Proofs.Ytfiiiaemojdliaa.PFnExactConstants Go.Proofs.YtfiiiaemojdliaaW.PrintWords Go.Proofs.YtfiiiaemojdliaaW.PrintLast

theorem FnExactConstants : laws_FnExactConstants.Pure := rfl

end Go.Proofs.Ytfiiiaemojdliaa.Pure
