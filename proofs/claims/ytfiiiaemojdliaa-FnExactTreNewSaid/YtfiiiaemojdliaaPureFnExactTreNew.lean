/- The program's TreNew answers what the reference's answers, in memory of its own; no condition. -/
import Derived.Test.YtfiiiaemojdliaaPFnExactTreNewx2
namespace Go.Proofs.Ytfiiiaemojdliaa.Pure
open Go.RowKit Go.Proofs.Ytfiiiaemojdliaa.PFnExactTreNew Go.Proofs.YtfiiiaemojdliaaW.PrintWords Go.Proofs.YtfiiiaemojdliaaW.PrintLast

theorem FnExactTreNew : laws_FnExactTreNew.Pure := ⟨40, by decide +kernel⟩

end Go.Proofs.Ytfiiiaemojdliaa.Pure
