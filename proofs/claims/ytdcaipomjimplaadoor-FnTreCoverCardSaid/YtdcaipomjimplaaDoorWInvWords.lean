-- Laid by print.sh; this session's own program (wip/tools/prune.py) has struck what this seat does not use.
import Derived.Test.YtdcaipomjimplaaDoorWInv
import Derived.Test.YtdcaipomjimplaaDoorWFootNe
namespace Go.Proofs.YtdcaipomjimplaaDoorW.PrintWords
open Go.RowKit
end Go.Proofs.YtdcaipomjimplaaDoorW.PrintWords
namespace Go.Proofs.YtdcaipomjimplaaDoorW.PrintLast
section
variable {ops : Array Oper} {a : Act} {o og : Oper} {g : Nat} {t : Tmp} {u : Bool}
end
end Go.Proofs.YtdcaipomjimplaaDoorW.PrintLast
