-- Laid by print.sh; this session's own program (wip/tools/prune.py) has struck what this seat does not use.
import Derived.Test.YtnemchmiplbopaaDoorWInv
import Derived.Test.YtnemchmiplbopaaDoorWFootNe
namespace Go.Proofs.YtnemchmiplbopaaDoorW.PrintWords
open Go.RowKit
end Go.Proofs.YtnemchmiplbopaaDoorW.PrintWords
namespace Go.Proofs.YtnemchmiplbopaaDoorW.PrintLast
section
variable {ops : Array Oper} {a : Act} {o og : Oper} {g : Nat} {t : Tmp} {u : Bool}
end
end Go.Proofs.YtnemchmiplbopaaDoorW.PrintLast
