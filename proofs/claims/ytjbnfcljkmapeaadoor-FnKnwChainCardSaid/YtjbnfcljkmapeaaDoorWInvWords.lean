-- Laid by print.sh; this session's own program (wip/tools/prune.py) has struck what this seat does not use.
import Derived.Test.YtjbnfcljkmapeaaDoorWInv
import Derived.Test.YtjbnfcljkmapeaaDoorWFootNe
namespace Go.Proofs.YtjbnfcljkmapeaaDoorW.PrintWords
open Go.RowKit
end Go.Proofs.YtjbnfcljkmapeaaDoorW.PrintWords
namespace Go.Proofs.YtjbnfcljkmapeaaDoorW.PrintLast
section
variable {ops : Array Oper} {a : Act} {o og : Oper} {g : Nat} {t : Tmp} {u : Bool}
end
end Go.Proofs.YtjbnfcljkmapeaaDoorW.PrintLast
