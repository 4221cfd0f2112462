-- Laid by print.sh; this session's own program (wip/tools/prune.py) has struck what this seat does not use.
import Derived.Test.YtnemchmiplbopaaGreatDoorWInv
import Derived.Test.YtnemchmiplbopaaGreatDoorWFootNe
namespace Go.Proofs.YtnemchmiplbopaaGreatDoorW.PrintWords
open Go.RowKit
end Go.Proofs.YtnemchmiplbopaaGreatDoorW.PrintWords
namespace Go.Proofs.YtnemchmiplbopaaGreatDoorW.PrintLast
section
variable {ops : Array Oper} {a : Act} {o og : Oper} {g : Nat} {t : Tmp} {u : Bool}
end
end Go.Proofs.YtnemchmiplbopaaGreatDoorW.PrintLast
