-- Laid by print.sh; this session's own program (wip/tools/prune.py) has struck what this seat does not use.
import Derived.Test.YtnemchmiplbopaaGreatDoorWTab
/-! ### 56. Four, five, six operations that may come up next, in any order -/
namespace Go.Proofs.YtnemchmiplbopaaGreatDoorW.PrintLast
section
variable {P : Program} {ops : Array Oper} {Q : Exit → Act → World → Prop} {md : Region.Mode} {S : World → Prop} {ds : List Nat} {T : Bool × List (List Nat × List Nat)}
end
end Go.Proofs.YtnemchmiplbopaaGreatDoorW.PrintLast
