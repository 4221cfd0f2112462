-- Laid by print.sh; this session's own program (wip/tools/prune.py) has struck what this seat does not use.
import Derived.Test.YtnemchmiplbopaaGreatDoorWWords
import Derived.Laws.StructEq
/-! ### 53. '==' of structs as_ one Bool -/
namespace Go.Proofs.YtnemchmiplbopaaGreatDoorW.PrintWords
open Go.RowKit
section
variable {P : Program} {d : Nat} {xs ys : Array Value} {f : Field} {fs : List Field} {a b : Value} {r s : Bool} {w : World}
end
end Go.Proofs.YtnemchmiplbopaaGreatDoorW.PrintWords
