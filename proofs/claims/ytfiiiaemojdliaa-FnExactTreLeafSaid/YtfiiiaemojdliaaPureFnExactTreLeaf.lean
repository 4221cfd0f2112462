/- The program's TreLeaf answers for every whole number what the reference's answers; no condition. -/
import Derived.Test.YtfiiiaemojdliaaPFnExactTreLeafx1
namespace Go.Proofs.Ytfiiiaemojdliaa.Pure
open Go.RowKit Go.Proofs.Ytfiiiaemojdliaa.PFnExactTreLeaf Go.Proofs.YtfiiiaemojdliaaW.PrintWords Go.Proofs.YtfiiiaemojdliaaW.PrintLast

theorem FnExactTreLeaf : laws_FnExactTreLeaf.Pure := by
  intro a h
  unfold laws_FnExactTreLeaf.f spec_TreLeaf.f impl_TreLeaf.f impl_isOne.f impl_leaf.f spec_l1In.f impl_in.f
  by_cases h0 : a ≥ 0
  · by_cases h1 : a ≤ 7 <;> simp [h0, h1]
  · simp [h0]

end Go.Proofs.Ytfiiiaemojdliaa.Pure
