/- The program's TreSide answers for every whole number what the reference's answers; no condition. -/
import Derived.Test.YtfiiiaemojdliaaPFnExactTreSidex1
namespace Go.Proofs.Ytfiiiaemojdliaa.Pure
open Go.RowKit Go.Proofs.Ytfiiiaemojdliaa.PFnExactTreSide Go.Proofs.YtfiiiaemojdliaaW.PrintWords Go.Proofs.YtfiiiaemojdliaaW.PrintLast

theorem FnExactTreSide : laws_FnExactTreSide.Pure := by
  intro a h
  refine ⟨1, ?_⟩
  unfold laws_FnExactTreSide.f spec_TreSide.f impl_TreSide.f impl_isNode.f spec_l1In.f impl_in.f
  simp only [impl_TreSide.j0]
  by_cases h1 : a ≥ 1
  · have h0 : a ≥ 0 := by omega
    have hz : (a == 0) = false := by simp; omega
    by_cases h2 : a ≤ 14
    · by_cases h3 : Int.tmod a 2 = 1 <;> simp [h0, h1, h2, h3, hz]
    · simp [h0, h1, h2]
  · by_cases h0 : a ≥ 0
    · obtain rfl : a = 0 := by omega
      simp
    · simp [h0, h1]

end Go.Proofs.Ytfiiiaemojdliaa.Pure
