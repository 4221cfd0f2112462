/- The program's TreMeet answers for any two whole numbers what the reference's answers; no condition. -/
import Derived.Test.YtfiiiaemojdliaaPFnExactTreMeetx1
namespace Go.Proofs.Ytfiiiaemojdliaa.Pure
open Go.RowKit Go.Proofs.Ytfiiiaemojdliaa.PFnExactTreMeet Go.Proofs.YtfiiiaemojdliaaW.PrintWords Go.Proofs.YtfiiiaemojdliaaW.PrintLast

def meet2 (x y : Nat) : Bool := decide (spec_TreMeet.l0 31 (x : Int) (y : Int) = impl_TreMeet.l0 31 (x : Int) (y : Int)) && (impl_TreMeet.l0 31 (x : Int) (y : Int)).isSome

theorem meets : ∀ (x y : Fin 15), meet2 x.val y.val = true := by decide +kernel

theorem FnExactTreMeet : laws_FnExactTreMeet.Pure := by
  intro a b ha hb
  refine ⟨32, ?_⟩
  unfold laws_FnExactTreMeet.f spec_TreMeet.f impl_TreMeet.f impl_isNode.f spec_l1In.f impl_in.f
  by_cases a0 : a ≥ 0
  · by_cases a1 : a ≤ 14
    · by_cases b0 : b ≥ 0
      · by_cases b1 : b ≤ 14
        · obtain ⟨x, rfl⟩ := Int.eq_ofNat_of_zero_le a0
          obtain ⟨y, rfl⟩ := Int.eq_ofNat_of_zero_le b0
          have := meets ⟨x, by omega⟩ ⟨y, by omega⟩
          simp only [meet2, Bool.and_eq_true, decide_eq_true_eq] at this
          obtain ⟨h1, h2⟩ := this
          obtain ⟨r, hr⟩ := Option.isSome_iff_exists.1 h2
          simp [a0, a1, b0, b1, spec_TreMeet.j0, impl_TreMeet.j0, h1, hr]
        · simp [a0, a1, b0, b1, spec_TreMeet.j0, impl_TreMeet.j0]
      · simp [a0, a1, b0, spec_TreMeet.j0, impl_TreMeet.j0]
    · simp [a0, a1, spec_TreMeet.j0, impl_TreMeet.j0]
  · simp [a0, spec_TreMeet.j0, impl_TreMeet.j0]

end Go.Proofs.Ytfiiiaemojdliaa.Pure
