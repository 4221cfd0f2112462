/- The program's TreUp returns what the reference's returns, for all arguments: the law's plain statement. -/
import Derived.Test.YthgpcfmjompmiaaWtx3
namespace Go.Proofs.Ythgpcfmjompmiaa.Pure
open Go.RowKit Go.Proofs.Ythgpcfmjompmiaa Go.Proofs.Ythgpcfmjompmiaa.Wt Go.Proofs.YthgpcfmjompmiaaW.PrintWords Go.Proofs.YthgpcfmjompmiaaW.PrintLast

theorem in_out (x a b : Int) (h : ¬ (a ≤ x ∧ x ≤ b)) : impl_in.f x a b = some false := by
  unfold impl_in.f
  by_cases h1 : x ≥ a
  · rw [if_pos h1, decide_eq_false (by omega)]
  · rw [if_neg h1]
theorem in_out' (x a b : Int) (h : ¬ (a ≤ x ∧ x ≤ b)) : spec_l1In.f x a b = some false := by
  unfold spec_l1In.f
  by_cases h1 : x ≥ a
  · rw [if_pos h1, decide_eq_false (by omega)]
  · rw [if_neg h1]
theorem in_tree : ∀ x : Fin 15, laws_FnExactTreUp.f 8 (x.1 : Int) = some true := by decide +kernel
theorem FnExactTreUp : laws_FnExactTreUp.Pure := by
  intro a _
  by_cases h : 0 ≤ a ∧ a ≤ 14
  · refine ⟨8, ?_⟩
    have := in_tree ⟨a.toNat, by omega⟩
    rwa [show ((a.toNat : Nat) : Int) = a by omega] at this
  · refine ⟨3, ?_⟩
    unfold laws_FnExactTreUp.f spec_TreUp.f impl_TreUp.f impl_isNode.f
    rw [in_out' a 0 14 h, in_out a 0 14 h]
    rfl
end Go.Proofs.Ythgpcfmjompmiaa.Pure
