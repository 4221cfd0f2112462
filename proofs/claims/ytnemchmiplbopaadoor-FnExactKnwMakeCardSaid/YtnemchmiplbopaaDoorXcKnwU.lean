/- KnwMake, the program's and the reference's. Plain Lean. -/
import Derived.Test.YtnemchmiplbopaaDoorXcKnwS
import Derived.Test.YtnemchmiplbopaaDoorXcGivK
import Derived.Test.YtnemchmiplbopaaDoorXcx9
namespace Go.Proofs.YtnemchmiplbopaaDoor.Pure
open Go.RowKit Go.Proofs.YtnemchmiplbopaaDoor Go.Proofs.YtnemchmiplbopaaDoor.Xc Go.Proofs.YtnemchmiplbopaaDoorW.PrintWords Go.Proofs.YtnemchmiplbopaaDoorW.PrintLast
open Go.Proofs.YtnemchmiplbopaaDoor.Th (T B Nm nm dec hd prsNum whole hasB)

theorem knwMake_spec (l : List ByteArray) (s : ByteArray) : ∃ b, Ev (fun k => spec_KnwMake.f k l s) b ∧ impl_KnwMake.f l s = some b := by
  have eo := l2Ok_ev l
  have es := secOk_ev s
  have e1 : impl_KnwMake.f l s = some ((decide (l.length ≤ 400) && l.all okS) && (okS s && mkS l s)) := by
    unfold impl_KnwMake.f namedB
    congr 1
    rw [decide_eq_true (show ([] : List Bx).length ≤ 400 by simp), Bool.true_and, show ([] : List Bx).all okBx = true from rfl, Bool.and_true]
    rfl
  refine ⟨_, ?_, e1⟩
  unfold spec_KnwMake.f
  refine Ev.bind eo ?_
  cases h1 : (decide (l.length ≤ 400) && l.all okS) with
  | false => rw [Bool.false_and]; exact Ev.of_eq fun k => if_neg Bool.false_ne_true
  | true =>
    have hl : l.length ≤ 400 := by rw [Bool.and_eq_true, decide_eq_true_eq] at h1; exact h1.1
    rw [Bool.true_and]
    refine Ev.congr (fun k => if_pos rfl) (Ev.bind es ?_)
    show Ev _ (okS s && mkS l s)
    unfold okS
    cases h2 : (nm s).isSome with
    | false => rw [Bool.false_and]; exact Ev.of_eq fun k => if_neg Bool.false_ne_true
    | true => rw [Bool.true_and]; exact Ev.congr (fun k => if_pos rfl) (Ev.bind (makeS_ev l (by omega) h2) (Ev.now _))
end Go.Proofs.YtnemchmiplbopaaDoor.Pure
