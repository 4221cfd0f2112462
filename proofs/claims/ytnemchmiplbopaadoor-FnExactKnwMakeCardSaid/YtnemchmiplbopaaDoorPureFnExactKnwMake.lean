/- The program's KnwMake returns what the reference's returns, for all arguments: the law's plain statement. -/
import Derived.Test.YtnemchmiplbopaaDoorXcKnwU
import Derived.Test.YtnemchmiplbopaaDoorXcLawS
import Derived.Test.YtnemchmiplbopaaDoorXcx10
namespace Go.Proofs.YtnemchmiplbopaaDoor.Pure
open Go.RowKit Go.Proofs.YtnemchmiplbopaaDoor Go.Proofs.YtnemchmiplbopaaDoor.Xc Go.Proofs.YtnemchmiplbopaaDoorW.PrintWords Go.Proofs.YtnemchmiplbopaaDoorW.PrintLast
open Go.Proofs.YtnemchmiplbopaaDoor.Th (T B Nm nm dec hd prsNum whole hasB)

theorem FnExactKnwMake : laws_FnExactKnwMake.Pure := by
  intro l a g ga
  suffices h : Ev (fun k => laws_FnExactKnwMake.f k l a) true by
    obtain ⟨k, hk⟩ := h
    exact ⟨k, hk k (Nat.le_refl _)⟩
  unfold laws_FnExactKnwMake.f
  by_cases h0 : (a.size : Int) > 1048576
  · exact Ev.of_eq fun k => if_pos h0
  refine Ev.congr (fun k => if_neg h0) ?_
  obtain ⟨r, e, _, hr⟩ := szS_ev l g 1048576 (by omega) (by omega)
  refine Ev.bind e ?_
  by_cases h1 : r < 0
  · exact Ev.of_eq fun k => if_pos h1
  obtain ⟨hl, _⟩ := hr (by omega)
  have et := toS_ev l (by omega)
  obtain ⟨b, es, ei⟩ := knwMake_spec l a
  refine Ev.congr (fun k => if_neg h1) (Ev.bind et (Ev.bind es (Ev.bind et (Ev.congr (fun k => by rw [ei, Option.bind_some, bne_self_eq_false]; exact if_neg Bool.false_ne_true) (Ev.bind et (Ev.bind (eqS_ev l (by omega)) (Ev.of_eq fun k => if_pos rfl)))))))
end Go.Proofs.YtnemchmiplbopaaDoor.Pure
