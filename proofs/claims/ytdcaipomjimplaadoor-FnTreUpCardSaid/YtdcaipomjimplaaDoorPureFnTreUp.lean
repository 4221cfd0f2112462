/- Each place but the first lies under one: the law's plain statement. -/
import Derived.Test.YtdcaipomjimplaaDoorWtDrawN
import Derived.Test.YtdcaipomjimplaaDoorWtx5
namespace Go.Proofs.YtdcaipomjimplaaDoor.Pure
open Go.RowKit Go.Proofs.YtdcaipomjimplaaDoor Go.Proofs.YtdcaipomjimplaaDoor.Wt Go.Proofs.YtdcaipomjimplaaDoorW.PrintWords Go.Proofs.YtdcaipomjimplaaDoorW.PrintLast

/-- What the law does with two places. -/
def ups (k : Nat) (a b : Int) : Option Bool := (impl_TreUp.f k a).bind fun t201 => ((impl_TreSide.f k b).bind fun t204 => ((spec_TreUp.f k a).bind fun t205 => ((laws_keInts.f k t201 t205).bind fun t208 => (if t208 = true then ((spec_TreSide.f b).bind fun t209 => (laws_FnTreUp.j1 k a b t201 t204 (t204 != t209))) else (laws_FnTreUp.j1 k a b t201 t204 true)))))
theorem ups.mono : ∀ a b k, LeO (ups k a b) (ups (k + 1) a b) := by
  intro a b k
  obtain ⟨ih0, ih1, ih2, ih3⟩ := laws_FnTreUp.mono_l k
  unfold ups
  repeat' first
      | (with_reducible exact ih1 _ _ _ _ _)
      | (with_reducible exact impl_TreUp.mono _ _)
      | (with_reducible exact impl_TreSide.mono _ _)
      | (with_reducible exact spec_TreUp.mono _ _)
      | (with_reducible exact laws_keInts.mono _ _ _)
      | (with_reducible exact LeO.refl _)
      | (with_reducible refine LeO.ite ?_ ?_)
      | (with_reducible refine LeO.bind ?_ (fun _ => ?_))
      | exact ih1 _ _ _ _ _
theorem ups_all : ∀ a b : Fin 17, ups 14 ((a.1 : Int) - 1) ((b.1 : Int) - 1) = some true := by decide +kernel
theorem FnTreUp : laws_FnTreUp.Pure := by
  intro l l1 _ _ hw _ _ hw1
  refine Ev.rounds ?_
  have key : ∀ x : Bool, Ev (fun k => laws_FnTreUp.j0 k l l1 x) true := by
    intro c
    cases c with
    | true => exact Ev.step (f := fun _ => some true) (fun k => by rw [laws_FnTreUp.j0, if_pos rfl]) (Ev.now _)
    | false =>
      obtain ⟨b, e, R⟩ := open_any l (Bytes.of_wf hw)
      obtain ⟨x, ⟨x0, x1⟩, ex, Rx⟩ := node_ev R (by omega)
      obtain ⟨b1, e1, R1⟩ := open_any l1 (Bytes.of_wf hw1)
      obtain ⟨y, ⟨y0, y1⟩, ey, _⟩ := node_ev R1 (by omega)
      have ed : Ev (fun k => spec_DrawTreUp.f k l) x := by
        unfold spec_DrawTreUp.f
        exact Ev.congr (fun k => by rw [e, Option.bind_some]) (Ev.bind ex (Ev.now _))
      have ed1 : Ev (fun k => spec_DrawTreSide.f k l1) y := by
        unfold spec_DrawTreSide.f
        exact Ev.congr (fun k => by rw [e1, Option.bind_some]) (Ev.bind ey (Ev.now _))
      have h := ups_all ⟨(x + 1).toNat, by omega⟩ ⟨(y + 1).toNat, by omega⟩
      rw [show (((x + 1).toNat : Nat) : Int) - 1 = x by omega, show (((y + 1).toNat : Nat) : Int) - 1 = y by omega] at h
      refine Ev.step (fun k => by rw [laws_FnTreUp.j0, if_neg (by decide)]) (Ev.bind ed (Ev.bind ed1 ?_))
      show Ev (fun k => ups k x y) true
      exact Ev.of (fun k => ups.mono x y k) h
  unfold laws_FnTreUp.f
  by_cases hb : (l.length : Int) > 1048576
  · exact Ev.congr (fun k => if_pos hb) (key true)
  · exact Ev.congr (fun k => if_neg hb) (key _)
end Go.Proofs.YtdcaipomjimplaaDoor.Pure
