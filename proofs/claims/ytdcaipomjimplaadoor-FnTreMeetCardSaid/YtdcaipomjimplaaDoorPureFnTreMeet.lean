/- Two places meet once: the law's plain statement. -/
import Derived.Test.YtdcaipomjimplaaDoorWtDrawN
import Derived.Test.YtdcaipomjimplaaDoorWtx3
namespace Go.Proofs.YtdcaipomjimplaaDoor.Pure
open Go.RowKit Go.Proofs.YtdcaipomjimplaaDoor Go.Proofs.YtdcaipomjimplaaDoor.Wt Go.Proofs.YtdcaipomjimplaaDoorW.PrintWords Go.Proofs.YtdcaipomjimplaaDoorW.PrintLast

/-- What the law does with two places. -/
def meets (k : Nat) (a b : Int) : Option Bool := (impl_TreMeet.f k a b).bind fun t1 => ((spec_TreMeet.f k a b).bind fun t2 => (if t1 = t2 then ((impl_TreMeet.f k b a).bind fun t3 => (laws_FnTreMeet.j0 k a b t1 (t3 != t1))) else (laws_FnTreMeet.j0 k a b t1 true)))
theorem meets.mono : ∀ a b k, LeO (meets k a b) (meets (k + 1) a b) := by
  intro a b k
  obtain ⟨ih0, ih1, ih2⟩ := laws_FnTreMeet.mono_l k
  unfold meets
  repeat' first
      | (with_reducible exact ih0 _ _ _ _)
      | (with_reducible exact impl_TreMeet.mono _ _ _)
      | (with_reducible exact spec_TreMeet.mono _ _ _)
      | (with_reducible exact LeO.refl _)
      | (with_reducible refine LeO.ite ?_ ?_)
      | (with_reducible refine LeO.bind ?_ (fun _ => ?_))
      | exact ih0 _ _ _ _
theorem meets_all : ∀ a b : Fin 17, meets 14 ((a.1 : Int) - 1) ((b.1 : Int) - 1) = some true := by decide +kernel
theorem FnTreMeet : laws_FnTreMeet.Pure := by
  intro l _ _ hw
  refine Ev.rounds ?_
  unfold laws_FnTreMeet.f
  by_cases hb : (l.length : Int) > 1048576
  · exact evEq fun k => if_pos hb
  refine Ev.congr (fun k => if_neg hb) ?_
  obtain ⟨b, e, R⟩ := open_any l (Bytes.of_wf hw)
  obtain ⟨x, ⟨x0, x1⟩, ex, Rx⟩ := node_ev R (by omega)
  obtain ⟨y, ⟨y0, y1⟩, ey, _⟩ := node_ev Rx (by omega)
  have ed : Ev (fun k => spec_DrawTreMeet.f k l) (x, y) := by
    unfold spec_DrawTreMeet.f
    refine Ev.congr (fun k => by rw [e, Option.bind_some]) (Ev.bind ex ?_)
    refine Ev.bind ey ?_
    exact Ev.now _
  refine Ev.bind ed ?_
  have h := meets_all ⟨(x + 1).toNat, by omega⟩ ⟨(y + 1).toNat, by omega⟩
  rw [show (((x + 1).toNat : Nat) : Int) - 1 = x by omega, show (((y + 1).toNat : Nat) : Int) - 1 = y by omega] at h
  show Ev (fun k => meets k x y) true
  exact Ev.of (fun k => meets.mono x y k) h
end Go.Proofs.YtdcaipomjimplaaDoor.Pure
