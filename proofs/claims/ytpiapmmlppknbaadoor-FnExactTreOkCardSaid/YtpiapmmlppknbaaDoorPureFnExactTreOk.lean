/- The program's TreOk returns what the reference's returns, for all arguments: the law's plain statement. -/
import Derived.Test.YtpiapmmlppknbaaDoorXoTreeS
import Derived.Test.YtpiapmmlppknbaaDoorXoLawS
import Derived.Test.YtpiapmmlppknbaaDoorXox10
namespace Go.Proofs.YtpiapmmlppknbaaDoor.Pure
open Go.RowKit Go.Proofs.YtpiapmmlppknbaaDoor Go.Proofs.YtpiapmmlppknbaaDoor.Xo Go.Proofs.YtpiapmmlppknbaaDoorW.PrintWords Go.Proofs.YtpiapmmlppknbaaDoorW.PrintLast

theorem FnExactTreOk : laws_FnExactTreOk.Pure := by
  intro l g
  refine Ev.rounds ?_
  unfold laws_FnExactTreOk.f
  obtain ⟨r, er, hr, hb⟩ := szS_ev l g 1048576 (by omega) (by omega)
  by_cases h0 : r < 0
  · have e1 : Ev (fun k => laws_szTreTree.f k l 1048576) (-1) := by
      unfold laws_szTreTree.f
      exact Ev.bind er (Ev.of_eq fun k => if_pos h0)
    exact Ev.bind e1 (Ev.of_eq fun k => if_pos (by decide))
  · have e1 : Ev (fun k => laws_szTreTree.f k l 1048576) r := by
      unfold laws_szTreTree.f
      exact Ev.bind er (Ev.of_eq fun k => if_neg h0)
    obtain ⟨hl, _⟩ := hb (by omega)
    have et : Ev (fun k => laws_toTreTree.f k l) l := by
      unfold laws_toTreTree.f
      exact Ev.bind (toS_ev l (by omega)) (Ev.now _)
    have eq : Ev (fun k => laws_eqTreTree.f k l l) true := by
      unfold laws_eqTreTree.f
      exact Ev.bind (eqS_ev l (by omega)) (Ev.of_eq fun k => if_pos rfl)
    refine Ev.bind e1 (Ev.congr (fun k => if_neg h0) (Ev.bind et (Ev.bind (specTreOk_ev l) (Ev.bind et ?_))))
    refine Ev.congr (fun k => by rw [impl_TreOk.f, Option.bind_some, if_neg (by simp)]) (Ev.bind et (Ev.bind eq (Ev.of_eq fun k => if_pos rfl)))
end Go.Proofs.YtpiapmmlppknbaaDoor.Pure
