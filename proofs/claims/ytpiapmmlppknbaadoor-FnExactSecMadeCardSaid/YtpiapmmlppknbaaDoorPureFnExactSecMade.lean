/- How a secret was made: the program says what the reference says. -/
import Derived.Test.YtpiapmmlppknbaaDoorMade
namespace Go.Proofs.YtpiapmmlppknbaaDoor.Pure
open Go.RowKit Go.Proofs.YtpiapmmlppknbaaDoor Go.Proofs.YtpiapmmlppknbaaDoor.Walk Go.Proofs.YtpiapmmlppknbaaDoorW.PrintWords Go.Proofs.YtpiapmmlppknbaaDoorW.PrintLast
theorem FnExactSecMade : laws_FnExactSecMade.Pure := by
  intro s _
  obtain ⟨k, hk⟩ := Ev.rounds (secMade_ev s)
  refine ⟨k, ?_⟩
  unfold laws_FnExactSecMade.f
  by_cases hb : (s.size : Int) > 1048576
  · rw [if_pos hb]
  · rw [if_neg hb, hk, Option.bind_some, implMade, Option.bind_some]
    unfold laws_eqSecHow.f
    rw [if_pos rfl, if_pos rfl, if_pos rfl, if_pos rfl, if_pos rfl, Option.bind_some, if_pos rfl]
end Go.Proofs.YtpiapmmlppknbaaDoor.Pure
