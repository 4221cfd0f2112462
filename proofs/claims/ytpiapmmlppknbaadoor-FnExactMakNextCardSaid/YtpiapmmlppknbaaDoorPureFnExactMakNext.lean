/- MakNext: the program says what the reference says. -/
import Derived.Test.YtpiapmmlppknbaaDoorMaks
namespace Go.Proofs.YtpiapmmlppknbaaDoor.Pure
open Go.RowKit Go.Proofs.YtpiapmmlppknbaaDoor Go.Proofs.YtpiapmmlppknbaaDoor.Mk Go.Proofs.YtpiapmmlppknbaaDoorW.PrintWords Go.Proofs.YtpiapmmlppknbaaDoorW.PrintLast
theorem FnExactMakNext : laws_FnExactMakNext.Pure := by
  intro s _
  by_cases hb : (s.size : Int) > 1048576
  · exact ⟨0, by unfold laws_FnExactMakNext.f; rw [if_pos hb]⟩
  · obtain ⟨k, hk⟩ := specNext_ev s (by omega)
    have e : spec_MakNext.f (k + 2) s = some (made1 (Th.T [110]) s) := hk _ (by omega)
    refine ⟨k + 2, ?_⟩
    unfold laws_FnExactMakNext.f
    rw [if_neg hb, e, Option.bind_some, implNext, Option.bind_some, if_pos rfl]
end Go.Proofs.YtpiapmmlppknbaaDoor.Pure
