/- MakKey: the program says what the reference says. -/
import Derived.Test.YtpiapmmlppknbaaDoorMaks
namespace Go.Proofs.YtpiapmmlppknbaaDoor.Pure
open Go.RowKit Go.Proofs.YtpiapmmlppknbaaDoor Go.Proofs.YtpiapmmlppknbaaDoor.Mk Go.Proofs.YtpiapmmlppknbaaDoorW.PrintWords Go.Proofs.YtpiapmmlppknbaaDoorW.PrintLast
theorem FnExactMakKey : laws_FnExactMakKey.Pure := by
  intro s _
  by_cases hb : (s.size : Int) > 1048576
  · exact ⟨0, by unfold laws_FnExactMakKey.f; rw [if_pos hb]⟩
  · obtain ⟨k, hk⟩ := specKey_ev s (by omega)
    have e : spec_MakKey.f (k + 2) s = some (made1 (Th.T [107]) s) := hk _ (by omega)
    refine ⟨k + 2, ?_⟩
    unfold laws_FnExactMakKey.f
    rw [if_neg hb, e, Option.bind_some, implKey, Option.bind_some, if_pos rfl]
end Go.Proofs.YtpiapmmlppknbaaDoor.Pure
