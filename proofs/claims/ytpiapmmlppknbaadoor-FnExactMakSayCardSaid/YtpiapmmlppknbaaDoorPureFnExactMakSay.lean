/- MakSay: the program says what the reference says. -/
import Derived.Test.YtpiapmmlppknbaaDoorMaksB
namespace Go.Proofs.YtpiapmmlppknbaaDoor.Pure
open Go.RowKit Go.Proofs.YtpiapmmlppknbaaDoor Go.Proofs.YtpiapmmlppknbaaDoor.Mk Go.Proofs.YtpiapmmlppknbaaDoorW.PrintWords Go.Proofs.YtpiapmmlppknbaaDoorW.PrintLast
theorem FnExactMakSay : laws_FnExactMakSay.Pure := by
  intro s w _ _
  by_cases hb : (s.size : Int) > 1048576
  · exact ⟨0, by unfold laws_FnExactMakSay.f; rw [if_pos hb]⟩
  · obtain ⟨k, hk⟩ := specSay_ev s w (by omega)
    have e : spec_MakSay.f (k + 2) s w = some (madeSay s w) := hk _ (by omega)
    refine ⟨k + 2, ?_⟩
    unfold laws_FnExactMakSay.f
    rw [if_neg hb, e, Option.bind_some, implSay, Option.bind_some, if_pos rfl]
end Go.Proofs.YtpiapmmlppknbaaDoor.Pure
