/- Whether a text is a secret's name: the program says what the reference says. -/
import Derived.Test.YtpiapmmlppknbaaDoorSizes
namespace Go.Proofs.YtpiapmmlppknbaaDoor.Pure
open Go.RowKit Go.Proofs.YtpiapmmlppknbaaDoor Go.Proofs.YtpiapmmlppknbaaDoor.Walk Go.Proofs.YtpiapmmlppknbaaDoorW.PrintWords Go.Proofs.YtpiapmmlppknbaaDoorW.PrintLast
theorem FnExactSecOk : laws_FnExactSecOk.Pure := by
  intro s _
  obtain ⟨k, hk⟩ := Ev.rounds (secOk_ev s)
  refine ⟨k, ?_⟩
  have hk' : spec_SecOk.f k s = some (Th.nm s).isSome := hk
  unfold laws_FnExactSecOk.f
  by_cases hb : (s.size : Int) > 1048576
  · rw [if_pos hb]
  · rw [if_neg hb, hk', Option.bind_some]
    unfold impl_SecOk.f
    rw [Option.bind_some, bne_self_eq_false]
    rfl
end Go.Proofs.YtpiapmmlppknbaaDoor.Pure
