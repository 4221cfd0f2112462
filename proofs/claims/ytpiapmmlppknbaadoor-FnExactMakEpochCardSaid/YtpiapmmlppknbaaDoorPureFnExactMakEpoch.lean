/- MakEpoch: the program says what the reference says. -/
import Derived.Test.YtpiapmmlppknbaaDoorMaks
namespace Go.Proofs.YtpiapmmlppknbaaDoor.Pure
open Go.RowKit Go.Proofs.YtpiapmmlppknbaaDoor Go.Proofs.YtpiapmmlppknbaaDoor.Mk Go.Proofs.YtpiapmmlppknbaaDoorW.PrintWords Go.Proofs.YtpiapmmlppknbaaDoorW.PrintLast
theorem FnExactMakEpoch : laws_FnExactMakEpoch.Pure := by
  intro a b _ _
  by_cases ha : (a.size : Int) > 1048576
  · exact ⟨0, by unfold laws_FnExactMakEpoch.f; rw [if_pos ha]⟩
  by_cases hb : (b.size : Int) > 1048576
  · exact ⟨0, by unfold laws_FnExactMakEpoch.f; rw [if_neg ha, if_pos hb]⟩
  · obtain ⟨k, hk⟩ := specEpoch_ev a b (by omega) (by omega)
    have e : spec_MakEpoch.f (k + 3) a b = some (made2 (Th.T [101]) a b) := hk _ (by omega)
    refine ⟨k + 3, ?_⟩
    unfold laws_FnExactMakEpoch.f
    rw [if_neg ha, if_neg hb, e, Option.bind_some, implEpoch, Option.bind_some, if_pos rfl]
end Go.Proofs.YtpiapmmlppknbaaDoor.Pure
