/- MakRoom: the program says what the reference says. -/
import Derived.Test.YtpiapmmlppknbaaDoorMaksB
namespace Go.Proofs.YtpiapmmlppknbaaDoor.Pure
open Go.RowKit Go.Proofs.YtpiapmmlppknbaaDoor Go.Proofs.YtpiapmmlppknbaaDoor.Mk Go.Proofs.YtpiapmmlppknbaaDoorW.PrintWords Go.Proofs.YtpiapmmlppknbaaDoorW.PrintLast
theorem FnExactMakRoom : laws_FnExactMakRoom.Pure := by
  intro s w _ _
  by_cases hb : (s.size : Int) > 1048576
  · exact ⟨0, by unfold laws_FnExactMakRoom.f; rw [if_pos hb]⟩
  · obtain ⟨k, hk⟩ := specRoom_ev s w (by omega)
    have e : spec_MakRoom.f (k + 2) s w = some (madeRoom s w) := hk _ (by omega)
    refine ⟨k + 2, ?_⟩
    unfold laws_FnExactMakRoom.f
    rw [if_neg hb, e, Option.bind_some, implRoom, Option.bind_some, if_pos rfl]
end Go.Proofs.YtpiapmmlppknbaaDoor.Pure
