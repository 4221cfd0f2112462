/- What a group has tells from what it was made: the law's plain statement. -/
import Derived.Test.YtdcaipomjimplaaDoorWaAllS
import Derived.Test.YtdcaipomjimplaaDoorWax14
namespace Go.Proofs.YtdcaipomjimplaaDoor.Pure
open Go.RowKit Go.Proofs.YtdcaipomjimplaaDoor Go.Proofs.YtdcaipomjimplaaDoor.Wa Go.Proofs.YtdcaipomjimplaaDoorW.PrintWords Go.Proofs.YtdcaipomjimplaaDoorW.PrintLast
open Go.Proofs.YtdcaipomjimplaaDoor.Th (T B Nm nm dec hd prsNum whole)

theorem drawEpoch_ev {l : List Int} (h : Bytes l) : ∃ s t, Ev (fun k => spec_DrawMakEpoch.f k l) (s, t) ∧ s.size ≤ 700 ∧ t.size ≤ 700 := by
  obtain ⟨b, e, R⟩ := open_any l h
  obtain ⟨s, q, es, hs, Rq⟩ := secretOr_ev R (by omega) 6 (by omega) (by omega)
  obtain ⟨t, u, et, ht, Ru⟩ := secretOr_ev Rq (by omega) 6 (by omega) (by omega)
  refine ⟨s, t, ?_, hs, ht⟩
  unfold spec_DrawMakEpoch.f
  refine Ev.congr (fun k => by rw [e, Option.bind_some]) (Ev.bind es ?_)
  refine Ev.bind et ?_
  exact Ev.now _
theorem FnMakEpoch : laws_FnMakEpoch.Pure := by
  intro l _ _ hw
  refine Ev.rounds ?_
  unfold laws_FnMakEpoch.f
  by_cases hb : (l.length : Int) > 1048576
  · exact Ev.of_eq fun k => if_pos hb
  refine Ev.congr (fun k => if_neg hb) ?_
  obtain ⟨s, t, e, hs, ht⟩ := drawEpoch_ev (Bytes.of_wf hw)
  have ei : ∀ a b, Ev (fun k => impl_MakEpoch.f k a b) (made2 (T [101]) a b) := fun a b => Ev.of (fun k => impl_MakEpoch.mono _ _ k) (implEpoch a b 0)
  refine Ev.bind e (Ev.bind (ei s t) (Ev.bind (specEpoch_ev s t (by omega) (by omega)) ?_))
  refine Ev.congr (fun k => if_pos rfl) (Ev.bind (secOk_ev s) ?_)
  have bad : made2 (T [101]) s t = ⟨#[]⟩ → Ev (fun k => laws_FnMakEpoch.j0 k s t (made2 (T [101]) s t) true) true := by
    intro h
    refine Ev.step (f := fun _ => some true) (fun k => ?_) (Ev.now _)
    rw [laws_FnMakEpoch.j0, if_pos rfl, h, if_pos (Th.toList_nil.2 rfl), keOk_yes, Option.bind_some]
  cases hx : nm s with
  | none =>
    rw [Option.isSome_none]
    exact Ev.congr (fun k => if_neg (by decide)) (bad (made2_no (.inl hx)))
  | some x =>
    rw [Option.isSome_some]
    refine Ev.congr (fun k => if_pos rfl) (Ev.bind (secOk_ev t) ?_)
    cases hy : nm t with
    | none =>
      rw [Option.isSome_none]
      exact Ev.congr (fun k => if_neg (by decide)) (bad (made2_no (.inr hy)))
    | some y =>
      rw [Option.isSome_some]
      refine Ev.congr (fun k => if_pos rfl) ?_
      have zs := nm_size hx
      have zt := nm_size hy
      have ox := nm_ok hx
      have oy := nm_ok hy
      have oe : ∀ a b : Nm, a.ok = true → b.ok = true → (Nm.epoch a b).ok = true := fun a b ha hb => by simp [Nm.ok, ha, hb]
      have le : ∀ a b : Nm, (Nm.epoch a b).enc.length = a.enc.length + b.enc.length + 1 := fun a b => by simp [Nm.enc]
      have sum : wrap64 ((s.size : Int) + (t.size : Int)) = (s.size : Int) + (t.size : Int) := wz (by omega) (by omega)
      by_cases g : s.size + t.size < 300
      · refine Ev.congr (f := fun k => laws_FnMakEpoch.j0 k s t (made2 (T [101]) s t) false) (fun k => by rw [sum, decide_eq_false (by omega)]) ?_
        have v1 : made2 (T [101]) s t = T (Nm.epoch x y).enc := (made2_val hx hy).trans (cap_yes (by rw [le]; omega))
        have v2 : made2 (T [101]) t s = T (Nm.epoch y x).enc := (made2_val hy hx).trans (cap_yes (by rw [le]; omega))
        have n1 := nm_enc (oe x y ox oy) (by rw [le]; omega)
        refine Ev.step (f := fun k => (impl_MakEpoch.f k t s).bind fun t236 => some ((t236.toList == (T (Nm.epoch x y).enc).toList) == (s.toList == t.toList))) (fun k => ?_) ?_
        · rw [v1, laws_FnMakEpoch.j0, if_neg (by decide), implMade_some n1, Option.bind_some, if_pos]
          have a1 : T (Nm.epoch x y).fst = s := (nm_text hx).symm
          have a2 : T (Nm.epoch x y).snd = t := (nm_text hy).symm
          simp only [tells, a1, a2, Nm.op, Nm.who, Nm.num, beq_self_eq_true, Bool.and_self]
        · refine Ev.bind (ei t s) (Ev.of_eq fun k => ?_)
          rw [v2]
          congr 1
          rw [beq_iff_eq, Bool.eq_iff_iff, beq_iff_eq, beq_iff_eq, Th.toList_eq, Th.toList_eq, T_enc_inj (oe y x oy ox) (oe x y ox oy) (by rw [le]; omega) (by rw [le]; omega), nm_inj hx hy]
          constructor
          · exact fun h => (Nm.epoch.inj h).2
          · intro h
            rw [h]
      · refine Ev.congr (f := fun k => laws_FnMakEpoch.j0 k s t (made2 (T [101]) s t) true) (fun k => by rw [sum, decide_eq_true (by omega)]) ?_
        exact bad ((made2_val hx hy).trans (cap_no (by rw [le]; omega)))
end Go.Proofs.YtdcaipomjimplaaDoor.Pure
