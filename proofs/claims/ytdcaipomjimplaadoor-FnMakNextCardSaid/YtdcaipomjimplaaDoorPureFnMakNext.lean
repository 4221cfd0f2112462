/- What is made from a secret tells how: the law's plain statement. -/
import Derived.Test.YtdcaipomjimplaaDoorWaAllS
import Derived.Test.YtdcaipomjimplaaDoorWax16
namespace Go.Proofs.YtdcaipomjimplaaDoor.Pure
open Go.RowKit Go.Proofs.YtdcaipomjimplaaDoor Go.Proofs.YtdcaipomjimplaaDoor.Wa Go.Proofs.YtdcaipomjimplaaDoorW.PrintWords Go.Proofs.YtdcaipomjimplaaDoorW.PrintLast
open Go.Proofs.YtdcaipomjimplaaDoor.Th (T B Nm nm dec hd prsNum whole)

theorem drawNext_ev {l : List Int} (h : Bytes l) : ∃ s, Ev (fun k => spec_DrawMakNext.f k l) s ∧ s.size ≤ 700 := by
  obtain ⟨b, e, R⟩ := open_any l h
  obtain ⟨s, q, es, hs, Rq⟩ := secretOr_ev R (by omega) 4 (by omega) (by omega)
  refine ⟨s, ?_, hs⟩
  unfold spec_DrawMakNext.f
  exact Ev.congr (fun k => by rw [e, Option.bind_some]) (Ev.bind es (Ev.now _))
theorem drawKey_ev {l : List Int} (h : Bytes l) : ∃ s, Ev (fun k => spec_DrawMakKey.f k l) s ∧ s.size ≤ 700 := by
  obtain ⟨b, e, R⟩ := open_any l h
  obtain ⟨s, q, es, hs, Rq⟩ := secretOr_ev R (by omega) 4 (by omega) (by omega)
  refine ⟨s, ?_, hs⟩
  unfold spec_DrawMakKey.f
  exact Ev.congr (fun k => by rw [e, Option.bind_some]) (Ev.bind es (Ev.now _))
theorem nextI (s : ByteArray) : Ev (fun k => impl_MakNext.f k s) (made1 (T [110]) s) := Ev.of (fun k => impl_MakNext.mono _ k) (implNext s 0)
theorem keyI (s : ByteArray) : Ev (fun k => impl_MakKey.f k s) (made1 (T [107]) s) := Ev.of (fun k => impl_MakKey.mono _ k) (implKey s 0)
theorem next_bad {s t x : ByteArray} (h : x = ⟨#[]⟩) (h2 : made1 (T [107]) s = ⟨#[]⟩) : Ev (fun k => laws_FnMakNext.j2 k s t x true) true := by
  refine Ev.step (fun k => by rw [laws_FnMakNext.j2, if_pos rfl, if_pos (Th.toList_nil.2 h)]) (Ev.bind (keyI s) (Ev.of_eq fun k => ?_))
  rw [if_pos (Th.toList_nil.2 h2), keOk_yes, Option.bind_some]
theorem FnMakNext : laws_FnMakNext.Pure := by
  intro l l1 _ _ hw _ _ hw1
  refine Ev.rounds ?_
  have key : ∀ x : Bool, Ev (fun k => laws_FnMakNext.j0 k l l1 x) true := by
    intro c
    cases c with
    | true => exact Ev.step (f := fun _ => some true) (fun k => by rw [laws_FnMakNext.j0, if_pos rfl]) (Ev.now _)
    | false =>
      obtain ⟨s, es, hs⟩ := drawNext_ev (Bytes.of_wf hw)
      obtain ⟨t, et, ht⟩ := drawKey_ev (Bytes.of_wf hw1)
      refine Ev.step (fun k => by rw [laws_FnMakNext.j0, if_neg (by decide)]) (Ev.bind es (Ev.bind et (Ev.bind (nextI s) (Ev.bind (keyI t) (Ev.bind (specNext_ev s (by omega)) ?_)))))
      refine Ev.congr (fun k => if_pos rfl) (Ev.bind (specKey_ev t (by omega)) ?_)
      refine Ev.congr (fun k => if_pos rfl) (Ev.bind (keyI s) (Ev.bind (specKey_ev s (by omega)) ?_))
      rw [bne_self_eq_false]
      refine Ev.step (fun k => by rw [laws_FnMakNext.j1, if_neg (by decide)]) (Ev.bind (secOk_ev s) ?_)
      cases hn : nm s with
      | none =>
        rw [Option.isSome_none]
        exact Ev.congr (fun k => if_neg (by decide)) (next_bad (made1_no hn) (made1_no hn))
      | some a =>
        rw [Option.isSome_some]
        refine Ev.congr (fun k => if_pos rfl) ?_
        have ha := nm_ok hn
        have hz := nm_size hn
        have okn : (Nm.next a).ok = true := ha
        have okk : (Nm.key a).ok = true := ha
        have ln : (Nm.next a).enc.length = a.enc.length + 1 := rfl
        have lk : (Nm.key a).enc.length = a.enc.length + 1 := rfl
        by_cases g : s.size < 300
        · refine Ev.congr (f := fun k => laws_FnMakNext.j2 k s t (made1 (T [110]) s) false) (fun k => by rw [decide_eq_false (by omega)]) ?_
          have v1 : made1 (T [110]) s = T (Nm.next a).enc := (made1_val hn [110] (.next a) rfl).trans (cap_yes (by omega))
          have v2 : made1 (T [107]) s = T (Nm.key a).enc := (made1_val hn [107] (.key a) rfl).trans (cap_yes (by omega))
          have n1 := nm_enc okn (by omega)
          have n2 := nm_enc okk (by omega)
          have hfst : s = T a.enc := nm_text hn
          have kI : Ev (fun k => impl_MakKey.f k s) (T (Nm.key a).enc) := by have := keyI s; rwa [v2] at this
          rw [v1]
          refine Ev.step (fun k => by rw [laws_FnMakNext.j2, if_neg (by decide), implMade_some n1, Option.bind_some]) (Ev.bind kI ?_)
          refine Ev.congr (fun k => by rw [implMade_some n2, Option.bind_some, if_neg (by simp [tells, Nm.op, Nm.who, Nm.num, Nm.fst, Nm.snd, hfst, Th.toList_nil.2 nil_T]), if_neg (by simp [tells, Nm.op, Nm.who, Nm.num, Nm.fst, Nm.snd, hfst, Th.toList_nil.2 nil_T])]) (Ev.bind kI ?_)
          have d : ((T (Nm.next a).enc).toList == (T (Nm.key a).enc).toList) = false := by
            rw [beq_eq_false_iff_ne]
            intro h
            have := (T_enc_inj okn okk (by omega) (by omega)).1 (Th.toList_eq.1 h)
            exact Nm.noConfusion this
          rw [d]
          refine Ev.step (fun k => by rw [laws_FnMakNext.j3, if_neg (by decide)]) (Ev.bind (secOk_ev t) ?_)
          cases hm : nm t with
          | none => rw [Option.isSome_none]; exact Ev.of_eq fun k => if_neg (by decide)
          | some b =>
            rw [Option.isSome_some]
            refine Ev.congr (fun k => if_pos rfl) (Ev.bind (nextI t) (Ev.of_eq fun k => ?_))
            have hb := nm_ok hm
            have hzb := nm_size hm
            have okb : (Nm.next b).ok = true := hb
            have lb : (Nm.next b).enc.length = b.enc.length + 1 := rfl
            congr 1
            rw [made1_val hm [110] (.next b) rfl, beq_iff_eq, Bool.eq_iff_iff, beq_iff_eq, beq_iff_eq, Th.toList_eq, Th.toList_eq]
            by_cases gb : t.size < 300
            · rw [cap_yes (by omega), T_enc_inj okb okn (by omega) (by omega), nm_inj hn hm]
              constructor
              · intro h; injection h with h; exact h.symm
              · rintro rfl; rfl
            · rw [cap_no (by omega)]
              constructor
              · intro h; exact absurd h.symm (T_enc_ne _)
              · rintro rfl; omega
        · refine Ev.congr (f := fun k => laws_FnMakNext.j2 k s t (made1 (T [110]) s) true) (fun k => by rw [decide_eq_true (by omega)]) ?_
          exact next_bad ((made1_val hn [110] (.next a) rfl).trans (cap_no (by omega))) ((made1_val hn [107] (.key a) rfl).trans (cap_no (by omega)))
  unfold laws_FnMakNext.f
  by_cases hb : (l.length : Int) > 1048576
  · exact Ev.congr (fun k => if_pos hb) (key true)
  · exact Ev.congr (fun k => if_neg hb) (key _)
end Go.Proofs.YtdcaipomjimplaaDoor.Pure
