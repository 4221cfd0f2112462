/- What a secret was made from is shorter: the law's plain statement. -/
import Derived.Test.YtdcaipomjimplaaDoorWaAllS
import Derived.Test.YtdcaipomjimplaaDoorWax25
namespace Go.Proofs.YtdcaipomjimplaaDoor.Pure
open Go.RowKit Go.Proofs.YtdcaipomjimplaaDoor Go.Proofs.YtdcaipomjimplaaDoor.Wa Go.Proofs.YtdcaipomjimplaaDoorW.PrintWords Go.Proofs.YtdcaipomjimplaaDoorW.PrintLast
open Go.Proofs.YtdcaipomjimplaaDoor.Th (T B Nm nm dec hd prsNum whole)

theorem drawMade_ev {l : List Int} (h : Bytes l) : ∃ s, Ev (fun k => spec_DrawSecMade.f k l) s ∧ s.size ≤ 700 := by
  obtain ⟨b, e, R⟩ := open_any l h
  obtain ⟨s, q, es, hs, Rq⟩ := secretOr_ev R (by omega) 5 (by omega) (by omega)
  refine ⟨s, ?_, hs⟩
  unfold spec_DrawSecMade.f
  exact Ev.congr (fun k => by rw [e, Option.bind_some]) (Ev.bind es (Ev.now _))
theorem empty_ne : ((⟨#[]⟩ : ByteArray).toList != ([] : List UInt8)) = false := by rw [Th.toList_nil.2 rfl]; rfl
theorem enc_list_ne (f : Nm) : ((T f.enc).toList != ([] : List UInt8)) = true := by
  rw [bne, Bool.not_eq_true', beq_eq_false_iff_ne]
  exact fun h => T_enc_ne f (Th.toList_nil.1 h)
theorem parts_one (s : ByteArray) (op who n : Int) (a : Nm) (na : nm (T a.enc) = some a) (hl : (T a.enc).size < s.size) (h4 : (op == 4) = false) : Ev (fun k => laws_FnSecParts.j0 k s false op who n (T a.enc) ⟨#[]⟩) true := by
  refine Ev.step (f := fun k => laws_FnSecParts.j1 k s false op who n (T a.enc) ⟨#[]⟩) (fun k => ?_) (Ev.step (f := fun _ => some true) (fun k => by rw [laws_FnSecParts.j1, if_neg (by decide), if_pos (Th.toList_nil.2 rfl)]) (Ev.now _))
  rw [laws_FnSecParts.j0, if_neg (by decide), impl_SecOk.f, na, Option.bind_some, Option.isSome_some, if_pos rfl, if_neg (by omega), h4, empty_ne]
  rfl
theorem FnSecParts : laws_FnSecParts.Pure := by
  intro l _ _ hw
  refine Ev.rounds ?_
  unfold laws_FnSecParts.f
  by_cases hb : (l.length : Int) > 1048576
  · exact Ev.of_eq fun k => if_pos hb
  refine Ev.congr (fun k => if_neg hb) ?_
  obtain ⟨s, e, hs⟩ := drawMade_ev (Bytes.of_wf hw)
  refine Ev.bind e ?_
  refine Ev.congr (fun k => by rw [implMade, Option.bind_some]) (Ev.bind (secMade_ev s) ?_)
  refine Ev.congr (fun k => by rw [if_neg (by simp)]) (Ev.bind (secOk_ev s) ?_)
  cases hn : nm s with
  | none =>
    refine Ev.congr (fun k => by rw [Option.isSome_none, if_neg (by decide)]) ?_
    refine Ev.step (f := fun _ => some true) (fun k => ?_) (Ev.now _)
    rw [laws_FnSecParts.j0, if_pos rfl, if_pos (Th.toList_nil.2 rfl), if_pos (Th.toList_nil.2 rfl), keOk_yes, Option.bind_some]
  | some a =>
    have ha := nm_ok hn
    have hz := nm_size hn
    have h3 := (Th.nm_some.1 hn).2.1
    rw [Option.isSome_some]
    refine Ev.congr (fun k => if_pos rfl) ?_
    cases a with
    | new w n =>
      refine Ev.step (f := fun _ => some true) (fun k => ?_) (Ev.now _)
      show laws_FnSecParts.j0 (k + 1) s true _ _ _ ⟨#[]⟩ ⟨#[]⟩ = _
      rw [laws_FnSecParts.j0, if_pos rfl, if_pos (Th.toList_nil.2 rfl), if_pos (Th.toList_nil.2 rfl), keOk_yes, Option.bind_some]
    | next a =>
      simp only [Nm.enc, List.length_cons] at hz
      exact parts_one s 2 0 0 a (nm_enc ha (by omega)) (by rw [Th.T_size]; omega) rfl
    | key a =>
      simp only [Nm.enc, List.length_cons] at hz
      exact parts_one s 3 0 0 a (nm_enc ha (by omega)) (by rw [Th.T_size]; omega) rfl
    | epoch a b =>
      simp only [Nm.ok, Bool.and_eq_true] at ha
      simp only [Nm.enc, List.length_cons, List.length_append] at hz
      have na : nm (T a.enc) = some a := nm_enc ha.1 (by omega)
      have nb : nm (T b.enc) = some b := nm_enc ha.2 (by omega)
      refine Ev.step (f := fun k => laws_FnSecParts.j1 k s false 4 0 0 (T a.enc) (T b.enc)) (fun k => ?_) (Ev.step (f := fun _ => some true) (fun k => ?_) (Ev.now _))
      · show laws_FnSecParts.j0 (k + 1) s false 4 0 0 (T a.enc) (T b.enc) = _
        rw [laws_FnSecParts.j0, if_neg (by decide), impl_SecOk.f, na, Option.bind_some, Option.isSome_some, if_pos rfl, if_neg (by rw [Th.T_size]; omega), enc_list_ne]
        rfl
      · rw [laws_FnSecParts.j1, if_neg (by decide), if_neg (fun h => T_enc_ne b (Th.toList_nil.1 h)), impl_SecOk.f, nb, Option.bind_some, Option.isSome_some, if_pos rfl, wz (by rw [Th.T_size, Th.T_size]; omega) (by rw [Th.T_size, Th.T_size]; omega), wz (by omega) (by omega)]
        congr 1
        rw [beq_iff_eq, Th.T_size, Th.T_size]
        omega
    | say w a =>
      simp only [Nm.ok, Bool.and_eq_true, decide_eq_true_eq] at ha
      simp only [Nm.enc, List.length_cons] at hz
      exact parts_one s 5 w 0 a (nm_enc ha.2 (by omega)) (by rw [Th.T_size]; omega) rfl
    | room r a =>
      simp only [Nm.ok, Bool.and_eq_true, decide_eq_true_eq] at ha
      simp only [Nm.enc, List.length_cons] at hz
      exact parts_one s 6 0 r a (nm_enc ha.2 (by omega)) (by rw [Th.T_size]; omega) rfl
end Go.Proofs.YtdcaipomjimplaaDoor.Pure
