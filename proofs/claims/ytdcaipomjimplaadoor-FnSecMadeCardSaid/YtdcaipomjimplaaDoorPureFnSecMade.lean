/- How a secret was made makes it: the law's plain statement. -/
import Derived.Test.YtdcaipomjimplaaDoorWaAllS
import Derived.Test.YtdcaipomjimplaaDoorWax24
namespace Go.Proofs.YtdcaipomjimplaaDoor.Pure
open Go.RowKit Go.Proofs.YtdcaipomjimplaaDoor Go.Proofs.YtdcaipomjimplaaDoor.Wa Go.Proofs.YtdcaipomjimplaaDoorW.PrintWords Go.Proofs.YtdcaipomjimplaaDoorW.PrintLast
open Go.Proofs.YtdcaipomjimplaaDoor.Th (T B Nm nm dec hd prsNum whole)

theorem drawMade_ev {l : List Int} (h : Bytes l) : ∃ s, Ev (fun k => spec_DrawSecMade.f k l) s ∧ s.size ≤ 700 := by
  obtain ⟨b, e, R⟩ := open_any l h
  obtain ⟨s, q, es, hs, Rq⟩ := secretOr_ev R (by omega) 5 (by omega) (by omega)
  refine ⟨s, ?_, hs⟩
  unfold spec_DrawSecMade.f
  exact Ev.congr (fun k => by rw [e, Option.bind_some]) (Ev.bind es (Ev.now _))
theorem impl_new {w n : Nat} (h : (Nm.new w n).ok = true) (k : Nat) : impl_MakNew.f (k + 1) (w : Int) (n : Int) = some (T (Nm.new w n).enc) := by
  simp only [Nm.ok, Bool.and_eq_true, decide_eq_true_eq] at h
  have hi : strconv_Itoa.f (n : Int) = some (T (dec n)) := by
    have : ∀ n : Fin 100, strconv_Itoa.f ((n.1 : Nat) : Int) = some (T (dec n.1)) := by decide +kernel
    exact this ⟨n, by omega⟩
  have := dec_two n
  unfold impl_MakNew.f
  rw [isOne_any, Option.bind_some, decide_eq_true (by omega), if_pos rfl, in_any', Option.bind_some, decide_eq_true (by omega), impl_MakNew.j0, if_neg (by decide), letter_T w h.1.1, Option.bind_some, hi, Option.bind_some]
  rw [if_pos (by rw [Th.T_size, Th.T_size, List.length_singleton]; omega), if_pos (by rw [ByteArray.size_append, Th.T_size, Th.T_size, List.length_singleton]; omega), show (⟨#[59]⟩ : ByteArray) = T [59] from rfl, ← T_app, ← T_app]
  rfl
theorem FnSecMade : laws_FnSecMade.Pure := by
  intro l _ _ hw
  refine Ev.rounds ?_
  unfold laws_FnSecMade.f
  by_cases hb : (l.length : Int) > 1048576
  · exact Ev.of_eq fun k => if_pos hb
  refine Ev.congr (fun k => if_neg hb) ?_
  obtain ⟨s, e, hs⟩ := drawMade_ev (Bytes.of_wf hw)
  refine Ev.bind e ?_
  refine Ev.congr (fun k => by rw [implMade, Option.bind_some]) (Ev.bind (secMade_ev s) ?_)
  refine Ev.congr (fun k => by rw [if_neg (by simp), impl_SecOk.f, Option.bind_some]) (Ev.bind (secOk_ev s) ?_)
  rw [bne_self_eq_false]
  refine Ev.step (fun k => by rw [laws_FnSecMade.j0, if_neg (by decide)]) (Ev.bind (secOk_ev s) ?_)
  cases hn : nm s with
  | none =>
    refine Ev.of_eq fun k => ?_
    rw [Option.isSome_none, if_neg (by decide), if_pos (by simp), keOk_yes, Option.bind_some]
  | some a =>
    have ha := nm_ok hn
    have hz := nm_size hn
    have h3 := (Th.nm_some.1 hn).2.1
    rw [Option.isSome_some]
    refine Ev.congr (fun k => if_pos rfl) ?_
    have fit : cap (T a.enc) = s := by rw [cap_yes (by omega), ← nm_text hn]
    cases a with
    | new w n =>
      dsimp only
      refine Ev.congr (fun k => if_pos (by simp [tells, Nm.op])) (Ev.bind (Ev.of (fun k => impl_MakNew.mono _ _ k) (impl_new ha 0)) (Ev.of_eq fun k => ?_))
      rw [← nm_text hn, beq_self_eq_true]
    | next a =>
      dsimp only
      have na : nm (T a.enc) = some a := nm_enc ha (by simp only [Nm.enc, List.length_cons] at hz; omega)
      refine Ev.congr (fun k => by rw [if_neg (by simp [tells, Nm.op]), if_pos (by simp [tells, Nm.op])]) (Ev.bind (Ev.of (fun k => impl_MakNext.mono _ k) (implNext _ 0)) (Ev.of_eq fun k => ?_))
      simp only [tells, Nm.fst, Nm.snd, Nm.who, Nm.num]
      rw [made1_val na [110] (.next a) rfl, fit, beq_self_eq_true]
    | key a =>
      dsimp only
      have na : nm (T a.enc) = some a := nm_enc ha (by simp only [Nm.enc, List.length_cons] at hz; omega)
      refine Ev.congr (fun k => by rw [if_neg (by simp [tells, Nm.op]), if_neg (by simp [tells, Nm.op]), if_pos (by simp [tells, Nm.op])]) (Ev.bind (Ev.of (fun k => impl_MakKey.mono _ k) (implKey _ 0)) (Ev.of_eq fun k => ?_))
      simp only [tells, Nm.fst, Nm.snd, Nm.who, Nm.num]
      rw [made1_val na [107] (.key a) rfl, fit, beq_self_eq_true]
    | epoch a b =>
      dsimp only
      simp only [Nm.ok, Bool.and_eq_true] at ha
      simp only [Nm.enc, List.length_cons, List.length_append] at hz
      have na : nm (T a.enc) = some a := nm_enc ha.1 (by omega)
      have nb : nm (T b.enc) = some b := nm_enc ha.2 (by omega)
      refine Ev.congr (fun k => by rw [if_neg (by simp [tells, Nm.op]), if_neg (by simp [tells, Nm.op]), if_neg (by simp [tells, Nm.op]), if_pos (by simp [tells, Nm.op])]) (Ev.bind (Ev.of (fun k => impl_MakEpoch.mono _ _ k) (implEpoch _ _ 0)) (Ev.of_eq fun k => ?_))
      simp only [tells, Nm.fst, Nm.snd, Nm.who, Nm.num]
      rw [made2_val na nb, fit, beq_self_eq_true]
    | say w a =>
      dsimp only
      simp only [Nm.ok, Bool.and_eq_true, decide_eq_true_eq] at ha
      simp only [Nm.enc, List.length_cons] at hz
      have na : nm (T a.enc) = some a := nm_enc ha.2 (by omega)
      refine Ev.congr (fun k => by rw [if_neg (by simp [tells, Nm.op]), if_neg (by simp [tells, Nm.op]), if_neg (by simp [tells, Nm.op]), if_neg (by simp [tells, Nm.op]), if_pos (by simp [tells, Nm.op])]) (Ev.bind (Ev.of (fun k => impl_MakSay.mono _ _ k) (implSay _ _ 0)) (Ev.of_eq fun k => ?_))
      simp only [tells, Nm.fst, Nm.snd, Nm.who, Nm.num]
      rw [show madeSay (T a.enc) (w : Int) = made1 (T [109, 65 + w]) (T a.enc) from if_pos (by omega), made1_val na [109, 65 + w] (.say w a) rfl, fit, beq_self_eq_true]
    | room r a =>
      dsimp only
      simp only [Nm.ok, Bool.and_eq_true, decide_eq_true_eq] at ha
      simp only [Nm.enc, List.length_cons] at hz
      have na : nm (T a.enc) = some a := nm_enc ha.2 (by omega)
      refine Ev.congr (fun k => by rw [if_neg (by simp [tells, Nm.op]), if_neg (by simp [tells, Nm.op]), if_neg (by simp [tells, Nm.op]), if_neg (by simp [tells, Nm.op]), if_neg (by simp [tells, Nm.op]), if_pos (by simp [tells, Nm.op])]) (Ev.bind (Ev.of (fun k => impl_MakRoom.mono _ _ k) (implRoom _ _ 0)) (Ev.of_eq fun k => ?_))
      simp only [tells, Nm.fst, Nm.snd, Nm.who, Nm.num]
      rw [show madeRoom (T a.enc) (r : Int) = made1 (T [114, 48 + r]) (T a.enc) from if_pos (by omega), made1_val na [114, 48 + r] (.room r a) rfl, fit, beq_self_eq_true]
end Go.Proofs.YtdcaipomjimplaaDoor.Pure
