/- Each says with its own: the law's plain statement. -/
import Derived.Test.YtdcaipomjimplaaDoorWaAllS
import Derived.Test.YtdcaipomjimplaaDoorWax20
namespace Go.Proofs.YtdcaipomjimplaaDoor.Pure
open Go.RowKit Go.Proofs.YtdcaipomjimplaaDoor Go.Proofs.YtdcaipomjimplaaDoor.Wa Go.Proofs.YtdcaipomjimplaaDoorW.PrintWords Go.Proofs.YtdcaipomjimplaaDoorW.PrintLast
open Go.Proofs.YtdcaipomjimplaaDoor.Th (T B Nm nm dec hd prsNum whole)

theorem drawSay_ev {l : List Int} (h : Bytes l) : ∃ s w, Ev (fun k => spec_DrawMakSay.f k l) (s, w) ∧ s.size ≤ 700 ∧ -1 ≤ w ∧ w ≤ 8 := by
  obtain ⟨b, e, R⟩ := open_any l h
  obtain ⟨s, q, es, hs, Rq⟩ := secretOr_ev R (by omega) 5 (by omega) (by omega)
  obtain ⟨r1, ⟨g1, h1⟩, e1⟩ := pick_ev Rq (by omega) 8 (by omega) (by omega)
  obtain ⟨r2, ⟨g2, h2⟩, e2⟩ := pick_ev Rq.next (by omega) 5 (by omega) (by omega)
  have go : ∀ w, (if 0 ≤ r2 then (if r2 < (([0, 0, 0, 1, 2] : List Int).length : Int) then (if 0 ≤ (rd [0, 0, 0, 1, 2] r2) then (if (rd [0, 0, 0, 1, 2] r2) < (([r1, (-1), 8] : List Int).length : Int) then (some (s, rd [r1, (-1), 8] (rd [0, 0, 0, 1, 2] r2))) else none) else none) else none) else none) = some (s, w) → Ev (fun k => spec_DrawMakSay.f k l) (s, w) := by
    intro w hw
    unfold spec_DrawMakSay.f
    refine Ev.congr (fun k => by rw [e, Option.bind_some]) (Ev.bind es ?_)
    refine Ev.bind e1 ?_
    refine Ev.congr (fun k => by rw [Option.bind_some, Option.bind_some]) (Ev.bind e2 (Ev.of_eq fun k => hw))
  have hc : r2 = 0 ∨ r2 = 1 ∨ r2 = 2 ∨ r2 = 3 ∨ r2 = 4 := by omega
  rcases hc with rfl | rfl | rfl | rfl | rfl
  · exact ⟨s, r1, go r1 rfl, hs, by omega, by omega⟩
  · exact ⟨s, r1, go r1 rfl, hs, by omega, by omega⟩
  · exact ⟨s, r1, go r1 rfl, hs, by omega, by omega⟩
  · exact ⟨s, -1, go _ rfl, hs, by omega, by omega⟩
  · exact ⟨s, 8, go _ rfl, hs, by omega, by omega⟩
theorem drawRoom_ev {l : List Int} (h : Bytes l) : ∃ s w, Ev (fun k => spec_DrawMakRoom.f k l) (s, w) ∧ s.size ≤ 700 ∧ 0 ≤ w ∧ w ≤ 10 := by
  obtain ⟨b, e, R⟩ := open_any l h
  obtain ⟨s, q, es, hs, Rq⟩ := secretOr_ev R (by omega) 5 (by omega) (by omega)
  obtain ⟨r1, ⟨g1, h1⟩, e1⟩ := pick_ev Rq (by omega) 9 (by omega) (by omega)
  obtain ⟨r2, ⟨g2, h2⟩, e2⟩ := pick_ev Rq.next (by omega) 5 (by omega) (by omega)
  have w1 : wrap64 (1 + r1) = 1 + r1 := wz (by omega) (by omega)
  have go : ∀ w, (if 0 ≤ r2 then (if r2 < (([0, 0, 0, 1, 2] : List Int).length : Int) then (if 0 ≤ (rd [0, 0, 0, 1, 2] r2) then (if (rd [0, 0, 0, 1, 2] r2) < (([wrap64 (1 + r1), 0, 10] : List Int).length : Int) then (some (s, rd [wrap64 (1 + r1), 0, 10] (rd [0, 0, 0, 1, 2] r2))) else none) else none) else none) else none) = some (s, w) → Ev (fun k => spec_DrawMakRoom.f k l) (s, w) := by
    intro w hw
    unfold spec_DrawMakRoom.f
    refine Ev.congr (fun k => by rw [e, Option.bind_some]) (Ev.bind es ?_)
    refine Ev.bind e1 ?_
    refine Ev.congr (fun k => by rw [Option.bind_some, Option.bind_some]) (Ev.bind e2 (Ev.of_eq fun k => hw))
  have hc : r2 = 0 ∨ r2 = 1 ∨ r2 = 2 ∨ r2 = 3 ∨ r2 = 4 := by omega
  rcases hc with rfl | rfl | rfl | rfl | rfl
  · exact ⟨s, 1 + r1, go _ (by rw [w1]; rfl), hs, by omega, by omega⟩
  · exact ⟨s, 1 + r1, go _ (by rw [w1]; rfl), hs, by omega, by omega⟩
  · exact ⟨s, 1 + r1, go _ (by rw [w1]; rfl), hs, by omega, by omega⟩
  · exact ⟨s, 0, go _ rfl, hs, by omega, by omega⟩
  · exact ⟨s, 10, go _ rfl, hs, by omega, by omega⟩
theorem sayI (s : ByteArray) (w : Int) : Ev (fun k => impl_MakSay.f k s w) (madeSay s w) := Ev.of (fun k => impl_MakSay.mono _ _ k) (implSay s w 0)
theorem roomI (s : ByteArray) (r : Int) : Ev (fun k => impl_MakRoom.f k s r) (madeRoom s r) := Ev.of (fun k => impl_MakRoom.mono _ _ k) (implRoom s r 0)
theorem say_cases (s : ByteArray) (w : Int) : madeSay s w = ⟨#[]⟩ ∨ ∃ a, nm s = some a ∧ 0 ≤ w ∧ w ≤ 7 ∧ (Nm.say w.toNat a).ok = true ∧ (Nm.say w.toNat a).enc.length ≤ 300 ∧ madeSay s w = T (Nm.say w.toNat a).enc := by
  unfold madeSay
  by_cases hw : 0 ≤ w ∧ w ≤ 7
  · rw [if_pos hw]
    cases hn : nm s with
    | none => exact .inl (made1_no hn)
    | some a =>
      have e := made1_val hn [109, 65 + w.toNat] (.say w.toNat a) rfl
      by_cases hl : (Nm.say w.toNat a).enc.length ≤ 300
      · refine .inr ⟨a, rfl, hw.1, hw.2, ?_, hl, e.trans (cap_yes hl)⟩
        simp only [Nm.ok, Bool.and_eq_true, decide_eq_true_eq]
        exact ⟨by omega, nm_ok hn⟩
      · exact .inl (e.trans (cap_no (by omega)))
  · rw [if_neg hw]
    exact .inl rfl
theorem room_cases (s : ByteArray) (w : Int) : madeRoom s w = ⟨#[]⟩ ∨ ∃ a, nm s = some a ∧ 1 ≤ w ∧ w ≤ 9 ∧ (Nm.room w.toNat a).ok = true ∧ (Nm.room w.toNat a).enc.length ≤ 300 ∧ madeRoom s w = T (Nm.room w.toNat a).enc := by
  unfold madeRoom
  by_cases hw : 1 ≤ w ∧ w ≤ 9
  · rw [if_pos hw]
    cases hn : nm s with
    | none => exact .inl (made1_no hn)
    | some a =>
      have e := made1_val hn [114, 48 + w.toNat] (.room w.toNat a) rfl
      by_cases hl : (Nm.room w.toNat a).enc.length ≤ 300
      · refine .inr ⟨a, rfl, hw.1, hw.2, ?_, hl, e.trans (cap_yes hl)⟩
        simp only [Nm.ok, Bool.and_eq_true, decide_eq_true_eq]
        exact ⟨⟨by omega, by omega⟩, nm_ok hn⟩
      · exact .inl (e.trans (cap_no (by omega)))
  · rw [if_neg hw]
    exact .inl rfl
theorem not_nil {f : Nm} : ¬ (T f.enc).toList = ([] : List UInt8) := fun h => T_enc_ne f (Th.toList_nil.1 h)
theorem say_end (s t : ByteArray) (w r : Int) : Ev (fun k => laws_FnMakSay.j3 k (madeSay s w) (madeRoom t r) false) true := by
  refine Ev.step (f := fun _ => some true) (fun k => ?_) (Ev.now _)
  rw [laws_FnMakSay.j3, if_neg (by decide)]
  by_cases h : (madeSay s w).toList = (madeRoom t r).toList
  · rw [if_pos h]
    have h' := Th.toList_eq.1 h
    rcases say_cases s w with e1 | ⟨a, _, _, _, ok1, l1, e1⟩
    · rw [e1, if_pos (Th.toList_nil.2 rfl), keOk_yes, Option.bind_some]
    · rcases room_cases t r with e2 | ⟨b, _, _, _, ok2, l2, e2⟩
      · rw [h', e2, if_pos (Th.toList_nil.2 rfl), keOk_yes, Option.bind_some]
      · rw [e1, e2] at h'
        exact Nm.noConfusion ((T_enc_inj ok1 ok2 l1 l2).1 h')
  · rw [if_neg h]
theorem room_part (s t : ByteArray) (w r : Int) (h0 : 0 ≤ r) (h1 : r ≤ 10) : Ev (fun k => laws_FnMakSay.j2 k t r (madeSay s w) (madeRoom t r) false) true := by
  rcases room_cases t r with e2 | ⟨b, hb, g0, g1, ok2, l2, e2⟩
  · refine Ev.step (f := fun k => laws_FnMakSay.j3 k (madeSay s w) (madeRoom t r) false) (fun k => ?_) (say_end s t w r)
    rw [laws_FnMakSay.j2, if_neg (by decide), if_pos (Th.toList_nil.2 e2)]
  · have ht : t = T b.enc := nm_text hb
    have er : ((r.toNat : Nat) : Int) = r := by omega
    have ne : ((madeRoom t (1 + r.tmod 9)).toList == (madeRoom t r).toList) = false := by
      rw [beq_eq_false_iff_ne]
      intro h
      have h' := Th.toList_eq.1 h
      rcases room_cases t (1 + r.tmod 9) with e3 | ⟨c, hc, u0, u1, ok3, l3, e3⟩
      · rw [e3, e2] at h'; exact T_enc_ne _ h'.symm
      · rw [e3, e2] at h'
        have := (Nm.room.inj ((T_enc_inj ok3 ok2 l3 l2).1 h')).1
        have e : r.tmod 9 = r % 9 := Int.tmod_eq_emod_of_nonneg h0
        omega
    have wr : wrap64 (1 + r.tmod 9) = 1 + r.tmod 9 := by
      have e : r.tmod 9 = r % 9 := Int.tmod_eq_emod_of_nonneg h0
      exact wz (by omega) (by omega)
    have fin := say_end s t w r
    refine Ev.step (f := fun k => (impl_MakRoom.f k t (1 + r.tmod 9)).bind fun z => laws_FnMakSay.j3 k (madeSay s w) (madeRoom t r) (z.toList == (madeRoom t r).toList)) (fun k => ?_) ?_
    · rw [laws_FnMakSay.j2, if_neg (by decide), if_neg (by rw [e2]; exact not_nil), implMade_some (a := .room r.toNat b) (by rw [e2]; exact nm_enc ok2 l2), Option.bind_some, if_neg (by simp [tells, Nm.op, Nm.who, Nm.num, Nm.fst, Nm.snd, ← ht, er, Th.toList_nil.2 nil_T]), wr]
    · refine Ev.bind (roomI t (1 + r.tmod 9)) ?_
      rw [ne]
      exact fin
theorem FnMakSay : laws_FnMakSay.Pure := by
  intro l l1 _ _ hw _ _ hw1
  refine Ev.rounds ?_
  have key : ∀ x : Bool, Ev (fun k => laws_FnMakSay.j0 k l l1 x) true := by
    intro c
    cases c with
    | true => exact Ev.step (f := fun _ => some true) (fun k => by rw [laws_FnMakSay.j0, if_pos rfl]) (Ev.now _)
    | false =>
      obtain ⟨s, w, es, hs, w0, w1⟩ := drawSay_ev (Bytes.of_wf hw)
      obtain ⟨t, r, et, ht, r0, r1⟩ := drawRoom_ev (Bytes.of_wf hw1)
      refine Ev.step (fun k => by rw [laws_FnMakSay.j0, if_neg (by decide)]) (Ev.bind es ?_)
      refine Ev.bind et ?_
      refine Ev.bind (sayI s w) (Ev.bind (roomI t r) (Ev.bind (specSay_ev s w (by omega)) ?_))
      refine Ev.congr (fun k => if_pos rfl) (Ev.bind (specRoom_ev t r (by omega)) ?_)
      rw [bne_self_eq_false]
      have fin := room_part s t w r r0 r1
      rcases say_cases s w with e1 | ⟨a, ha, g0, g1, ok1, l1', e1⟩
      · refine Ev.step (f := fun k => laws_FnMakSay.j2 k t r (madeSay s w) (madeRoom t r) false) (fun k => ?_) fin
        show laws_FnMakSay.j1 (k + 1) s w t r _ _ false = _
        rw [laws_FnMakSay.j1, if_neg (by decide), if_pos (Th.toList_nil.2 e1)]
      · have hs' : s = T a.enc := nm_text ha
        have er : ((w.toNat : Nat) : Int) = w := by omega
        have em : (w + 1).tmod 8 = (w + 1) % 8 := Int.tmod_eq_emod_of_nonneg (by omega)
        have ne : ((madeSay s ((w + 1).tmod 8)).toList == (madeSay s w).toList) = false := by
          rw [beq_eq_false_iff_ne]
          intro h
          have h' := Th.toList_eq.1 h
          rcases say_cases s ((w + 1).tmod 8) with e3 | ⟨c, hc, u0, u1, ok3, l3, e3⟩
          · rw [e3, e1] at h'; exact T_enc_ne _ h'.symm
          · rw [e3, e1] at h'
            have := (Nm.say.inj ((T_enc_inj ok3 ok1 l3 l1').1 h')).1
            omega
        refine Ev.step (f := fun k => (impl_MakSay.f k s ((w + 1).tmod 8)).bind fun z => laws_FnMakSay.j2 k t r (madeSay s w) (madeRoom t r) (z.toList == (madeSay s w).toList)) (fun k => ?_) ?_
        · show laws_FnMakSay.j1 (k + 1) s w t r _ _ false = _
          rw [laws_FnMakSay.j1, if_neg (by decide), if_neg (by rw [e1]; exact not_nil), implMade_some (a := .say w.toNat a) (by rw [e1]; exact nm_enc ok1 l1'), Option.bind_some, if_neg (by simp [tells, Nm.op, Nm.who, Nm.num, Nm.fst, Nm.snd, ← hs', er, Th.toList_nil.2 nil_T]), wz (x := w + 1) (by omega) (by omega)]
        · refine Ev.bind (sayI s _) ?_
          rw [ne]
          exact fin
  unfold laws_FnMakSay.f
  by_cases hb : (l.length : Int) > 1048576
  · exact Ev.congr (fun k => if_pos hb) (key true)
  · exact Ev.congr (fun k => if_neg hb) (key _)
end Go.Proofs.YtdcaipomjimplaaDoor.Pure
