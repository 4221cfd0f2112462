/- In no two ways is one secret made: the law's plain statement. -/
import Derived.Test.YtdcaipomjimplaaDoorWaAllS
import Derived.Test.YtdcaipomjimplaaDoorWax27
namespace Go.Proofs.YtdcaipomjimplaaDoor.Pure
open Go.RowKit Go.Proofs.YtdcaipomjimplaaDoor Go.Proofs.YtdcaipomjimplaaDoor.Wa Go.Proofs.YtdcaipomjimplaaDoorW.PrintWords Go.Proofs.YtdcaipomjimplaaDoorW.PrintLast
open Go.Proofs.YtdcaipomjimplaaDoor.Th (T B Nm nm dec hd prsNum whole)

theorem drawNext_ev {l : List Int} (h : Bytes l) : ∃ s, Ev (fun k => spec_DrawMakNext.f k l) s ∧ s.size ≤ 700 := by
  obtain ⟨b, e, R⟩ := open_any l h
  obtain ⟨s, q, es, hs, Rq⟩ := secretOr_ev R (by omega) 4 (by omega) (by omega)
  refine ⟨s, ?_, hs⟩
  unfold spec_DrawMakNext.f
  exact Ev.congr (fun k => by rw [e, Option.bind_some]) (Ev.bind es (Ev.now _))
/-- A text among texts. -/
def isIn (l : List ByteArray) (s : ByteArray) : Bool := l.any fun x => x.toList == s.toList
theorem isIn_no {l : List ByteArray} {s : ByteArray} (h : s ∉ l) : isIn l s = false := by
  unfold isIn
  rw [List.any_eq_false]
  intro x hx
  rw [beq_iff_eq, Th.toList_eq]
  rintro rfl
  exact h hx
theorem rdOf_at {l : List ByteArray} {i : Nat} (h : i < l.length) : rdOf ByteArray.empty l (i : Int) = l[i] := by
  unfold rdOf
  rw [Int.toNat_natCast, List.getD_eq_getElem?_getD, List.getElem?_eq_getElem h]
  rfl
theorem has_ev (l : List ByteArray) (s : ByteArray) (hl : l.length ≤ 1000) : ∀ (d i : Nat), l.length - i ≤ d → i ≤ l.length → Ev (fun k => laws_keHas.l0 k l s (i : Int)) (isIn (l.drop i) s) := by
  intro d
  induction d with
  | zero =>
    intro i h0 h1
    refine Ev.step (f := fun _ => some false) (fun k => by rw [laws_keHas.l0, if_neg (by omega)]) ?_
    rw [List.drop_eq_nil_of_le (by omega)]
    exact Ev.now _
  | succ d ih =>
    intro i h0 h1
    by_cases h : i < l.length
    · have hd : l.drop i = l[i] :: l.drop (i + 1) := List.drop_eq_getElem_cons h
      by_cases he : (l[i]).toList = s.toList
      · refine Ev.step (f := fun _ => some true) (fun k => by rw [laws_keHas.l0, if_pos (by omega), if_pos (by omega), rdOf_at h, if_pos he]) ?_
        rw [hd]
        unfold isIn
        rw [List.any_cons, beq_iff_eq.2 he, Bool.true_or]
        exact Ev.now _
      · have := ih (i + 1) (by omega) (by omega)
        refine Ev.step (f := fun k => laws_keHas.l0 k l s ((i + 1 : Nat) : Int)) (fun k => by rw [laws_keHas.l0, if_pos (by omega), if_pos (by omega), rdOf_at h, if_neg he, wz (by omega) (by omega)]; rfl) ?_
        rw [hd]
        unfold isIn
        rw [List.any_cons, beq_eq_false_iff_ne.2 he, Bool.false_or]
        exact this
    · refine Ev.step (f := fun _ => some false) (fun k => by rw [laws_keHas.l0, if_neg (by omega)]) ?_
      rw [List.drop_eq_nil_of_le (by omega)]
      exact Ev.now _
theorem apart_ev (l : List ByteArray) (hl : l.length ≤ 1000) (hn : l.Nodup) (ho : ∀ x ∈ l, (nm x).isSome = true) : ∀ (d i : Nat), l.length - i ≤ d → i ≤ l.length → Ev (fun k => laws_FnSecApart.l2 k l (i : Int)) true := by
  intro d
  induction d with
  | zero =>
    intro i h0 h1
    exact Ev.step (f := fun _ => some true) (fun k => by rw [laws_FnSecApart.l2, if_neg (by omega)]) (Ev.now _)
  | succ d ih =>
    intro i h0 h1
    by_cases h : i < l.length
    · have e := has_ev (l.take i) l[i] (by rw [List.length_take]; omega) (l.take i).length 0 (by omega) (by omega)
      have hno : isIn ((l.take i).drop 0) l[i] = false := by
        refine isIn_no ?_
        rw [List.drop_zero]
        intro hm
        obtain ⟨j, hj, he⟩ := List.getElem_of_mem hm
        rw [List.length_take] at hj
        rw [List.getElem_take] at he
        exact List.pairwise_iff_getElem.1 hn j i (by omega) h (by omega) he
      rw [hno] at e
      refine Ev.step (f := fun k => (laws_keHas.f k (l.take i) l[i]).bind fun t => if t = true then some false else laws_FnSecApart.l2 k l ((i + 1 : Nat) : Int)) (fun k => ?_) ?_
      · rw [laws_FnSecApart.l2, if_pos (by omega), if_pos (by omega), rdOf_at h, impl_SecOk.f, ho _ (List.getElem_mem h), Option.bind_some, if_pos rfl, if_pos (by omega), Int.toNat_natCast, wz (by omega) (by omega)]
        rfl
      · refine Ev.bind (show Ev (fun k => laws_keHas.f k (l.take i) l[i]) false from e) ?_
        exact Ev.congr (fun k => if_neg (by decide)) (ih (i + 1) (by omega) (by omega))
    · exact Ev.step (f := fun _ => some true) (fun k => by rw [laws_FnSecApart.l2, if_neg (by omega)]) (Ev.now _)
theorem rooms_ev (s : ByteArray) : ∀ (d i : Nat) (l : List ByteArray), 10 - i ≤ d → 1 ≤ i → i ≤ 10 → l.length ≤ 50 + i → (∀ r, Ev (fun k => laws_FnSecApart.l2 k (l ++ (List.range' i (10 - i)).map (fun (j : Nat) => madeRoom s (j : Int))) 0) r → Ev (fun k => laws_FnSecApart.l1 k s l (i : Int)) r) := by
  intro d
  induction d with
  | zero =>
    intro i l h0 h1 h2 hl r hr
    have : i = 10 := by omega
    subst this
    refine Ev.step (fun k => by rw [laws_FnSecApart.l1, if_neg (by omega)]) ?_
    simpa using hr
  | succ d ih =>
    intro i l h0 h1 h2 hl r hr
    by_cases h : i ≤ 9
    · refine Ev.step (fun k => by rw [laws_FnSecApart.l1, if_pos (by omega)]) (Ev.bind (Ev.of (fun k => impl_MakRoom.mono _ _ k) (implRoom s i 0)) ?_)
      refine Ev.congr (f := fun k => laws_FnSecApart.l1 k s (l ++ [madeRoom s i]) ((i + 1 : Nat) : Int)) (fun k => by rw [if_pos (by omega), wz (by omega) (by omega)]; rfl) (ih (i + 1) _ (by omega) (by omega) (by omega) (by simp; omega) r ?_)
      rw [show 10 - i = (10 - (i + 1)) + 1 by omega, List.range'_succ] at hr
      simpa using hr
    · have : i = 10 := by omega
      subst this
      refine Ev.step (fun k => by rw [laws_FnSecApart.l1, if_neg (by omega)]) ?_
      simpa using hr
theorem says_ev (s : ByteArray) : ∀ (d i : Nat) (l : List ByteArray), 8 - i ≤ d → i ≤ 8 → l.length ≤ 10 + i → (∀ r, Ev (fun k => laws_FnSecApart.l2 k ((l ++ (List.range' i (8 - i)).map (fun (j : Nat) => madeSay s (j : Int))) ++ (List.range' 1 9).map (fun (j : Nat) => madeRoom s (j : Int))) 0) r → Ev (fun k => laws_FnSecApart.l0 k s l (i : Int)) r) := by
  intro d
  induction d with
  | zero =>
    intro i l h0 h2 hl r hr
    have : i = 8 := by omega
    subst this
    refine Ev.step (f := fun k => laws_FnSecApart.l1 k s l ((1 : Nat) : Int)) (fun k => by rw [laws_FnSecApart.l0, if_neg (by omega)]; rfl) (rooms_ev s 9 1 l (by omega) (by omega) (by omega) (by omega) r ?_)
    simpa using hr
  | succ d ih =>
    intro i l h0 h2 hl r hr
    by_cases h : i < 8
    · refine Ev.step (fun k => by rw [laws_FnSecApart.l0, if_pos (by omega)]) (Ev.bind (Ev.of (fun k => impl_MakSay.mono _ _ k) (implSay s i 0)) ?_)
      refine Ev.congr (f := fun k => laws_FnSecApart.l0 k s (l ++ [madeSay s i]) ((i + 1 : Nat) : Int)) (fun k => by rw [if_pos (by omega), wz (by omega) (by omega)]; rfl) (ih (i + 1) _ (by omega) (by omega) (by simp; omega) r ?_)
      rw [show 8 - i = (8 - (i + 1)) + 1 by omega, List.range'_succ] at hr
      simpa using hr
    · have : i = 8 := by omega
      subst this
      refine Ev.step (f := fun k => laws_FnSecApart.l1 k s l ((1 : Nat) : Int)) (fun k => by rw [laws_FnSecApart.l0, if_neg (by omega)]; rfl) (rooms_ev s 9 1 l (by omega) (by omega) (by omega) (by omega) r ?_)
      simpa using hr
/-- What is made from a name, in all ways. -/
def ways (a : Nm) : List Nm := ([a, .next a, .key a, .epoch a a] ++ (List.range' 0 8).map (fun j => .say j a)) ++ (List.range' 1 9).map (fun j => .room j a)
theorem ways_ok {a : Nm} (ha : a.ok = true) (hl : a.enc.length ≤ 140) : ∀ x ∈ ways a, x.ok = true ∧ x.enc.length ≤ 300 := by
  intro x hx
  simp only [ways, List.mem_append, List.mem_cons, List.mem_map, List.mem_range', List.not_mem_nil, or_false] at hx
  rcases hx with ((rfl | rfl | rfl | rfl) | ⟨j, ⟨i, hi, rfl⟩, rfl⟩) | ⟨j, ⟨i, hi, rfl⟩, rfl⟩
  · exact ⟨ha, by omega⟩
  · exact ⟨ha, by simp [Nm.enc]; omega⟩
  · exact ⟨ha, by simp [Nm.enc]; omega⟩
  · exact ⟨by simp [Nm.ok, ha], by simp [Nm.enc]; omega⟩
  · exact ⟨by simp [Nm.ok, ha]; omega, by simp [Nm.enc]; omega⟩
  · exact ⟨by simp [Nm.ok, ha]; omega, by simp [Nm.enc]; omega⟩
theorem len_ne {a b : Nm} (h : a.enc.length ≠ b.enc.length) : a ≠ b := fun e => h (by rw [e])
theorem ways_nodup (a : Nm) : (ways a).Nodup := by
  have p := Th.enc_pos a
  have n1 : a ≠ .next a := len_ne (by simp [Nm.enc])
  have n2 : a ≠ .key a := len_ne (by simp [Nm.enc])
  have n3 : a ≠ .epoch a a := len_ne (by simp [Nm.enc]; omega)
  have n4 : ∀ j, a ≠ .say j a := fun j => len_ne (by simp [Nm.enc]; omega)
  have n5 : ∀ j, a ≠ .room j a := fun j => len_ne (by simp [Nm.enc]; omega)
  simp [ways, List.range'_succ, n1, n2, n3, n4, n5]
theorem FnSecApart : laws_FnSecApart.Pure := by
  intro l _ _ hw
  refine Ev.rounds ?_
  unfold laws_FnSecApart.f
  by_cases hb : (l.length : Int) > 1048576
  · exact Ev.of_eq fun k => if_pos hb
  refine Ev.congr (fun k => if_neg hb) ?_
  obtain ⟨s, e, hs⟩ := drawNext_ev (Bytes.of_wf hw)
  refine Ev.bind e (Ev.bind (secOk_ev s) ?_)
  have bad : Ev (fun k => laws_FnSecApart.j0 k s true) true := by
    refine Ev.step (fun k => by rw [laws_FnSecApart.j0, if_pos rfl, impl_SecOk.f, Option.bind_some]) (Ev.bind (secOk_ev s) (Ev.of_eq fun k => ?_))
    rw [if_pos (by rw [beq_self_eq_true]), keOk_yes, Option.bind_some]
  cases hn : nm s with
  | none =>
    rw [Option.isSome_none]
    exact Ev.congr (fun k => if_neg (by decide)) bad
  | some a =>
    rw [Option.isSome_some]
    refine Ev.congr (fun k => if_pos rfl) ?_
    have ha := nm_ok hn
    have hz := nm_size hn
    by_cases g : (s.size : Int) > 140
    · rw [decide_eq_true g]
      exact bad
    · rw [decide_eq_false g]
      have wo := ways_ok ha (by omega)
      have mem : ∀ f ∈ ways a, f.ok = true ∧ cap (T f.enc) = T f.enc := fun f hf => ⟨(wo f hf).1, cap_yes (wo f hf).2⟩
      have v1 : made1 (T [110]) s = T (Nm.next a).enc := (made1_val hn [110] (.next a) rfl).trans (mem _ (by simp [ways])).2
      have v2 : made1 (T [107]) s = T (Nm.key a).enc := (made1_val hn [107] (.key a) rfl).trans (mem _ (by simp [ways])).2
      have v3 : made2 (T [101]) s s = T (Nm.epoch a a).enc := (made2_val hn hn).trans (mem _ (by simp [ways])).2
      have v4 : ∀ j ∈ List.range' 0 8, madeSay s (j : Int) = T (Nm.say j a).enc := fun j hj => by
        have hj' : j < 8 := by simpa [List.mem_range'] using hj
        rw [show madeSay s (j : Int) = made1 (T [109, 65 + j]) s from if_pos (by omega), made1_val hn [109, 65 + j] (.say j a) rfl]
        exact (mem _ (by simp only [ways, List.mem_append, List.mem_map]; exact .inl (.inr ⟨j, hj, rfl⟩))).2
      have v5 : ∀ j ∈ List.range' 1 9, madeRoom s (j : Int) = T (Nm.room j a).enc := fun j hj => by
        obtain ⟨i, hi, rfl⟩ := List.mem_range'.1 hj
        rw [show madeRoom s ((1 + 1 * i : Nat) : Int) = made1 (T [114, 48 + (1 + 1 * i)]) s from if_pos (by omega), made1_val hn [114, 48 + (1 + 1 * i)] (.room (1 + 1 * i) a) rfl]
        exact (mem _ (by simp only [ways, List.mem_append, List.mem_map]; exact .inr ⟨_, hj, rfl⟩)).2
      have all : ([s, made1 (T [110]) s, made1 (T [107]) s, made2 (T [101]) s s] ++ (List.range' 0 (8 - 0)).map (fun (j : Nat) => madeSay s (j : Int))) ++ (List.range' 1 9).map (fun (j : Nat) => madeRoom s (j : Int)) = (ways a).map fun f => T f.enc := by
        rw [v1, v2, v3, show 8 - 0 = 8 from rfl, List.map_congr_left v4, List.map_congr_left v5]
        simp only [ways, List.map_append, List.map_map, List.map_cons, List.map_nil]
        rw [← nm_text hn]
        rfl
      refine Ev.step (fun k => by rw [laws_FnSecApart.j0, if_neg (by decide)]) (Ev.bind (Ev.of (fun k => impl_MakNext.mono _ k) (implNext s 0)) (Ev.bind (Ev.of (fun k => impl_MakKey.mono _ k) (implKey s 0)) (Ev.bind (Ev.of (fun k => impl_MakEpoch.mono _ _ k) (implEpoch s s 0)) ?_)))
      refine says_ev s 8 0 _ (by omega) (by omega) (by simp) true ?_
      rw [all]
      refine apart_ev _ (by simp [ways]) ?_ ?_ ((ways a).map fun f => T f.enc).length 0 (by omega) (by omega)
      · rw [List.Nodup, List.pairwise_map]
        exact List.Pairwise.imp_of_mem (fun {x y} hx hy hne h => hne ((T_enc_inj (wo x hx).1 (wo y hy).1 (wo x hx).2 (wo y hy).2).1 h)) (ways_nodup a)
      · intro x hx
        obtain ⟨f, hf, rfl⟩ := List.mem_map.1 hx
        rw [nm_enc (wo f hf).1 (wo f hf).2]
        rfl
end Go.Proofs.YtdcaipomjimplaaDoor.Pure
