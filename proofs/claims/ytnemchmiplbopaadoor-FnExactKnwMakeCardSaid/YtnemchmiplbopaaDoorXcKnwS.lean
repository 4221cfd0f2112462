/- What the reference makes of secrets: has, make, ok. Plain Lean. -/
import Derived.Test.YtnemchmiplbopaaDoorXcHow
import Derived.Test.YtnemchmiplbopaaDoorKnwN
import Derived.Test.YtnemchmiplbopaaDoorXcx5
import Derived.Test.YtnemchmiplbopaaDoorXcx8
namespace Go.Proofs.YtnemchmiplbopaaDoor.Pure
open Go.RowKit Go.Proofs.YtnemchmiplbopaaDoor Go.Proofs.YtnemchmiplbopaaDoor.Xc Go.Proofs.YtnemchmiplbopaaDoorW.PrintWords Go.Proofs.YtnemchmiplbopaaDoorW.PrintLast
open Go.Proofs.YtnemchmiplbopaaDoor.Th (T B Nm nm dec hd prsNum whole hasB)

theorem rdK_at {l : List ByteArray} {i : Nat} (h : i < l.length) : rdOf ByteArray.empty l (i : Int) = l[i] := by
  unfold rdOf
  rw [Int.toNat_natCast, List.getD_eq_getElem?_getD, List.getElem?_eq_getElem h]
  rfl
theorem has_l0 (l : List ByteArray) (s : ByteArray) (hl : l.length ≤ 1000000) : ∀ (d i : Nat), l.length - i ≤ d → i ≤ l.length → Ev (fun k => spec_l2Has.l0 k l s (i : Int)) (hasB (l.drop i) s) := by
  intro d
  induction d with
  | zero =>
    intro i h0 h1
    rw [List.drop_eq_nil_of_le (by omega)]
    exact Ev.step (f := fun _ => some false) (fun k => by rw [spec_l2Has.l0, if_neg (by omega)]) (Ev.now _)
  | succ d ih =>
    intro i h0 h1
    by_cases h : i < l.length
    · rw [List.drop_eq_getElem_cons h]
      by_cases he : l[i].toList = s.toList
      · have e : hasB (l[i] :: l.drop (i + 1)) s = true := by
          unfold hasB
          rw [List.any_cons, beq_iff_eq.2 (by rw [← Th.toList_data, ← Th.toList_data]; exact he), Bool.true_or]
        rw [e]
        exact Ev.step (f := fun _ => some true) (fun k => by rw [spec_l2Has.l0, if_pos (by omega), if_pos (by omega), rdK_at h, if_pos he]) (Ev.now _)
      · have e : hasB (l[i] :: l.drop (i + 1)) s = hasB (l.drop (i + 1)) s := by
          unfold hasB
          rw [List.any_cons, beq_eq_false_iff_ne.2 (by rw [← Th.toList_data, ← Th.toList_data]; exact he), Bool.false_or]
        rw [e]
        exact Ev.step (f := fun k => spec_l2Has.l0 k l s ((i + 1 : Nat) : Int)) (fun k => by rw [spec_l2Has.l0, if_pos (by omega), if_pos (by omega), rdK_at h, if_neg he, wz (x := (i : Int) + 1) (by omega) (by omega)]; rfl) (ih (i + 1) (by omega) (by omega))
    · rw [List.drop_eq_nil_of_le (by omega)]
      exact Ev.step (f := fun _ => some false) (fun k => by rw [spec_l2Has.l0, if_neg (by omega)]) (Ev.now _)
theorem has_ev (l : List ByteArray) (s : ByteArray) (hl : l.length ≤ 1000000) : Ev (fun k => spec_l2Has.f k l s) (hasB l s) := has_l0 l s hl l.length 0 (by omega) (by omega)
theorem j_yes {l : List ByteArray} {y : ByteArray} {r : Bool} (h : Ev (fun k => spec_l2Make.f k l y) r) (o a b c : Int) (z : ByteArray) : Ev (fun k => spec_l2Make.j0 k l o true a b c y z) r :=
  Ev.step (f := fun k => (spec_l2Make.f k l y).bind fun t => some t) (fun k => by rw [spec_l2Make.j0, if_pos rfl]) (Ev.bind h (Ev.now _))
theorem make_ev (l : List ByteArray) (hl : l.length ≤ 1000000) : ∀ a : Nm, a.ok = true → a.enc.length ≤ 300 → Ev (fun k => spec_l2Make.f k l (T a.enc)) (Go.Proofs.YtnemchmiplbopaaDoor.mkN l a) := by
  have start : ∀ (a : Nm) (r : Bool), a.ok = true → a.enc.length ≤ 300 → (hasB l (T a.enc) = false → Ev (fun k => (fun bt133 : Int × Int × Int × ByteArray × ByteArray => (if bt133.1 = 2 then (spec_l2Make.j0 k l bt133.1 (bt133.1 == 2) bt133.1 bt133.2.1 bt133.2.2.1 bt133.2.2.2.1 bt133.2.2.2.2) else (if bt133.1 = 3 then (spec_l2Make.j0 k l bt133.1 (bt133.1 == 3) bt133.1 bt133.2.1 bt133.2.2.1 bt133.2.2.2.1 bt133.2.2.2.2) else (if bt133.1 = 5 then (spec_l2Make.j0 k l bt133.1 (bt133.1 == 5) bt133.1 bt133.2.1 bt133.2.2.1 bt133.2.2.2.1 bt133.2.2.2.2) else (spec_l2Make.j0 k l bt133.1 (bt133.1 == 6) bt133.1 bt133.2.1 bt133.2.2.1 bt133.2.2.2.1 bt133.2.2.2.2))))) (tells a)) r) → Ev (fun k => spec_l2Make.f k l (T a.enc)) (hasB l (T a.enc) || r) := by
    intro a r ho hz h
    have eh : Ev (fun k => spec_l1How.f k (T a.enc)) (tells a) := how_ev ho (by rw [Th.T_size]; exact hz) (Th.B_T (Th.enc_lt a ho))
    have e1 := has_ev l (T a.enc) hl
    cases hh : hasB l (T a.enc) with
    | true =>
      rw [hh] at e1
      rw [Bool.true_or]
      exact Ev.step (fun k => by rw [spec_l2Make.f]) (Ev.bind e1 (Ev.of_eq fun k => if_pos rfl))
    | false =>
      rw [hh] at e1
      rw [Bool.false_or]
      exact Ev.step (fun k => by rw [spec_l2Make.f]) (Ev.bind e1 (Ev.congr (fun k => if_neg Bool.false_ne_true) (Ev.bind eh (h hh))))
  intro a
  induction a with
  | new w n =>
    intro ho hz
    have h := start (.new w n) false ho hz (fun _ => by
      refine Ev.congr (fun k => (if_neg (show ¬ ((1 : Int) = 2) by decide)).trans ((if_neg (show ¬ ((1 : Int) = 3) by decide)).trans (if_neg (show ¬ ((1 : Int) = 5) by decide)))) ?_
      exact Ev.step (f := fun _ => some false) (fun k => by rw [spec_l2Make.j0, if_neg (show ¬ (((tells (.new w n)).1 == 6) = true) from Bool.false_ne_true), if_neg (show ¬ ((tells (.new w n)).1 = 4) from (by decide : ¬ ((1 : Int) = 4)))]) (Ev.now _))
    rw [Bool.or_false] at h
    exact h
  | next a ih => intro ho hz; exact start (.next a) _ ho hz (fun _ => Ev.congr (fun k => if_pos rfl) (j_yes (ih ho (by simp only [Nm.enc, List.length_cons] at hz; omega)) _ _ _ _ _))
  | key a ih => intro ho hz; exact start (.key a) _ ho hz (fun _ => Ev.congr (fun k => (if_neg (show ¬ ((3 : Int) = 2) by decide)).trans (if_pos rfl)) (j_yes (ih ho (by simp only [Nm.enc, List.length_cons] at hz; omega)) _ _ _ _ _))
  | say w a ih => intro ho hz; exact start (.say w a) _ ho hz (fun _ => Ev.congr (fun k => (if_neg (show ¬ ((5 : Int) = 2) by decide)).trans ((if_neg (show ¬ ((5 : Int) = 3) by decide)).trans (if_pos rfl))) (j_yes (ih (by simp only [Nm.ok, Bool.and_eq_true] at ho; exact ho.2) (by simp only [Nm.enc, List.length_cons] at hz; omega)) _ _ _ _ _))
  | room w a ih => intro ho hz; exact start (.room w a) _ ho hz (fun _ => Ev.congr (fun k => (if_neg (show ¬ ((6 : Int) = 2) by decide)).trans ((if_neg (show ¬ ((6 : Int) = 3) by decide)).trans (if_neg (show ¬ ((6 : Int) = 5) by decide)))) (j_yes (ih (by simp only [Nm.ok, Bool.and_eq_true] at ho; exact ho.2) (by simp only [Nm.enc, List.length_cons] at hz; omega)) _ _ _ _ _))
  | epoch a b iha ihb =>
    intro ho hz
    have ho' := ho
    simp only [Nm.ok, Bool.and_eq_true] at ho'
    have hz' := hz
    simp only [Nm.enc, List.length_cons, List.length_append] at hz'
    have ea := iha ho'.1 (by omega)
    have eb := ihb ho'.2 (by omega)
    refine start (.epoch a b) (Go.Proofs.YtnemchmiplbopaaDoor.mkN l a && Go.Proofs.YtnemchmiplbopaaDoor.mkN l b) ho hz (fun _ => ?_)
    refine Ev.congr (fun k => (if_neg (show ¬ ((4 : Int) = 2) by decide)).trans ((if_neg (show ¬ ((4 : Int) = 3) by decide)).trans (if_neg (show ¬ ((4 : Int) = 5) by decide)))) ?_
    refine Ev.step (f := fun k => (spec_l2Make.f k l (T a.enc)).bind fun t140 => (if t140 = true then ((spec_l2Make.f k l (T b.enc)).bind fun t141 => (some t141)) else (some false))) (fun k => by rw [spec_l2Make.j0, if_neg (show ¬ (((tells (.epoch a b)).1 == 6) = true) from Bool.false_ne_true), if_pos (show (tells (.epoch a b)).1 = 4 from rfl)]; rfl) ?_
    refine Ev.bind ea ?_
    cases hx : Go.Proofs.YtnemchmiplbopaaDoor.mkN l a with
    | true => rw [Bool.true_and]; exact Ev.congr (fun k => if_pos rfl) (Ev.bind eb (Ev.now _))
    | false => rw [Bool.false_and]; exact Ev.of_eq fun k => if_neg Bool.false_ne_true
theorem makeS_ev (l : List ByteArray) (hl : l.length ≤ 1000000) {s : ByteArray} (hs : (nm s).isSome = true) : Ev (fun k => spec_l2Make.f k l s) (mkS l s) := by
  unfold mkS
  cases hn : nm s with
  | none => rw [hn] at hs; exact absurd hs (by decide)
  | some a =>
    obtain ⟨h1, h2, h3⟩ := Th.nm_some.1 hn
    subst h3
    exact make_ev l hl a h1 (by rw [Th.T_size] at h2; exact h2)
def okS (s : ByteArray) : Bool := (nm s).isSome
theorem ok_l0 (l : List ByteArray) (hl : l.length ≤ 1000000) : ∀ (d i : Nat), l.length - i ≤ d → i ≤ l.length → Ev (fun k => spec_l2Ok.l0 k l (i : Int)) ((l.drop i).all okS) := by
  intro d
  induction d with
  | zero =>
    intro i h0 h1
    rw [List.drop_eq_nil_of_le (by omega)]
    exact Ev.step (f := fun _ => some true) (fun k => by rw [spec_l2Ok.l0, if_neg (by omega)]) (Ev.now _)
  | succ d ih =>
    intro i h0 h1
    by_cases h : i < l.length
    · rw [List.drop_eq_getElem_cons h, List.all_cons]
      have es := secOk_ev l[i]
      refine Ev.step (f := fun k => (spec_SecOk.f k l[i]).bind fun t128 => (if t128 = true then (spec_l2Ok.l0 k l ((i + 1 : Nat) : Int)) else (some false))) (fun k => by rw [spec_l2Ok.l0, if_pos (by omega), if_pos (by omega), rdK_at h, wz (x := (i : Int) + 1) (by omega) (by omega)]; rfl) (Ev.bind es ?_)
      show Ev _ (okS l[i] && _)
      unfold okS
      cases hx : (nm l[i]).isSome with
      | true => rw [Bool.true_and]; exact Ev.congr (fun k => if_pos rfl) (ih (i + 1) (by omega) (by omega))
      | false => rw [Bool.false_and]; exact Ev.of_eq fun k => if_neg Bool.false_ne_true
    · rw [List.drop_eq_nil_of_le (by omega)]
      exact Ev.step (f := fun _ => some true) (fun k => by rw [spec_l2Ok.l0, if_neg (by omega)]) (Ev.now _)
theorem l2Ok_ev (l : List ByteArray) : Ev (fun k => spec_l2Ok.f k l) (decide (l.length ≤ 400) && l.all okS) := by
  by_cases h : l.length ≤ 400
  · rw [decide_eq_true h, Bool.true_and]
    exact Ev.congr (fun k => by unfold spec_l2Ok.f; rw [if_neg (by omega)]; rfl) (ok_l0 l (by omega) l.length 0 (by omega) (by omega))
  · rw [decide_eq_false h, Bool.false_and]
    exact Ev.of_eq fun k => by unfold spec_l2Ok.f; rw [if_pos (by omega)]
end Go.Proofs.YtnemchmiplbopaaDoor.Pure
