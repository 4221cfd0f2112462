/- The program's WinOk returns what the reference's returns, for all arguments: the law's plain statement. -/
import Derived.Test.YtpiapmmlppknbaaDoorXwHow
import Derived.Test.YtpiapmmlppknbaaDoorXwx8
import Derived.Test.YtpiapmmlppknbaaDoorXwx11
namespace Go.Proofs.YtpiapmmlppknbaaDoor.Pure
open Go.RowKit Go.Proofs.YtpiapmmlppknbaaDoor Go.Proofs.YtpiapmmlppknbaaDoor.Xw Go.Proofs.YtpiapmmlppknbaaDoorW.PrintWords Go.Proofs.YtpiapmmlppknbaaDoorW.PrintLast
open Go.Proofs.YtpiapmmlppknbaaDoor.Th (T B Nm nm dec hd prsNum whole)

theorem in_spec (x a b : Int) : spec_l1In.f x a b = some (decide (a ≤ x ∧ x ≤ b)) := by
  unfold spec_l1In.f
  by_cases h1 : x ≥ a
  · rw [if_pos h1]; congr 1; simp; omega
  · rw [if_neg h1, decide_eq_false (by omega)]
theorem in_impl (x a b : Int) : impl_in.f x a b = some (decide (a ≤ x ∧ x ≤ b)) := by
  unfold impl_in.f
  by_cases h1 : x ≥ a
  · rw [if_pos h1]; congr 1; simp; omega
  · rw [if_neg h1, decide_eq_false (by omega)]
theorem how_nm {s : ByteArray} {a : Nm} (h : nm s = some a) : Ev (fun k => spec_l1How.f k s) (tells a) := by
  obtain ⟨ha, hl, he⟩ := Th.nm_some.1 h
  exact how_ev ha hl (by rw [he, Th.B_T (Th.enc_lt a ha)])
theorem rdI_at {l : List Int} {i : Nat} (h : i < l.length) : rd l (i : Int) = l[i] := by
  unfold rd
  rw [Int.toNat_natCast, List.getD_eq_getElem?_getD, List.getElem?_eq_getElem h]
  rfl
theorem eqI_l0 (l : List Int) (hl : l.length ≤ 17592186044416) : ∀ (d i : Nat), l.length - i ≤ d → i ≤ l.length → Ev (fun k => laws_eqIntS.l0 k l l (i : Int)) true := by
  intro d
  induction d with
  | zero => intro i h0 h1; exact Ev.step (f := fun _ => some true) (fun k => by rw [laws_eqIntS.l0, if_neg (by omega)]) (Ev.now _)
  | succ d ih =>
    intro i h0 h1
    by_cases h : i < l.length
    · exact Ev.step (f := fun k => laws_eqIntS.l0 k l l ((i + 1 : Nat) : Int)) (fun k => by rw [laws_eqIntS.l0, if_pos (by omega), if_pos (by omega), if_pos (by omega), if_pos rfl, wz (x := (i : Int) + 1) (by omega) (by omega)]; rfl) (ih (i + 1) (by omega) (by omega))
    · exact Ev.step (f := fun _ => some true) (fun k => by rw [laws_eqIntS.l0, if_neg (by omega)]) (Ev.now _)
theorem eqI_ev (l : List Int) (hl : l.length ≤ 17592186044416) : Ev (fun k => laws_eqIntS.f k l l) true :=
  Ev.congr (fun k => by unfold laws_eqIntS.f; rw [if_pos rfl]; rfl) (eqI_l0 l hl l.length 0 (by omega) (by omega))
theorem toI_l0 (l : List Int) (hl : l.length ≤ 1048576) : ∀ (d i : Nat) (acc : List Int), l.length - i ≤ d → i ≤ l.length → acc.length = l.length → (∀ j, j < i → acc[j]? = l[j]?) → Ev (fun k => laws_toIntS.l0 k l acc (i : Int)) l := by
  intro d
  induction d with
  | zero =>
    intro i acc h0 h1 ha hj
    have : acc = l := List.ext_getElem? fun j => by
      by_cases h : j < i
      · exact hj j h
      · rw [List.getElem?_eq_none (by omega), List.getElem?_eq_none (by omega)]
    subst this
    exact Ev.step (f := fun _ => some acc) (fun k => by rw [laws_toIntS.l0, if_neg (by omega)]) (Ev.now _)
  | succ d ih =>
    intro i acc h0 h1 ha hj
    by_cases h : i < l.length
    · refine Ev.step (f := fun k => laws_toIntS.l0 k l (acc.set i l[i]) ((i + 1 : Nat) : Int)) (fun k => by rw [laws_toIntS.l0, if_pos (by omega), if_pos (by omega), if_pos (by omega), rdI_at h, wz (x := (i : Int) + 1) (by omega) (by omega), Int.toNat_natCast]; rfl) (ih (i + 1) (acc.set i l[i]) (by omega) (by omega) (by rw [List.length_set]; exact ha) fun j hlt => ?_)
      rw [List.getElem?_set]
      by_cases hji : i = j
      · subst hji
        rw [if_pos rfl, if_pos (by omega), List.getElem?_eq_getElem h]
      · rw [if_neg hji]
        exact hj j (by omega)
    · have : acc = l := List.ext_getElem? fun j => by
        by_cases h : j < i
        · exact hj j h
        · rw [List.getElem?_eq_none (by omega), List.getElem?_eq_none (by omega)]
      subst this
      exact Ev.step (f := fun _ => some acc) (fun k => by rw [laws_toIntS.l0, if_neg (by omega)]) (Ev.now _)
theorem toI_ev (l : List Int) (hl : l.length ≤ 1048576) : Ev (fun k => laws_toIntS.f k l) l := by
  refine Ev.congr (fun k => ?_) (toI_l0 l hl l.length 0 (List.replicate l.length 0) (by omega) (by omega) (by simp) (fun j h => by omega))
  unfold laws_toIntS.f
  rw [if_pos (by omega), if_pos (by omega), Int.toNat_natCast]
  rfl
/-- A number that may not stand where it stands. -/
def badAt (l : List Int) (top : Int) (i : Nat) : Bool := decide (rd l (i : Int) ≥ rd l ((i : Int) - 1)) || (decide (rd l (i : Int) ≤ top - 8) || decide (rd l (i : Int) < 1))
theorem win_loops (s : ByteArray) (l : List Int) (top : Int) (ht : 1 ≤ top ∧ top ≤ 999) (hl : l.length ≤ 1048576) : ∀ (d i : Nat), l.length - i ≤ d → 1 ≤ i → i ≤ l.length → ∃ b, Ev (fun k => spec_WinOk.l0 k (i : Int) s top l) b ∧ Ev (fun k => impl_WinOk.l0 k l (l.length : Int) (i : Int) s top l) b := by
  intro d
  have w8 : wrap64 (top - 8) = top - 8 := wz (by omega) (by omega)
  induction d with
  | zero =>
    intro i h0 h1 h2
    exact ⟨true, Ev.step (f := fun _ => some true) (fun k => by rw [spec_WinOk.l0, if_neg (by omega)]) (Ev.now _), Ev.step (f := fun _ => some true) (fun k => by rw [impl_WinOk.l0, if_neg (by omega)]) (Ev.now _)⟩
  | succ d ih =>
    intro i h0 h1 h2
    by_cases h : i < l.length
    · have w1 : wrap64 ((i : Int) - 1) = (i : Int) - 1 := wz (by omega) (by omega)
      have w2 : wrap64 ((i : Int) + 1) = ((i + 1 : Nat) : Int) := by rw [wz (by omega) (by omega)]; omega
      obtain ⟨b, e1, e2⟩ := ih (i + 1) (by omega) (by omega) (by omega)
      have s2 : ∀ x : Bool, Ev (fun k => spec_WinOk.j2 k (i : Int) x s top l) (!x && b) := fun x => by
        cases x with
        | true => exact Ev.step (f := fun _ => some false) (fun k => by rw [spec_WinOk.j2, if_pos rfl]) (Ev.now _)
        | false => exact Ev.step (fun k => by rw [spec_WinOk.j2, if_neg (by decide), w2]) (show Ev (fun k => spec_WinOk.l0 k ((i + 1 : Nat) : Int) s top l) (true && b) from e1)
      have i2 : ∀ x : Bool, Ev (fun k => impl_WinOk.j2 k l (l.length : Int) (i : Int) x s top l) (!x && b) := fun x => by
        cases x with
        | true => exact Ev.step (f := fun _ => some false) (fun k => by rw [impl_WinOk.j2, if_pos rfl]) (Ev.now _)
        | false => exact Ev.step (fun k => by rw [impl_WinOk.j2, if_neg (by decide), w2]) (show Ev (fun k => impl_WinOk.l0 k l (l.length : Int) ((i + 1 : Nat) : Int) s top l) (true && b) from e2)
      refine ⟨!badAt l top i && b, ?_, ?_⟩
      · refine Ev.step (fun k => ?_) (s2 (badAt l top i))
        rw [spec_WinOk.l0, if_pos (by omega), if_pos (by omega), w1, if_pos (by omega), if_pos (by omega), w8]
        unfold badAt
        by_cases c1 : rd l (i : Int) ≥ rd l ((i : Int) - 1)
        · rw [if_pos c1, decide_eq_true c1, Bool.true_or]
        · rw [if_neg c1, decide_eq_false c1, Bool.false_or]
          by_cases c2 : rd l (i : Int) ≤ top - 8
          · rw [if_pos c2, decide_eq_true c2, Bool.true_or]
          · rw [if_neg c2, decide_eq_false c2, Bool.false_or]
      · refine Ev.step (fun k => ?_) (i2 (badAt l top i))
        rw [impl_WinOk.l0, if_pos (by omega), if_pos (by omega), if_pos (by omega), w8]
        unfold badAt
        by_cases c3 : rd l (i : Int) < 1
        · rw [if_pos c3, decide_eq_true c3, Bool.or_true, Bool.or_true]
        · rw [if_neg c3, decide_eq_false c3, Bool.or_false]
          by_cases c2 : rd l (i : Int) ≤ top - 8
          · rw [if_pos c2, decide_eq_true c2, Bool.or_true]
          · rw [if_neg c2, decide_eq_false c2, Bool.or_false, if_pos (by omega), w1, if_pos (by omega), if_pos (by omega)]
    · exact ⟨true, Ev.step (f := fun _ => some true) (fun k => by rw [spec_WinOk.l0, if_neg (by omega)]) (Ev.now _), Ev.step (f := fun _ => some true) (fun k => by rw [impl_WinOk.l0, if_neg (by omega)]) (Ev.now _)⟩
theorem winOk_both (s : ByteArray) (top : Int) (l : List Int) (hl : l.length ≤ 1048576) : ∃ b, Ev (fun k => spec_WinOk.f k s top l) b ∧ Ev (fun k => impl_WinOk.f k s top l) b := by
  have sj : Ev (fun k => spec_WinOk.j0 k true s top l) false := Ev.step (f := fun _ => some false) (fun k => by rw [spec_WinOk.j0, if_pos rfl]) (Ev.now _)
  have ij : Ev (fun k => impl_WinOk.j0 k true s top l) false := Ev.step (f := fun _ => some false) (fun k => by rw [impl_WinOk.j0, if_pos rfl]) (Ev.now _)
  have eo := secOk_ev s
  unfold spec_WinOk.f impl_WinOk.f impl_SecMade.f
  cases hn : nm s with
  | none =>
    rw [hn, Option.isSome_none] at eo
    refine ⟨false, Ev.bind eo (Ev.congr (fun k => if_neg Bool.false_ne_true) sj), Ev.congr (fun k => ?_) ij⟩
    rfl
  | some a =>
    rw [hn, Option.isSome_some] at eo
    have eh := how_nm hn
    by_cases h5 : a.op = 5
    · by_cases ht : 1 ≤ top ∧ top ≤ 999
      · by_cases h0 : (l.length : Int) = 0
        · refine ⟨false, Ev.bind eo (Ev.congr (fun k => if_pos rfl) (Ev.bind eh (Ev.congr (fun k => by rw [if_pos (show (tells a).1 = 5 from h5), in_spec, decide_eq_true ht, Option.bind_some, if_pos rfl, if_pos h0]) sj))), Ev.congr (fun k => ?_) ij⟩
          simp only [Option.bind_some]
          rw [if_pos h5, in_impl, decide_eq_true ht, Option.bind_some, if_pos rfl, if_pos h0]
        · by_cases hz : rd l 0 = top
          · have hz' : (rd l 0 != top) = false := by rw [hz]; exact bne_self_eq_false _
            obtain ⟨b, e1, e2⟩ := win_loops s l top ht hl l.length 1 (by omega) (by omega) (by omega)
            have e1 : Ev (fun k => spec_WinOk.l0 k 1 s top l) b := e1
            have e2 : Ev (fun k => impl_WinOk.l0 k l (l.length : Int) 1 s top l) b := e2
            have w8 : wrap64 (top - 8) = top - 8 := wz (by omega) (by omega)
            refine ⟨b, Ev.bind eo (Ev.congr (fun k => if_pos rfl) (Ev.bind eh (Ev.congr (fun k => by rw [if_pos (show (tells a).1 = 5 from h5), in_spec, decide_eq_true ht, Option.bind_some, if_pos rfl, if_neg h0, if_pos (by omega), hz']) (Ev.step (fun k => by rw [spec_WinOk.j0, if_neg (by decide)]) e1)))), Ev.congr (f := fun k => impl_WinOk.j0 k false s top l) (fun k => ?_) (Ev.step (fun k => by rw [impl_WinOk.j0, if_neg (by decide)]) (Ev.step (f := fun k => impl_WinOk.j2 k l (l.length : Int) 0 false s top l) (fun k => ?_) (Ev.step (fun k => by rw [impl_WinOk.j2, if_neg (by decide), show wrap64 (0 + 1) = 1 from wz (x := 0 + 1) (by omega) (by omega)]) e2)))⟩
            · simp only [Option.bind_some]
              rw [if_pos h5, in_impl, decide_eq_true ht, Option.bind_some, if_pos rfl, if_neg h0, if_pos (by omega), hz']
            · rw [impl_WinOk.l0, if_pos (by omega), if_pos (by omega), if_pos (by omega), w8, if_neg (by rw [hz]; omega), if_neg (by rw [hz]; omega), if_neg (by omega)]
          · have hz' : (rd l 0 != top) = true := bne_iff_ne.2 hz
            refine ⟨false, Ev.bind eo (Ev.congr (fun k => if_pos rfl) (Ev.bind eh (Ev.congr (fun k => by rw [if_pos (show (tells a).1 = 5 from h5), in_spec, decide_eq_true ht, Option.bind_some, if_pos rfl, if_neg h0, if_pos (by omega), hz']) sj))), Ev.congr (fun k => ?_) ij⟩
            simp only [Option.bind_some]
            rw [if_pos h5, in_impl, decide_eq_true ht, Option.bind_some, if_pos rfl, if_neg h0, if_pos (by omega), hz']
      · refine ⟨false, Ev.bind eo (Ev.congr (fun k => if_pos rfl) (Ev.bind eh (Ev.congr (fun k => by rw [if_pos (show (tells a).1 = 5 from h5), in_spec, decide_eq_false ht, Option.bind_some, if_neg (by decide)]) sj))), Ev.congr (fun k => ?_) ij⟩
        simp only [Option.bind_some]
        rw [if_pos h5, in_impl, decide_eq_false ht, Option.bind_some, if_neg (by decide)]
    · refine ⟨false, Ev.bind eo (Ev.congr (fun k => if_pos rfl) (Ev.bind eh (Ev.congr (fun k => by rw [if_neg (show ¬ (tells a).1 = 5 from h5)]) sj))), Ev.congr (fun k => ?_) ij⟩
      simp only [Option.bind_some]
      rw [if_neg h5]
theorem FnExactWinOk : laws_FnExactWinOk.Pure := by
  intro s top l hs _ g
  obtain ⟨g1, _, _⟩ := g
  refine Ev.rounds ?_
  unfold laws_FnExactWinOk.f laws_szFraWin.f laws_szIntS.f
  have w1 : wrap64 (1048576 - (s.size : Int)) = 1048576 - (s.size : Int) := wz (by omega) (by omega)
  have w2 : wrap64 (1048576 - (s.size : Int) - (l.length : Int)) = 1048576 - (s.size : Int) - (l.length : Int) := wz (by omega) (by omega)
  rw [w1, w2]
  by_cases h1 : 1048576 - (s.size : Int) < 0
  · exact Ev.of_eq fun k => by rw [if_pos h1, Option.bind_some, if_pos (by decide)]
  by_cases h2 : 1048576 - (s.size : Int) - (l.length : Int) < 0
  · exact Ev.of_eq fun k => by rw [if_neg h1, if_pos h2, Option.bind_some, if_pos (by decide), Option.bind_some, if_pos (by decide)]
  obtain ⟨b, e1, e2⟩ := winOk_both s top l (by omega)
  have et : Ev (fun k => laws_toFraWin.f k s top l) (s, top, l) := by
    unfold laws_toFraWin.f
    exact Ev.bind (toI_ev l (by omega)) (Ev.now _)
  have eq : Ev (fun k => laws_eqFraWin.f k s top l s top l) true := by
    unfold laws_eqFraWin.f
    exact Ev.congr (fun k => by rw [if_pos rfl, if_pos rfl]) (Ev.bind (eqI_ev l (by omega)) (Ev.of_eq fun k => if_pos rfl))
  refine Ev.congr (fun k => by rw [if_neg h1, if_neg h2, Option.bind_some, if_neg h2, Option.bind_some, if_neg h2]) (Ev.bind et (Ev.bind e1 (Ev.bind et (Ev.bind e2 ?_))))
  refine Ev.congr (fun k => by rw [bne_self_eq_false, if_neg (by decide)]) (Ev.bind et (Ev.bind eq (Ev.of_eq fun k => if_pos rfl)))
end Go.Proofs.YtpiapmmlppknbaaDoor.Pure
