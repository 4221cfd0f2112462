/- The program's FraOk returns what the reference's returns, for all arguments: the law's plain statement. -/
import Derived.Test.YtpiapmmlppknbaaDoorXoHow
import Derived.Test.YtpiapmmlppknbaaDoorXox24
namespace Go.Proofs.YtpiapmmlppknbaaDoor.Pure
open Go.RowKit Go.Proofs.YtpiapmmlppknbaaDoor Go.Proofs.YtpiapmmlppknbaaDoor.Xo Go.Proofs.YtpiapmmlppknbaaDoorW.PrintWords Go.Proofs.YtpiapmmlppknbaaDoorW.PrintLast
open Go.Proofs.YtpiapmmlppknbaaDoor.Th (T B Nm nm dec hd prsNum whole)

theorem in_spec (x a b : Int) : spec_l1In.f x a b = some (decide (a ≤ x ∧ x ≤ b)) := by
  unfold spec_l1In.f
  by_cases h1 : x ≥ a
  · rw [if_pos h1]; congr 1; simp; omega
  · rw [if_neg h1, decide_eq_false (by omega)]
theorem in_impl (x a b : Int) : impl_in.f x a b = some (decide (a ≤ x ∧ x ≤ b)) := by
  unfold impl_in.f
  by_cases h1 : x ≥ a
  · rw [if_pos h1]; congr 1; simp; omega
  · rw [if_neg h1, decide_eq_false (by omega)]
theorem how_nm {s : ByteArray} {a : Nm} (h : nm s = some a) : Ev (fun k => spec_l1How.f k s) (tells a) := by
  obtain ⟨ha, hl, he⟩ := Th.nm_some.1 h
  exact how_ev ha hl (by rw [he, Th.B_T (Th.enc_lt a ha)])
theorem text_both (s : ByteArray) (hn : s.size ≤ 140737488351232) : ∀ (d i : Nat), s.size - i ≤ d → i ≤ s.size → ∃ b, Ev (fun k => spec_FraText.l0 k s (i : Int)) b ∧ Ev (fun k => impl_FraText.l0 k s (s.size : Int) (i : Int)) (b && decide ((s.size : Int) ≤ 8)) := by
  intro d
  induction d with
  | zero =>
    intro i h0 h1
    refine ⟨true, Ev.step (f := fun _ => some true) (fun k => by rw [spec_FraText.l0, if_neg (by omega)]) (Ev.now _), ?_⟩
    rw [Bool.true_and]
    exact Ev.step (f := fun _ => some (decide ((s.size : Int) ≤ 8))) (fun k => by rw [impl_FraText.l0, if_neg (by omega)]) (Ev.now _)
  | succ d ih =>
    intro i h0 h1
    by_cases h : i < s.size
    · obtain ⟨b, e1, e2⟩ := ih (i + 1) (by omega) (by omega)
      by_cases ha : bt s (i : Int) < 97
      · refine ⟨false, Ev.step (f := fun _ => some false) (fun k => by rw [spec_FraText.l0, if_pos (by omega), if_pos (by omega), if_pos ha]) (Ev.now _), ?_⟩
        rw [Bool.false_and]
        exact Ev.step (f := fun _ => some false) (fun k => by rw [impl_FraText.l0, if_pos (by omega), if_pos (by omega), if_pos (by omega), if_pos ha]) (Ev.now _)
      · by_cases hz : bt s (i : Int) > 122
        · refine ⟨false, Ev.step (f := fun _ => some false) (fun k => by rw [spec_FraText.l0, if_pos (by omega), if_pos (by omega), if_neg ha, if_pos hz]) (Ev.now _), ?_⟩
          rw [Bool.false_and]
          exact Ev.step (f := fun _ => some false) (fun k => by rw [impl_FraText.l0, if_pos (by omega), if_pos (by omega), if_pos (by omega), if_neg ha, if_pos hz]) (Ev.now _)
        · refine ⟨b, Ev.step (fun k => ?_) e1, Ev.step (fun k => ?_) e2⟩
          · rw [spec_FraText.l0, if_pos (by omega), if_pos (by omega), if_neg ha, if_neg hz, wz (by omega) (by omega)]
            rfl
          · rw [impl_FraText.l0, if_pos (by omega), if_pos (by omega), if_pos (by omega), if_neg ha, if_neg hz, wz (by omega) (by omega)]
            rfl
    · refine ⟨true, Ev.step (f := fun _ => some true) (fun k => by rw [spec_FraText.l0, if_neg (by omega)]) (Ev.now _), ?_⟩
      rw [Bool.true_and]
      exact Ev.step (f := fun _ => some (decide ((s.size : Int) ≤ 8))) (fun k => by rw [impl_FraText.l0, if_neg (by omega)]) (Ev.now _)
theorem fraText_both (s : ByteArray) (hn : s.size ≤ 140737488351232) : ∃ b, Ev (fun k => spec_FraText.f k s) b ∧ Ev (fun k => impl_FraText.f k s) b := by
  obtain ⟨b, e1, e2⟩ := text_both s hn s.size 0 (by omega) (by omega)
  by_cases h8 : (s.size : Int) > 8
  · refine ⟨false, Ev.of_eq fun k => by unfold spec_FraText.f; rw [if_pos h8], ?_⟩
    rw [decide_eq_false (by omega), Bool.and_false] at e2
    exact e2
  · refine ⟨b, Ev.congr (fun k => by unfold spec_FraText.f; rw [if_neg h8]; rfl) e1, ?_⟩
    rw [decide_eq_true (by omega), Bool.and_true] at e2
    exact e2
theorem fraOk_both (x : Int) (s : ByteArray) (n : Int) (t : ByteArray) (ht : t.size ≤ 140737488351232) : ∃ b, Ev (fun k => spec_FraOk.f k x s n t) b ∧ Ev (fun k => impl_FraOk.f k x s n t) b := by
  obtain ⟨b, et, it⟩ := fraText_both t ht
  unfold spec_FraOk.f impl_FraOk.f impl_SecMade.f impl_isOne.f
  by_cases hx : 0 ≤ x ∧ x ≤ 7
  · cases hn : nm s with
    | none =>
      have eo := secOk_ev s
      rw [hn, Option.isSome_none] at eo
      refine ⟨false, Ev.congr (fun k => by rw [in_spec, decide_eq_true hx, Option.bind_some, if_pos rfl]) (Ev.bind eo (Ev.of_eq fun k => if_neg Bool.false_ne_true)), Ev.of_eq fun k => ?_⟩
      rw [in_impl, decide_eq_true hx]
      rfl
    | some a =>
      have eo := secOk_ev s
      rw [hn, Option.isSome_some] at eo
      have eh := how_nm hn
      by_cases h5 : a.op = 5
      · by_cases hw : a.who = x
        · by_cases hr : 1 ≤ n ∧ n ≤ 999
          · refine ⟨b, Ev.congr (fun k => by rw [in_spec, decide_eq_true hx, Option.bind_some, if_pos rfl]) (Ev.bind eo (Ev.congr (fun k => if_pos rfl) (Ev.bind eh (Ev.congr (fun k => if_pos h5) (Ev.bind eh (Ev.congr (fun k => by rw [if_pos (show (tells a).2.1 = x from hw), in_spec, decide_eq_true hr, Option.bind_some, if_pos rfl]) (Ev.bind et (Ev.now _)))))))), Ev.congr (fun k => ?_) (Ev.bind it (Ev.now _))⟩
            rw [in_impl, in_impl, decide_eq_true hx, decide_eq_true hr]
            simp only [Option.bind_some]
            rw [if_pos trivial, if_pos h5, if_pos hw]
            simp
          · refine ⟨false, Ev.congr (fun k => by rw [in_spec, decide_eq_true hx, Option.bind_some, if_pos rfl]) (Ev.bind eo (Ev.congr (fun k => if_pos rfl) (Ev.bind eh (Ev.congr (fun k => if_pos h5) (Ev.bind eh (Ev.of_eq fun k => by rw [if_pos (show (tells a).2.1 = x from hw), in_spec, decide_eq_false hr, Option.bind_some, if_neg (by decide)])))))), Ev.of_eq fun k => ?_⟩
            rw [in_impl, in_impl, decide_eq_true hx, decide_eq_false hr]
            simp only [Option.bind_some]
            rw [if_pos trivial, if_pos h5, if_pos hw]
            simp
        · refine ⟨false, Ev.congr (fun k => by rw [in_spec, decide_eq_true hx, Option.bind_some, if_pos rfl]) (Ev.bind eo (Ev.congr (fun k => if_pos rfl) (Ev.bind eh (Ev.congr (fun k => if_pos h5) (Ev.bind eh (Ev.of_eq fun k => if_neg hw)))))), Ev.of_eq fun k => ?_⟩
          rw [in_impl, decide_eq_true hx]
          simp only [Option.bind_some]
          rw [if_pos trivial, if_pos h5, if_neg hw]
      · refine ⟨false, Ev.congr (fun k => by rw [in_spec, decide_eq_true hx, Option.bind_some, if_pos rfl]) (Ev.bind eo (Ev.congr (fun k => if_pos rfl) (Ev.bind eh (Ev.of_eq fun k => if_neg h5)))), Ev.of_eq fun k => ?_⟩
        rw [in_impl, decide_eq_true hx]
        simp only [Option.bind_some]
        rw [if_pos trivial, if_neg h5]
  · refine ⟨false, Ev.of_eq fun k => by rw [in_spec, decide_eq_false hx, Option.bind_some, if_neg (by decide)], Ev.of_eq fun k => ?_⟩
    rw [in_impl, decide_eq_false hx]
    rfl
theorem FnExactFraOk : laws_FnExactFraOk.Pure := by
  intro x s n t _ hs _ ht
  refine Ev.rounds ?_
  unfold laws_FnExactFraOk.f laws_toFraFrame.f laws_szFraFrame.f
  have w1 : wrap64 (1048576 - (s.size : Int)) = 1048576 - (s.size : Int) := wz (by omega) (by omega)
  have w2 : wrap64 (1048576 - (s.size : Int) - (t.size : Int)) = 1048576 - (s.size : Int) - (t.size : Int) := wz (by omega) (by omega)
  rw [w1, w2]
  obtain ⟨b, e1, e2⟩ := fraOk_both x s n t ht
  by_cases h1 : 1048576 - (s.size : Int) < 0
  · exact Ev.of_eq fun k => by rw [if_pos h1, Option.bind_some, if_pos (by decide)]
  by_cases h2 : 1048576 - (s.size : Int) - (t.size : Int) < 0
  · exact Ev.of_eq fun k => by rw [if_neg h1, if_pos h2, Option.bind_some, if_pos (by decide)]
  refine Ev.congr (fun k => by rw [if_neg h1, if_neg h2, Option.bind_some, if_neg h2, Option.bind_some]) (Ev.bind e1 ?_)
  refine Ev.congr (fun k => by rw [Option.bind_some]) (Ev.bind e2 (Ev.of_eq fun k => ?_))
  rw [bne_self_eq_false, if_neg (by decide)]
end Go.Proofs.YtpiapmmlppknbaaDoor.Pure
