/- The program's TreIn returns what the reference's returns, for all arguments: the law's plain statement. -/
import Derived.Test.YtpiapmmlppknbaaDoorXoAllT
import Derived.Test.YtpiapmmlppknbaaDoorXox20
namespace Go.Proofs.YtpiapmmlppknbaaDoor.Pure
open Go.RowKit Go.Proofs.YtpiapmmlppknbaaDoor Go.Proofs.YtpiapmmlppknbaaDoor.Xo Go.Proofs.YtpiapmmlppknbaaDoorW.PrintWords Go.Proofs.YtpiapmmlppknbaaDoorW.PrintLast

theorem in_spec (x a b : Int) : spec_l1In.f x a b = some (decide (a ≤ x ∧ x ≤ b)) := by
  unfold spec_l1In.f
  by_cases h1 : x ≥ a
  · rw [if_pos h1]; congr 1; simp; omega
  · rw [if_neg h1, decide_eq_false (by omega)]
theorem in_impl (x a b : Int) : impl_in.f x a b = some (decide (a ≤ x ∧ x ≤ b)) := by
  unfold impl_in.f
  by_cases h1 : x ≥ a
  · rw [if_pos h1]; congr 1; simp; omega
  · rw [if_neg h1, decide_eq_false (by omega)]
theorem leaf_at (i : Nat) (h : i < 8) : spec_TreLeaf.f (i : Int) = some ((7 + i : Nat) : Int) := by
  unfold spec_TreLeaf.f
  rw [in_spec, decide_eq_true (by omega), Option.bind_some, if_pos rfl, wz (by omega) (by omega)]
  rfl
theorem has_at (l : List ByteArray) (hl : l.length = 15) (i : Nat) (h : i < 8) : impl_TreTree_has.f l (i : Int) = some ((rdOf ByteArray.empty l ((7 + i : Nat) : Int)).toList != ([] : List UInt8)) := by
  unfold impl_TreTree_has.f impl_isOne.f impl_leaf.f
  rw [in_impl, decide_eq_true (by omega), Option.bind_some, Option.bind_some, if_pos rfl, Option.bind_some, wz (x := 7 + (i : Int)) (by omega) (by omega), if_pos (by omega), if_pos (by omega), show (7 : Int) + (i : Int) = ((7 + i : Nat) : Int) by omega]
theorem ins_both (l : List ByteArray) (hl : l.length = 15) : ∀ (d i : Nat) (acc : List Int), 8 - i ≤ d → i ≤ 8 → acc.length ≤ i → ∃ c, Ev (fun k => spec_TreIn.l0 k acc (i : Int) l) c ∧ Ev (fun k => impl_TreTree_members.l0 k acc (i : Int) l) c ∧ c.length ≤ 8 := by
  intro d
  induction d with
  | zero =>
    intro i acc h0 h1 h2
    exact ⟨acc, Ev.step (f := fun _ => some acc) (fun k => by rw [spec_TreIn.l0, if_neg (by omega)]) (Ev.now _), Ev.step (f := fun _ => some acc) (fun k => by rw [impl_TreTree_members.l0, if_neg (by omega)]) (Ev.now _), by omega⟩
  | succ d ih =>
    intro i acc h0 h1 h2
    by_cases h : i < 8
    · by_cases hk : (rdOf ByteArray.empty l ((7 + i : Nat) : Int)).toList = ([] : List UInt8)
      · obtain ⟨c, a1, b1, n1⟩ := ih (i + 1) acc (by omega) (by omega) (by omega)
        refine ⟨c, Ev.step (fun k => ?_) a1, Ev.step (fun k => ?_) b1, n1⟩
        · rw [spec_TreIn.l0, if_pos (by omega), leaf_at i h, Option.bind_some, if_pos (by omega), if_pos (by omega), if_pos hk, wz (by omega) (by omega)]
          rfl
        · rw [impl_TreTree_members.l0, if_pos (by omega), has_at l hl i h, Option.bind_some, if_neg (by rw [hk]; decide), wz (by omega) (by omega)]
          rfl
      · obtain ⟨c, a1, b1, n1⟩ := ih (i + 1) (acc ++ [(i : Int)]) (by omega) (by omega) (by simp; omega)
        refine ⟨c, Ev.step (fun k => ?_) a1, Ev.step (fun k => ?_) b1, n1⟩
        · rw [spec_TreIn.l0, if_pos (by omega), leaf_at i h, Option.bind_some, if_pos (by omega), if_pos (by omega), if_neg hk, if_pos (by omega), wz (by omega) (by omega)]
          rfl
        · rw [impl_TreTree_members.l0, if_pos (by omega), has_at l hl i h, Option.bind_some, if_pos (bne_iff_ne.2 hk), if_pos (by omega), wz (by omega) (by omega)]
          rfl
    · exact ⟨acc, Ev.step (f := fun _ => some acc) (fun k => by rw [spec_TreIn.l0, if_neg (by omega)]) (Ev.now _), Ev.step (f := fun _ => some acc) (fun k => by rw [impl_TreTree_members.l0, if_neg (by omega)]) (Ev.now _), by omega⟩
theorem treIn_both (l : List ByteArray) : ∃ c, Ev (fun k => spec_TreIn.f k l) c ∧ Ev (fun k => impl_TreIn.f k l) c ∧ c.length ≤ 8 := by
  unfold spec_TreIn.f impl_TreIn.f impl_TreOk.f
  cases ht : treB l with
  | false =>
    have e := specTreOk_ev l
    rw [ht] at e
    exact ⟨[], Ev.congr (fun k => by rw [Option.bind_some]) (Ev.bind e (Ev.of_eq fun k => if_neg Bool.false_ne_true)), Ev.of_eq fun k => by rw [Option.bind_some, if_neg (by decide)], Nat.zero_le _⟩
  | true =>
    have e := specTreOk_ev l
    rw [ht] at e
    have hl : l.length = 15 := by
      unfold treB at ht
      rw [Bool.and_eq_true, decide_eq_true_eq] at ht
      exact ht.1
    obtain ⟨c, a1, b1, n1⟩ := ins_both l hl 8 0 [] (by omega) (by omega) (by simp)
    refine ⟨c, Ev.congr (fun k => by rw [Option.bind_some]) (Ev.bind e (Ev.congr (fun k => if_pos rfl) a1)), Ev.congr (fun k => by rw [Option.bind_some, if_pos rfl]) (Ev.bind (show Ev (fun k => impl_TreTree_members.f k l) c from b1) (Ev.of_eq fun k => ?_)), n1⟩
    unfold impl_clone_int.f slices_Clone_int_int.f
    rw [if_pos (by omega)]
    rfl
theorem FnExactTreIn : laws_FnExactTreIn.Pure := by
  intro l g
  refine Ev.rounds ?_
  unfold laws_FnExactTreIn.f
  obtain ⟨r, er, hr, hb⟩ := szS_ev l g 1048576 (by omega) (by omega)
  by_cases h0 : r < 0
  · have e1 : Ev (fun k => laws_szTreTree.f k l 1048576) (-1) := by
      unfold laws_szTreTree.f
      exact Ev.bind er (Ev.of_eq fun k => if_pos h0)
    exact Ev.bind e1 (Ev.of_eq fun k => if_pos (by decide))
  · have e1 : Ev (fun k => laws_szTreTree.f k l 1048576) r := by
      unfold laws_szTreTree.f
      exact Ev.bind er (Ev.of_eq fun k => if_neg h0)
    obtain ⟨hl, _⟩ := hb (by omega)
    have et : Ev (fun k => laws_toTreTree.f k l) l := by
      unfold laws_toTreTree.f
      exact Ev.bind (toS_ev l (by omega)) (Ev.now _)
    have eq : Ev (fun k => laws_eqTreTree.f k l l) true := by
      unfold laws_eqTreTree.f
      exact Ev.bind (eqS_ev l (by omega)) (Ev.of_eq fun k => if_pos rfl)
    obtain ⟨l', em, _, _⟩ := markS_ev l 1 (by omega) (by omega) (by omega)
    have em : Ev (fun k => laws_markTreTree.f k l 1) (1 + (l.length : Int), l') := by
      unfold laws_markTreTree.f
      exact Ev.bind em (Ev.now _)
    obtain ⟨c, ec, fc, nc⟩ := treIn_both l
    have ei := eqI_ev c (by omega)
    obtain ⟨c', mc, kc, jc⟩ := markI_ev c 1 (by omega) (by omega) (by omega)
    have hc := heldI_ev c' 1 (by omega) (by omega) (by omega) (fun j hj => jc j (by omega))
    rw [kc] at hc
    refine Ev.bind e1 (Ev.congr (fun k => if_neg h0) (Ev.bind et (Ev.bind ec (Ev.bind et (Ev.bind fc (Ev.bind ei ?_))))))
    refine Ev.congr (fun k => if_pos rfl) (Ev.bind et (Ev.bind eq ?_))
    refine Ev.congr (fun k => if_pos rfl) (Ev.bind em ?_)
    refine Ev.congr (fun k => if_neg (by show ¬ (1 + (l.length : Int) < 0); omega)) (Ev.bind ei ?_)
    refine Ev.step (fun k => by rw [laws_FnExactTreIn.j0, if_neg (by decide)]) (Ev.bind mc (Ev.bind hc ?_))
    refine Ev.congr (fun k => by rw [if_neg (by omega), if_pos rfl]) (Ev.bind et (Ev.bind fc (Ev.bind ei ?_)))
    exact Ev.congr (fun k => if_pos rfl) (Ev.bind hc (Ev.of_eq fun k => by rw [if_neg (by omega), if_pos rfl]))
end Go.Proofs.YtpiapmmlppknbaaDoor.Pure
