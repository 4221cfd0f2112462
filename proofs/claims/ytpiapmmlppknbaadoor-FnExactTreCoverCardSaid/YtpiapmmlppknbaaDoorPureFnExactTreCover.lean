/- The program's TreCover returns what the reference's returns, for all arguments: the law's plain statement. -/
import Derived.Test.YtpiapmmlppknbaaDoorXoAllT
import Derived.Test.YtpiapmmlppknbaaDoorXox17
namespace Go.Proofs.YtpiapmmlppknbaaDoor.Pure
open Go.RowKit Go.Proofs.YtpiapmmlppknbaaDoor Go.Proofs.YtpiapmmlppknbaaDoor.Xo Go.Proofs.YtpiapmmlppknbaaDoorW.PrintWords Go.Proofs.YtpiapmmlppknbaaDoorW.PrintLast

theorem cover_both (l : List ByteArray) (hl : l.length = 15) : ∀ (d i : Nat), 15 - i ≤ d → i < 15 → d ≤ 20 → ∃ c, Ev (fun k => spec_l3Cover.f k l (i : Int)) c ∧ Ev (fun k => impl_TreTree_cover.f k l (i : Int)) c ∧ c.length ≤ 2 ^ d := by
  intro d
  induction d with
  | zero => intro i h0 h1; omega
  | succ d ih =>
    intro i h0 h1 hd
    have hp : 1 ≤ 2 ^ (d + 1) := Nat.one_le_two_pow
    by_cases hk : (rdOf ByteArray.empty l (i : Int)).toList = ([] : List UInt8)
    · by_cases h7 : 7 ≤ i
      · refine ⟨[], Ev.step (f := fun _ => some []) (fun k => ?_) (Ev.now _), Ev.step (f := fun _ => some []) (fun k => ?_) (Ev.now _), Nat.zero_le _⟩
        · rw [spec_l3Cover.f, if_pos (by omega), if_pos (by omega), if_pos hk, if_pos (by omega)]
        · rw [impl_TreTree_cover.f, if_pos (by omega), if_pos (by omega), if_pos hk, if_pos (by omega)]
      · obtain ⟨c1, a1, b1, n1⟩ := ih (2 * i + 1) (by omega) (by omega) (by omega)
        obtain ⟨c2, a2, b2, n2⟩ := ih (2 * i + 2) (by omega) (by omega) (by omega)
        have hb : 2 ^ d ≤ 2 ^ 20 := Nat.pow_le_pow_right (by omega) (by omega)
        have e1 : wrap64 (wrap64 (2 * (i : Int)) + 1) = ((2 * i + 1 : Nat) : Int) := by rw [wz (x := 2 * (i : Int)) (by omega) (by omega), wz (by omega) (by omega)]; omega
        have e2 : wrap64 (wrap64 (2 * (i : Int)) + 2) = ((2 * i + 2 : Nat) : Int) := by rw [wz (x := 2 * (i : Int)) (by omega) (by omega), wz (by omega) (by omega)]; omega
        refine ⟨c1 ++ c2, Ev.step (fun k => by rw [spec_l3Cover.f, if_pos (by omega), if_pos (by omega), if_pos hk, if_neg (by omega), e1, e2]) (Ev.bind a1 (Ev.bind a2 (Ev.of_eq fun k => if_pos (show c1.length + c2.length < 17592186044416 by omega)))), Ev.step (fun k => by rw [impl_TreTree_cover.f, if_pos (by omega), if_pos (by omega), if_pos hk, if_neg (by omega), e1, e2]) (Ev.bind b1 (Ev.bind b2 (Ev.of_eq fun k => if_pos (show c1.length + c2.length < 17592186044416 by omega)))), ?_⟩
        rw [List.length_append, Nat.pow_succ]
        omega
    · refine ⟨[(i : Int)], Ev.step (f := fun _ => some [(i : Int)]) (fun k => ?_) (Ev.now _), Ev.step (f := fun _ => some [(i : Int)]) (fun k => ?_) (Ev.now _), hp⟩
      · rw [spec_l3Cover.f, if_pos (by omega), if_pos (by omega), if_neg hk]
      · rw [impl_TreTree_cover.f, if_pos (by omega), if_pos (by omega), if_neg hk]
theorem in_spec (x a b : Int) : spec_l1In.f x a b = some (decide (a ≤ x ∧ x ≤ b)) := by
  unfold spec_l1In.f
  by_cases h1 : x ≥ a
  · rw [if_pos h1]; congr 1; simp; omega
  · rw [if_neg h1, decide_eq_false (by omega)]
theorem in_impl (x a b : Int) : impl_in.f x a b = some (decide (a ≤ x ∧ x ≤ b)) := by
  unfold impl_in.f
  by_cases h1 : x ≥ a
  · rw [if_pos h1]; congr 1; simp; omega
  · rw [if_neg h1, decide_eq_false (by omega)]
theorem treCover_both (l : List ByteArray) (x : Int) : ∃ c, Ev (fun k => spec_TreCover.f k l x) c ∧ Ev (fun k => impl_TreCover.f k l x) c ∧ c.length ≤ 100000 := by
  unfold spec_TreCover.f impl_TreCover.f impl_TreOk.f impl_isNode.f
  cases ht : treB l with
  | false =>
    have e := specTreOk_ev l
    rw [ht] at e
    refine ⟨[], Ev.bind e (Ev.of_eq fun k => if_neg (by decide)), Ev.congr (fun k => by rw [Option.bind_some, if_neg (by decide)]) (Ev.step (f := fun _ => some []) (fun k => by rw [impl_TreCover.j0, if_pos rfl]) (Ev.now _)), Nat.zero_le _⟩
  | true =>
    have e := specTreOk_ev l
    rw [ht] at e
    have hl : l.length = 15 := by
      unfold treB at ht
      rw [Bool.and_eq_true, decide_eq_true_eq] at ht
      exact ht.1
    by_cases hx : 0 ≤ x ∧ x ≤ 14
    · obtain ⟨c, a1, b1, n1⟩ := cover_both l hl 15 x.toNat (by omega) (by omega) (by omega)
      rw [show ((x.toNat : Nat) : Int) = x by omega] at a1 b1
      refine ⟨c, Ev.bind e (Ev.congr (fun k => by rw [if_pos rfl, in_spec, decide_eq_true hx, Option.bind_some, if_pos rfl]) (Ev.bind a1 (Ev.now _))), Ev.congr (f := fun k => impl_TreCover.j0 k x false l) (fun k => by rw [Option.bind_some, if_pos rfl, in_impl, decide_eq_true hx, Option.bind_some, Option.bind_some]; rfl) (Ev.step (fun k => by rw [impl_TreCover.j0, if_neg (by decide)]) (Ev.bind b1 (Ev.of_eq fun k => ?_))), by omega⟩
      unfold impl_clone_int.f slices_Clone_int_int.f
      rw [if_pos (by omega)]
      rfl
    · refine ⟨[], Ev.bind e (Ev.of_eq fun k => by rw [if_pos rfl, in_spec, decide_eq_false hx, Option.bind_some, if_neg (by decide)]), Ev.congr (f := fun k => impl_TreCover.j0 k x true l) (fun k => by rw [Option.bind_some, if_pos rfl, in_impl, decide_eq_false hx, Option.bind_some, Option.bind_some]; rfl) (Ev.step (f := fun _ => some []) (fun k => by rw [impl_TreCover.j0, if_pos rfl]) (Ev.now _)), Nat.zero_le _⟩
theorem FnExactTreCover : laws_FnExactTreCover.Pure := by
  intro l x g _
  refine Ev.rounds ?_
  unfold laws_FnExactTreCover.f
  obtain ⟨r, er, hr, hb⟩ := szS_ev l g 1048576 (by omega) (by omega)
  by_cases h0 : r < 0
  · have e1 : Ev (fun k => laws_szTreTree.f k l 1048576) (-1) := by
      unfold laws_szTreTree.f
      exact Ev.bind er (Ev.of_eq fun k => if_pos h0)
    exact Ev.bind e1 (Ev.of_eq fun k => if_pos (by decide))
  · have e1 : Ev (fun k => laws_szTreTree.f k l 1048576) r := by
      unfold laws_szTreTree.f
      exact Ev.bind er (Ev.of_eq fun k => if_neg h0)
    obtain ⟨hl, _⟩ := hb (by omega)
    have et : Ev (fun k => laws_toTreTree.f k l) l := by
      unfold laws_toTreTree.f
      exact Ev.bind (toS_ev l (by omega)) (Ev.now _)
    have eq : Ev (fun k => laws_eqTreTree.f k l l) true := by
      unfold laws_eqTreTree.f
      exact Ev.bind (eqS_ev l (by omega)) (Ev.of_eq fun k => if_pos rfl)
    obtain ⟨l', em, _, _⟩ := markS_ev l 1 (by omega) (by omega) (by omega)
    have em : Ev (fun k => laws_markTreTree.f k l 1) (1 + (l.length : Int), l') := by
      unfold laws_markTreTree.f
      exact Ev.bind em (Ev.now _)
    obtain ⟨c, ec, fc, nc⟩ := treCover_both l x
    have ei := eqI_ev c (by omega)
    obtain ⟨c', mc, kc, jc⟩ := markI_ev c 1 (by omega) (by omega) (by omega)
    have hc := heldI_ev c' 1 (by omega) (by omega) (by omega) (fun j hj => jc j (by omega))
    rw [kc] at hc
    refine Ev.bind e1 (Ev.congr (fun k => if_neg h0) (Ev.bind et (Ev.bind ec (Ev.bind et (Ev.bind fc (Ev.bind ei ?_))))))
    refine Ev.congr (fun k => if_pos rfl) (Ev.bind et (Ev.bind eq ?_))
    refine Ev.congr (fun k => if_pos rfl) (Ev.bind em ?_)
    refine Ev.congr (fun k => if_neg (by show ¬ (1 + (l.length : Int) < 0); omega)) (Ev.bind ei ?_)
    refine Ev.step (fun k => by rw [laws_FnExactTreCover.j0, if_neg (by decide)]) (Ev.bind mc (Ev.bind hc ?_))
    refine Ev.congr (fun k => by rw [if_neg (by omega), if_pos rfl]) (Ev.bind et (Ev.bind fc (Ev.bind ei ?_)))
    exact Ev.congr (fun k => if_pos rfl) (Ev.bind hc (Ev.of_eq fun k => by rw [if_neg (by omega), if_pos rfl]))
end Go.Proofs.YtpiapmmlppknbaaDoor.Pure
