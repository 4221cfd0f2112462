/- New secrets have their names: the law's plain statement. -/
import Derived.Test.YtfiiiaemojdliaaDoorWalkx5
import Derived.Test.YtfiiiaemojdliaaDoorNew
import Derived.Test.YtfiiiaemojdliaaDoorPureFnTreLeaf
namespace Go.Proofs.YtfiiiaemojdliaaDoor.Pure
open Go.RowKit Go.Proofs.YtfiiiaemojdliaaDoor Go.Proofs.YtfiiiaemojdliaaDoor.Walk Go.Proofs.YtfiiiaemojdliaaDoorW.PrintWords Go.Proofs.YtfiiiaemojdliaaDoorW.PrintLast
open Go.Proofs.YtfiiiaemojdliaaDoor.Th (T B Nm nm dec)

theorem drawNew {l : List Int} (h : Bytes l) (k : Nat) (hk : 1 ≤ k) : ∃ a b, spec_DrawMakNew.f k l = some (a, b) := by
  obtain ⟨b, e, R⟩ := open_any l h
  obtain ⟨r1, f1, r10, r11⟩ := pick_any R (by omega) 8 (by omega) (by omega) k hk
  obtain ⟨r2, f2, r20, r21⟩ := pick_any R.next (by omega) 5 (by omega) (by omega) k hk
  obtain ⟨r3, f3, r30, r31⟩ := pick_any R.next.next (by omega) 99 (by omega) (by omega) k hk
  obtain ⟨r4, f4, r40, r41⟩ := pick_any R.next.next.next (by omega) 5 (by omega) (by omega) k hk
  unfold spec_DrawMakNew.f
  rw [e]
  simp only [Option.bind_some]
  rw [f1]
  simp only [Option.bind_some]
  rw [f2]
  simp only [Option.bind_some]
  have hz : 0 ≤ rd ([0, 0, 0, 1, 2] : List Int) r2 ∧ rd ([0, 0, 0, 1, 2] : List Int) r2 < 3 := by
    obtain ⟨n, rfl⟩ := Int.eq_ofNat_of_zero_le r20
    have : ∀ n : Fin 5, 0 ≤ rd ([0, 0, 0, 1, 2] : List Int) ((n.1 : Nat) : Int) ∧ rd ([0, 0, 0, 1, 2] : List Int) ((n.1 : Nat) : Int) < 3 := by decide +kernel
    exact this ⟨n, by omega⟩
  rw [if_pos r20, if_pos (by simpa using r21), if_pos hz.1, if_pos (by simpa using hz.2), f3]
  simp only [Option.bind_some]
  rw [f4]
  simp only [Option.bind_some]
  rw [if_pos r40, if_pos (by simpa using r41)]
  exact ⟨_, _, rfl⟩
theorem FnMakNew : laws_FnMakNew.Pure := by
  intro l0 l1 _ _ hw0 _ _ hw1
  refine ⟨9, ?_⟩
  have skip : laws_FnMakNew.j0 9 l0 l1 true = some true := by simp only [laws_FnMakNew.j0]; rw [if_pos trivial]
  unfold laws_FnMakNew.f
  by_cases h0 : (l0.length : Int) > 1048576
  · rw [if_pos h0]; exact skip
  rw [if_neg h0]
  by_cases h1 : (l1.length : Int) > 1048576
  · rw [decide_eq_true h1]; exact skip
  rw [decide_eq_false h1]
  obtain ⟨a, b, e0⟩ := drawNew (Bytes.of_wf hw0) 8 (by omega)
  obtain ⟨c, d, e1⟩ := drawNew (Bytes.of_wf hw1) 8 (by omega)
  simp only [laws_FnMakNew.j0]
  rw [if_neg (by decide), e0, e1]
  simp only [Option.bind_some]
  rw [impl_new _ _ 8 (by omega), impl_new _ _ 8 (by omega), spec_new _ _ 8 (by omega), spec_new _ _ 8 (by omega)]
  simp only [Option.bind_some]
  rw [if_pos trivial, bne_self_eq_false]
  have bad : ¬ ((0 ≤ a ∧ a ≤ 7) ∧ (1 ≤ b ∧ b ≤ 99)) → laws_FnMakNew.j2 7 a b c d (mkNew a b) (mkNew c d) true = some true := by
    intro h
    simp only [laws_FnMakNew.j2]
    rw [if_pos trivial, show mkNew a b = ⟨#[]⟩ from if_neg h, if_pos (Th.toList_nil.2 rfl), keOk_yes]
    rfl
  simp only [laws_FnMakNew.j1]
  rw [if_neg (by decide)]
  by_cases g0 : a < 0
  · rw [if_pos g0]; exact bad (by omega)
  rw [if_neg g0]
  by_cases g1 : a ≥ 8
  · rw [if_pos g1]; exact bad (by omega)
  rw [if_neg g1]
  by_cases g2 : b < 1
  · rw [if_pos g2]; exact bad (by omega)
  rw [if_neg g2]
  by_cases g3 : b > 99
  · rw [decide_eq_true g3]; exact bad (by omega)
  rw [decide_eq_false g3]
  have ha : 0 ≤ a ∧ a ≤ 7 := by omega
  have hb : 1 ≤ b ∧ b ≤ 99 := by omega
  have key : ((mkNew a b).toList == (mkNew c d).toList) = ((a == c) && (b == d)) := by
    rw [Bool.eq_iff_iff, beq_iff_eq, Bool.and_eq_true, beq_iff_eq, beq_iff_eq]
    exact new_one ha hb
  simp only [laws_FnMakNew.j2, impl_SecMade.f, impl_SecOk.f]
  rw [if_neg (by decide), nm_new ha hb]
  simp only [Option.bind_some, Option.isSome_some, if_true]
  have hA : ((a.toNat : Nat) : Int) = a := Int.toNat_of_nonneg ha.1
  have hB : ((b.toNat : Nat) : Int) = b := Int.toNat_of_nonneg (by omega)
  have hT : (T ([] : List Nat)).toList = [] := Th.toList_nil.2 rfl
  rw [if_pos (by simp [Nm.op, Nm.who, Nm.num, Nm.fst, Nm.snd, hA, hB, hT]), key]
  by_cases g : a = c
  · rw [if_pos g]
    simp [g]
  · rw [if_neg g]
    simp [g]
end Go.Proofs.YtfiiiaemojdliaaDoor.Pure
