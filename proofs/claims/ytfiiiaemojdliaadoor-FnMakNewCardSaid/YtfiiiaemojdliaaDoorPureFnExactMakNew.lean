/- The program's MakNew answers for all whole numbers what the reference's answers. -/
import Derived.Test.YtfiiiaemojdliaaDoorWalkx2
namespace Go.Proofs.YtfiiiaemojdliaaDoor.Pure
open Go.RowKit Go.Proofs.YtfiiiaemojdliaaDoor Go.Proofs.YtfiiiaemojdliaaDoor.Walk Go.Proofs.YtfiiiaemojdliaaDoorW.PrintWords Go.Proofs.YtfiiiaemojdliaaDoorW.PrintLast

theorem who_letter {a : Int} (h0 : 0 ≤ a) (h1 : a ≤ 7) : ∃ s, spec_l1Who.f a = some s ∧ impl_letter.f a = some s ∧ s.size = 1 := by
  obtain ⟨n, rfl⟩ := Int.eq_ofNat_of_zero_le h0
  have hn : n < 8 := by omega
  have : ∀ n : Fin 8, spec_l1Who.f ((n.1 : Nat) : Int) = impl_letter.f ((n.1 : Nat) : Int) ∧ ((impl_letter.f ((n.1 : Nat) : Int)).map (·.size)) = some 1 := by decide +kernel
  obtain ⟨e, g⟩ := this ⟨n, hn⟩
  have e' : spec_l1Who.f (n : Int) = impl_letter.f (n : Int) := e
  have g' : (impl_letter.f (n : Int)).map (·.size) = some 1 := g
  obtain ⟨s, hs, hz⟩ := Option.map_eq_some_iff.1 g'
  exact ⟨s, e'.trans hs, hs, hz⟩
theorem plain_itoa {a : Int} (h0 : 1 ≤ a) (h1 : a ≤ 99) : ∃ s, (∀ k, 3 ≤ k → spec_l1Plain.f k a = some s) ∧ strconv_Itoa.f a = some s ∧ s.size ≤ 2 := by
  obtain ⟨n, rfl⟩ := Int.eq_ofNat_of_zero_le (show 0 ≤ a by omega)
  have hn : n < 100 := by omega
  have : ∀ n : Fin 100, spec_l1Plain.f 3 ((n.1 : Nat) : Int) = strconv_Itoa.f ((n.1 : Nat) : Int) ∧ ((strconv_Itoa.f ((n.1 : Nat) : Int)).all (·.size ≤ 2)) = true ∧ (strconv_Itoa.f ((n.1 : Nat) : Int)).isSome = true := by decide +kernel
  obtain ⟨e, g, i⟩ := this ⟨n, hn⟩
  have e' : spec_l1Plain.f 3 (n : Int) = strconv_Itoa.f (n : Int) := e
  have g' : (strconv_Itoa.f (n : Int)).all (·.size ≤ 2) = true := g
  obtain ⟨s, hs⟩ := Option.isSome_iff_exists.1 i
  have hs' : strconv_Itoa.f (n : Int) = some s := hs
  rw [hs'] at g'
  exact ⟨s, fun k hk => at_rounds (fun k => spec_l1Plain.mono _ k) hk (e'.trans hs'), hs', by simpa using g'⟩
theorem in_any (x a b : Int) : spec_l1In.f x a b = some (decide (a ≤ x ∧ x ≤ b)) := by
  unfold spec_l1In.f
  by_cases h : x ≥ a
  · rw [if_pos h]; simp [show a ≤ x from h]
  · rw [if_neg h]; simp [show ¬ a ≤ x from h]
theorem in_any' (x a b : Int) : impl_in.f x a b = some (decide (a ≤ x ∧ x ≤ b)) := by
  unfold impl_in.f
  by_cases h : x ≥ a
  · rw [if_pos h]; simp [show a ≤ x from h]
  · rw [if_neg h]; simp [show ¬ a ≤ x from h]
theorem isOne_any (x : Int) : impl_isOne.f x = some (decide (0 ≤ x ∧ x ≤ 7)) := by
  unfold impl_isOne.f
  rw [in_any']
  rfl

theorem FnExactMakNew : laws_FnExactMakNew.Pure := by
  intro a0 a1 _ _
  refine ⟨5, ?_⟩
  unfold laws_FnExactMakNew.f spec_MakNew.f impl_MakNew.f
  rw [in_any, in_any, isOne_any, in_any']
  simp only [Option.bind_some]
  by_cases h0 : 0 ≤ a0 ∧ a0 ≤ 7
  · rw [decide_eq_true h0, if_pos rfl, if_pos rfl]
    by_cases h1 : 1 ≤ a1 ∧ a1 ≤ 99
    · rw [decide_eq_true h1]
      obtain ⟨s, e0, e1, z⟩ := who_letter h0.1 h0.2
      obtain ⟨q, f0, f1, y⟩ := plain_itoa h1.1 h1.2
      simp only [Bool.not_true, spec_MakNew.j0, impl_MakNew.j0]
      rw [if_neg (by decide), if_neg (by decide), e0, e1, f0 4 (by omega), f1]
      simp only [Option.bind_some]
      rw [if_pos (by omega), if_pos (by rw [ByteArray.size_append]; omega)]
      simp only [Option.bind_some]
      rw [if_pos trivial]
    · rw [decide_eq_false h1]
      simp [spec_MakNew.j0, impl_MakNew.j0]
  · rw [decide_eq_false h0]
    simp [spec_MakNew.j0, impl_MakNew.j0]

end Go.Proofs.YtfiiiaemojdliaaDoor.Pure
