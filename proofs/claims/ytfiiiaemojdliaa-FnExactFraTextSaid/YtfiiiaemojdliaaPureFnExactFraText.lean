/- The program's FraText answers for every text what the reference's answers; no condition beyond the statement's own. -/
import Derived.Test.YtfiiiaemojdliaaPFnExactFraTextx1
namespace Go.Proofs.Ytfiiiaemojdliaa.Pure
open Go.RowKit Go.Proofs.Ytfiiiaemojdliaa.PFnExactFraText Go.Proofs.YtfiiiaemojdliaaW.PrintWords Go.Proofs.YtfiiiaemojdliaaW.PrintLast

theorem wrap_next {i : Int} {n : Nat} (h0 : 0 ≤ i) (h : i < (n : Int)) (hn : n ≤ 140737488351232) : wrap64 (i + 1) = i + 1 := by
  unfold wrap64
  omega

theorem both (s : ByteArray) (hn : s.size ≤ 140737488351232) (d : Nat) : ∀ (k : Nat) (i : Int), 0 ≤ i → i ≤ s.size → (s.size : Int) - i = d → d < k →
    ∃ b, spec_FraText.l0 k s i = some b ∧ impl_FraText.l0 k s s.size i = some (b && decide ((s.size : Int) ≤ 8)) := by
  induction d with
  | zero =>
    intro k i h0 h1 hd hk
    obtain ⟨k, rfl⟩ : ∃ m, k = m + 1 := ⟨k - 1, by omega⟩
    refine ⟨true, ?_, ?_⟩
    · simp only [spec_FraText.l0]; rw [if_neg (by omega)]
    · simp only [impl_FraText.l0]; rw [if_neg (by omega)]; simp
  | succ d ih =>
    intro k i h0 h1 hd hk
    obtain ⟨k, rfl⟩ : ∃ m, k = m + 1 := ⟨k - 1, by omega⟩
    have hlt : i < (s.size : Int) := by omega
    obtain ⟨b, e1, e2⟩ := ih k (i + 1) (by omega) (by omega) (by omega) (by omega)
    simp only [spec_FraText.l0, impl_FraText.l0]
    rw [if_pos hlt, if_pos h0, if_pos hlt, if_pos h0, if_pos hlt, wrap_next h0 hlt hn]
    by_cases ha : bt s i < 97
    · exact ⟨false, by rw [if_pos ha], by rw [if_pos ha]; simp⟩
    · rw [if_neg ha, if_neg ha]
      by_cases hz : bt s i > 122
      · exact ⟨false, by rw [if_pos hz], by rw [if_pos hz]; simp⟩
      · rw [if_neg hz, if_neg hz]
        exact ⟨b, e1, e2⟩

theorem FnExactFraText : laws_FnExactFraText.Pure := by
  intro s hs
  refine ⟨s.size + 2, ?_⟩
  unfold laws_FnExactFraText.f
  by_cases hb : (s.size : Int) > 1048576
  · rw [if_pos hb]
  · rw [if_neg hb]
    obtain ⟨b, h1, h2⟩ := both s hs s.size (s.size + 2) 0 (by omega) (by omega) (by omega) (by omega)
    unfold spec_FraText.f impl_FraText.f
    by_cases h8 : (s.size : Int) > 8
    · rw [if_pos h8, h2]
      have e : decide ((s.size : Int) ≤ 8) = false := decide_eq_false (by omega)
      simp [e]
    · rw [if_neg h8, h1, h2]
      have e : decide ((s.size : Int) ≤ 8) = true := decide_eq_true (by omega)
      simp [e]

end Go.Proofs.Ytfiiiaemojdliaa.Pure
