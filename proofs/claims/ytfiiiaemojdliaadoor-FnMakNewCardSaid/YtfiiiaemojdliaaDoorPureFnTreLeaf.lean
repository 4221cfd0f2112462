/- Each in a group has a place of its own: the law's plain statement. -/
import Derived.Test.YtfiiiaemojdliaaDoorWalkx3
import Derived.Test.YtfiiiaemojdliaaDoorPureFnExactMakNew
import Derived.Test.YtfiiiaemojdliaaDoorDraw
namespace Go.Proofs.YtfiiiaemojdliaaDoor.Pure
open Go.RowKit Go.Proofs.YtfiiiaemojdliaaDoor Go.Proofs.YtfiiiaemojdliaaDoor.Walk Go.Proofs.YtfiiiaemojdliaaDoorW.PrintWords Go.Proofs.YtfiiiaemojdliaaDoorW.PrintLast

theorem keOk_yes : laws_keOk.f = some true := by
  unfold laws_keOk.f impl_SecOk.f
  rw [show (Th.nm (⟨#[65, 49, 59]⟩ : ByteArray)).isSome = true by decide +kernel]
  rfl
theorem drawLeaf {l : List Int} (h : Bytes l) (k : Nat) (hk : 1 ≤ k) : ∃ t, spec_DrawTreLeaf.f k l = some t ∧ -1 ≤ t ∧ t ≤ 8 := by
  obtain ⟨b, e, R⟩ := open_any l h
  obtain ⟨r, f, r0, r1⟩ := pick_any R (by omega) 10 (by omega) (by omega) k hk
  refine ⟨r - 1, ?_, by omega, by omega⟩
  unfold spec_DrawTreLeaf.f
  rw [e]
  simp only [Option.bind_some]
  rw [f]
  simp only [Option.bind_some]
  rw [w64 (by omega) (by omega)]
def leafOf (t : Int) : Int := if 0 ≤ t ∧ t ≤ 7 then 7 + t else -1
theorem impl_leafOf (t : Int) : impl_TreLeaf.f t = some (leafOf t) := by
  unfold impl_TreLeaf.f impl_leaf.f leafOf
  rw [isOne_any]
  simp only [Option.bind_some]
  by_cases h : 0 ≤ t ∧ t ≤ 7
  · rw [decide_eq_true h, if_pos rfl, if_pos h, w64 (by omega) (by omega)]
  · rw [decide_eq_false h, if_neg (by decide), if_neg h]
theorem spec_leafOf (t : Int) : spec_TreLeaf.f t = some (leafOf t) := by
  unfold spec_TreLeaf.f leafOf
  rw [in_any]
  simp only [Option.bind_some]
  by_cases h : 0 ≤ t ∧ t ≤ 7
  · rw [decide_eq_true h, if_pos rfl, if_pos h, w64 (by omega) (by omega)]
  · rw [decide_eq_false h, if_neg (by decide), if_neg h]

theorem FnTreLeaf : laws_FnTreLeaf.Pure := by
  intro l0 l1 _ _ hw0 _ _ hw1
  refine ⟨5, ?_⟩
  have skip : laws_FnTreLeaf.j0 5 l0 l1 true = some true := by simp only [laws_FnTreLeaf.j0]; rw [if_pos trivial]
  unfold laws_FnTreLeaf.f
  by_cases h0 : (l0.length : Int) > 1048576
  · rw [if_pos h0]; exact skip
  rw [if_neg h0]
  by_cases h1 : (l1.length : Int) > 1048576
  · rw [decide_eq_true h1]; exact skip
  rw [decide_eq_false h1]
  obtain ⟨x, ex, x0, x1⟩ := drawLeaf (Bytes.of_wf hw0) 4 (by omega)
  obtain ⟨y, ey, y0, y1⟩ := drawLeaf (Bytes.of_wf hw1) 4 (by omega)
  simp only [laws_FnTreLeaf.j0]
  rw [if_neg (by decide), ex, ey]
  simp only [Option.bind_some]
  rw [impl_leafOf, spec_leafOf]
  simp only [Option.bind_some]
  rw [if_pos trivial]
  by_cases hx : 0 ≤ x ∧ x ≤ 7
  · rw [if_neg (by omega), decide_eq_false (by omega)]
    simp only [laws_FnTreLeaf.j1]
    rw [if_neg (by decide), impl_leafOf]
    simp only [Option.bind_some]
    have lx : leafOf x = 7 + x := if_pos hx
    rw [lx, if_pos (by omega), if_pos (by omega)]
    congr 1
    by_cases hy : 0 ≤ y ∧ y ≤ 7
    · rw [show leafOf y = 7 + y from if_pos hy]
      by_cases e : x = y
      · subst e; simp
      · have e1 : ((7 + y == 7 + x) : Bool) = false := by simpa using fun h : 7 + y = 7 + x => e (by omega)
        have e2 : ((x == y) : Bool) = false := by simpa using e
        rw [e1, e2]; rfl
    · rw [show leafOf y = -1 from if_neg hy]
      have e1 : (((-1 : Int) == 7 + x) : Bool) = false := by simpa using fun h : (-1 : Int) = 7 + x => absurd h (by omega)
      have e2 : ((x == y) : Bool) = false := by simpa using fun h : x = y => hy (h ▸ hx)
      rw [e1, e2]; rfl
  · have lx : leafOf x = -1 := if_neg hx
    have key : laws_FnTreLeaf.j1 4 x y (leafOf x) true = some true := by
      simp only [laws_FnTreLeaf.j1]
      rw [if_pos trivial, if_pos lx, keOk_yes]
      rfl
    by_cases hn : x < 0
    · rw [if_pos hn]; exact key
    · rw [if_neg hn, decide_eq_true (by omega)]; exact key

end Go.Proofs.YtfiiiaemojdliaaDoor.Pure
