/- Drawn places: whatever the code, a number from -1 to 15 comes. Plain Lean. -/
import Derived.Test.YtdcaipomjimplaaDoorWtDraw
import Derived.Test.YtdcaipomjimplaaDoorWtx1
namespace Go.Proofs.YtdcaipomjimplaaDoor.Pure
open Go.RowKit Go.Proofs.YtdcaipomjimplaaDoor Go.Proofs.YtdcaipomjimplaaDoor.Wt Go.Proofs.YtdcaipomjimplaaDoorW.PrintWords Go.Proofs.YtdcaipomjimplaaDoorW.PrintLast

theorem evEq {α : Type} {g : Nat → Option α} {r : α} (h : ∀ k, g k = some r) : Ev g r := ⟨0, fun k _ => h k⟩
theorem pickN_ev {b : List Int} {p m : Int} (h : Rd b p m) (hm : m ≤ 100000) (n : Int) (hn : 1 ≤ n) (hn2 : n ≤ 1000000) : ∃ r, (0 ≤ r ∧ r < n) ∧ Ev (fun k => spec_l20Rd_pick.f k b p n) (r, p + 1) := by
  obtain ⟨r, e, h0, h1⟩ := pick_any h hm n hn hn2 1 (by omega)
  exact ⟨r, ⟨h0, h1⟩, Ev.of (fun k => spec_l20Rd_pick.mono _ _ _ k) e⟩
theorem node_ev {b : List Int} {p m : Int} (R : Rd b p m) (hm : m ≤ 50000) : ∃ r, (-1 ≤ r ∧ r ≤ 15) ∧ Ev (fun k => spec_l20Node.f k b p) (r, p + 1 + 1 + 1) ∧ Rd b (p + 1 + 1 + 1) (m + 1 + 1 + 1) := by
  obtain ⟨r1, ⟨g1, h1⟩, e1⟩ := pickN_ev R (by omega) 15 (by omega) (by omega)
  obtain ⟨r2, ⟨g2, h2⟩, e2⟩ := pickN_ev R.next (by omega) 8 (by omega) (by omega)
  obtain ⟨r3, ⟨g3, h3⟩, e3⟩ := pickN_ev R.next.next (by omega) 7 (by omega) (by omega)
  have w7 : wrap64 (7 + r2) = 7 + r2 := by unfold wrap64; omega
  have go : ∀ r, (if 0 ≤ r3 then (if r3 < (([0, 0, 0, 1, 1, 2, 3] : List Int).length : Int) then (if 0 ≤ (rd [0, 0, 0, 1, 1, 2, 3] r3) then (if (rd [0, 0, 0, 1, 1, 2, 3] r3) < (([r1, wrap64 (7 + r2), (-1), 15] : List Int).length : Int) then (some (rd [r1, wrap64 (7 + r2), (-1), 15] (rd [0, 0, 0, 1, 1, 2, 3] r3), p + 1 + 1 + 1)) else none) else none) else none) else none) = some (r, p + 1 + 1 + 1) → Ev (fun k => spec_l20Node.f k b p) (r, p + 1 + 1 + 1) := by
    intro r hr
    unfold spec_l20Node.f
    refine Ev.bind e1 (Ev.bind e2 ?_)
    refine Ev.congr (fun k => by rw [Option.bind_some, Option.bind_some]) (Ev.bind e3 (evEq fun k => hr))
  have hc : r3 = 0 ∨ r3 = 1 ∨ r3 = 2 ∨ r3 = 3 ∨ r3 = 4 ∨ r3 = 5 ∨ r3 = 6 := by omega
  rcases hc with rfl | rfl | rfl | rfl | rfl | rfl | rfl
  · exact ⟨r1, by omega, go r1 rfl, R.next.next.next⟩
  · exact ⟨r1, by omega, go r1 rfl, R.next.next.next⟩
  · exact ⟨r1, by omega, go r1 rfl, R.next.next.next⟩
  · exact ⟨7 + r2, by omega, go _ (by rw [w7]; rfl), R.next.next.next⟩
  · exact ⟨7 + r2, by omega, go _ (by rw [w7]; rfl), R.next.next.next⟩
  · exact ⟨-1, by omega, go _ rfl, R.next.next.next⟩
  · exact ⟨15, by omega, go _ rfl, R.next.next.next⟩
end Go.Proofs.YtdcaipomjimplaaDoor.Pure
