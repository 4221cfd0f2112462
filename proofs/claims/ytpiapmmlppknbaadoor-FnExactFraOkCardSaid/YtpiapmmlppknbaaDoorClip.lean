/- slices.Clip at []int: a row of one's own, cut to its length, may end inside its block. -/
import Derived.Test.YtpiapmmlppknbaaDoorWWords
import Derived.Test.YtpiapmmlppknbaaDoorProg
import Derived.WalkSpells
namespace Go.Proofs.YtpiapmmlppknbaaDoor
set_option linter.unusedSimpArgs false
set_option linter.unusedVariables false
set_option maxRecDepth 100000
open Go.RowKit Go.Proofs.YtpiapmmlppknbaaDoorW.PrintWords

/-- A row cut to its length. -/
theorem Kd.Q_clip {α : Type} {d : Kd α} {e : Nat} {w : World} {base : Nat} {ok : Nat → Prop} {A : Option Addr} {n c : Nat} {xs : List α} (h : d.Q e w base ok (.slice A n c) xs) : d.Q e w base ok (.slice A n n) xs := by
  have hO : (Value.slice A n n).ownBlock = (Value.slice A n c).ownBlock := by cases A <;> rfl
  obtain ⟨h0, inner, ⟨h1, h2⟩, hr⟩ := h
  refine ⟨by rw [hO]; exact h0, inner, ⟨h1, ?_⟩, by rw [hO]; exact hr⟩
  rcases h2 with ⟨hz, A', he, hA⟩ | ⟨g, off, cap, cur, he, hb, hh, hnc, hcm, hcs, ht⟩
  · injection he with e1 e2 e3
    subst e1; subst e2
    exact .inl ⟨hz, A, rfl, hA⟩
  · injection he with e1 e2 e3
    subst e1; subst e2; subst e3
    exact .inr ⟨g, off, xs.length, cur, rfl, hb, hh, Nat.le_refl _, by omega, Nat.le_trans (Nat.mul_le_mul_right _ (by omega)) hcs, ht⟩
theorem clip_le {α : Type} {d : Kd α} {e : Nat} {w : World} {base : Nat} {ok : Nat → Prop} {A : Option Addr} {n c : Nat} {xs : List α} (h : d.R e w base ok (.slice A n c) xs) : n ≤ c ∧ n ≤ 9223372036854775807 := by
  obtain ⟨A', c', he, h1, h2⟩ := Kd.R_reads h
  injection he with e1 e2 e3
  subst e3
  have := h2.2.1
  omega
theorem clip_int (A : Option Addr) (n c : Nat) (w : World) (h : n ≤ c) (hm : n ≤ 9223372036854775807) :
    Calls Tryd.prog 89 #[.slice A n c] w fun e w' => e = .returned (.slice A n n) ∧ w' = w := by
  go_enter Tryd.func89, Tryd.ntmps89
  go_wp2
  go_ret
  exact ⟨rfl, rfl⟩
end Go.Proofs.YtpiapmmlppknbaaDoor
