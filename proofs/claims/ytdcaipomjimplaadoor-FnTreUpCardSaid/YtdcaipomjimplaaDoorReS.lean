/- What is held in a region may be told anew, and more of it, at any of its places. -/
import Derived.Test.YtdcaipomjimplaaDoorWWords
import Derived.Test.YtdcaipomjimplaaDoorWLast
namespace Go.Proofs.YtdcaipomjimplaaDoor
open Go.RowKit Go.Proofs.YtdcaipomjimplaaDoorW.PrintWords Go.Proofs.YtdcaipomjimplaaDoorW.PrintLast
theorem reS_all {P : Program} {ops : Array Oper} {Q : Exit → Act → World → Prop} {md : Region.Mode} {S S' : World → Prop} (h1 : ∀ w, S' w → S w) :
    ∀ (fuel : Nat) (l : Array Bool) (a : Act) (w : World), S' w → wpAnyLast P md ops Q S' [] fuel l a w → wpAnyLast P md ops Q S [] fuel l a w
  | 0, _, _, _, _, h => h
  | fuel + 1, _, _, _, hS, h => ⟨h.1, fun i hi => wpOp_mono (fun a' w' h' => ⟨fun hn _ => h1 _ (h'.1 hn hS), reS_all h1 fuel _ a' w' (h'.1 (by simp) hS) h'.2⟩) (h.2 i hi)⟩
theorem reS_ {P : Program} {ops : Array Oper} {Q : Exit → Act → World → Prop} {md : Region.Mode} {S S' : World → Prop} {fuel : Nat} {l : Array Bool} {a : Act} {w : World} (h1 : ∀ w, S' w → S w) (hS : S' w)
    (h : S' w → wpAnyLast P md ops Q S' [] fuel l a w) : wpAnyLast P md ops Q S [] fuel l a w := reS_all h1 fuel l a w hS (h hS)
end Go.Proofs.YtdcaipomjimplaaDoor
