/- strings.Join of a slice that lies flat: the text of all its texts. -/
import Derived.Test.YtnemchmiplbopaaDoorGivC
namespace Go.Proofs.YtnemchmiplbopaaDoor
open Go.RowKit Go.Proofs.YtnemchmiplbopaaDoorW.PrintWords Go.Proofs.YtnemchmiplbopaaDoorW.PrintLast Go.Proofs.YtnemchmiplbopaaDoorW.PrintMore

/-- A byte less another, as a whole number. -/
theorem w64_u8 (x : Int) : wrap64 (IntKind.u8.wrap x) = x % 256 := by
  have h : IntKind.u8.wrap x = x % 256 := rfl
  rw [h]
  unfold wrap64
  omega
/-- A slice's address has no spot. -/
def Flat (A : Option Addr) : Prop := ∀ a, A = some a → a.spot = none
theorem Flat.none_ : Flat none := fun _ h => by cases h
theorem Flat.of_R {α : Type} {d : Kd α} {e : Nat} {w : World} {base : Nat} {ok : Nat → Prop} {A : Option Addr} {n c : Nat} {xs : List α} (h : Aside0 (Kd.R d e w base ok (.slice A n c) xs)) : Flat A := by
  obtain ⟨_, ho⟩ := Kd.R_own h.out
  intro a ha
  subst ha
  rcases ho.2 with ⟨hv, _⟩ | ⟨g, cap, cur, hv, _⟩
  · cases hv
  · cases hv; rfl

end Go.Proofs.YtnemchmiplbopaaDoor
