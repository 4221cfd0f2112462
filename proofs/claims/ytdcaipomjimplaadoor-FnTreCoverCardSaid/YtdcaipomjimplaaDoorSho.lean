/- Proofs that recur in the printed pages, each as a lemma whose proof is its default argument. -/
import Derived.Test.YtdcaipomjimplaaDoorWWords
import Derived.Test.YtdcaipomjimplaaDoorWLast
import Derived.Test.YtdcaipomjimplaaDoorWTab
import Derived.Test.YtdcaipomjimplaaDoorWFour
import Derived.Test.YtdcaipomjimplaaDoorWQPut
import Derived.Test.YtdcaipomjimplaaDoorWApart
import Derived.Test.YtdcaipomjimplaaDoorWArr
import Derived.Test.YtdcaipomjimplaaDoorWZeros
import Derived.Test.YtdcaipomjimplaaDoorWFoot
import Derived.Test.YtdcaipomjimplaaDoorWKept
import Derived.Test.YtdcaipomjimplaaDoorWShare
import Derived.Test.YtdcaipomjimplaaDoorWN
import Derived.Test.YtdcaipomjimplaaDoorWFootNe
import Derived.Test.YtdcaipomjimplaaDoorWAt
import Derived.Test.YtdcaipomjimplaaDoorWEqStruct
import Derived.Test.YtdcaipomjimplaaDoorWRepsOne
import Derived.Test.YtdcaipomjimplaaDoorWInv
import Derived.Test.YtdcaipomjimplaaDoorWInvWords
import Derived.Test.YtdcaipomjimplaaDoorWGuard
import Derived.Test.YtdcaipomjimplaaDoorWNEv
import Derived.Test.YtdcaipomjimplaaDoorWMore
import Derived.Test.YtdcaipomjimplaaDoorGivC
namespace Go.Proofs.YtdcaipomjimplaaDoor
open Go.RowKit Go.Proofs.YtdcaipomjimplaaDoorW.PrintWords Go.Proofs.YtdcaipomjimplaaDoorW.PrintLast Go.Proofs.YtdcaipomjimplaaDoorW.PrintMore

/-- A byte less another, as a whole number. -/
theorem w64_u8 (x : Int) : wrap64 (IntKind.u8.wrap x) = x % 256 := by
  have h : IntKind.u8.wrap x = x % 256 := rfl
  rw [h]
  unfold wrap64
  omega
/-- A slice's address has no spot. -/
def Flat (A : Option Addr) : Prop := ∀ a, A = some a → a.spot = none
theorem Flat.none_ : Flat none := fun _ h => by cases h
theorem Flat.of_R {α : Type} {d : Kd α} {e : Nat} {w : World} {base : Nat} {ok : Nat → Prop} {A : Option Addr} {n c : Nat} {xs : List α} (h : Aside0 (Kd.R d e w base ok (.slice A n c) xs)) : Flat A := by
  obtain ⟨_, ho⟩ := Kd.R_own h.out
  intro a ha
  subst ha
  rcases ho.2 with ⟨hv, _⟩ | ⟨g, cap, cur, hv, _⟩
  · cases hv
  · cases hv; rfl

def strings_Join.f (l0 : List ByteArray) (a1 : ByteArray) : Option ByteArray :=
  if l0.length ≤ 140737488355328 ∧ (Lib.join (l0.map (·.data.toList)) a1.data.toList).length ≤ 140737488355328 then some ⟨(Lib.join (l0.map (·.data.toList)) a1.data.toList).toArray⟩ else none
theorem strings_Join.calls (A0 : Option Addr) (c0 : Nat) (l0 : List ByteArray) (a1 : ByteArray) (r : ByteArray) (w : World) (hr0 : Kd.C Kd.string w A0 l0.length l0) (hc0 : l0.length ≤ c0) (hsp0 : Flat A0) (h : strings_Join.f l0 a1 = some r) :
    Calls Tryd.prog 104 #[.slice A0 l0.length c0, .string a1] w fun e w' => e = .returned (.string r) ∧ Below w.heap.size w w' := by
  unfold strings_Join.f at h
  split at h
  · rename_i hz
    obtain rfl := Option.some.inj h
    by_cases h0 : l0 = []
    · subst h0
      refine (Tryd.strings_Join_none A0 c0 a1 w).mono ?_
      rintro e w' ⟨rfl, rfl⟩
      exact ⟨rfl, Below.refl _ _⟩
    · have hp : 0 < l0.length := List.length_pos_iff.2 h0
      obtain ⟨ad, rfl, hc⟩ := Kd.at_string hr0 0 (by omega) (by omega)
      obtain ⟨bk, o, sp⟩ := ad
      obtain rfl : sp = none := hsp0 _ rfl
      refine Tryd.strings_Join bk o c0 l0 a1 w ?_ (World.block_lt_of_cell? w _ hc) hz.1 hc0 hz.2
      intro j x hj
      have hl : j < l0.length := (List.getElem?_eq_some_iff.1 hj).1
      obtain ⟨ad', he, hc'⟩ := Kd.at_string hr0 (j : Int) (by omega) (by omega)
      cases he
      have e1 : rdOf ByteArray.empty l0 (j : Int) = x := by
        unfold rdOf
        rw [Int.toNat_natCast, List.getD_eq_getElem?_getD, hj]
        rfl
      rw [e1, Int.toNat_natCast] at hc'
      unfold Addr.add at hc'
      split at hc'
      · rename_i hj0
        subst hj0
        exact hc'
      · exact hc'
  · cases h
end Go.Proofs.YtdcaipomjimplaaDoor
namespace Go.Proofs.YtdcaipomjimplaaDoor
open Go.RowKit Go.Proofs.YtdcaipomjimplaaDoorW.PrintWords Go.Proofs.YtdcaipomjimplaaDoorW.PrintLast Go.Proofs.YtdcaipomjimplaaDoorW.PrintMore
set_option linter.unusedVariables false
theorem y1_ {P : Prop} (h : P := by (try simp only [List.map_toArray, List.map_cons, List.map_nil]); first | done | rfl | (simp only [List.length_drop, List.length_take]; rfl) | (simp only [w64_u8]; rfl)) : P := h
theorem y3_ {P : Prop} (h : P := by first | (with_reducible assumption) | assumption) : P := h
theorem y4_ {P : Prop} (h : P := by first | rfl | (simp; done) | (simp [*]; done)) : P := h
theorem y5_ {P : Prop} (h : P := by first | rfl | (simp only [w64_u8]; rfl)) : P := h
theorem y6_ {P : Prop} (h : P := by first | rfl | (simp [errW_none, errW_some] <;> rfl) | (simp [*, errW_none, errW_some] <;> rfl)) : P := h
theorem y7_ {P Q : Prop} (h : P) (q : P → Q := by intro z_; repeat (first | (with_reducible first | exact z_ | apply below_alloc | apply pw_below_drewN | apply below_drew1) | exact z_)) : Q := q h
theorem y8_ {P Q R : Prop} (h : P) (i : R) (q : P → R → Q := by intro z_ y_; repeat (first | (with_reducible first | exact z_ | apply below_alloc | apply pw_below_drewN | apply below_drew1 | refine below_set ?_ y_) | exact z_)) : Q := q h i
theorem y9_ {P Q : Prop} (h : P) (q : P → Q := by intro z_; repeat (first | (with_reducible first | exact z_ | apply KeepBut.set_ | apply keep_drewN | apply keep_drew | apply keep_alloc) | exact z_)) : Q := q h
theorem y11_ {P Q : Prop} (h : P) (q : P → Q := by intro z_; (with_reducible repeat (first | apply Kd.R_alloc | apply Kd.R_drewN | apply Kd.R_drew)); exact z_) : Q := q h
theorem y12_ {P Q : Prop} (h : P) (q : P → Q := by intro z_; (with_reducible repeat (first | refine blk_drewN ?_ _ | refine blk_drew ?_ | refine blk_alloc ?_ _)); exact z_) : Q := q h
theorem y13_ {P Q : Prop} (h : P) (q : P → Q := by intro z_; (with_reducible repeat (first | apply Kd.Q_alloc | apply Kd.Q_drewN | apply Kd.Q_drew)); exact z_) : Q := q h
theorem y15_ {P Q : Prop} (h : P) (q : P → Q := by intro z_; repeat (first | (with_reducible first | exact z_ | apply IsS81.alloc | apply IsS81.drewN | apply IsS81.drew | apply IsS81.set_1) | exact z_)) : Q := q h
theorem y16_ {P Q : Prop} (h : P) (q : P → Q := by intro z_; repeat (first | (with_reducible first | exact z_ | apply Kept.alloc | apply Kept.drewN | apply Kept.drew) | exact z_)) : Q := q h
theorem am_ {p : Prop} (h : p) : Aside0 p := Aside0.mk h
end Go.Proofs.YtdcaipomjimplaaDoor
