/- What the laws do with slices of texts: how much they bear, a copy, the same as itself. Plain Lean. -/
import Derived.Test.YtnemchmiplbopaaDoorXcSpec
import Derived.Test.YtnemchmiplbopaaDoorXcx1
import Derived.Test.YtnemchmiplbopaaDoorXcx9
import Derived.Test.YtnemchmiplbopaaDoorXcx10
namespace Go.Proofs.YtnemchmiplbopaaDoor.Pure
open Go.RowKit Go.Proofs.YtnemchmiplbopaaDoor Go.Proofs.YtnemchmiplbopaaDoor.Xc Go.Proofs.YtnemchmiplbopaaDoorW.PrintWords Go.Proofs.YtnemchmiplbopaaDoorW.PrintLast

theorem evC {α : Type} {g : Nat → Option α} {r : α} (h : ∀ k, g k = some r) : Ev g r := ⟨0, fun k _ => h k⟩
theorem rdS_at {l : List ByteArray} {i : Nat} (h : i < l.length) : rdOf ByteArray.empty l (i : Int) = l[i] := by
  unfold rdOf
  rw [Int.toNat_natCast, List.getD_eq_getElem?_getD, List.getElem?_eq_getElem h]
  rfl
theorem sz_l0 (l : List ByteArray) (hs : ∀ z ∈ l, z.size ≤ 140737488351232) (hl : l.length ≤ 8796093022208) : ∀ (d i : Nat) (left : Int), l.length - i ≤ d → i ≤ l.length → 0 ≤ left → left ≤ 1048576 →
    ∃ r, Ev (fun k => laws_szStringS.l0 k l left (i : Int)) r ∧ r ≤ left ∧ (0 ≤ r → ∀ x ∈ l.drop i, (x.size : Int) ≤ left) := by
  intro d
  induction d with
  | zero =>
    intro i left h0 h1 g0 g1
    refine ⟨left, Ev.step (f := fun _ => some left) (fun k => by rw [laws_szStringS.l0, if_neg (by omega)]) (Ev.now _), Int.le_refl _, fun _ x hx => ?_⟩
    rw [List.drop_eq_nil_of_le (by omega)] at hx
    cases hx
  | succ d ih =>
    intro i left h0 h1 g0 g1
    by_cases h : i < l.length
    · have hz := hs l[i] (List.getElem_mem h)
      have w1 : wrap64 (left - (l[i].size : Int)) = left - (l[i].size : Int) := wz (by omega) (by omega)
      by_cases hn : left - (l[i].size : Int) < 0
      · refine ⟨-1, Ev.step (f := fun _ => some (-1)) (fun k => by rw [laws_szStringS.l0, if_pos (by omega), if_pos (by omega), rdS_at h, w1, if_pos hn]) (Ev.now _), by omega, fun h => absurd h (by decide)⟩
      · obtain ⟨r, e, h2, h3⟩ := ih (i + 1) (left - (l[i].size : Int)) (by omega) (by omega) (by omega) (by omega)
        refine ⟨r, Ev.step (f := fun k => laws_szStringS.l0 k l (left - (l[i].size : Int)) ((i + 1 : Nat) : Int)) (fun k => by rw [laws_szStringS.l0, if_pos (by omega), if_pos (by omega), rdS_at h, w1, if_neg hn, wz (x := (i : Int) + 1) (by omega) (by omega)]; rfl) e, by omega, fun hr x hx => ?_⟩
        rw [List.drop_eq_getElem_cons h] at hx
        rcases List.mem_cons.1 hx with rfl | hx
        · omega
        · have := h3 hr x hx
          omega
    · refine ⟨left, Ev.step (f := fun _ => some left) (fun k => by rw [laws_szStringS.l0, if_neg (by omega)]) (Ev.now _), Int.le_refl _, fun _ x hx => ?_⟩
      rw [List.drop_eq_nil_of_le (by omega)] at hx
      cases hx
/-- How much room is left behind a slice of texts: less than none, or there is as much as they bear. -/
theorem szS_ev (l : List ByteArray) (g : l.length * 16 ≤ 140737488351232 ∧ l.length ≤ maxLen ∧ ∀ z_ ∈ l, z_.size ≤ 140737488351232) (left : Int) (h0 : 0 ≤ left) (h1 : left ≤ 1048576) :
    ∃ r, Ev (fun k => laws_szStringS.f k l left) r ∧ r ≤ left ∧ (0 ≤ r → (l.length : Int) ≤ left ∧ ∀ x ∈ l, (x.size : Int) ≤ left) := by
  obtain ⟨g1, _, g2⟩ := g
  have w1 : wrap64 (left - (l.length : Int)) = left - (l.length : Int) := wz (by omega) (by omega)
  by_cases hn : left - (l.length : Int) < 0
  · refine ⟨-1, evC fun k => ?_, by omega, fun h => absurd h (by decide)⟩
    unfold laws_szStringS.f
    rw [w1, if_pos hn]
  · obtain ⟨r, e, h2, h3⟩ := sz_l0 l g2 (by omega) l.length 0 (left - (l.length : Int)) (by omega) (by omega) (by omega) (by omega)
    refine ⟨r, Ev.congr (fun k => ?_) e, by omega, fun hr => ⟨by omega, fun x hx => ?_⟩⟩
    · unfold laws_szStringS.f
      rw [w1, if_neg hn]
      rfl
    · have := h3 hr x (by rw [List.drop_zero]; exact hx)
      omega
theorem toS_l0 (l : List ByteArray) (hl : l.length ≤ 1048576) : ∀ (d i : Nat) (acc : List ByteArray), l.length - i ≤ d → i ≤ l.length → acc.length = l.length → (∀ j, j < i → acc[j]? = l[j]?) → Ev (fun k => laws_toStringS.l0 k l acc (i : Int)) l := by
  intro d
  induction d with
  | zero =>
    intro i acc h0 h1 ha hj
    have : acc = l := List.ext_getElem? fun j => by
      by_cases h : j < i
      · exact hj j h
      · rw [List.getElem?_eq_none (by omega), List.getElem?_eq_none (by omega)]
    subst this
    exact Ev.step (f := fun _ => some acc) (fun k => by rw [laws_toStringS.l0, if_neg (by omega)]) (Ev.now _)
  | succ d ih =>
    intro i acc h0 h1 ha hj
    by_cases h : i < l.length
    · refine Ev.step (f := fun k => laws_toStringS.l0 k l (acc.set i l[i]) ((i + 1 : Nat) : Int)) (fun k => by rw [laws_toStringS.l0, if_pos (by omega), if_pos (by omega), if_pos (by omega), rdS_at h, wz (x := (i : Int) + 1) (by omega) (by omega), Int.toNat_natCast]; rfl) (ih (i + 1) (acc.set i l[i]) (by omega) (by omega) (by rw [List.length_set]; exact ha) fun j hlt => ?_)
      rw [List.getElem?_set]
      by_cases hji : i = j
      · subst hji
        rw [if_pos rfl, if_pos (by omega), List.getElem?_eq_getElem h]
      · rw [if_neg hji]
        exact hj j (by omega)
    · have : acc = l := List.ext_getElem? fun j => by
        by_cases h : j < i
        · exact hj j h
        · rw [List.getElem?_eq_none (by omega), List.getElem?_eq_none (by omega)]
      subst this
      exact Ev.step (f := fun _ => some acc) (fun k => by rw [laws_toStringS.l0, if_neg (by omega)]) (Ev.now _)
theorem toS_ev (l : List ByteArray) (hl : l.length ≤ 1048576) : Ev (fun k => laws_toStringS.f k l) l := by
  refine Ev.congr (fun k => ?_) (toS_l0 l hl l.length 0 (List.replicate l.length (⟨#[]⟩ : ByteArray)) (by omega) (by omega) (by simp) (fun j h => by omega))
  unfold laws_toStringS.f
  rw [if_pos (by omega), if_pos (by omega), Int.toNat_natCast]
  rfl
theorem eqS_l0 (l : List ByteArray) (hl : l.length ≤ 8796093022208) : ∀ (d i : Nat), l.length - i ≤ d → i ≤ l.length → Ev (fun k => laws_eqStringS.l0 k l l (i : Int)) true := by
  intro d
  induction d with
  | zero => intro i h0 h1; exact Ev.step (f := fun _ => some true) (fun k => by rw [laws_eqStringS.l0, if_neg (by omega)]) (Ev.now _)
  | succ d ih =>
    intro i h0 h1
    by_cases h : i < l.length
    · exact Ev.step (f := fun k => laws_eqStringS.l0 k l l ((i + 1 : Nat) : Int)) (fun k => by rw [laws_eqStringS.l0, if_pos (by omega), if_pos (by omega), if_pos (by omega), if_pos rfl, wz (x := (i : Int) + 1) (by omega) (by omega)]; rfl) (ih (i + 1) (by omega) (by omega))
    · exact Ev.step (f := fun _ => some true) (fun k => by rw [laws_eqStringS.l0, if_neg (by omega)]) (Ev.now _)
theorem eqS_ev (l : List ByteArray) (hl : l.length ≤ 8796093022208) : Ev (fun k => laws_eqStringS.f k l l) true :=
  Ev.congr (fun k => by unfold laws_eqStringS.f; rw [if_pos rfl]; rfl) (eqS_l0 l hl l.length 0 (by omega) (by omega))
end Go.Proofs.YtnemchmiplbopaaDoor.Pure
