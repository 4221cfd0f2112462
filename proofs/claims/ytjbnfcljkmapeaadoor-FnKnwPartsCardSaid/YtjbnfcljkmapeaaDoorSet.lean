/- A set of texts (map[string]bool) in a block: what it holds is a list; it is asked, and put into, at the operation. -/
import Derived.Maps.OwnSet
import Derived.Below
import Derived.Deep.Draws
import Derived.StringKeys
import Derived.Maps.Views
import Derived.Test.YtjbnfcljkmapeaaDoorKnw
namespace Go.Proofs.YtjbnfcljkmapeaaDoor.SetW
open Go.Maps (Keyed IsMap) 
open Go.Proofs.YtjbnfcljkmapeaaDoor.Th (hasB)
open Go.RowKit
set_option linter.unusedVariables false

/-- Block b of w is a set of texts: just those of l; n bounds its entries. -/
def IsSet (P : Program) (k e : TypeId) (w : World) (b n : Nat) (l : List ByteArray) : Prop :=
  ∃ D : DataW Unit, w.ownsMap P k (plainElem P e) b n D ∧ IsMap D ∧ ∀ s : ByteArray, D.atKey (.string s.data.toList) (.lit (.bool false)) = .lit (.bool (hasB l s))
variable {P : Program} {k e t : TypeId} {w w' : World} {b n : Nat} {l : List ByteArray}
theorem IsSet.made (P : Program) (k e : TypeId) (w : World) : IsSet P k e (w.alloc (.map #[] 0)) w.heap.size 0 [] :=
  ⟨.map [], World.ownsMap_made w P k _, Go.Maps.isMap_empty, fun s => rfl⟩
theorem IsSet.lt (h : IsSet P k e w b n l) : b < w.heap.size := by
  obtain ⟨D, h1, _⟩ := h
  exact h1.lt
theorem IsSet.mono (h : IsSet P k e w b n l) {m : Nat} (hm : n ≤ m) : IsSet P k e w b m l := by
  obtain ⟨D, h1, h2⟩ := h
  exact ⟨D, h1.mono hm, h2⟩
theorem IsSet.kept {row : Option Nat} (h : IsSet P k e w b n l) (hg : w.grownBy w' row) (hne : some b ≠ row) : IsSet P k e w' b n l := by
  obtain ⟨D, h1, h2⟩ := h
  exact ⟨D, h1.kept hg hne, h2⟩
theorem IsSet.setCell (h : IsSet P k e w b n l) {a : Addr} (ha : b ≠ a.block) (u : Value) : IsSet P k e (w.setCell a u) b n l := by
  obtain ⟨D, h1, h2⟩ := h
  exact ⟨D, h1.setCell ha u, h2⟩
theorem IsSet.alloc (h : IsSet P k e w b n l) (o : Obj) : IsSet P k e (w.alloc o) b n l := by
  obtain ⟨D, h1, h2⟩ := h
  exact ⟨D, h1.alloc o, h2⟩
theorem IsSet.drew (h : IsSet P k e w b n l) : IsSet P k e w.drew b n l := by
  obtain ⟨D, h1, h2⟩ := h
  exact ⟨D, h1.drew, h2⟩
theorem IsSet.block (h : IsSet P k e w b n l) (hb : w'.heap[b]? = w.heap[b]?) : IsSet P k e w' b n l := by
  obtain ⟨D, ⟨es, clock, h1, h2⟩, h3⟩ := h
  exact ⟨D, ⟨es, clock, hb.trans h1, h2⟩, h3⟩
theorem IsSet.below (h : IsSet P k e w b n l) (hb : Below w.heap.size w w') : IsSet P k e w' b n l := h.block (hb.block b h.lt)
theorem IsSet.drewN (h : IsSet P k e w b n l) (m : Nat) : IsSet P k e (w.drewN m) b n l := h.block rfl
theorem bool_inv {v : Value} {z : DataW Unit × List MemPlace} (he : P.underlying e = some .bool) (h : plainElem P e v = some z) : ∃ x, v = .bool x ∧ z = (.lit (.bool x), []) := by
  unfold plainElem at h
  rw [he] at h
  split at h
  · rename_i x _ _
    cases h
    exact ⟨_, rfl, rfl⟩
  · rename_i h1
    exact absurd h1 (by simp)
  · rename_i h1
    exact absurd h1 (by simp)
  · cases h
/-- 's[x]' -/
theorem IsSet.look (h : IsSet P k e w b n l) (hk : P.underlying k = some .string) (he : P.underlying e = some .bool) (ht : P.underlying t = some (.map k e)) (hz : (zeroValue e).run P w = .ok (.bool false) w) {s : ByteArray} (hs : s.size ≤ maxLen) :
    (Instr.lookup t (.map (some b)) (.string s) false).run P w = .ok (.bool (hasB l s)) w := by
  obtain ⟨D, h1, h2, h3⟩ := h
  obtain ⟨v, ps, hrun, hv⟩ := h1.lookup (Go.Maps.string_keyed hk) ht hz (plainElem_bool he false) (Go.WideMaps.keyOf_string_mk hk hs)
  obtain ⟨x, rfl, hx⟩ := bool_inv he hv
  rw [h3 s] at hx
  simp only [Prod.mk.injEq, DataW.lit.injEq, Lit.bool.injEq] at hx
  rw [hrun, hx.1]
theorem wpList_look_set (w : World) {ops : Array Oper} {rest : List Oper} {o : Oper} {a : Act} {Q : Exit → Act → World → Prop}
    (hg : o.guard = none) (m x : Operand) (hop : o.op = Op.lookup t m x false) (hk : P.underlying k = some .string) (he : P.underlying e = some .bool) (ht : P.underlying t = some (.map k e)) (hz : (zeroValue e).run P w = .ok (.bool false) w)
    (hm : a.eval m = .map (some b)) (h : IsSet P k e w b n l) (s : ByteArray) (hx : a.eval x = .string s) (hs : s.size ≤ maxLen)
    (hK : wpList P ops Q rest (a.put o.dst (.bool (hasB l s))) w) : wpList P ops Q (o :: rest) a w := by
  refine wpList_plain hg fun K' hK' => ?_
  have hrun := h.look hk he ht hz hs
  unfold Oper.wp
  simp [execOp, hop, hm, hx, hrun, Result.andThen]
  exact hK' _ _ hK
/-- 's[x] = true' -/
theorem wpList_put_set (w : World) {ops : Array Oper} {rest : List Oper} {o : Oper} {a : Act} {Q : Exit → Act → World → Prop}
    (hg : o.guard = none) (m x v : Operand) (hop : o.op = Op.mapUpdate t m x v) (hk : P.underlying k = some .string) (he : P.underlying e = some .bool) (ht : P.underlying t = some (.map k e))
    (hm : a.eval m = .map (some b)) (h : IsSet P k e w b n l) (hn : n < maxLen) (s : ByteArray) (hx : a.eval x = .string s) (hs : s.size ≤ maxLen) (hv : a.eval v = .bool true)
    (hK : ∀ w', IsSet P k e w' b (n + 1) (l ++ [s]) → w.grownBy w' (some b) → wpList P ops Q rest (a.put o.dst undef) w') : wpList P ops Q (o :: rest) a w := by
  obtain ⟨D, h1, h2, h3⟩ := h
  refine wpList_mapUpdate_own w hg m x v t hop k e (Go.Maps.string_keyed hk) ht _ b n D hm h1 hn (.string s) (.bool true) (.string s.data.toList) hx hv (Go.WideMaps.keyOf_string_mk hk hs) (.lit (.bool true)) [] (plainElem_bool he true) fun w' h4 h5 => hK w' ⟨_, h4, h2.put _ _, fun u => ?_⟩ h5
  by_cases hu : u.data.toList = s.data.toList
  · have := Th.data_eq hu
    subst this
    rw [Go.Maps.atKey_put_same h2 (by simp [WideAt.IsKeyLit]), Th.hasB_iff.2 (by simp)]
  · rw [Go.Maps.atKey_put_other (fun h => hu (Lit.string.inj h)), h3]
    congr 2
    rw [Bool.eq_iff_iff, Th.hasB_iff, Th.hasB_iff, List.mem_append, List.mem_singleton]
    constructor
    · exact .inl
    · rintro (h | rfl)
      · exact h
      · exact absurd rfl hu
end Go.Proofs.YtjbnfcljkmapeaaDoor.SetW
