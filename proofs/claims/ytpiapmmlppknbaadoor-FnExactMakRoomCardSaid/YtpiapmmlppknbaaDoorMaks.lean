/- Names that are made from names: the program's and the reference's. Plain Lean. -/
import Derived.Test.YtpiapmmlppknbaaDoorSizes
import Derived.Test.YtpiapmmlppknbaaDoorMkx4
import Derived.Test.YtpiapmmlppknbaaDoorMkx4
import Derived.Test.YtpiapmmlppknbaaDoorMkx4
namespace Go.Proofs.YtpiapmmlppknbaaDoor.Pure
open Go.RowKit Go.Proofs.YtpiapmmlppknbaaDoor Go.Proofs.YtpiapmmlppknbaaDoor.Mk Go.Proofs.YtpiapmmlppknbaaDoorW.PrintWords Go.Proofs.YtpiapmmlppknbaaDoorW.PrintLast
open Go.Proofs.YtpiapmmlppknbaaDoor.Th (T B Nm nm dec hd prsNum whole)

theorem join1 (s : ByteArray) (h : s.size ≤ 300) : strings_Join.f [s] ⟨#[]⟩ = some s := by
  unfold strings_Join.f
  have e : Lib.join ([s].map (·.data.toList)) (⟨#[]⟩ : ByteArray).data.toList = s.data.toList := by simp [Lib.join, List.intercalate]
  rw [e, if_pos ⟨by simp, by rw [Array.length_toList]; exact Nat.le_trans h (by decide)⟩, Array.toArray_toList]
theorem join2 (a b : ByteArray) (h : a.size ≤ 300) (g : b.size ≤ 300) : strings_Join.f [a, b] ⟨#[]⟩ = some (a ++ b) := by
  unfold strings_Join.f
  have e : Lib.join ([a, b].map (·.data.toList)) (⟨#[]⟩ : ByteArray).data.toList = (a ++ b).data.toList := by simp [Lib.join, List.intercalate]
  rw [e, if_pos ⟨by simp, by rw [Array.length_toList]; show (a ++ b).size ≤ _; rw [ByteArray.size_append]; omega⟩, Array.toArray_toList]
/-- A text that is not too long, or none. -/
def cap (s : ByteArray) : ByteArray := if s.size ≤ 300 then s else ⟨#[]⟩
def made1 (h s : ByteArray) : ByteArray := if (nm s).isSome = true then cap (h ++ s) else ⟨#[]⟩
def made2 (h a b : ByteArray) : ByteArray := if (nm a).isSome = true then (if (nm b).isSome = true then cap (h ++ (a ++ b)) else ⟨#[]⟩) else ⟨#[]⟩
theorem nm_short {s : ByteArray} (h : (nm s).isSome = true) : s.size ≤ 300 := by
  obtain ⟨a, e⟩ := Option.isSome_iff_exists.1 h
  exact (Th.nm_some.1 e).2.1
theorem cap_ite (s : ByteArray) : (if (s.size : Int) ≤ 300 then (some s) else (some (⟨#[]⟩ : ByteArray))) = some (cap s) := by
  unfold cap
  by_cases h : s.size ≤ 300
  · rw [if_pos h, if_pos (by omega)]
  · rw [if_neg h, if_neg (by omega)]
theorem impl_made1 (h s : ByteArray) (hh : h.size ≤ 10) (k : Nat) : impl_made.f (k + 2) h [s] = some (made1 h s) := by
  unfold impl_made.f made1
  rw [impl_made.l0, if_pos (by simp), if_pos (by omega), if_pos (by simp), show rdOf ByteArray.empty [s] 0 = s from rfl, impl_SecOk.f, Option.bind_some]
  by_cases g : (nm s).isSome = true
  · have := nm_short g
    rw [if_pos g, if_pos g, show wrap64 (0 + 1) = 1 by rw [wz (by omega) (by omega)]; rfl, impl_made.l0, if_neg (by simp), join1 s this, Option.bind_some, if_pos (by omega), cap_ite]
  · rw [if_neg g, if_neg g]
theorem impl_made2 (h a b : ByteArray) (hh : h.size ≤ 10) (k : Nat) : impl_made.f (k + 3) h [a, b] = some (made2 h a b) := by
  unfold impl_made.f made2
  rw [impl_made.l0, if_pos (by simp), if_pos (by omega), if_pos (by simp), show rdOf ByteArray.empty [a, b] 0 = a from rfl, impl_SecOk.f, Option.bind_some]
  by_cases g : (nm a).isSome = true
  · have h1 := nm_short g
    rw [if_pos g, if_pos g, show wrap64 (0 + 1) = 1 by rw [wz (by omega) (by omega)]; rfl, impl_made.l0, if_pos (by simp), if_pos (by omega), if_pos (by simp), show rdOf ByteArray.empty [a, b] 1 = b from rfl, impl_SecOk.f, Option.bind_some]
    by_cases g2 : (nm b).isSome = true
    · have h2 := nm_short g2
      rw [if_pos g2, if_pos g2, show wrap64 (1 + 1) = 2 by rw [wz (by omega) (by omega)]; rfl, impl_made.l0, if_neg (by simp), join2 a b h1 h2, Option.bind_some, if_pos (by rw [ByteArray.size_append]; omega), cap_ite]
    · rw [if_neg g2, if_neg g2]
  · rw [if_neg g, if_neg g]
theorem l1Ok_ev (s : ByteArray) : Ev (fun k => spec_l1Ok.f k s) (if (nm s).isSome = true then s else ⟨#[]⟩) := by
  unfold spec_l1Ok.f
  refine Ev.bind (secOk_ev s) (Ev.of_eq fun k => ?_)
  split <;> rfl
/-- A name behind its head is a name, if it is not too long. -/
theorem nm_put {s : ByteArray} {a : Nm} (h : nm s = some a) (l : List Nat) (f : Nm) (hok : f.ok = true) (he : f.enc = l ++ a.enc) : (nm (T l ++ s)).isSome = decide ((T l ++ s).size ≤ 300) := by
  obtain ⟨_, _, hs⟩ := Th.nm_some.1 h
  rw [hs, ← T_app, ← he]
  by_cases g : (T f.enc).size ≤ 300
  · rw [decide_eq_true g, Th.nm_T hok (by rw [← Th.T_size]; exact g)]
    rfl
  · rw [decide_eq_false g, nm, if_neg g]
    rfl
theorem okCap {s : ByteArray} (h : (nm s).isSome = decide (s.size ≤ 300)) : (if (nm s).isSome = true then s else ⟨#[]⟩) = cap s := by
  unfold cap
  rw [h]
  by_cases g : s.size ≤ 300
  · rw [if_pos g, if_pos (decide_eq_true g)]
  · rw [if_neg g, if_neg (by rw [decide_eq_false g]; decide)]
theorem specNext_ev (s : ByteArray) (hs : s.size ≤ 2000000) : Ev (fun k => spec_MakNext.f k s) (made1 (T [110]) s) := by
  unfold spec_MakNext.f made1
  refine Ev.bind (secOk_ev s) ?_
  cases hn : nm s with
  | none => exact Ev.of_eq fun k => by rw [Option.isSome_none, if_neg (by decide), if_neg (by decide)]
  | some a =>
    have ha := (Th.nm_some.1 hn).1
    refine Ev.congr (f := fun k => (spec_l1Ok.f k (T [110] ++ s)).bind fun t => some t) (fun k => ?_) ?_
    · rw [Option.isSome_some, if_pos rfl, if_pos (by omega)]
      rfl
    · rw [Option.isSome_some, if_pos rfl, ← okCap (nm_put hn [110] (.next a) ha rfl)]
      exact Ev.bind (l1Ok_ev _) (Ev.now _)
theorem specKey_ev (s : ByteArray) (hs : s.size ≤ 2000000) : Ev (fun k => spec_MakKey.f k s) (made1 (T [107]) s) := by
  unfold spec_MakKey.f made1
  refine Ev.bind (secOk_ev s) ?_
  cases hn : nm s with
  | none => exact Ev.of_eq fun k => by rw [Option.isSome_none, if_neg (by decide), if_neg (by decide)]
  | some a =>
    have ha := (Th.nm_some.1 hn).1
    refine Ev.congr (f := fun k => (spec_l1Ok.f k (T [107] ++ s)).bind fun t => some t) (fun k => ?_) ?_
    · rw [Option.isSome_some, if_pos rfl, if_pos (by omega)]
      rfl
    · rw [Option.isSome_some, if_pos rfl, ← okCap (nm_put hn [107] (.key a) ha rfl)]
      exact Ev.bind (l1Ok_ev _) (Ev.now _)
theorem T_assoc (x y z : ByteArray) : (x ++ y) ++ z = x ++ (y ++ z) := by
  apply Th.B_inj
  simp only [Th.B_append, List.append_assoc]
theorem specEpoch_ev (a b : ByteArray) (ha : a.size ≤ 2000000) (hb : b.size ≤ 2000000) : Ev (fun k => spec_MakEpoch.f k a b) (made2 (T [101]) a b) := by
  unfold spec_MakEpoch.f made2
  refine Ev.bind (secOk_ev a) ?_
  cases hn : nm a with
  | none => exact Ev.of_eq fun k => by rw [Option.isSome_none, if_neg (by decide), if_neg (by decide)]
  | some x =>
    refine Ev.congr (fun k => if_pos rfl) ?_
    rw [Option.isSome_some, if_pos rfl]
    refine Ev.bind (secOk_ev b) ?_
    cases hm : nm b with
    | none => exact Ev.of_eq fun k => by rw [Option.isSome_none, if_neg (by decide), if_neg (by decide)]
    | some y =>
      have hx := (Th.nm_some.1 hn).1
      have hy := (Th.nm_some.1 hm).1
      refine Ev.congr (f := fun k => (spec_l1Ok.f k (T [101] ++ (a ++ b))).bind fun t => some t) (fun k => ?_) ?_
      · rw [Option.isSome_some, if_pos rfl, if_pos (by omega), if_pos (by rw [ByteArray.size_append]; show 1 + a.size + b.size ≤ _; omega), T_assoc]
        rfl
      · have e : (nm (T [101] ++ (a ++ b))).isSome = decide ((T [101] ++ (a ++ b)).size ≤ 300) := by
          have ea := (Th.nm_some.1 hn).2.2
          rw [← T_assoc, show T [101] ++ a = T (101 :: x.enc) by rw [ea, ← T_app]; rfl]
          exact nm_put hm (101 :: x.enc) (.epoch x y) (by simp [Nm.ok, hx, hy]) rfl
        rw [Option.isSome_some, if_pos rfl, ← okCap e]
        exact Ev.bind (l1Ok_ev _) (Ev.now _)
theorem implNext (s : ByteArray) (k : Nat) : impl_MakNext.f (k + 2) s = some (made1 (T [110]) s) := by
  unfold impl_MakNext.f
  rw [impl_made1 _ _ (by decide), Option.bind_some]
  rfl
theorem implKey (s : ByteArray) (k : Nat) : impl_MakKey.f (k + 2) s = some (made1 (T [107]) s) := by
  unfold impl_MakKey.f
  rw [impl_made1 _ _ (by decide), Option.bind_some]
  rfl
theorem implEpoch (a b : ByteArray) (k : Nat) : impl_MakEpoch.f (k + 3) a b = some (made2 (T [101]) a b) := by
  unfold impl_MakEpoch.f
  rw [impl_made2 _ _ _ (by decide), Option.bind_some]
  rfl
end Go.Proofs.YtpiapmmlppknbaaDoor.Pure
