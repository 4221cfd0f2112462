/- Names that are made from names: the program's and the reference's. Plain Lean. -/
import Derived.Test.YtpiapmmlppknbaaDoorMaks
import Derived.Test.YtpiapmmlppknbaaDoorMkx4
import Derived.Test.YtpiapmmlppknbaaDoorMkx5
namespace Go.Proofs.YtpiapmmlppknbaaDoor.Pure
open Go.RowKit Go.Proofs.YtpiapmmlppknbaaDoor Go.Proofs.YtpiapmmlppknbaaDoor.Mk Go.Proofs.YtpiapmmlppknbaaDoorW.PrintWords Go.Proofs.YtpiapmmlppknbaaDoorW.PrintLast
open Go.Proofs.YtpiapmmlppknbaaDoor.Th (T B Nm nm dec hd prsNum whole)

/-- What makSay is. -/
def madeSay (s : ByteArray) (w : Int) : ByteArray := if 0 ≤ w ∧ w ≤ 7 then made1 (T [109, 65 + w.toNat]) s else ⟨#[]⟩
def madeRoom (s : ByteArray) (r : Int) : ByteArray := if 1 ≤ r ∧ r ≤ 9 then made1 (T [114, 48 + r.toNat]) s else ⟨#[]⟩
theorem made1_no {h s : ByteArray} (g : nm s = none) : made1 h s = ⟨#[]⟩ := by unfold made1; rw [g]; rfl
theorem specSay_ev (s : ByteArray) (w : Int) (hs : s.size ≤ 2000000) : Ev (fun k => spec_MakSay.f k s w) (madeSay s w) := by
  unfold spec_MakSay.f madeSay
  refine Ev.bind (secOk_ev s) ?_
  have no : ∀ q : Bool, Ev (fun k => spec_MakSay.j0 k s w true) (⟨#[]⟩ : ByteArray) := fun _ => Ev.step (f := fun _ => some ⟨#[]⟩) (fun k => by rw [spec_MakSay.j0, if_pos rfl]) (Ev.now _)
  cases hn : nm s with
  | none =>
    rw [made1_no hn, ite_self]
    refine Ev.congr (fun k => ?_) (no true)
    rw [Option.isSome_none, if_neg (by decide)]
  | some a =>
    have ha := (Th.nm_some.1 hn).1
    refine Ev.congr (f := fun k => spec_MakSay.j0 k s w (!decide (0 ≤ w ∧ w ≤ 7))) (fun k => ?_) ?_
    · rw [Option.isSome_some, if_pos rfl, spec_in, Option.bind_some]
    · by_cases g : 0 ≤ w ∧ w ≤ 7
      · obtain ⟨n, rfl⟩ := Int.eq_ofNat_of_zero_le g.1
        rw [decide_eq_true g, if_pos g, Int.toNat_natCast]
        refine Ev.step (f := fun k => (spec_l1Ok.f k (T [109, 65 + n] ++ s)).bind fun t => some t) (fun k => ?_) ?_
        · rw [spec_MakSay.j0, if_neg (by decide), spec_letter n (by omega), Option.bind_some, if_pos (by rw [Th.T_size]; simp), if_pos (by rw [ByteArray.size_append, Th.T_size]; show 1 + 1 + s.size ≤ _; omega)]
          rw [show (⟨#[109]⟩ : ByteArray) ++ T [65 + n] = T [109, 65 + n] from (T_app [109] [65 + n]).symm]
        · unfold made1
          rw [hn, Option.isSome_some, if_pos rfl, ← okCap (nm_put hn [109, 65 + n] (.say n a) (by simp only [Nm.ok, Bool.and_eq_true, decide_eq_true_eq]; exact ⟨by omega, ha⟩) rfl)]
          exact Ev.bind (l1Ok_ev _) (Ev.now _)
      · rw [decide_eq_false g, if_neg g]
        exact no true
theorem specRoom_ev (s : ByteArray) (r : Int) (hs : s.size ≤ 2000000) : Ev (fun k => spec_MakRoom.f k s r) (madeRoom s r) := by
  unfold spec_MakRoom.f madeRoom
  refine Ev.bind (secOk_ev s) ?_
  have no : ∀ q : Bool, Ev (fun k => spec_MakRoom.j0 k s r true) (⟨#[]⟩ : ByteArray) := fun _ => Ev.step (f := fun _ => some ⟨#[]⟩) (fun k => by rw [spec_MakRoom.j0, if_pos rfl]) (Ev.now _)
  cases hn : nm s with
  | none =>
    rw [made1_no hn, ite_self]
    refine Ev.congr (fun k => ?_) (no true)
    rw [Option.isSome_none, if_neg (by decide)]
  | some a =>
    have ha := (Th.nm_some.1 hn).1
    refine Ev.congr (f := fun k => spec_MakRoom.j0 k s r (!decide (1 ≤ r ∧ r ≤ 9))) (fun k => ?_) ?_
    · rw [Option.isSome_some, if_pos rfl, spec_in, Option.bind_some]
    · by_cases g : 1 ≤ r ∧ r ≤ 9
      · obtain ⟨n, rfl⟩ := Int.eq_ofNat_of_zero_le (show 0 ≤ r by omega)
        have hd : dec n = [48 + n] := by unfold dec; rw [if_pos (by omega)]
        rw [decide_eq_true g, if_pos g, Int.toNat_natCast]
        have pl : Ev (fun k => spec_l1Plain.f k (n : Int)) (T [48 + n]) := ⟨3, fun k hk => (spec_plain n (by omega) k hk).trans (by rw [hd])⟩
        refine Ev.step (f := fun k => (spec_l1Plain.f k (n : Int)).bind fun t327 => (if 1 + t327.size ≤ 9223372036854775807 then (if ((⟨#[114]⟩ : ByteArray) ++ t327).size + s.size ≤ 9223372036854775807 then ((spec_l1Ok.f k (((⟨#[114]⟩ : ByteArray) ++ t327) ++ s)).bind fun t328 => (some t328)) else (none)) else (none))) (fun k => ?_) ?_
        · rw [spec_MakRoom.j0, if_neg (by decide)]
        · refine Ev.bind pl ?_
          refine Ev.congr (f := fun k => (spec_l1Ok.f k (T [114, 48 + n] ++ s)).bind fun t => some t) (fun k => ?_) ?_
          · rw [if_pos (by rw [Th.T_size]; simp), if_pos (by rw [ByteArray.size_append, Th.T_size]; show 1 + 1 + s.size ≤ _; omega)]
            rw [show (⟨#[114]⟩ : ByteArray) ++ T [48 + n] = T [114, 48 + n] from (T_app [114] [48 + n]).symm]
          · unfold made1
            rw [hn, Option.isSome_some, if_pos rfl, ← okCap (nm_put hn [114, 48 + n] (.room n a) (by simp only [Nm.ok, Bool.and_eq_true, decide_eq_true_eq]; exact ⟨⟨by omega, by omega⟩, ha⟩) rfl)]
            exact Ev.bind (l1Ok_ev _) (Ev.now _)
      · rw [decide_eq_false g, if_neg g]
        exact no true

theorem in_any' (x a b : Int) : impl_in.f x a b = some (decide (a ≤ x ∧ x ≤ b)) := by
  unfold impl_in.f
  by_cases h : x ≥ a
  · rw [if_pos h]; simp [show a ≤ x from h]
  · rw [if_neg h]; simp [show ¬ a ≤ x from h]
theorem isOne_any (x : Int) : impl_isOne.f x = some (decide (0 ≤ x ∧ x ≤ 7)) := by
  unfold impl_isOne.f
  rw [in_any']
  rfl
theorem letter_T (n : Nat) (h : n < 8) : impl_letter.f (n : Int) = some (T [65 + n]) := by
  unfold impl_letter.f
  rw [if_pos (by omega)]
  rfl
theorem itoa_T (n : Nat) (h : n < 10) : strconv_Itoa.f (n : Int) = some (T [48 + n]) := by
  have : ∀ n : Fin 10, strconv_Itoa.f ((n.1 : Nat) : Int) = some (T [48 + n.1]) := by decide +kernel
  exact this ⟨n, h⟩
theorem implSay (s : ByteArray) (w : Int) (k : Nat) : impl_MakSay.f (k + 2) s w = some (madeSay s w) := by
  unfold impl_MakSay.f madeSay
  rw [isOne_any, Option.bind_some]
  by_cases g : 0 ≤ w ∧ w ≤ 7
  · obtain ⟨n, rfl⟩ := Int.eq_ofNat_of_zero_le g.1
    rw [decide_eq_true g, if_pos rfl, if_pos g, letter_T n (by omega), Option.bind_some, if_pos (by rw [Th.T_size]; simp), show (⟨#[109]⟩ : ByteArray) ++ T [65 + n] = T [109, 65 + n] from (T_app [109] [65 + n]).symm, impl_made1 _ _ (by rw [Th.T_size]; simp), Option.bind_some, Int.toNat_natCast]
  · rw [decide_eq_false g, if_neg (by decide), if_neg g]
theorem implRoom (s : ByteArray) (r : Int) (k : Nat) : impl_MakRoom.f (k + 2) s r = some (madeRoom s r) := by
  unfold impl_MakRoom.f madeRoom
  rw [in_any', Option.bind_some]
  by_cases g : 1 ≤ r ∧ r ≤ 9
  · obtain ⟨n, rfl⟩ := Int.eq_ofNat_of_zero_le (show 0 ≤ r by omega)
    rw [decide_eq_true g, if_pos rfl, if_pos g, itoa_T n (by omega), Option.bind_some, if_pos (by rw [Th.T_size]; simp), show (⟨#[114]⟩ : ByteArray) ++ T [48 + n] = T [114, 48 + n] from (T_app [114] [48 + n]).symm, impl_made1 _ _ (by rw [Th.T_size]; simp), Option.bind_some, Int.toNat_natCast]
  · rw [decide_eq_false g, if_neg (by decide), if_neg g]
end Go.Proofs.YtpiapmmlppknbaaDoor.Pure
