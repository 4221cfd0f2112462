import Derived.Test.YtnemchmiplbopaaGreatDoorZjx5
import Derived.Test.YtnemchmiplbopaaGreatDoorZjx6
import Derived.Test.YtnemchmiplbopaaGreatDoorZjx7
import Derived.Test.YtnemchmiplbopaaGreatDoorZjx15
import Derived.Test.YtnemchmiplbopaaGreatDoorZjx8
import Derived.Test.YtnemchmiplbopaaGreatDoorGivTree
import Derived.Test.YtnemchmiplbopaaGreatDoorNames
import Derived.Test.YtnemchmiplbopaaGreatDoorZjGivK
import Derived.Test.YtnemchmiplbopaaGreatDoorZjx18
import Derived.Test.YtnemchmiplbopaaGreatDoorZjx11
import Derived.Test.YtnemchmiplbopaaGreatDoorZjx3
import Derived.Test.YtnemchmiplbopaaGreatDoorZjx2
import Derived.Test.YtnemchmiplbopaaGreatDoorZjx21
import Derived.Test.YtnemchmiplbopaaGreatDoorZjx12
import Derived.Test.YtnemchmiplbopaaGreatDoorZjx20
import Derived.Test.YtnemchmiplbopaaGreatDoorZjx14
import Derived.Test.YtnemchmiplbopaaGreatDoorZjx23
/- What the reference reads of a name: sizes, whether it is one, and how it was made. Plain Lean. The reference's reading of a name's size, and whether a text is a name. Plain Lean. How a name was made, as the reference reads it. Plain Lean. The key of a secret, the program's and the reference's. Plain Lean. Whether a tree is ok: the reference's answer is the program's. Plain Lean. What one in a group has: the program's way to ask, and the reference's, are one. Plain Lean, over secrets of places. Whether what one has is ok: the program's answer is the reference's. Plain Lean. What the laws do with slices of texts: how much they bear, a copy, the same as itself. Plain Lean. Boxes that are ok, as the reference tells them. Plain Lean. What the laws do with slices of boxes: how much they bear, a copy, the same as itself, marks. Plain Lean. What the laws do with slices of texts: marks, each a text of its own number. Plain Lean. What the law does with one in a group: the same as itself. Plain Lean. The program's MemJoin returns what the reference's returns, for all arguments: the law's plain statement. -/
namespace Go.Proofs.YtnemchmiplbopaaGreatDoor.Pure
section
open Go.RowKit Go.Proofs.YtnemchmiplbopaaGreatDoor Go.Proofs.YtnemchmiplbopaaGreatDoor.Zj Go.Proofs.YtnemchmiplbopaaGreatDoorW.PrintWords Go.Proofs.YtnemchmiplbopaaGreatDoorW.PrintLast
open Go.Proofs.YtnemchmiplbopaaGreatDoor.Th (T B Nm nm dec hd prsNum whole)

theorem wz {x : Int} (h0 : -1000000000000000 ≤ x) (h1 : x ≤ 1000000000000000) : wrap64 x = x := by
  unfold wrap64
  omega
theorem T_app (a b : List Nat) : T (a ++ b) = T a ++ T b := by
  apply Th.B_inj
  rw [Th.B_append]
  simp [T, B]
theorem spec_in (x a b : Int) : spec_l1In.f x a b = some (decide (a ≤ x ∧ x ≤ b)) := by
  unfold spec_l1In.f
  by_cases h : x ≥ a
  · rw [if_pos h]; simp [show a ≤ x from h]
  · rw [if_neg h]; simp [show ¬ a ≤ x from h]
theorem spec_letter (w : Nat) (h : w < 8) : spec_l1Who.f (w : Int) = some (T [65 + w]) := by
  have : ∀ n : Fin 8, spec_l1Who.f ((n.1 : Nat) : Int) = some (T [65 + n.1]) := by decide +kernel
  exact this ⟨w, h⟩
theorem spec_plain (n : Nat) (h : n < 100) (k : Nat) (hk : 3 ≤ k) : spec_l1Plain.f k (n : Int) = some (T (dec n)) := by
  have : ∀ n : Fin 100, spec_l1Plain.f 3 ((n.1 : Nat) : Int) = some (T (dec n.1)) := by decide +kernel
  exact at_rounds (fun k => spec_l1Plain.mono _ k) hk (this ⟨n, h⟩)
theorem dec_two (n : Nat) : (dec n).length ≤ 2 := by unfold dec; split <;> simp
/-- What makNew of one and a number is. -/
def mkN (w n : Nat) : ByteArray := if w < 8 ∧ 1 ≤ n ∧ n ≤ 99 then T (Nm.new w n).enc else ⟨#[]⟩
theorem spec_mkN (w n : Nat) (k : Nat) (hk : 4 ≤ k) : spec_MakNew.f k (w : Int) (n : Int) = some (mkN w n) := by
  obtain ⟨k, rfl⟩ : ∃ j, k = j + 1 := ⟨k - 1, by omega⟩
  unfold spec_MakNew.f mkN
  rw [spec_in, spec_in]
  simp only [Option.bind_some]
  by_cases h0 : w < 8
  · by_cases h1 : 1 ≤ n ∧ n ≤ 99
    · rw [decide_eq_true (by omega), decide_eq_true (by omega), if_pos rfl, if_pos ⟨h0, h1⟩]
      simp only [Bool.not_true, spec_MakNew.j0]
      rw [if_neg (by decide), spec_letter w h0, spec_plain n (by omega) k (by omega)]
      simp only [Option.bind_some]
      have := dec_two n
      rw [if_pos (by rw [Th.T_size, Th.T_size, List.length_singleton]; omega), if_pos (by rw [ByteArray.size_append, Th.T_size, Th.T_size, List.length_singleton]; omega)]
      rw [show (⟨#[59]⟩ : ByteArray) = T [59] from rfl, ← T_app, ← T_app]
      rfl
    · rw [decide_eq_true (by omega), decide_eq_false (by omega), if_pos rfl, if_neg (fun h => h1 h.2)]
      simp [spec_MakNew.j0]
  · rw [decide_eq_false (by omega), if_neg (by decide), if_neg (fun h => h0 h.1)]
    simp [spec_MakNew.j0]

/-! ### a new secret's name, read -/
theorem bt_pre {s : ByteArray} {pre t : List Nat} (h : B s = pre ++ t) (i : Nat) : bt s ((pre.length + i : Nat) : Int) = ((t.getD i 0 : Nat) : Int) := by
  rw [Th.bt_B, h, Int.toNat_natCast, List.getD_eq_getElem?_getD, List.getElem?_append_right (by omega), show pre.length + i - pre.length = i by omega, List.getD_eq_getElem?_getD]
theorem size_pre {s : ByteArray} {pre t : List Nat} (h : B s = pre ++ t) : s.size = pre.length + t.length := by
  rw [← Th.B_length, h, List.length_append]
theorem cut_pre {s : ByteArray} {pre t : List Nat} (h : B s = pre ++ t) (j : Nat) : s.extract pre.length (pre.length + j) = T (t.take j) := by
  apply Th.B_inj
  rw [Th.B_extract, h, Th.B_T (fun x hx => Th.B_lt s x (by rw [h]; exact List.mem_append_right _ (List.mem_of_mem_take hx)))]
  rw [List.take_append, List.take_of_length_le (by omega), show pre.length + j - pre.length = j by omega, List.drop_left]
theorem take_snoc {t : List Nat} {i : Nat} (h : i < t.length) : t.take (i + 1) = t.take i ++ [t.getD i 0] := by
  rw [List.take_add_one, List.getElem?_eq_getElem h, List.getD_eq_getElem?_getD, List.getElem?_eq_getElem h]
  rfl
section
variable {s : ByteArray} {pre t : List Nat} {c : Nat}
theorem fresh_tail (h : B s = pre ++ c :: t) (hs : s.size ≤ 1000000000000) (hc : 65 ≤ c ∧ c ≤ 72) (i n k : Nat) (hi : i ≤ t.length) (hk : 6 ≤ k) :
    spec_l1Fresh.j2 k s pre.length n ((pre.length + (1 + i) : Nat) : Int) false = some (if t.getD i 0 = 59 ∧ mkN (c - 65) n = T (c :: (t.take i ++ [59])) then ((i + 2 : Nat) : Int) else 0) := by
  obtain ⟨k, rfl⟩ : ∃ j, k = j + 2 := ⟨k - 2, by omega⟩
  have hz := size_pre h
  rw [List.length_cons] at hz
  have b0 : bt s ((pre.length : Nat) : Int) = (c : Int) := bt_pre h 0
  have b1 : bt s ((pre.length + (1 + i) : Nat) : Int) = ((t.getD i 0 : Nat) : Int) := by
    rw [bt_pre h (1 + i), show 1 + i = i + 1 by omega]
    rfl
  simp only [spec_l1Fresh.j2]
  rw [if_neg (by decide)]
  by_cases h0 : i < t.length
  · rw [if_neg (by omega), if_pos (by omega), if_pos (by omega), b1]
    by_cases h1 : t.getD i 0 = 59
    · rw [if_pos (by omega), if_pos (by omega), if_pos (by omega), b0, show ((c : Int) - 65) % 256 = ((c - 65 : Nat) : Int) by omega, spec_mkN _ _ _ (by omega), Option.bind_some]
      have e0 : wrap64 (((pre.length + (1 + i) : Nat) : Int) + 1) = ((pre.length + (i + 2) : Nat) : Int) := by rw [wz (by omega) (by omega)]; omega
      rw [e0, if_pos (by omega), if_pos (by omega), Int.toNat_natCast, Int.toNat_natCast, cut_pre h, show (c :: t).take (i + 2) = c :: t.take (i + 1) from rfl, take_snoc h0, h1]
      by_cases h2 : mkN (c - 65) n = T (c :: (t.take i ++ [59]))
      · rw [if_pos ⟨rfl, h2⟩, h2, bne_self_eq_false]
        simp only [spec_l1Fresh.j3]
        rw [if_neg (by decide), e0, wz (by omega) (by omega)]
        congr 1
        omega
      · have e2 : ((mkN (c - 65) n).toList != (T (c :: (t.take i ++ [59]))).toList) = true := bne_iff_ne.2 (fun e => h2 (Th.toList_eq.1 e))
        rw [if_neg (fun h => h2 h.2), e2]
        simp only [spec_l1Fresh.j3]
        rw [if_pos trivial]
    · rw [if_neg (by omega), if_neg (fun h => h1 h.1)]
      simp only [spec_l1Fresh.j3]
      rw [if_pos trivial]
  · have e1 : t.getD i 0 = 0 := by rw [List.getD_eq_getElem?_getD, List.getElem?_eq_none (by omega)]; rfl
    rw [if_pos (by omega), e1, if_neg (fun h => by omega)]
    simp only [spec_l1Fresh.j3]
    rw [if_pos trivial]
theorem fresh_more (h : B s = pre ++ c :: t) (hs : s.size ≤ 1000000000000) (i n k : Nat) (hi : i < 3) (hn : n ≤ 1000) (hd : 48 ≤ t.getD i 0 ∧ t.getD i 0 ≤ 57) :
    spec_l1Fresh.l0 (k + 2) s pre.length n ((pre.length + (1 + i) : Nat) : Int) = spec_l1Fresh.l0 k s pre.length ((10 * n + (t.getD i 0 - 48) : Nat) : Int) ((pre.length + (1 + (i + 1)) : Nat) : Int) := by
  have hz := size_pre h
  rw [List.length_cons] at hz
  have hl : i < t.length := Th.lt_of_getD (by omega)
  have b1 : bt s ((pre.length + (1 + i) : Nat) : Int) = ((t.getD i 0 : Nat) : Int) := by
    rw [bt_pre h (1 + i), show 1 + i = i + 1 by omega]
    rfl
  conv => lhs; rw [spec_l1Fresh.l0]
  rw [if_pos (by omega), if_pos (by omega), b1, if_pos (by omega), if_pos (by omega), wz (x := (pre.length : Int) + 4) (by omega) (by omega), decide_eq_true (by omega)]
  conv => lhs; rw [spec_l1Fresh.j2]
  rw [if_pos rfl, if_pos (by omega), if_pos (by omega), b1, wz (x := (n : Int) * 10) (by omega) (by omega), wz (x := (n : Int) * 10 + _) (by omega) (by omega), wz (x := ((pre.length + (1 + i) : Nat) : Int) + 1) (by omega) (by omega)]
  congr 1 <;> omega
theorem fresh_stop (h : B s = pre ++ c :: t) (hs : s.size ≤ 1000000000000) (hc : 65 ≤ c ∧ c ≤ 72) (i n k : Nat) (hi : i ≤ t.length) (hk : 6 ≤ k) (hd : ¬ (48 ≤ t.getD i 0 ∧ t.getD i 0 ≤ 57) ∨ i = 3) :
    spec_l1Fresh.l0 (k + 1) s pre.length n ((pre.length + (1 + i) : Nat) : Int) = some (if t.getD i 0 = 59 ∧ mkN (c - 65) n = T (c :: (t.take i ++ [59])) then ((i + 2 : Nat) : Int) else 0) := by
  have hz := size_pre h
  rw [List.length_cons] at hz
  have b1 : bt s ((pre.length + (1 + i) : Nat) : Int) = ((t.getD i 0 : Nat) : Int) := by
    rw [bt_pre h (1 + i), show 1 + i = i + 1 by omega]
    rfl
  rw [← fresh_tail h hs hc i n k hi hk]
  conv => lhs; rw [spec_l1Fresh.l0]
  by_cases h0 : i < t.length
  · rw [if_pos (by omega), if_pos (by omega), b1]
    by_cases h1 : (t.getD i 0 : Int) ≥ 48
    · rw [if_pos h1]
      by_cases h2 : (t.getD i 0 : Int) ≤ 57
      · rw [if_pos h2, wz (by omega) (by omega), decide_eq_false (by omega)]
      · rw [if_neg h2]
    · rw [if_neg h1]
  · rw [if_neg (by omega)]
theorem T_eq {a b : List Nat} (ha : ∀ x ∈ a, x < 256) (hb : ∀ x ∈ b, x < 256) (h : T a = T b) : a = b := by
  have := congrArg B h
  rwa [Th.B_T ha, Th.B_T hb] at this
theorem T_len {a b : List Nat} (h : T a = T b) : a.length = b.length := by
  have := congrArg ByteArray.size h
  rwa [Th.T_size, Th.T_size] at this
/-- The size of the new secret's name that stands first. -/
def freshSz (c : Nat) (t : List Nat) : Int := if 65 ≤ c ∧ c ≤ 72 then (match prsNum t with | some p => ((1 + t.length - p.2.length : Nat) : Int) | none => 0) else 0
theorem fresh_20 (h : B s = pre ++ c :: t) (hs : s.size ≤ 1000000000000) : spec_l1Fresh.f 20 s pre.length = some (freshSz c t) := by
  have hz := size_pre h
  rw [List.length_cons] at hz
  have b0 : bt s ((pre.length : Nat) : Int) = (c : Int) := bt_pre h 0
  unfold spec_l1Fresh.f freshSz
  rw [if_pos (by omega), if_pos (by omega), b0]
  by_cases hc : 65 ≤ c ∧ c ≤ 72
  · rw [if_neg (by omega), decide_eq_false (by omega), if_pos hc]
    simp only [spec_l1Fresh.j0]
    rw [if_neg (by decide), wz (x := (pre.length : Int) + 1) (by omega) (by omega), show (pre.length : Int) + 1 = ((pre.length + (1 + 0) : Nat) : Int) by omega, show (0 : Int) = ((0 : Nat) : Int) from rfl]
    have empty : ∀ (n : Nat) (l : List Nat), (n < 1 ∨ 99 < n) → mkN (c - 65) n ≠ T (c :: l) := by
      intro n l hn e
      rw [mkN, if_neg (by omega)] at e
      have z : (0 : Nat) = (c :: l).length := (congrArg ByteArray.size e).trans (Th.T_size _)
      exact absurd z (by simp)
    have some_ : ∀ (n : Nat), 1 ≤ n → n ≤ 99 → mkN (c - 65) n = T (c :: (dec n ++ [59])) := by
      intro n h1 h2
      rw [mkN, if_pos (by omega)]
      simp only [Nm.enc]
      rw [show 65 + (c - 65) = c by omega]
    by_cases d0 : 48 ≤ t.getD 0 0 ∧ t.getD 0 0 ≤ 57
    · have l0 : 0 < t.length := Th.lt_of_getD (by omega)
      have k1 : t.take 1 = [t.getD 0 0] := by rw [take_snoc l0]; rfl
      rw [fresh_more h hs 0 0 17 (by omega) (by omega) d0]
      by_cases d1 : 48 ≤ t.getD 1 0 ∧ t.getD 1 0 ≤ 57
      · have l1 : 1 < t.length := Th.lt_of_getD (by omega)
        have k2 : t.take 2 = [t.getD 0 0, t.getD 1 0] := by rw [take_snoc l1, k1]; rfl
        rw [fresh_more h hs 1 _ 15 (by omega) (by omega) d1]
        by_cases d2 : 48 ≤ t.getD 2 0 ∧ t.getD 2 0 ≤ 57
        · have l2 : 2 < t.length := Th.lt_of_getD (by omega)
          rw [fresh_more h hs 2 _ 13 (by omega) (by omega) d2, fresh_stop h hs hc 3 _ 12 (by omega) (by omega) (.inr rfl)]
          have no : prsNum t = none := by
            unfold prsNum
            by_cases z : 49 ≤ t.getD 0 0 ∧ t.getD 0 0 ≤ 57
            · rw [if_pos z, if_pos d1, if_neg (by omega)]
            · rw [if_neg z]
          rw [no, if_neg]
          · rfl
          rintro ⟨_, e⟩
          by_cases hv : 1 ≤ 10 * (10 * (10 * 0 + (t.getD 0 0 - 48)) + (t.getD 1 0 - 48)) + (t.getD 2 0 - 48) ∧ 10 * (10 * (10 * 0 + (t.getD 0 0 - 48)) + (t.getD 1 0 - 48)) + (t.getD 2 0 - 48) ≤ 99
          · rw [some_ _ hv.1 hv.2] at e
            have := T_len e
            have := dec_two (10 * (10 * (10 * 0 + (t.getD 0 0 - 48)) + (t.getD 1 0 - 48)) + (t.getD 2 0 - 48))
            simp only [List.length_cons, List.length_append, List.length_nil, List.length_take] at *
            omega
          · exact empty _ _ (by omega) e
        · rw [fresh_stop h hs hc 2 _ 14 (by omega) (by omega) (.inl d2), k2]
          by_cases z : t.getD 0 0 = 48
          · have no : prsNum t = none := by unfold prsNum; rw [if_neg (by omega)]
            rw [no, if_neg]
            · rfl
            rintro ⟨_, e⟩
            by_cases hv : 1 ≤ 10 * (10 * 0 + (t.getD 0 0 - 48)) + (t.getD 1 0 - 48)
            · rw [some_ _ hv (by omega)] at e
              have := T_len e
              unfold dec at this
              rw [if_pos (by omega)] at this
              simp at this
            · exact empty _ _ (by omega) e
          · by_cases q : t.getD 2 0 = 59
            · have yes : prsNum t = some (10 * (t.getD 0 0 - 48) + (t.getD 1 0 - 48), t.drop 3) := by
                unfold prsNum; rw [if_pos (by omega), if_pos d1, if_pos q]
              have l2 : 2 < t.length := Th.lt_of_getD (by omega)
              rw [yes, if_pos]
              · simp only [List.length_drop]
                congr 1
                omega
              · refine ⟨q, ?_⟩
                rw [some_ _ (by omega) (by omega)]
                unfold dec
                rw [if_neg (by omega)]
                rw [show 48 + (10 * (10 * 0 + (t.getD 0 0 - 48)) + (t.getD 1 0 - 48)) / 10 = t.getD 0 0 by omega, show 48 + (10 * (10 * 0 + (t.getD 0 0 - 48)) + (t.getD 1 0 - 48)) % 10 = t.getD 1 0 by omega]
            · have no : prsNum t = none := by unfold prsNum; rw [if_pos (by omega), if_pos d1, if_neg q]
              rw [no, if_neg (fun h => q h.1)]; rfl
      · rw [fresh_stop h hs hc 1 _ 16 (by omega) (by omega) (.inl d1), k1]
        by_cases z : t.getD 0 0 = 48
        · have no : prsNum t = none := by unfold prsNum; rw [if_neg (by omega)]
          rw [no, if_neg]
          · rfl
          rintro ⟨_, e⟩
          exact empty _ _ (by omega) e
        · by_cases q : t.getD 1 0 = 59
          · have yes : prsNum t = some (t.getD 0 0 - 48, t.drop 2) := by
              unfold prsNum; rw [if_pos (by omega), if_neg d1, if_pos q]
            have l1 : 1 < t.length := Th.lt_of_getD (by omega)
            rw [yes, if_pos]
            · simp only [List.length_drop]
              congr 1
              omega
            · refine ⟨q, ?_⟩
              rw [some_ _ (by omega) (by omega)]
              unfold dec
              rw [if_pos (by omega), show 48 + (10 * 0 + (t.getD 0 0 - 48)) = t.getD 0 0 by omega]
          · have no : prsNum t = none := by unfold prsNum; rw [if_pos (by omega), if_neg d1, if_neg q]
            rw [no, if_neg (fun h => q h.1)]; rfl
    · rw [fresh_stop h hs hc 0 0 18 (by omega) (by omega) (.inl d0)]
      have no : prsNum t = none := by unfold prsNum; rw [if_neg (by omega)]
      rw [no, if_neg]
      · rfl
      rintro ⟨_, e⟩
      exact empty _ _ (by omega) e
  · rw [if_neg hc]
    have key : spec_l1Fresh.j0 20 s pre.length true = some 0 := by
      simp only [spec_l1Fresh.j0]
      rw [if_pos trivial]
    by_cases g : (c : Int) < 65
    · rw [if_pos g]; exact key
    · rw [if_neg g, decide_eq_true (by omega)]; exact key
end
end
end Go.Proofs.YtnemchmiplbopaaGreatDoor.Pure
namespace Go.Proofs.YtnemchmiplbopaaGreatDoor.Pure
section
open Go.RowKit Go.Proofs.YtnemchmiplbopaaGreatDoor Go.Proofs.YtnemchmiplbopaaGreatDoor.Zj Go.Proofs.YtnemchmiplbopaaGreatDoorW.PrintWords Go.Proofs.YtnemchmiplbopaaGreatDoorW.PrintLast
open Go.Proofs.YtnemchmiplbopaaGreatDoor.Th (T B Nm nm dec hd prsNum whole)

/-- The size of the name that stands first; 0 if none does. -/
def sz (t : List Nat) : Int := match hd t with | some p => ((t.length - p.2.length : Nat) : Int) | none => 0
def more (a n : Int) : Int := if n = 0 then 0 else a + n
theorem hd_short {t : List Nat} {a : Nm} {r : List Nat} (h : hd t = some (a, r)) : r.length < t.length := by
  obtain ⟨_, e⟩ := Th.hd_sound h
  have := Th.enc_pos a
  rw [e, List.length_append]
  omega
theorem sz_range (t : List Nat) : 0 ≤ sz t ∧ sz t ≤ t.length := by
  unfold sz
  split
  · omega
  · omega
theorem sz_some {t : List Nat} {a : Nm} {r : List Nat} (h : hd t = some (a, r)) : sz t = ((t.length - r.length : Nat) : Int) := by unfold sz; rw [h]
theorem sz_none {t : List Nat} (h : hd t = none) : sz t = 0 := by unfold sz; rw [h]
theorem sz_zero {t : List Nat} : sz t = 0 ↔ hd t = none := by
  constructor
  · intro h
    cases e : hd t with
    | none => rfl
    | some p =>
      obtain ⟨a, r⟩ := p
      rw [sz_some e] at h
      have := hd_short e
      omega
  · exact sz_none
theorem sz_nil : sz [] = 0 := rfl
theorem sz_map {c : Nat} {t u : List Nat} {d : Nat} (hu : u.length + d = t.length + 1) (f : Nm → Nm) (e : hd (c :: t) = (hd u).map fun p => (f p.1, p.2)) : sz (c :: t) = more d (sz u) := by
  unfold more
  cases g : hd u with
  | none =>
    rw [sz_none g, if_pos rfl]
    exact sz_none (by rw [e, g]; rfl)
  | some p =>
    obtain ⟨a, r⟩ := p
    have hs := hd_short g
    rw [sz_some g, if_neg (by omega), sz_some (a := f a) (r := r) (by rw [e, g]; rfl), List.length_cons]
    omega
theorem sz_next (t : List Nat) : sz (110 :: t) = more 1 (sz t) := sz_map (d := 1) (by omega) Nm.next (by rw [Th.hd_cons, if_neg (by decide), if_pos rfl])
theorem sz_key (t : List Nat) : sz (107 :: t) = more 1 (sz t) := sz_map (d := 1) (by omega) Nm.key (by rw [Th.hd_cons, if_neg (by decide), if_neg (by decide), if_pos rfl])
theorem sz_say {t : List Nat} (h : 65 ≤ t.getD 0 0 ∧ t.getD 0 0 ≤ 72) : sz (109 :: t) = more 2 (sz (t.drop 1)) :=
  sz_map (d := 2) (by have := Th.lt_of_getD (l := t) (i := 0) (by omega); rw [List.length_drop]; omega) (Nm.say (t.getD 0 0 - 65)) (by rw [Th.hd_cons, if_neg (by decide), if_neg (by decide), if_neg (by decide), if_neg (by decide), if_pos rfl, if_pos h])
theorem sz_say_no {t : List Nat} (h : ¬ (65 ≤ t.getD 0 0 ∧ t.getD 0 0 ≤ 72)) : sz (109 :: t) = 0 := sz_none (by rw [Th.hd_cons, if_neg (by decide), if_neg (by decide), if_neg (by decide), if_neg (by decide), if_pos rfl, if_neg h])
theorem sz_room {t : List Nat} (h : 49 ≤ t.getD 0 0 ∧ t.getD 0 0 ≤ 57) : sz (114 :: t) = more 2 (sz (t.drop 1)) :=
  sz_map (d := 2) (by have := Th.lt_of_getD (l := t) (i := 0) (by omega); rw [List.length_drop]; omega) (Nm.room (t.getD 0 0 - 48)) (by rw [Th.hd_cons, if_neg (by decide), if_neg (by decide), if_neg (by decide), if_neg (by decide), if_neg (by decide), if_pos rfl, if_pos h])
theorem sz_room_no {t : List Nat} (h : ¬ (49 ≤ t.getD 0 0 ∧ t.getD 0 0 ≤ 57)) : sz (114 :: t) = 0 := sz_none (by rw [Th.hd_cons, if_neg (by decide), if_neg (by decide), if_neg (by decide), if_neg (by decide), if_neg (by decide), if_pos rfl, if_neg h])
theorem hd_epoch (t : List Nat) : hd (101 :: t) = (hd t).bind fun p => (hd p.2).map fun q => (Nm.epoch p.1 q.1, q.2) := by
  rw [Th.hd_cons, if_neg (by decide), if_neg (by decide), if_neg (by decide), if_pos rfl]
theorem drop_sz {t : List Nat} {a : Nm} {r : List Nat} (h : hd t = some (a, r)) : t.drop (sz t).toNat = r := by
  rw [sz_some h, Int.toNat_natCast]
  obtain ⟨_, e⟩ := Th.hd_sound h
  rw [e, List.length_append, show a.enc.length + r.length - r.length = a.enc.length by omega, List.drop_left]
theorem sz_epoch_no {t : List Nat} (h : sz t = 0) : sz (101 :: t) = 0 := sz_none (by rw [hd_epoch, sz_zero.1 h]; rfl)
theorem sz_epoch {t : List Nat} (h : sz t ≠ 0) : sz (101 :: t) = more (1 + sz t) (sz (t.drop (sz t).toNat)) := by
  unfold more
  cases g : hd t with
  | none => exact absurd (sz_none g) h
  | some p =>
    obtain ⟨a, r⟩ := p
    have hs := hd_short g
    rw [drop_sz g, sz_some g]
    cases g2 : hd r with
    | none => rw [sz_none g2, if_pos rfl]; exact sz_none (by rw [hd_epoch, g]; simp [g2])
    | some q =>
      obtain ⟨b, r2⟩ := q
      have hs2 := hd_short g2
      rw [sz_some g2, if_neg (by omega), sz_some (a := .epoch a b) (r := r2) (by rw [hd_epoch, g]; simp [g2]), List.length_cons]
      omega
theorem sz_fresh {c : Nat} (t : List Nat) (h0 : c ≠ 110) (h1 : c ≠ 107) (h2 : c ≠ 109) (h3 : c ≠ 114) (h4 : c ≠ 101) : sz (c :: t) = freshSz c t := by
  unfold sz freshSz
  rw [Th.hd_cons]
  by_cases hc : 65 ≤ c ∧ c ≤ 72
  · rw [if_pos hc, if_pos hc]
    cases prsNum t with
    | none => rfl
    | some p =>
      simp only [Option.map_some, List.length_cons]
      rw [show t.length + 1 = 1 + t.length by omega]
  · rw [if_neg hc, if_neg h0, if_neg h1, if_neg h4, if_neg h2, if_neg h3, if_neg hc]
theorem more_any {a n : Int} (h0 : 0 ≤ a) (h1 : a ≤ 100000000000000) (h2 : 0 ≤ n) (h3 : n ≤ 100000000000000) : spec_l1More.f a n = some (more a n) := by
  unfold spec_l1More.f more
  by_cases h : n = 0
  · rw [if_pos h, if_pos h]
  · rw [if_neg h, if_neg h, wz (by omega) (by omega)]
theorem Ev.of_eq {α : Type} {g : Nat → Option α} {r : α} (h : ∀ k, g k = some r) : Ev g r := ⟨0, fun k _ => h k⟩

theorem size_ev {s : ByteArray} (hs : s.size ≤ 1000000000000) : ∀ (m : Nat) (pre t : List Nat), B s = pre ++ t → t.length ≤ m → Ev (fun k => spec_l1Size.f k s pre.length) (sz t) := by
  intro m
  induction m with
  | zero =>
    intro pre t h hm
    obtain rfl : t = [] := List.length_eq_zero_iff.1 (by omega)
    have hz := size_pre h
    rw [List.length_nil] at hz
    refine Ev.step (f := fun _ => some 0) (fun k => ?_) (Ev.now 0)
    rw [spec_l1Size.f, if_pos (by omega)]
  | succ m ih =>
    intro pre t h hm
    have hz := size_pre h
    cases t with
    | nil =>
      rw [List.length_nil] at hz
      refine Ev.step (f := fun _ => some 0) (fun k => ?_) (Ev.now 0)
      rw [spec_l1Size.f, if_pos (by omega)]
    | cons c t =>
      rw [List.length_cons] at hz hm
      have b0 : bt s ((pre.length : Nat) : Int) = (c : Int) := bt_pre h 0
      have b1 : bt s ((pre.length + 1 : Nat) : Int) = ((t.getD 0 0 : Nat) : Int) := bt_pre h 1
      have next : ∀ j, j ≤ t.length → Ev (fun k => spec_l1Size.f k s ((pre.length + (1 + j) : Nat) : Int)) (sz (t.drop j)) := by
        intro j hj
        have e : (pre ++ c :: t.take j).length = pre.length + (1 + j) := by
          rw [List.length_append, List.length_cons, List.length_take]
          omega
        rw [← e]
        exact ih _ _ (by rw [h]; simp) (by rw [List.length_drop]; omega)
      have p1 : wrap64 ((pre.length : Int) + 1) = ((pre.length + (1 + 0) : Nat) : Int) := by rw [wz (by omega) (by omega)]; omega
      have p2 : wrap64 ((pre.length : Int) + 2) = ((pre.length + (1 + 1) : Nat) : Int) := by rw [wz (by omega) (by omega)]; omega
      have z0 := sz_range t
      have one : ∀ k, spec_l1Size.f (k + 1) s (pre.length : Int) = if (c : Int) = 110 then spec_l1Size.j0 k s pre.length c true else spec_l1Size.j0 k s pre.length c ((c : Int) == 107) := by
        intro k
        rw [spec_l1Size.f, if_neg (by omega), if_pos (by omega), if_pos (by omega), b0]
      have lead : ∀ d : Nat, Ev (fun k => spec_l1Size.j0 k s pre.length d true) (more 1 (sz t)) := by
        intro d
        refine Ev.step (f := fun k => (spec_l1Size.f k s ((pre.length + (1 + 0) : Nat) : Int)).bind fun u => (spec_l1More.f 1 u).bind fun v => some v) (fun k => ?_) ?_
        · rw [spec_l1Size.j0, if_pos rfl, p1]
        · refine Ev.bind (next 0 (by omega)) (Ev.of_eq fun k => ?_)
          rw [List.drop_zero, more_any (by omega) (by omega) (by omega) (by omega), Option.bind_some]
      by_cases c0 : c = 110
      · subst c0
        rw [sz_next]
        refine Ev.step (f := fun k => spec_l1Size.j0 k s pre.length ((110 : Nat) : Int) true) (fun k => ?_) (lead 110)
        rw [one, if_pos (by omega)]
      by_cases c1 : c = 107
      · subst c1
        rw [sz_key]
        refine Ev.step (f := fun k => spec_l1Size.j0 k s pre.length ((107 : Nat) : Int) true) (fun k => ?_) (lead 107)
        rw [one, if_neg (by omega)]
        rfl
      have f1 : ((c : Int) == 107) = false := beq_eq_false_iff_ne.2 (by omega)
      refine Ev.step (f := fun k => spec_l1Size.j0 k s pre.length c false) (fun k => by rw [one, if_neg (by omega), f1]) ?_
      by_cases c2 : c = 109
      · subst c2
        by_cases g : 65 ≤ t.getD 0 0 ∧ t.getD 0 0 ≤ 72
        · have hl := Th.lt_of_getD (l := t) (i := 0) (by omega)
          have z1 := sz_range (t.drop 1)
          rw [List.length_drop] at z1
          rw [sz_say g]
          refine Ev.step (f := fun k => spec_l1Size.j1 k s pre.length false) (fun k => ?_) ?_
          · rw [spec_l1Size.j0, if_neg (by decide), if_pos (by omega), p1, if_neg (by omega), if_pos (by omega), if_pos (by omega), show pre.length + (1 + 0) = pre.length + 1 by omega, b1, if_neg (by omega), decide_eq_false (by omega)]
          · refine Ev.step (f := fun k => (spec_l1Size.f k s ((pre.length + (1 + 1) : Nat) : Int)).bind fun u => (spec_l1More.f 2 u).bind fun v => some v) (fun k => ?_) ?_
            · rw [spec_l1Size.j1, if_neg (by decide), p2]
            · refine Ev.bind (next 1 (by omega)) (Ev.of_eq fun k => ?_)
              rw [more_any (by omega) (by omega) (by omega) (by omega), Option.bind_some]
        · rw [sz_say_no g]
          have stop : ∀ k, spec_l1Size.j1 (k + 1) s pre.length true = some 0 := fun k => by rw [spec_l1Size.j1, if_pos rfl]
          refine Ev.step (f := fun k => spec_l1Size.j1 k s pre.length true) (fun k => ?_) (Ev.step (f := fun _ => some 0) stop (Ev.now 0))
          rw [spec_l1Size.j0, if_neg (by decide), if_pos (by omega), p1, show pre.length + (1 + 0) = pre.length + 1 by omega]
          by_cases q : ((pre.length + 1 : Nat) : Int) ≥ (s.size : Int)
          · rw [if_pos q]
          · rw [if_neg q, if_pos (by omega), if_pos (by omega), b1]
            by_cases q2 : ((t.getD 0 0 : Nat) : Int) < 65
            · rw [if_pos q2]
            · rw [if_neg q2, decide_eq_true (by omega)]
      by_cases c3 : c = 114
      · subst c3
        by_cases g : 49 ≤ t.getD 0 0 ∧ t.getD 0 0 ≤ 57
        · have hl := Th.lt_of_getD (l := t) (i := 0) (by omega)
          have z1 := sz_range (t.drop 1)
          rw [List.length_drop] at z1
          rw [sz_room g]
          refine Ev.step (f := fun k => spec_l1Size.j2 k s pre.length false) (fun k => ?_) ?_
          · rw [spec_l1Size.j0, if_neg (by decide), if_neg (by omega), if_pos (by omega), p1, if_neg (by omega), if_pos (by omega), if_pos (by omega), show pre.length + (1 + 0) = pre.length + 1 by omega, b1, if_neg (by omega), decide_eq_false (by omega)]
          · refine Ev.step (f := fun k => (spec_l1Size.f k s ((pre.length + (1 + 1) : Nat) : Int)).bind fun u => (spec_l1More.f 2 u).bind fun v => some v) (fun k => ?_) ?_
            · rw [spec_l1Size.j2, if_neg (by decide), p2]
            · refine Ev.bind (next 1 (by omega)) (Ev.of_eq fun k => ?_)
              rw [more_any (by omega) (by omega) (by omega) (by omega), Option.bind_some]
        · rw [sz_room_no g]
          have stop : ∀ k, spec_l1Size.j2 (k + 1) s pre.length true = some 0 := fun k => by rw [spec_l1Size.j2, if_pos rfl]
          refine Ev.step (f := fun k => spec_l1Size.j2 k s pre.length true) (fun k => ?_) (Ev.step (f := fun _ => some 0) stop (Ev.now 0))
          rw [spec_l1Size.j0, if_neg (by decide), if_neg (by omega), if_pos (by omega), p1, show pre.length + (1 + 0) = pre.length + 1 by omega]
          by_cases q : ((pre.length + 1 : Nat) : Int) ≥ (s.size : Int)
          · rw [if_pos q]
          · rw [if_neg q, if_pos (by omega), if_pos (by omega), b1]
            by_cases q2 : ((t.getD 0 0 : Nat) : Int) < 49
            · rw [if_pos q2]
            · rw [if_neg q2, decide_eq_true (by omega)]
      by_cases c4 : c = 101
      · subst c4
        refine Ev.step (f := fun k => (spec_l1Size.f k s ((pre.length + (1 + 0) : Nat) : Int)).bind fun u => if u = 0 then some 0 else (spec_l1Size.f k s (wrap64 (((pre.length + (1 + 0) : Nat) : Int) + u))).bind fun v => (spec_l1More.f (wrap64 (1 + u)) v).bind fun y => some y) (fun k => ?_) ?_
        · rw [spec_l1Size.j0, if_neg (by decide), if_neg (by omega), if_neg (by omega), if_pos (by omega), p1]
        · refine Ev.bind (next 0 (by omega)) ?_
          rw [List.drop_zero]
          by_cases g : sz t = 0
          · rw [sz_epoch_no g]
            exact Ev.of_eq fun k => by rw [if_pos g]
          · rw [sz_epoch g]
            obtain ⟨n, hn⟩ := Int.eq_ofNat_of_zero_le z0.1
            have z1 := sz_range (t.drop (sz t).toNat)
            rw [List.length_drop] at z1
            refine Ev.congr (f := fun k => (spec_l1Size.f k s ((pre.length + (1 + (sz t).toNat) : Nat) : Int)).bind fun v => (spec_l1More.f (1 + sz t) v).bind fun y => some y) (fun k => ?_) ?_
            · rw [if_neg g, wz (x := ((pre.length + (1 + 0) : Nat) : Int) + sz t) (by omega) (by omega), wz (x := 1 + sz t) (by omega) (by omega), show ((pre.length + (1 + 0) : Nat) : Int) + sz t = ((pre.length + (1 + (sz t).toNat) : Nat) : Int) by omega]
            · refine Ev.bind (next (sz t).toNat (by omega)) (Ev.of_eq fun k => ?_)
              rw [more_any (by omega) (by omega) (by omega) (by omega), Option.bind_some]
      rw [sz_fresh t c0 c1 c2 c3 c4]
      refine Ev.step (f := fun k => (spec_l1Fresh.f k s pre.length).bind fun u => some u) (fun k => ?_) ?_
      · rw [spec_l1Size.j0, if_neg (by decide), if_neg (by omega), if_neg (by omega), if_neg (by omega)]
      · exact Ev.bind (Ev.of (fun k => spec_l1Fresh.mono _ _ k) (fresh_20 h hs)) (Ev.now _)
theorem size_0 {s : ByteArray} (hs : s.size ≤ 1000000000000) : Ev (fun k => spec_l1Size.f k s 0) (sz (B s)) := size_ev hs (B s).length [] (B s) rfl (Nat.le_refl _)
theorem whole_sz {l : List Nat} (h : l ≠ []) : ((sz l == (l.length : Int)) : Bool) = (whole l).isSome := by
  have hp : 0 < l.length := List.length_pos_iff.2 h
  unfold whole
  cases g : hd l with
  | none =>
    rw [sz_none g]
    exact beq_eq_false_iff_ne.2 (by omega)
  | some p =>
    obtain ⟨a, r⟩ := p
    have hs := hd_short g
    rw [sz_some g]
    cases r with
    | nil => exact beq_iff_eq.2 (by rw [List.length_nil]; omega)
    | cons x y =>
      rw [List.length_cons] at hs ⊢
      exact beq_eq_false_iff_ne.2 (by omega)
/-- The reference says of a text that it is a name just if it is one. -/
theorem secOk_ev (s : ByteArray) : Ev (fun k => spec_SecOk.f k s) (nm s).isSome := by
  unfold spec_SecOk.f
  by_cases h0 : s = ⟨#[]⟩
  · subst h0
    refine Ev.of_eq fun k => ?_
    rw [if_pos (Th.toList_nil.2 rfl)]
    rfl
  · have hn : ¬ s.toList = ([] : List UInt8) := fun e => h0 (Th.toList_nil.1 e)
    by_cases h1 : s.size ≤ 300
    · refine Ev.congr (f := fun k => (spec_l1Size.f k s 0).bind fun u => some (u == (s.size : Int))) (fun k => ?_) ?_
      · rw [if_neg hn, if_pos (by omega)]
      · refine Ev.bind (size_0 (by omega)) (Ev.of_eq fun k => ?_)
        unfold nm
        rw [if_pos h1, ← Th.B_length, whole_sz (fun e => h0 (Th.B_eq_nil.1 e))]
    · refine Ev.of_eq fun k => ?_
      rw [if_neg hn, if_neg (by omega)]
      unfold nm
      rw [if_neg h1]
      rfl
end
end Go.Proofs.YtnemchmiplbopaaGreatDoor.Pure
namespace Go.Proofs.YtnemchmiplbopaaGreatDoor.Pure
section
open Go.RowKit Go.Proofs.YtnemchmiplbopaaGreatDoor Go.Proofs.YtnemchmiplbopaaGreatDoor.Zj Go.Proofs.YtnemchmiplbopaaGreatDoorW.PrintWords Go.Proofs.YtnemchmiplbopaaGreatDoorW.PrintLast
open Go.Proofs.YtnemchmiplbopaaGreatDoor.Th (T B Nm nm dec hd prsNum whole)

theorem cut_ {s : ByteArray} {pre u v : List Nat} (h : B s = pre ++ (u ++ v)) (i j : Nat) (hi : i = pre.length) (hj : j = pre.length + u.length) : s.extract i j = T u := by
  subst hi hj
  rw [cut_pre h, List.take_left]
theorem cut_end {s : ByteArray} {pre u : List Nat} (h : B s = pre ++ u) (i : Nat) (hi : i = pre.length) : s.extract i s.size = T u :=
  cut_ (v := []) (by rw [List.append_nil]; exact h) i _ hi (by rw [← Th.B_length, h, List.length_append])
/-- What the fields tell of a name. -/
def tells (a : Nm) : Int × Int × Int × ByteArray × ByteArray := (a.op, a.who, a.num, T a.fst, T a.snd)
theorem how_new (w n : Nat) (hw : w < 8) (h1 : 1 ≤ n) (h2 : n ≤ 99) : spec_l1How.f 6 (T (Nm.new w n).enc) = some (tells (.new w n)) := by
  have : ∀ w : Fin 8, ∀ n : Fin 100, 1 ≤ n.1 → spec_l1How.f 6 (T (Nm.new w.1 n.1).enc) = some (tells (.new w.1 n.1)) := by decide +kernel
  exact this ⟨w, hw⟩ ⟨n, by omega⟩ h1
theorem how_ev {s : ByteArray} {a : Nm} (ha : a.ok = true) (hl : s.size ≤ 300) (h : B s = a.enc) : Ev (fun k => spec_l1How.f k s) (tells a) := by
  have hz : s.size = a.enc.length := by rw [← Th.B_length, h]
  have hp := Th.enc_pos a
  cases a with
  | new w n =>
    simp only [Nm.ok, Bool.and_eq_true, decide_eq_true_eq] at ha
    have e : s = T (Nm.new w n).enc := by rw [← h, Th.T_B]
    rw [e]
    exact Ev.of (fun k => spec_l1How.mono _ k) (how_new w n ha.1.1 ha.1.2 ha.2)
  | next a =>
    have b0 : bt s 0 = 110 := bt_pre (pre := []) h 0
    have hs : s.size = a.enc.length + 1 := hz
    refine Ev.of_eq fun k => ?_
    unfold spec_l1How.f
    rw [if_pos (by omega), b0, if_pos rfl, if_pos (by omega), cut_end (pre := [110]) h 1 rfl]
    rfl
  | key a =>
    have b0 : bt s 0 = 107 := bt_pre (pre := []) h 0
    have hs : s.size = a.enc.length + 1 := hz
    refine Ev.of_eq fun k => ?_
    unfold spec_l1How.f
    rw [if_pos (by omega), b0, if_neg (by decide), if_pos rfl, if_pos (by omega), cut_end (pre := [107]) h 1 rfl]
    rfl
  | say w a =>
    simp only [Nm.ok, Bool.and_eq_true, decide_eq_true_eq] at ha
    have b0 : bt s 0 = 109 := bt_pre (pre := []) h 0
    have b1 : bt s 1 = ((65 + w : Nat) : Int) := bt_pre (pre := []) h 1
    have hs : s.size = a.enc.length + 2 := hz
    have hw : (((65 + w : Nat) : Int) - 65) % 256 = (w : Int) := by omega
    refine Ev.of_eq fun k => ?_
    unfold spec_l1How.f
    rw [if_pos (by omega), b0, if_neg (by decide), if_neg (by decide), if_pos rfl, if_pos (by omega), if_pos (by omega), b1, hw, cut_end (pre := [109, 65 + w]) h 2 rfl]
    rfl
  | room r a =>
    simp only [Nm.ok, Bool.and_eq_true, decide_eq_true_eq] at ha
    have b0 : bt s 0 = 114 := bt_pre (pre := []) h 0
    have b1 : bt s 1 = ((48 + r : Nat) : Int) := bt_pre (pre := []) h 1
    have hs : s.size = a.enc.length + 2 := hz
    have hw : (((48 + r : Nat) : Int) - 48) % 256 = (r : Int) := by omega
    refine Ev.of_eq fun k => ?_
    unfold spec_l1How.f
    rw [if_pos (by omega), b0, if_neg (by decide), if_neg (by decide), if_neg (by decide), if_pos rfl, if_pos (by omega), if_pos (by omega), b1, hw, cut_end (pre := [114, 48 + r]) h 2 rfl]
    rfl
  | epoch a b =>
    simp only [Nm.ok, Bool.and_eq_true] at ha
    have b0 : bt s 0 = 101 := bt_pre (pre := []) h 0
    have hs : s.size = a.enc.length + b.enc.length + 1 := by rw [hz]; simp [Nm.enc]
    have hsz : sz (a.enc ++ b.enc) = (a.enc.length : Int) := by
      rw [sz_some (Th.hd_enc ha.1 b.enc), List.length_append]
      omega
    refine Ev.congr (f := fun k => (spec_l1Size.f k s (([101] : List Nat).length : Int)).bind fun u => if 1 ≤ wrap64 (1 + u) then if wrap64 (1 + u) ≤ (s.size : Int) then if 0 ≤ wrap64 (1 + u) then some ((4 : Int), (0 : Int), (0 : Int), s.extract 1 (wrap64 (1 + u)).toNat, s.extract (wrap64 (1 + u)).toNat s.size) else none else none else none) (fun k => ?_) ?_
    · unfold spec_l1How.f
      rw [if_pos (by omega), b0, if_neg (by decide), if_neg (by decide), if_neg (by decide), if_neg (by decide), if_pos rfl]
      rfl
    · refine Ev.bind (size_ev (by omega) _ [101] (a.enc ++ b.enc) h (Nat.le_refl _)) (Ev.of_eq fun k => ?_)
      rw [hsz, wz (by omega) (by omega), if_pos (by omega), if_pos (by omega), if_pos (by omega), show (1 + (a.enc.length : Int)).toNat = 1 + a.enc.length by omega]
      rw [cut_ (pre := [101]) (u := a.enc) (v := b.enc) h 1 (1 + a.enc.length) rfl rfl, cut_end (pre := 101 :: a.enc) (u := b.enc) h (1 + a.enc.length) (by rw [List.length_cons]; omega)]
      rfl
/-- What the reference tells of a text. -/
theorem implMade (s : ByteArray) : impl_SecMade.f s = some (match nm s with | some a => tells a | none => (0, 0, 0, ⟨#[]⟩, ⟨#[]⟩)) := by
  unfold impl_SecMade.f
  cases nm s <;> rfl
end
end Go.Proofs.YtnemchmiplbopaaGreatDoor.Pure
namespace Go.Proofs.YtnemchmiplbopaaGreatDoor.Pure
section
open Go.RowKit Go.Proofs.YtnemchmiplbopaaGreatDoor Go.Proofs.YtnemchmiplbopaaGreatDoor.Zj Go.Proofs.YtnemchmiplbopaaGreatDoorW.PrintWords Go.Proofs.YtnemchmiplbopaaGreatDoorW.PrintLast
open Go.Proofs.YtnemchmiplbopaaGreatDoor.Th (T B Nm nm dec hd prsNum whole)

theorem join1 (s : ByteArray) (h : s.size ≤ 300) : strings_Join.f [s] ⟨#[]⟩ = some s := by
  unfold strings_Join.f
  have e : Lib.join ([s].map (·.data.toList)) (⟨#[]⟩ : ByteArray).data.toList = s.data.toList := by simp [Lib.join, List.intercalate]
  rw [e, if_pos ⟨by simp, by rw [Array.length_toList]; exact Nat.le_trans h (by decide)⟩, Array.toArray_toList]
/-- A text that is not too long, or none. -/
def cap (s : ByteArray) : ByteArray := if s.size ≤ 300 then s else ⟨#[]⟩
def made1 (h s : ByteArray) : ByteArray := if (nm s).isSome = true then cap (h ++ s) else ⟨#[]⟩
theorem nm_short {s : ByteArray} (h : (nm s).isSome = true) : s.size ≤ 300 := by
  obtain ⟨a, e⟩ := Option.isSome_iff_exists.1 h
  exact (Th.nm_some.1 e).2.1
theorem cap_ite (s : ByteArray) : (if (s.size : Int) ≤ 300 then (some s) else (some (⟨#[]⟩ : ByteArray))) = some (cap s) := by
  unfold cap
  by_cases h : s.size ≤ 300
  · rw [if_pos h, if_pos (by omega)]
  · rw [if_neg h, if_neg (by omega)]
theorem impl_made1 (h s : ByteArray) (hh : h.size ≤ 10) (k : Nat) : impl_made.f (k + 2) h [s] = some (made1 h s) := by
  unfold impl_made.f made1
  rw [impl_made.l0, if_pos (by simp), if_pos (by omega), if_pos (by simp), show rdOf ByteArray.empty [s] 0 = s from rfl, impl_SecOk.f, Option.bind_some]
  by_cases g : (nm s).isSome = true
  · have := nm_short g
    rw [if_pos g, if_pos g, show wrap64 (0 + 1) = 1 by rw [wz (by omega) (by omega)]; rfl, impl_made.l0, if_neg (by simp), join1 s this, Option.bind_some, if_pos (by omega), cap_ite]
  · rw [if_neg g, if_neg g]
theorem l1Ok_ev (s : ByteArray) : Ev (fun k => spec_l1Ok.f k s) (if (nm s).isSome = true then s else ⟨#[]⟩) := by
  unfold spec_l1Ok.f
  refine Ev.bind (secOk_ev s) (Ev.of_eq fun k => ?_)
  split <;> rfl
/-- A name behind its head is a name, if it is not too long. -/
theorem nm_put {s : ByteArray} {a : Nm} (h : nm s = some a) (l : List Nat) (f : Nm) (hok : f.ok = true) (he : f.enc = l ++ a.enc) : (nm (T l ++ s)).isSome = decide ((T l ++ s).size ≤ 300) := by
  obtain ⟨_, _, hs⟩ := Th.nm_some.1 h
  rw [hs, ← T_app, ← he]
  by_cases g : (T f.enc).size ≤ 300
  · rw [decide_eq_true g, Th.nm_T hok (by rw [← Th.T_size]; exact g)]
    rfl
  · rw [decide_eq_false g, nm, if_neg g]
    rfl
theorem okCap {s : ByteArray} (h : (nm s).isSome = decide (s.size ≤ 300)) : (if (nm s).isSome = true then s else ⟨#[]⟩) = cap s := by
  unfold cap
  rw [h]
  by_cases g : s.size ≤ 300
  · rw [if_pos g, if_pos (decide_eq_true g)]
  · rw [if_neg g, if_neg (by rw [decide_eq_false g]; decide)]
theorem specKey_ev (s : ByteArray) (hs : s.size ≤ 2000000) : Ev (fun k => spec_MakKey.f k s) (made1 (T [107]) s) := by
  unfold spec_MakKey.f made1
  refine Ev.bind (secOk_ev s) ?_
  cases hn : nm s with
  | none => exact Ev.of_eq fun k => by rw [Option.isSome_none, if_neg (by decide), if_neg (by decide)]
  | some a =>
    have ha := (Th.nm_some.1 hn).1
    refine Ev.congr (f := fun k => (spec_l1Ok.f k (T [107] ++ s)).bind fun t => some t) (fun k => ?_) ?_
    · rw [Option.isSome_some, if_pos rfl, if_pos (by omega)]
      rfl
    · rw [Option.isSome_some, if_pos rfl, ← okCap (nm_put hn [107] (.key a) ha rfl)]
      exact Ev.bind (l1Ok_ev _) (Ev.now _)
theorem implKey (s : ByteArray) (k : Nat) : impl_MakKey.f (k + 2) s = some (made1 (T [107]) s) := by
  unfold impl_MakKey.f
  rw [impl_made1 _ _ (by decide), Option.bind_some]
  rfl
theorem made1_no {h s : ByteArray} (g : nm s = none) : made1 h s = ⟨#[]⟩ := by unfold made1; rw [g]; rfl
end
end Go.Proofs.YtnemchmiplbopaaGreatDoor.Pure
namespace Go.Proofs.YtnemchmiplbopaaGreatDoor.Pure
section
open Go.RowKit Go.Proofs.YtnemchmiplbopaaGreatDoor Go.Proofs.YtnemchmiplbopaaGreatDoor.Zj Go.Proofs.YtnemchmiplbopaaGreatDoorW.PrintWords Go.Proofs.YtnemchmiplbopaaGreatDoorW.PrintLast
open Go.Proofs.YtnemchmiplbopaaGreatDoor.Th (T B Nm nm dec hd prsNum whole)

theorem rdT_at {l : List ByteArray} {i : Nat} (h : i < l.length) : rdOf ByteArray.empty l (i : Int) = l[i] := by
  unfold rdOf
  rw [Int.toNat_natCast, List.getD_eq_getElem?_getD, List.getElem?_eq_getElem h]
  rfl
theorem how_nm {s : ByteArray} {a : Nm} (h : nm s = some a) : Ev (fun k => spec_l1How.f k s) (tells a) := by
  obtain ⟨ha, hl, he⟩ := Th.nm_some.1 h
  exact how_ev ha hl (by rw [he, Th.B_T (Th.enc_lt a ha)])
theorem tre_j1 (l : List ByteArray) (i : Nat) (hi : i < 15) (b r : Bool) (h : Ev (fun k => spec_TreOk.l0 k ((i + 1 : Nat) : Int) l) r) : Ev (fun k => spec_TreOk.j1 k (i : Int) (!b) l) (b && r) := by
  cases b with
  | false => exact Ev.step (f := fun _ => some false) (fun k => by rw [spec_TreOk.j1, if_pos (by decide)]) (Ev.now _)
  | true =>
    refine Ev.step (fun k => ?_) (show Ev (fun k => spec_TreOk.l0 k ((i + 1 : Nat) : Int) l) (true && r) from h)
    rw [spec_TreOk.j1, if_neg (by decide), wz (x := (i : Int) + 1) (by omega) (by omega)]
    rfl
theorem tre_l0 (l : List ByteArray) (hl : l.length = 15) : ∀ (d i : Nat), 15 - i ≤ d → i ≤ 15 → Ev (fun k => spec_TreOk.l0 k (i : Int) l) ((l.drop i).all slotB) := by
  intro d
  induction d with
  | zero =>
    intro i h0 h1
    obtain rfl : i = 15 := by omega
    rw [List.drop_eq_nil_of_le (by omega)]
    exact Ev.step (f := fun _ => some true) (fun k => by rw [spec_TreOk.l0, if_neg (by omega)]) (Ev.now _)
  | succ d ih =>
    intro i h0 h1
    by_cases h : i < 15
    · have hi : i < l.length := by omega
      have e := ih (i + 1) (by omega) (by omega)
      rw [List.drop_eq_getElem_cons hi, List.all_cons]
      have st := fun b => tre_j1 l i h b _ e
      by_cases h2 : l[i] = ⟨#[]⟩
      · have s := st true
        rw [show slotB l[i] = true from if_pos h2]
        refine Ev.step (fun k => ?_) s
        rw [spec_TreOk.l0, if_pos (by omega), if_pos (by omega), if_pos (by omega), rdT_at hi, if_pos (Th.toList_nil.2 h2)]
        rfl
      · refine Ev.step (fun k => by rw [spec_TreOk.l0, if_pos (by omega), if_pos (by omega), if_pos (by omega), rdT_at hi, if_neg (fun e => h2 (Th.toList_nil.1 e))]) (Ev.bind (secOk_ev l[i]) ?_)
        cases hn : nm l[i] with
        | none =>
          have s := st false
          rw [show slotB l[i] = false by unfold slotB keyB; rw [if_neg h2, hn]]
          rw [Option.isSome_none]
          exact Ev.congr (fun k => if_neg (by decide)) s
        | some a =>
          have s := st (a.op == 3)
          rw [show slotB l[i] = (a.op == 3) by unfold slotB keyB; rw [if_neg h2, hn]]
          rw [Option.isSome_some]
          exact Ev.congr (fun k => if_pos rfl) (Ev.bind (how_nm hn) s)
    · obtain rfl : i = 15 := by omega
      rw [List.drop_eq_nil_of_le (by omega)]
      exact Ev.step (f := fun _ => some true) (fun k => by rw [spec_TreOk.l0, if_neg (by omega)]) (Ev.now _)
theorem specTreOk_ev (l : List ByteArray) : Ev (fun k => spec_TreOk.f k l) (treB l) := by
  unfold spec_TreOk.f treB
  by_cases h : l.length = 15
  · rw [decide_eq_true h, Bool.true_and]
    exact Ev.congr (fun k => if_pos (by omega)) (tre_l0 l h 15 0 (by omega) (by omega))
  · rw [decide_eq_false h, Bool.false_and]
    exact Ev.of_eq fun k => if_neg (by omega)
end
end Go.Proofs.YtnemchmiplbopaaGreatDoor.Pure
namespace Go.Proofs.YtnemchmiplbopaaGreatDoor.Mm
section
section
variable {α : Type} (f0 : α → Int) (f1 : α → ByteArray) (Kf : Int → Bool) (ok : Int → ByteArray → Bool) (sec : ByteArray → Bool)
def fnd (l : List α) (n : Int) : Option α := l.find? fun o => f0 o == n
def ownS (l : List α) (n : Int) : ByteArray := match fnd f0 l n with
  | some o => f1 o
  | none => ⟨#[]⟩
def okO (path : List Int) (pre : List α) (o : α) : Bool := path.contains (f0 o) && (sec (f1 o) && (Kf (f0 o) && (ok (f0 o) (f1 o) && decide (ownS f0 f1 pre (f0 o) = ⟨#[]⟩))))
def fitsR (path : List Int) : List α → List α → Bool
  | _, [] => true
  | pre, o :: r => okO f0 f1 Kf ok sec path pre o && fitsR path (pre ++ [o]) r
def allR (l : List α) : List Int → Bool
  | [] => true
  | p :: ps => (if Kf p = true then decide (ownS f0 f1 l p ≠ ⟨#[]⟩) else true) && allR l ps
def loopR (l : List α) : List Int → Nat → Bool
  | [], m => decide (m = l.length)
  | p :: ps, m => if Kf p = true then (match fnd f0 l p with
      | some o => ok p (f1 o) && loopR l ps (m + 1)
      | none => false) else loopR l ps m
end
theorem nodup_le : ∀ (a b : List Int), a.Nodup → (∀ x ∈ a, x ∈ b) → a.length ≤ b.length
  | [], _, _, _ => Nat.zero_le _
  | x :: a, b, h, hs => by
    rw [List.nodup_cons] at h
    obtain ⟨b1, b2, rfl⟩ := List.append_of_mem (hs x (by simp))
    have := nodup_le a (b1 ++ b2) h.2 (fun y hy => by
      have hy2 := hs y (by simp [hy])
      rw [List.mem_append, List.mem_cons] at hy2
      rw [List.mem_append]
      rcases hy2 with h1 | rfl | h1
      · exact .inl h1
      · exact absurd hy h.1
      · exact .inr h1)
    simp only [List.length_append, List.length_cons] at this ⊢
    omega
/-- As many as some that are all unlike, and all of these: no others, and none twice. -/
theorem nodup_back : ∀ (a b : List Int), a.Nodup → (∀ x ∈ a, x ∈ b) → b.length = a.length → b.Nodup ∧ ∀ x ∈ b, x ∈ a
  | [], b, _, _, hl => by
    rw [List.length_nil] at hl
    rw [List.eq_nil_of_length_eq_zero hl]
    exact ⟨List.nodup_nil, fun _ h => h⟩
  | x :: a, b, h, hs, hl => by
    rw [List.nodup_cons] at h
    obtain ⟨b1, b2, rfl⟩ := List.append_of_mem (hs x (by simp))
    obtain ⟨h1, h2⟩ := nodup_back a (b1 ++ b2) h.2 (fun y hy => by
      have hy2 := hs y (by simp [hy])
      rw [List.mem_append, List.mem_cons] at hy2
      rw [List.mem_append]
      rcases hy2 with h1 | rfl | h1
      · exact .inl h1
      · exact absurd hy h.1
      · exact .inr h1) (by simp only [List.length_append, List.length_cons] at hl ⊢; omega)
    have hx : x ∉ b1 ++ b2 := fun hm => h.1 (h2 x hm)
    refine ⟨?_, fun y hy => ?_⟩
    · rw [(List.perm_middle (a := x) (l₁ := b1) (l₂ := b2)).nodup_iff, List.nodup_cons]
      exact ⟨hx, h1⟩
    · rw [List.mem_append, List.mem_cons] at hy
      rcases hy with hy | rfl | hy
      · exact List.mem_cons.2 (.inr (h2 y (List.mem_append.2 (.inl hy))))
      · exact List.mem_cons.2 (.inl rfl)
      · exact List.mem_cons.2 (.inr (h2 y (List.mem_append.2 (.inr hy))))
section
variable {α : Type} {f0 : α → Int} {f1 : α → ByteArray} {Kf : Int → Bool} {ok : Int → ByteArray → Bool} {sec : ByteArray → Bool}
theorem fnd_some {l : List α} {n : Int} {o : α} (h : fnd f0 l n = some o) : o ∈ l ∧ f0 o = n := by
  unfold fnd at h
  exact ⟨List.mem_of_find?_eq_some h, by have := List.find?_some h; simpa using this⟩
theorem fnd_none {l : List α} {n : Int} (h : fnd f0 l n = none) : ∀ o ∈ l, f0 o ≠ n := by
  unfold fnd at h
  intro o ho he
  have := List.find?_eq_none.1 h o ho
  simp [he] at this
theorem fnd_yes {l : List α} {n : Int} {o : α} (ho : o ∈ l) (he : f0 o = n) : ∃ x, fnd f0 l n = some x := by
  cases h : fnd f0 l n with
  | some x => exact ⟨x, rfl⟩
  | none => exact absurd he (fnd_none h o ho)
theorem fits_iff (path : List Int) : ∀ (r pre : List α), fitsR f0 f1 Kf ok sec path pre r = true ↔ ∀ a o b, r = a ++ o :: b → okO f0 f1 Kf ok sec path (pre ++ a) o = true := by
  intro r
  induction r with
  | nil =>
    intro pre
    unfold fitsR
    constructor
    · intro _ a o b h; exact absurd h (by simp)
    · intro _; rfl
  | cons x r ih =>
    intro pre
    unfold fitsR
    rw [Bool.and_eq_true, ih]
    constructor
    · rintro ⟨h1, h2⟩ a o b h
      cases a with
      | nil =>
        simp only [List.nil_append, List.cons.injEq] at h
        obtain ⟨rfl, rfl⟩ := h
        rw [List.append_nil]
        exact h1
      | cons y a =>
        simp only [List.cons_append, List.cons.injEq] at h
        obtain ⟨rfl, h⟩ := h
        have := h2 a o b h
        rwa [List.append_assoc, List.singleton_append] at this
    · intro h
      refine ⟨?_, fun a o b e => ?_⟩
      · have := h [] x r rfl
        rwa [List.append_nil] at this
      · have := h (x :: a) o b (by rw [e]; rfl)
        rwa [List.append_assoc, List.singleton_append]
theorem all_iff (l : List α) : ∀ ps : List Int, allR f0 f1 Kf l ps = true ↔ ∀ p ∈ ps, Kf p = true → ownS f0 f1 l p ≠ ⟨#[]⟩ := by
  intro ps
  induction ps with
  | nil => simp [allR]
  | cons p ps ih =>
    unfold allR
    rw [Bool.and_eq_true, ih]
    constructor
    · rintro ⟨h1, h2⟩ q hq hk
      rcases List.mem_cons.1 hq with rfl | hq
      · rw [if_pos hk] at h1
        exact of_decide_eq_true h1
      · exact h2 q hq hk
    · intro h
      refine ⟨?_, fun q hq => h q (List.mem_cons.2 (.inr hq))⟩
      split
      · rename_i hk
        exact decide_eq_true (h p (List.mem_cons.2 (.inl rfl)) hk)
      · rfl
theorem loop_iff (l : List α) : ∀ (ps : List Int) (m : Nat), loopR f0 f1 Kf ok l ps m = true ↔ (∀ p ∈ ps, Kf p = true → ∃ o, fnd f0 l p = some o ∧ ok p (f1 o) = true) ∧ m + (ps.filter Kf).length = l.length := by
  intro ps
  induction ps with
  | nil => intro m; simp [loopR]
  | cons p ps ih =>
    intro m
    unfold loopR
    cases hk : Kf p with
    | false =>
      rw [if_neg Bool.false_ne_true, ih, List.filter_cons, if_neg (by rw [hk]; decide)]
      constructor
      · rintro ⟨h1, h2⟩
        refine ⟨fun q hq hkq => ?_, h2⟩
        rcases List.mem_cons.1 hq with rfl | hq
        · rw [hk] at hkq; exact absurd hkq Bool.false_ne_true
        · exact h1 q hq hkq
      · rintro ⟨h1, h2⟩
        exact ⟨fun q hq => h1 q (List.mem_cons.2 (.inr hq)), h2⟩
    | true =>
      rw [if_pos rfl, List.filter_cons, if_pos hk, List.length_cons]
      cases hf : fnd f0 l p with
      | none =>
        constructor
        · intro h; exact absurd h Bool.false_ne_true
        · rintro ⟨h1, _⟩
          obtain ⟨o, ho, _⟩ := h1 p (List.mem_cons.2 (.inl rfl)) hk
          rw [hf] at ho
          exact absurd ho (by simp)
      | some o =>
        show (ok p (f1 o) && loopR f0 f1 Kf ok l ps (m + 1)) = true ↔ _
        rw [Bool.and_eq_true, ih]
        constructor
        · rintro ⟨h0, h1, h2⟩
          refine ⟨fun q hq hkq => ?_, by omega⟩
          rcases List.mem_cons.1 hq with rfl | hq
          · exact ⟨o, hf, h0⟩
          · exact h1 q hq hkq
        · rintro ⟨h1, h2⟩
          obtain ⟨o', ho, hk'⟩ := h1 p (List.mem_cons.2 (.inl rfl)) hk
          rw [hf] at ho
          obtain rfl := Option.some.inj ho
          exact ⟨hk', fun q hq => h1 q (List.mem_cons.2 (.inr hq)), by omega⟩
theorem mem_eq {l : List α} {path : List Int} (hp : path.Nodup) (h1 : ∀ p s, Kf p = true → ok p s = true → sec s = true) (h2 : ∀ s, sec s = true → s ≠ ⟨#[]⟩) :
    (fitsR f0 f1 Kf ok sec path [] l && allR f0 f1 Kf l path) = loopR f0 f1 Kf ok l path 0 := by
  have hP : (path.filter Kf).Nodup := hp.sublist List.filter_sublist
  have okO_iff : ∀ pre o, okO f0 f1 Kf ok sec path pre o = true ↔ f0 o ∈ path ∧ sec (f1 o) = true ∧ Kf (f0 o) = true ∧ ok (f0 o) (f1 o) = true ∧ ownS f0 f1 pre (f0 o) = ⟨#[]⟩ := by
    intro pre o
    unfold okO
    rw [Bool.and_eq_true, Bool.and_eq_true, Bool.and_eq_true, Bool.and_eq_true, decide_eq_true_eq, List.contains_iff_mem]
  rw [Bool.eq_iff_iff, Bool.and_eq_true, fits_iff, all_iff, loop_iff]
  constructor
  · rintro ⟨hf, ha⟩
    have each : ∀ a o b, l = a ++ o :: b → f0 o ∈ path ∧ sec (f1 o) = true ∧ Kf (f0 o) = true ∧ ok (f0 o) (f1 o) = true ∧ ownS f0 f1 a (f0 o) = ⟨#[]⟩ := fun a o b e => (okO_iff a o).1 (hf a o b e)
    have mem : ∀ o ∈ l, f0 o ∈ path ∧ sec (f1 o) = true ∧ Kf (f0 o) = true ∧ ok (f0 o) (f1 o) = true := fun o ho => by
      obtain ⟨a, b, e⟩ := List.append_of_mem ho
      obtain ⟨x1, x2, x3, x4, _⟩ := each a o b e
      exact ⟨x1, x2, x3, x4⟩
    have nd : (l.map f0).Nodup := by
      have key : ∀ (a r : List α), l = a ++ r → (a.map f0).Nodup → (l.map f0).Nodup := by
        intro a r
        induction r generalizing a with
        | nil => intro e h; rw [e, List.append_nil]; exact h
        | cons o r ih =>
          intro e h
          refine ih (a ++ [o]) (by rw [e, List.append_assoc]; rfl) ?_
          rw [List.map_append, List.nodup_append]
          refine ⟨h, by simp, ?_⟩
          intro x hx y hy
          simp only [List.map_cons, List.map_nil, List.mem_singleton] at hy
          subst hy
          rintro rfl
          obtain ⟨o', ho', he'⟩ := List.mem_map.1 hx
          obtain ⟨z, hz⟩ := fnd_yes (f0 := f0) ho' he'
          obtain ⟨hz1, hz2⟩ := fnd_some hz
          have h5 := (each a o r e).2.2.2.2
          unfold ownS at h5
          rw [hz] at h5
          exact h2 _ (mem z (by rw [e]; exact List.mem_append.2 (.inl hz1))).2.1 h5
      exact key [] l rfl List.nodup_nil
    refine ⟨fun p hpp hk => ?_, ?_⟩
    · have hs := ha p hpp hk
      unfold ownS at hs
      cases hx : fnd f0 l p with
      | none => rw [hx] at hs; exact absurd rfl hs
      | some o =>
        obtain ⟨ho, he⟩ := fnd_some hx
        exact ⟨o, rfl, he ▸ (mem o ho).2.2.2⟩
    · have le1 := nodup_le (l.map f0) (path.filter Kf) nd (fun x hx => by
        obtain ⟨o, ho, rfl⟩ := List.mem_map.1 hx
        obtain ⟨x1, _, x3, _⟩ := mem o ho
        exact List.mem_filter.2 ⟨x1, x3⟩)
      have le2 := nodup_le (path.filter Kf) (l.map f0) hP (fun x hx => by
        obtain ⟨x1, x2⟩ := List.mem_filter.1 hx
        have hs := ha x x1 x2
        unfold ownS at hs
        cases hy : fnd f0 l x with
        | none => rw [hy] at hs; exact absurd rfl hs
        | some o =>
          obtain ⟨ho, he⟩ := fnd_some hy
          exact List.mem_map.2 ⟨o, ho, he⟩)
      rw [List.length_map] at le1 le2
      omega
  · rintro ⟨hl, hn⟩
    rw [Nat.zero_add] at hn
    obtain ⟨nd, sub⟩ := nodup_back (path.filter Kf) (l.map f0) hP (fun x hx => by
      obtain ⟨x1, x2⟩ := List.mem_filter.1 hx
      obtain ⟨o, ho, _⟩ := hl x x1 x2
      obtain ⟨ho1, he⟩ := fnd_some ho
      exact List.mem_map.2 ⟨o, ho1, he⟩) (by rw [List.length_map]; exact hn.symm)
    refine ⟨fun a o b e => ?_, fun p hpp hk => ?_⟩
    · have ho : o ∈ l := by rw [e]; simp
      obtain ⟨x1, x2⟩ := List.mem_filter.1 (sub _ (List.mem_map.2 ⟨o, ho, rfl⟩))
      rw [e, List.map_append, List.map_cons, List.nodup_append, List.nodup_cons] at nd
      have hna : fnd f0 a (f0 o) = none := by
        cases hx : fnd f0 a (f0 o) with
        | none => rfl
        | some z =>
          obtain ⟨hz1, hz2⟩ := fnd_some hx
          exact absurd hz2 (nd.2.2 (f0 z) (List.mem_map.2 ⟨z, hz1, rfl⟩) (f0 o) (List.mem_cons.2 (.inl rfl)))
      have hfo : fnd f0 l (f0 o) = some o := by
        unfold fnd at hna ⊢
        rw [e, List.find?_append, hna, List.find?_cons]
        simp
      obtain ⟨o', ho', hk'⟩ := hl _ x1 x2
      rw [hfo] at ho'
      obtain rfl := Option.some.inj ho'
      rw [List.nil_append, okO_iff]
      exact ⟨x1, h1 _ _ x2 hk', x2, hk', by unfold ownS; rw [hna]⟩
    · obtain ⟨o, ho, hk'⟩ := hl p hpp hk
      unfold ownS
      rw [ho]
      exact h2 _ (h1 _ _ hk hk')
end
end
end Go.Proofs.YtnemchmiplbopaaGreatDoor.Mm
namespace Go.Proofs.YtnemchmiplbopaaGreatDoor.Pure
section
open Go.RowKit Go.Proofs.YtnemchmiplbopaaGreatDoor Go.Proofs.YtnemchmiplbopaaGreatDoor.Zj Go.Proofs.YtnemchmiplbopaaGreatDoorW.PrintWords Go.Proofs.YtnemchmiplbopaaGreatDoorW.PrintLast
open Go.Proofs.YtnemchmiplbopaaGreatDoor.Th (T B Nm nm dec hd prsNum whole)
open Go.Proofs.YtnemchmiplbopaaGreatDoor.Mm (fnd ownS okO fitsR allR loopR mem_eq fnd_some)

theorem in_spec (x a b : Int) : spec_l1In.f x a b = some (decide (a ≤ x ∧ x ≤ b)) := by
  unfold spec_l1In.f
  by_cases h1 : x ≥ a
  · rw [if_pos h1]; congr 1; simp; omega
  · rw [if_neg h1, decide_eq_false (by omega)]
theorem in_impl (x a b : Int) : impl_in.f x a b = some (decide (a ≤ x ∧ x ≤ b)) := by
  unfold impl_in.f
  by_cases h1 : x ≥ a
  · rw [if_pos h1]; congr 1; simp; omega
  · rw [if_neg h1, decide_eq_false (by omega)]
theorem isOne_is (x : Int) : impl_isOne.f x = some (decide (0 ≤ x ∧ x ≤ 7)) := by
  unfold impl_isOne.f
  rw [in_impl]
  rfl
theorem rdP_at {l : List Int} {i : Nat} (h : i < l.length) : rd l (i : Int) = l[i] := by
  unfold rd
  rw [Int.toNat_natCast, List.getD_eq_getElem?_getD, List.getElem?_eq_getElem h]
  rfl
def ky (s : ByteArray) : ByteArray := made1 (T [107]) s
def g0 (o : Ow) : Int := o.f0
def g1 (o : Ow) : ByteArray := o.f1
def Kf (t : List ByteArray) (p : Int) : Bool := (rdOf ByteArray.empty t p).toList != ([] : List UInt8)
def okf (t : List ByteArray) (p : Int) (s : ByteArray) : Bool := decide ((rdOf ByteArray.empty t p).toList = (ky s).toList)
def sec (s : ByteArray) : Bool := (nm s).isSome
/-- The places above that of one. -/
def ups (w : Nat) : List Int := [(((6 + w) / 2 : Nat) : Int), ((((6 + w) / 2 - 1) / 2 : Nat) : Int), 0]
def path (w : Nat) : List Int := ((7 + w : Nat) : Int) :: ups w
theorem path_ok {w : Nat} (h : w < 8) : ∀ x ∈ path w, 0 ≤ x ∧ x < 15 := by
  intro x hx
  simp only [path, ups, List.mem_cons, List.not_mem_nil, or_false] at hx
  rcases hx with rfl | rfl | rfl | rfl <;> omega
theorem path_nodup {w : Nat} (h : w < 8) : (path w).Nodup := by
  have : ∀ w : Fin 8, (path w.1).Nodup := by decide +kernel
  exact this ⟨w, h⟩
theorem ups_ev {w : Nat} (h : w < 8) : Ev (fun k => spec_TreUp.f k ((7 + w : Nat) : Int)) (ups w) := by
  have : ∀ w : Fin 8, spec_TreUp.f 10 ((7 + w.1 : Nat) : Int) = some (ups w.1) := by decide +kernel
  exact Ev.of (fun k => spec_TreUp.mono _ k) (this ⟨w, h⟩)
theorem path_ev {w : Nat} (h : w < 8) : Ev (fun k => impl_path.f k (w : Int)) (path w) := by
  have : ∀ w : Fin 8, impl_path.f 10 ((w.1 : Nat) : Int) = some (path w.1) := by decide +kernel
  exact Ev.of (fun k => impl_path.mono _ k) (this ⟨w, h⟩)
theorem leaf_is {w : Nat} (h : w < 8) : spec_TreLeaf.f (w : Int) = some ((7 + w : Nat) : Int) := by
  unfold spec_TreLeaf.f
  rw [in_spec, decide_eq_true (by omega), Option.bind_some, if_pos rfl, wz (by omega) (by omega)]
  rfl
theorem ownS_cons (o : Ow) (r : List Ow) (n : Int) : ownS g0 g1 (o :: r) n = if o.f0 = n then o.f1 else ownS g0 g1 r n := by
  unfold ownS fnd
  rw [List.find?_cons]
  by_cases h : o.f0 = n
  · rw [if_pos h, show (g0 o == n) = true from beq_iff_eq.2 h]
    rfl
  · rw [if_neg h, show (g0 o == n) = false from beq_eq_false_iff_ne.2 h]
theorem own_ev (b : Bool) (x : Int) (t : List ByteArray) (l : List Ow) (e : Int) (i g : ByteArray) (n : Int) (hl : l.length ≤ 1048576) : ∀ (d j : Nat), l.length - j ≤ d → j ≤ l.length → Ev (fun k => spec_l4Own.l0 k n (j : Int) b x t l e i g) (ownS g0 g1 (l.drop j) n) := by
  have fin : ∀ j : Nat, l.length ≤ j → Ev (fun k => spec_l4Own.l0 k n (j : Int) b x t l e i g) (ownS g0 g1 (l.drop j) n) := by
    intro j hj
    rw [List.drop_eq_nil_of_le hj]
    exact Ev.step (f := fun _ => some ⟨#[]⟩) (fun k => by rw [spec_l4Own.l0, if_neg (by omega)]) (Ev.now _)
  intro d
  induction d with
  | zero => intro j h0 h1; exact fin j (by omega)
  | succ d ih =>
    intro j h0 h1
    by_cases h : j < l.length
    · rw [List.drop_eq_getElem_cons h, ownS_cons]
      by_cases he : l[j].f0 = n
      · rw [if_pos he]
        exact Ev.step (f := fun _ => some l[j].f1) (fun k => by rw [spec_l4Own.l0, if_pos (by omega), if_pos (by omega), rdO_at h, if_pos he]) (Ev.now _)
      · rw [if_neg he]
        exact Ev.step (f := fun k => spec_l4Own.l0 k n ((j + 1 : Nat) : Int) b x t l e i g) (fun k => by rw [spec_l4Own.l0, if_pos (by omega), if_pos (by omega), rdO_at h, if_neg he, wz (x := (j : Int) + 1) (by omega) (by omega)]; rfl) (ih (j + 1) (by omega) (by omega))
    · exact fin j (by omega)
theorem ownF_ev (b : Bool) (x : Int) (t : List ByteArray) (l : List Ow) (e : Int) (i g : ByteArray) (n : Int) (hl : l.length ≤ 1048576) : Ev (fun k => spec_l4Own.f k b x t l e i g n) (ownS g0 g1 l n) := own_ev b x t l e i g n hl l.length 0 (by omega) (by omega)
theorem in_ev (u : List Int) (x : Int) (hl : u.length ≤ 1000) : ∀ (d j : Nat), u.length - j ≤ d → j ≤ u.length → Ev (fun k => spec_l4In.l0 k u x (j : Int)) ((u.drop j).contains x) := by
  have fin : ∀ j : Nat, u.length ≤ j → Ev (fun k => spec_l4In.l0 k u x (j : Int)) ((u.drop j).contains x) := by
    intro j hj
    rw [List.drop_eq_nil_of_le hj]
    exact Ev.step (f := fun _ => some false) (fun k => by rw [spec_l4In.l0, if_neg (by omega)]) (Ev.now _)
  intro d
  induction d with
  | zero => intro j h0 h1; exact fin j (by omega)
  | succ d ih =>
    intro j h0 h1
    by_cases h : j < u.length
    · rw [List.drop_eq_getElem_cons h, List.contains_cons]
      by_cases he : u[j] = x
      · rw [show (x == u[j]) = true from beq_iff_eq.2 he.symm, Bool.true_or]
        exact Ev.step (f := fun _ => some true) (fun k => by rw [spec_l4In.l0, if_pos (by omega), if_pos (by omega), rdP_at h, if_pos he]) (Ev.now _)
      · rw [show (x == u[j]) = false from beq_eq_false_iff_ne.2 (Ne.symm he), Bool.false_or]
        exact Ev.step (f := fun k => spec_l4In.l0 k u x ((j + 1 : Nat) : Int)) (fun k => by rw [spec_l4In.l0, if_pos (by omega), if_pos (by omega), rdP_at h, if_neg he, wz (x := (j : Int) + 1) (by omega) (by omega)]; rfl) (ih (j + 1) (by omega) (by omega))
    · exact fin j (by omega)
section
variable {w : Nat} {t : List ByteArray} {l : List Ow} {b : Bool} {x e : Int} {i g : ByteArray}
theorem fits_j1 {j : Nat} (hj : j < l.length) (hl : l.length ≤ 1048576) {r : Bool} (c : Bool) (nx : Ev (fun k => spec_l4Fits.l0 k ((7 + w : Nat) : Int) ((j + 1 : Nat) : Int) b x t l e i g) r) : Ev (fun k => spec_l4Fits.j1 k ((7 + w : Nat) : Int) (j : Int) (!c) b x t l e i g) (c && r) := by
  cases c with
  | false => rw [Bool.false_and]; exact Ev.step (f := fun _ => some false) (fun k => by rw [spec_l4Fits.j1, if_pos (by rfl)]) (Ev.now _)
  | true => rw [Bool.true_and]; exact Ev.step (f := fun k => spec_l4Fits.l0 k ((7 + w : Nat) : Int) ((j + 1 : Nat) : Int) b x t l e i g) (fun k => by rw [spec_l4Fits.j1, if_neg (by decide), wz (x := (j : Int) + 1) (by omega) (by omega)]; rfl) nx
theorem fits_mid {j : Nat} (hj : j < l.length) (hl : l.length ≤ 1048576) (ht : t.length = 15) (hp : 0 ≤ l[j].f0 ∧ l[j].f0 < 15) (hs : l[j].f1.size ≤ 2000000) {r : Bool} (nx : Ev (fun k => spec_l4Fits.l0 k ((7 + w : Nat) : Int) ((j + 1 : Nat) : Int) b x t l e i g) r) :
    Ev (fun k => (spec_SecOk.f k l[j].f1).bind fun t166 => (if t166 = true then (if 0 ≤ l[j].f0 then (if l[j].f0 < (t.length : Int) then (if (rdOf ByteArray.empty t l[j].f0).toList = ([] : List UInt8) then (spec_l4Fits.j1 k ((7 + w : Nat) : Int) (j : Int) true b x t l e i g) else ((spec_MakKey.f k l[j].f1).bind fun t169 => (if (rdOf ByteArray.empty t l[j].f0).toList = t169.toList then (if (j : Int) ≤ (l.length : Int) then ((spec_l4Own.f k false 0 ([] : List ByteArray) (l.take (j : Int).toNat) 0 (⟨#[]⟩ : ByteArray) (⟨#[]⟩ : ByteArray) l[j].f0).bind fun t174 => (spec_l4Fits.j1 k ((7 + w : Nat) : Int) (j : Int) (t174.toList != ([] : List UInt8)) b x t l e i g)) else (none)) else (spec_l4Fits.j1 k ((7 + w : Nat) : Int) (j : Int) true b x t l e i g)))) else (none)) else (none)) else (spec_l4Fits.j1 k ((7 + w : Nat) : Int) (j : Int) true b x t l e i g)))
      ((sec l[j].f1 && (Kf t l[j].f0 && (okf t l[j].f0 l[j].f1 && decide (ownS g0 g1 (l.take j) l[j].f0 = ⟨#[]⟩)))) && r) := by
  have no := fits_j1 (w := w) (b := b) (x := x) (t := t) (e := e) (i := i) (g := g) hj hl false nx
  rw [Bool.false_and] at no
  refine Ev.bind (secOk_ev l[j].f1) ?_
  show Ev _ ((sec l[j].f1 && _) && r)
  unfold sec
  cases h1 : (nm l[j].f1).isSome with
  | false => rw [Bool.false_and, Bool.false_and]; exact Ev.congr (fun k => if_neg Bool.false_ne_true) no
  | true =>
    rw [Bool.true_and]
    refine Ev.congr (fun k => (if_pos rfl).trans ((if_pos hp.1).trans (if_pos (show l[j].f0 < (t.length : Int) by rw [ht]; exact hp.2)))) ?_
    unfold Kf
    by_cases h2 : (rdOf ByteArray.empty t l[j].f0).toList = ([] : List UInt8)
    · rw [show ((rdOf ByteArray.empty t l[j].f0).toList != ([] : List UInt8)) = false from bne_eq_false_iff_eq.2 h2, Bool.false_and, Bool.false_and]
      exact Ev.congr (fun k => if_pos h2) no
    · rw [show ((rdOf ByteArray.empty t l[j].f0).toList != ([] : List UInt8)) = true from bne_iff_ne.2 h2, Bool.true_and]
      refine Ev.congr (fun k => if_neg h2) (Ev.bind (specKey_ev l[j].f1 hs) ?_)
      unfold okf
      by_cases h3 : (rdOf ByteArray.empty t l[j].f0).toList = (ky l[j].f1).toList
      · rw [decide_eq_true h3, Bool.true_and]
        have eo := ownF_ev false 0 ([] : List ByteArray) (l.take j) 0 (⟨#[]⟩ : ByteArray) (⟨#[]⟩ : ByteArray) l[j].f0 (by rw [List.length_take]; omega)
        have jj : ((j : Int)).toNat = j := Int.toNat_natCast j
        refine Ev.congr (fun k => (if_pos h3).trans (if_pos (show (j : Int) ≤ (l.length : Int) by omega))) ?_
        rw [jj]
        refine Ev.bind eo ?_
        have y := fits_j1 (w := w) (b := b) (x := x) (t := t) (e := e) (i := i) (g := g) hj hl (decide (ownS g0 g1 (l.take j) l[j].f0 = ⟨#[]⟩)) nx
        refine Ev.congr (f := fun k => spec_l4Fits.j1 k ((7 + w : Nat) : Int) (j : Int) (!(decide (ownS g0 g1 (l.take j) l[j].f0 = ⟨#[]⟩))) b x t l e i g) (fun k => ?_) y
        congr 1
        by_cases hz : ownS g0 g1 (l.take j) l[j].f0 = ⟨#[]⟩
        · rw [decide_eq_true hz, bne_eq_false_iff_eq.2 (Th.toList_nil.2 hz)]
          rfl
        · rw [decide_eq_false hz, bne_iff_ne.2 (fun hh => hz (Th.toList_nil.1 hh))]
          rfl
      · rw [decide_eq_false h3, Bool.false_and, Bool.false_and]
        exact Ev.congr (fun k => if_neg h3) no
theorem fits_l0 (hw : w < 8) (ht : t.length = 15) (hl : l.length ≤ 1048576) (hs : ∀ o ∈ l, o.f1.size ≤ 2000000) : ∀ (d j : Nat), l.length - j ≤ d → j ≤ l.length → Ev (fun k => spec_l4Fits.l0 k ((7 + w : Nat) : Int) (j : Int) b x t l e i g) (fitsR g0 g1 (Kf t) (okf t) sec (path w) (l.take j) (l.drop j)) := by
  have fin : ∀ j : Nat, l.length ≤ j → Ev (fun k => spec_l4Fits.l0 k ((7 + w : Nat) : Int) (j : Int) b x t l e i g) (fitsR g0 g1 (Kf t) (okf t) sec (path w) (l.take j) (l.drop j)) := by
    intro j hj
    rw [List.drop_eq_nil_of_le hj]
    exact Ev.step (f := fun _ => some true) (fun k => by rw [spec_l4Fits.l0, if_neg (by omega)]) (Ev.now _)
  intro d
  induction d with
  | zero => intro j h0 h1; exact fin j (by omega)
  | succ d ih =>
    intro j h0 h1
    by_cases h : j < l.length
    · have nx := ih (j + 1) (by omega) (by omega)
      rw [List.take_succ_eq_append_getElem h] at nx
      rw [List.drop_eq_getElem_cons h]
      unfold fitsR okO
      have hpo := path_ok hw l[j].f0
      have con : (path w).contains (g0 l[j]) = (decide (l[j].f0 = ((7 + w : Nat) : Int)) || (ups w).contains l[j].f0) := by
        unfold path
        rw [List.contains_cons]
        rfl
      rw [con]
      by_cases hlf : l[j].f0 = ((7 + w : Nat) : Int)
      · rw [decide_eq_true hlf, Bool.true_or, Bool.true_and]
        refine Ev.step (fun k => ?_) (fits_mid h hl ht (hpo (by rw [hlf]; unfold path; exact List.mem_cons.2 (.inl rfl))) (hs _ (List.getElem_mem h)) nx)
        rw [spec_l4Fits.l0, if_pos (by omega), if_pos (by omega), rdO_at h, if_pos hlf]
      · rw [decide_eq_false hlf, Bool.false_or]
        have ei := in_ev (ups w) l[j].f0 (by simp [ups]) 3 0 (by simp [ups]) (by omega)
        rw [List.drop_zero] at ei
        refine Ev.step (fun k => by rw [spec_l4Fits.l0, if_pos (by omega), if_pos (by omega), rdO_at h, if_neg hlf]) ?_
        refine Ev.bind (ups_ev hw) (Ev.bind (show Ev (fun k => spec_l4In.f k (ups w) l[j].f0) _ from ei) ?_)
        cases hc : (ups w).contains l[j].f0 with
        | false =>
          rw [Bool.false_and, Bool.false_and]
          have no := fits_j1 (w := w) (b := b) (x := x) (t := t) (e := e) (i := i) (g := g) h hl false nx
          rw [Bool.false_and] at no
          exact Ev.congr (fun k => if_neg Bool.false_ne_true) no
        | true =>
          rw [Bool.true_and]
          exact Ev.congr (fun k => if_pos rfl) (fits_mid h hl ht (hpo (by unfold path; exact List.mem_cons.2 (.inr (List.contains_iff_mem.1 hc)))) (hs _ (List.getElem_mem h)) nx)
    · exact fin j (by omega)
theorem all_gen (p : List Int) (hz : p.length = 4) (po : ∀ x ∈ p, 0 ≤ x ∧ x < 15) (hw : w < 8) (ht : t.length = 15) (hl : l.length ≤ 1048576) : ∀ (d j : Nat), 4 - j ≤ d → j ≤ 4 → Ev (fun k => spec_l4All.l0 k ((7 + w : Nat) : Int) p (j : Int) b x t l e i g) (allR g0 g1 (Kf t) l (p.drop j) && Kf t ((7 + w : Nat) : Int)) := by
  have fin : ∀ j : Nat, 4 ≤ j → Ev (fun k => spec_l4All.l0 k ((7 + w : Nat) : Int) p (j : Int) b x t l e i g) (allR g0 g1 (Kf t) l (p.drop j) && Kf t ((7 + w : Nat) : Int)) := by
    intro j hj
    rw [List.drop_eq_nil_of_le (by omega)]
    exact Ev.step (f := fun _ => some (Kf t ((7 + w : Nat) : Int))) (fun k => by rw [spec_l4All.l0, if_neg (by omega), if_pos (by omega), if_pos (by omega)]; rfl) (Ev.now _)
  intro d
  induction d with
  | zero => intro j h0 h1; exact fin j (by omega)
  | succ d ih =>
    intro j h0 h1
    by_cases h : j < 4
    · have nx := ih (j + 1) (by omega) (by omega)
      have hj : j < p.length := by omega
      obtain ⟨q0, q1⟩ := po _ (List.getElem_mem hj)
      have w1 : wrap64 ((j : Int) + 1) = ((j + 1 : Nat) : Int) := wz (x := (j : Int) + 1) (by omega) (by omega)
      rw [List.drop_eq_getElem_cons hj]
      unfold allR
      by_cases hk : (rdOf ByteArray.empty t p[j]).toList = ([] : List UInt8)
      · rw [if_neg (show ¬ Kf t p[j] = true by unfold Kf; rw [bne_eq_false_iff_eq.2 hk]; decide), Bool.true_and]
        exact Ev.step (f := fun k => spec_l4All.l0 k ((7 + w : Nat) : Int) p ((j + 1 : Nat) : Int) b x t l e i g) (fun k => by rw [spec_l4All.l0, if_pos (by omega), if_pos (by omega), rdP_at hj, if_pos q0, if_pos (by omega), if_pos hk, w1]) nx
      · rw [if_pos (show Kf t p[j] = true by unfold Kf; exact bne_iff_ne.2 hk)]
        refine Ev.step (fun k => by rw [spec_l4All.l0, if_pos (by omega), if_pos (by omega), rdP_at hj, if_pos q0, if_pos (by omega), if_neg hk, w1]) (Ev.bind (ownF_ev b x t l e i g p[j] hl) ?_)
        by_cases ho : ownS g0 g1 l p[j] = ⟨#[]⟩
        · rw [decide_eq_false (fun hh => hh ho), Bool.false_and, Bool.false_and]
          exact Ev.of_eq fun k => if_pos (Th.toList_nil.2 ho)
        · rw [decide_eq_true ho, Bool.true_and]
          exact Ev.congr (fun k => if_neg (fun hh => ho (Th.toList_nil.1 hh))) nx
    · exact fin j (by omega)
theorem all_l0 (hw : w < 8) (ht : t.length = 15) (hl : l.length ≤ 1048576) (d j : Nat) (h0 : 4 - j ≤ d) (h1 : j ≤ 4) : Ev (fun k => spec_l4All.l0 k ((7 + w : Nat) : Int) (path w) (j : Int) b x t l e i g) (allR g0 g1 (Kf t) l ((path w).drop j) && Kf t ((7 + w : Nat) : Int)) := all_gen (path w) rfl (path_ok hw) hw ht hl d j h0 h1
theorem first_link : ∀ (l : List Ow) (n : Int) (q : Nat), (∃ k, ∃ h : k < l.length, firstAt l n q = ((q + k : Nat) : Int) ∧ fnd g0 l n = some l[k]) ∨ (firstAt l n q = -1 ∧ fnd g0 l n = none)
  | [], _, _ => .inr ⟨rfl, rfl⟩
  | o :: l, n, q => by
    unfold firstAt
    by_cases h : o.f0 = n
    · refine .inl ⟨0, by simp, by rw [if_pos h, Nat.add_zero], ?_⟩
      unfold fnd
      rw [List.find?_cons, show (g0 o == n) = true from beq_iff_eq.2 h]
      rfl
    · have hf : fnd g0 (o :: l) n = fnd g0 l n := by
        unfold fnd
        rw [List.find?_cons, show (g0 o == n) = false from beq_eq_false_iff_ne.2 h]
      rw [if_neg h, hf]
      rcases first_link l n (q + 1) with ⟨k, hk, e1, e2⟩ | ⟨e1, e2⟩
      · exact .inl ⟨k + 1, by simpa using hk, by rw [e1]; omega, e2⟩
      · exact .inr ⟨e1, e2⟩
set_option maxHeartbeats 4000000 in
theorem loop_gen (p : List Int) (hz : p.length = 4) (po : ∀ x ∈ p, 0 ≤ x ∧ x < 15) (ht : t.length = 15) (_hl : l.length ≤ 1048576) : ∀ (d j m : Nat), 4 - j ≤ d → j ≤ 4 → m ≤ j → Ev (fun k => impl_MemOk.l0 k (m : Int) p 4 (j : Int) b x t l e i g) (loopR g0 g1 (Kf t) (okf t) l (p.drop j) m) := by
  have fin : ∀ j m : Nat, 4 ≤ j → Ev (fun k => impl_MemOk.l0 k (m : Int) p 4 (j : Int) b x t l e i g) (loopR g0 g1 (Kf t) (okf t) l (p.drop j) m) := by
    intro j m hj
    rw [List.drop_eq_nil_of_le (by omega)]
    refine Ev.step (f := fun _ => some (decide (m = l.length))) (fun k => ?_) (Ev.now _)
    rw [impl_MemOk.l0, if_neg (by omega)]
    congr 1
    rw [Bool.eq_iff_iff, beq_iff_eq, decide_eq_true_eq]
    omega
  intro d
  induction d with
  | zero => intro j m h0 h1 hm; exact fin j m (by omega)
  | succ d ih =>
    intro j m h0 h1 hm
    by_cases h : j < 4
    · have i1 : 4 - (j + 1) ≤ d := by omega
      have i2 : j + 1 ≤ 4 := Nat.succ_le_of_lt h
      have i3 : m ≤ j + 1 := Nat.le_succ_of_le hm
      have i4 : m + 1 ≤ j + 1 := Nat.succ_le_succ hm
      have hj : j < p.length := by omega
      obtain ⟨q0, q1⟩ := po _ (List.getElem_mem hj)
      have w1 : wrap64 ((j : Int) + 1) = ((j + 1 : Nat) : Int) := wz (x := (j : Int) + 1) (by omega) (by omega)
      have w2 : wrap64 ((m : Int) + 1) = ((m + 1 : Nat) : Int) := wz (x := (m : Int) + 1) (by omega) (by omega)
      rw [List.drop_eq_getElem_cons hj]
      unfold loopR
      by_cases hk : (rdOf ByteArray.empty t p[j]).toList = ([] : List UInt8)
      · rw [if_neg (show ¬ Kf t p[j] = true by unfold Kf; rw [bne_eq_false_iff_eq.2 hk]; decide)]
        exact Ev.step (f := fun k => impl_MemOk.l0 k (m : Int) p 4 ((j + 1 : Nat) : Int) b x t l e i g) (fun k => by rw [impl_MemOk.l0, if_pos (by omega), if_pos (by omega), if_pos (by omega), rdP_at hj, if_pos q0, if_pos (by omega), if_pos hk, w1]) (ih (j + 1) m i1 i2 i3)
      · rw [if_pos (show Kf t p[j] = true by unfold Kf; exact bne_iff_ne.2 hk)]
        have go : ∀ {v : Bool} {f : Nat → Option Bool}, (∀ k, (if ownI l p[j] < 0 then (some false) else (if 0 ≤ ownI l p[j] then (if ownI l p[j] < (l.length : Int) then ((impl_MakKey.f k ((rd_T74 l (ownI l p[j])).f1)).bind fun t282 => (if t282.toList = (rdOf ByteArray.empty t p[j]).toList then (impl_MemOk.l0 k ((m + 1 : Nat) : Int) p 4 ((j + 1 : Nat) : Int) b x t l e i g) else (some false))) else (none)) else (none))) = f k) → Ev f v → Ev (fun k => impl_MemOk.l0 k (m : Int) p 4 (j : Int) b x t l e i g) v := by
          intro v f hf hv
          exact Ev.step (fun k => by rw [impl_MemOk.l0, if_pos (by omega), if_pos (by omega), if_pos (by omega), rdP_at hj, if_pos q0, if_pos (by omega), if_neg hk, impl_ownAt.f, Option.bind_some, w1, w2]; exact hf k) hv
        rcases first_link l p[j] 0 with ⟨k0, hk0, e1, e2⟩ | ⟨e1, e2⟩
        · have e1 : ownI l p[j] = (k0 : Int) := by unfold ownI; rw [e1, Nat.zero_add]
          rw [e2]
          have em : Ev (fun k => impl_MakKey.f k l[k0].f1) (ky l[k0].f1) := Ev.of (fun k => impl_MakKey.mono _ k) (implKey l[k0].f1 0)
          refine go (fun k => by rw [e1, if_neg (by omega), if_pos (by omega), if_pos (by omega), rdO_at hk0]) (Ev.bind em ?_)
          show Ev _ (okf t p[j] l[k0].f1 && _)
          unfold okf
          by_cases h3 : (rdOf ByteArray.empty t p[j]).toList = (ky l[k0].f1).toList
          · rw [decide_eq_true h3, Bool.true_and]
            exact Ev.congr (fun k => if_pos h3.symm) (ih (j + 1) (m + 1) i1 i2 i4)
          · rw [decide_eq_false h3, Bool.false_and]
            exact Ev.of_eq fun k => if_neg (fun hh => h3 hh.symm)
        · have e1 : ownI l p[j] = -1 := e1
          rw [e2]
          exact go (f := fun _ => some false) (fun k => by rw [e1, if_pos (by decide)]) (Ev.now _)
    · exact fin j m (by omega)
theorem loop_l0 (hw : w < 8) (ht : t.length = 15) (hl : l.length ≤ 1048576) (d j m : Nat) (h0 : 4 - j ≤ d) (h1 : j ≤ 4) (hm : m ≤ j) : Ev (fun k => impl_MemOk.l0 k (m : Int) (path w) 4 (j : Int) b x t l e i g) (loopR g0 g1 (Kf t) (okf t) l ((path w).drop j) m) := loop_gen (path w) rfl (path_ok hw) ht hl d j m h0 h1 hm
end
theorem sec_of {t : List ByteArray} (p : Int) (s : ByteArray) (h : Kf t p = true) (h2 : okf t p s = true) : sec s = true := by
  unfold sec
  cases hn : nm s with
  | some a => rfl
  | none =>
    exfalso
    have h3 := of_decide_eq_true h2
    unfold Kf at h
    have h4 := bne_iff_ne.1 h
    apply h4
    rw [h3]
    unfold ky
    rw [made1_no hn]
    exact Th.toList_nil.2 rfl
theorem sec_full (s : ByteArray) (h : sec s = true) : s ≠ ⟨#[]⟩ := by
  rintro rfl
  revert h
  unfold sec
  decide +kernel
theorem mem_both (b : Bool) (x : Int) (t : List ByteArray) (l : List Ow) (e : Int) (i g : ByteArray) (hl : l.length ≤ 1048576) (hs : ∀ o ∈ l, o.f1.size ≤ 2000000) :
    ∃ r, Ev (fun k => spec_MemOk.f k b x t l e i g) r ∧ Ev (fun k => impl_MemOk.f k b x t l e i g) r := by
  unfold spec_MemOk.f impl_MemOk.f
  cases b with
  | false =>
    have hE : ∃ r, (if x = 0 then (if (t.length : Int) = 0 then (if (l.length : Int) = 0 then (if e = 0 then (if i.toList = ([] : List UInt8) then (some (g.toList == ([] : List UInt8))) else (some false)) else (some false)) else (some false)) else (some false)) else (some false)) = some r := by
      repeat' first
        | exact ⟨_, rfl⟩
        | split
    obtain ⟨r, hr⟩ := hE
    exact ⟨r, Ev.of_eq fun k => (if_neg Bool.false_ne_true).trans hr, Ev.of_eq fun k => (if_neg Bool.false_ne_true).trans hr⟩
  | true =>
    have noI : Ev (fun k => impl_MemOk.j0 k true true x t l e i g) false := Ev.step (f := fun _ => some false) (fun k => by rw [impl_MemOk.j0, if_pos rfl]) (Ev.now _)
    by_cases hx : 0 ≤ x ∧ x ≤ 7
    · obtain ⟨w, rfl⟩ := Int.eq_ofNat_of_zero_le hx.1
      have hw : w < 8 := by omega
      have et := specTreOk_ev t
      cases hT : treB t with
      | false =>
        rw [hT] at et
        exact ⟨false, Ev.congr (fun k => by rw [if_pos rfl, in_spec, decide_eq_true hx, Option.bind_some, if_pos rfl]) (Ev.bind et (Ev.of_eq fun k => if_neg Bool.false_ne_true)), Ev.congr (fun k => by rw [if_pos rfl, isOne_is, decide_eq_true hx, Option.bind_some, if_pos rfl, impl_TreOk.f, hT, Option.bind_some, if_neg Bool.false_ne_true]) noI⟩
      | true =>
        rw [hT] at et
        have htl : t.length = 15 := by
          unfold treB at hT
          rw [Bool.and_eq_true, decide_eq_true_eq] at hT
          exact hT.1
        have eF := fits_l0 (w := w) (t := t) (l := l) (b := true) (x := (w : Int)) (e := e) (i := i) (g := g) hw htl hl hs l.length 0 (by omega) (by omega)
        have eA := all_l0 (w := w) (t := t) (l := l) (b := true) (x := (w : Int)) (e := e) (i := i) (g := g) hw htl hl 4 0 (by omega) (by omega)
        have eL := loop_l0 (w := w) (t := t) (l := l) (b := true) (x := (w : Int)) (e := e) (i := i) (g := g) hw htl hl 4 0 0 (by omega) (by omega) (by omega)
        rw [List.take_zero, List.drop_zero] at eF
        rw [List.drop_zero] at eA eL
        have hL := mem_eq (f0 := g0) (f1 := g1) (Kf := Kf t) (ok := okf t) (sec := sec) (l := l) (path := path w) (path_nodup hw) (fun p s => sec_of p s) sec_full
        have eF' : Ev (fun k => spec_l4Fits.f k true (w : Int) t l e i g) (fitsR g0 g1 (Kf t) (okf t) sec (path w) [] l) := by
          unfold spec_l4Fits.f
          exact Ev.congr (fun k => by rw [leaf_is hw, Option.bind_some]; rfl) eF
        have eA' : Ev (fun k => spec_l4All.f k true (w : Int) t l e i g) (allR g0 g1 (Kf t) l (path w) && Kf t ((7 + w : Nat) : Int)) := by
          unfold spec_l4All.f
          refine Ev.congr (fun k => by rw [leaf_is hw, Option.bind_some, Option.bind_some]) ?_
          refine Ev.bind (ups_ev hw) ?_
          exact Ev.congr (fun k => if_pos (by first | rfl | (simp [ups]; done) | omega)) eA
        generalize fitsR g0 g1 (Kf t) (okf t) sec (path w) [] l = F at *
        generalize allR g0 g1 (Kf t) l (path w) = R at *
        generalize loopR g0 g1 (Kf t) (okf t) l (path w) 0 = L at *
        have hh : impl_TreTree_has.f t (w : Int) = some (Kf t ((7 + w : Nat) : Int)) := by
          unfold impl_TreTree_has.f impl_leaf.f
          rw [isOne_is, decide_eq_true (by omega), Option.bind_some, if_pos rfl, Option.bind_some, wz (x := 7 + (w : Int)) (by omega) (by omega), if_pos (by omega), if_pos (by omega), show (7 : Int) + (w : Int) = ((7 + w : Nat) : Int) by omega]
          rfl
        generalize Kf t ((7 + w : Nat) : Int) = Q at *
        have eS := secOk_ev i
        refine ⟨F && ((R && Q) && (decide (0 ≤ e ∧ e ≤ 12) && ((nm i).isSome && decide ((g.size : Int) ≤ 300)))), ?_, ?_⟩
        · refine Ev.congr (fun k => by rw [if_pos rfl, in_spec, decide_eq_true hx, Option.bind_some, if_pos rfl]) (Ev.bind et (Ev.congr (fun k => if_pos rfl) (Ev.bind eF' ?_)))
          cases F with
          | false => rw [Bool.false_and]; exact Ev.of_eq fun k => if_neg Bool.false_ne_true
          | true =>
            rw [Bool.true_and]
            refine Ev.congr (fun k => if_pos rfl) (Ev.bind eA' ?_)
            cases (R && Q) with
            | false => rw [Bool.false_and]; exact Ev.of_eq fun k => if_neg Bool.false_ne_true
            | true =>
              rw [Bool.true_and]
              refine Ev.congr (fun k => by rw [if_pos rfl, in_spec, Option.bind_some]) ?_
              cases decide (0 ≤ e ∧ e ≤ 12) with
              | false => rw [Bool.false_and]; exact Ev.of_eq fun k => if_neg Bool.false_ne_true
              | true =>
                rw [Bool.true_and]
                refine Ev.congr (fun k => if_pos rfl) (Ev.bind eS ?_)
                cases (nm i).isSome with
                | false => rw [Bool.false_and]; exact Ev.of_eq fun k => if_neg Bool.false_ne_true
                | true => rw [Bool.true_and]; exact Ev.of_eq fun k => if_pos rfl
        · have ev : (F && ((R && Q) && (decide (0 ≤ e ∧ e ≤ 12) && ((nm i).isSome && decide ((g.size : Int) ≤ 300))))) = (decide (0 ≤ e ∧ e ≤ 12) && ((nm i).isSome && (decide ((g.size : Int) ≤ 300) && (Q && L)))) := by
            rw [← hL]
            cases F <;> cases R <;> cases Q <;> cases decide (0 ≤ e ∧ e ≤ 12) <;> cases (nm i).isSome <;> cases decide ((g.size : Int) ≤ 300) <;> rfl
          rw [ev]
          refine Ev.congr (fun k => by rw [if_pos rfl, isOne_is, decide_eq_true hx, Option.bind_some, if_pos rfl, impl_TreOk.f, hT, Option.bind_some, if_pos rfl, in_impl, Option.bind_some]) ?_
          cases decide (0 ≤ e ∧ e ≤ 12) with
          | false => rw [Bool.false_and]; exact Ev.congr (fun k => if_neg Bool.false_ne_true) noI
          | true =>
            rw [Bool.true_and]
            refine Ev.congr (fun k => by rw [if_pos rfl, impl_SecOk.f, Option.bind_some]) ?_
            cases (nm i).isSome with
            | false => rw [Bool.false_and]; exact Ev.congr (fun k => if_neg Bool.false_ne_true) noI
            | true =>
              rw [Bool.true_and]
              refine Ev.congr (fun k => if_pos rfl) ?_
              by_cases hg : (g.size : Int) > 300
              · rw [decide_eq_false (by omega), Bool.false_and]; exact Ev.congr (fun k => if_pos hg) noI
              · rw [decide_eq_true (by omega), Bool.true_and]
                refine Ev.congr (fun k => by rw [if_neg hg, hh, Option.bind_some]) ?_
                cases Q with
                | false => rw [Bool.false_and]; exact noI
                | true =>
                  rw [Bool.true_and]
                  exact Ev.step (fun k => by rw [impl_MemOk.j0, if_neg (by decide)]) (Ev.bind (path_ev hw) eL)
    · exact ⟨false, Ev.of_eq fun k => by rw [if_pos rfl, in_spec, decide_eq_false hx, Option.bind_some, if_neg Bool.false_ne_true], Ev.congr (fun k => by rw [if_pos rfl, isOne_is, decide_eq_false hx, Option.bind_some, if_neg Bool.false_ne_true]) noI⟩
end
end Go.Proofs.YtnemchmiplbopaaGreatDoor.Pure
namespace Go.Proofs.YtnemchmiplbopaaGreatDoor.Pure
section
open Go.RowKit Go.Proofs.YtnemchmiplbopaaGreatDoor Go.Proofs.YtnemchmiplbopaaGreatDoor.Zj Go.Proofs.YtnemchmiplbopaaGreatDoorW.PrintWords Go.Proofs.YtnemchmiplbopaaGreatDoorW.PrintLast

theorem evC {α : Type} {g : Nat → Option α} {r : α} (h : ∀ k, g k = some r) : Ev g r := ⟨0, fun k _ => h k⟩
theorem rdS_at {l : List ByteArray} {i : Nat} (h : i < l.length) : rdOf ByteArray.empty l (i : Int) = l[i] := by
  unfold rdOf
  rw [Int.toNat_natCast, List.getD_eq_getElem?_getD, List.getElem?_eq_getElem h]
  rfl
theorem sz_l0 (l : List ByteArray) (hs : ∀ z ∈ l, z.size ≤ 140737488351232) (hl : l.length ≤ 8796093022208) : ∀ (d i : Nat) (left : Int), l.length - i ≤ d → i ≤ l.length → 0 ≤ left → left ≤ 1048576 →
    ∃ r, Ev (fun k => laws_szStringS.l0 k l left (i : Int)) r ∧ r ≤ left ∧ (0 ≤ r → ∀ x ∈ l.drop i, (x.size : Int) ≤ left) := by
  intro d
  induction d with
  | zero =>
    intro i left h0 h1 g0 g1
    refine ⟨left, Ev.step (f := fun _ => some left) (fun k => by rw [laws_szStringS.l0, if_neg (by omega)]) (Ev.now _), Int.le_refl _, fun _ x hx => ?_⟩
    rw [List.drop_eq_nil_of_le (by omega)] at hx
    cases hx
  | succ d ih =>
    intro i left h0 h1 g0 g1
    by_cases h : i < l.length
    · have hz := hs l[i] (List.getElem_mem h)
      have w1 : wrap64 (left - (l[i].size : Int)) = left - (l[i].size : Int) := wz (by omega) (by omega)
      by_cases hn : left - (l[i].size : Int) < 0
      · refine ⟨-1, Ev.step (f := fun _ => some (-1)) (fun k => by rw [laws_szStringS.l0, if_pos (by omega), if_pos (by omega), rdS_at h, w1, if_pos hn]) (Ev.now _), by omega, fun h => absurd h (by decide)⟩
      · obtain ⟨r, e, h2, h3⟩ := ih (i + 1) (left - (l[i].size : Int)) (by omega) (by omega) (by omega) (by omega)
        refine ⟨r, Ev.step (f := fun k => laws_szStringS.l0 k l (left - (l[i].size : Int)) ((i + 1 : Nat) : Int)) (fun k => by rw [laws_szStringS.l0, if_pos (by omega), if_pos (by omega), rdS_at h, w1, if_neg hn, wz (x := (i : Int) + 1) (by omega) (by omega)]; rfl) e, by omega, fun hr x hx => ?_⟩
        rw [List.drop_eq_getElem_cons h] at hx
        rcases List.mem_cons.1 hx with rfl | hx
        · omega
        · have := h3 hr x hx
          omega
    · refine ⟨left, Ev.step (f := fun _ => some left) (fun k => by rw [laws_szStringS.l0, if_neg (by omega)]) (Ev.now _), Int.le_refl _, fun _ x hx => ?_⟩
      rw [List.drop_eq_nil_of_le (by omega)] at hx
      cases hx
/-- How much room is left behind a slice of texts: less than none, or there is as much as they bear. -/
theorem szS_ev (l : List ByteArray) (g : l.length * 16 ≤ 140737488351232 ∧ l.length ≤ maxLen ∧ ∀ z_ ∈ l, z_.size ≤ 140737488351232) (left : Int) (h0 : 0 ≤ left) (h1 : left ≤ 1048576) :
    ∃ r, Ev (fun k => laws_szStringS.f k l left) r ∧ r ≤ left ∧ (0 ≤ r → (l.length : Int) ≤ left ∧ ∀ x ∈ l, (x.size : Int) ≤ left) := by
  obtain ⟨g1, _, g2⟩ := g
  have w1 : wrap64 (left - (l.length : Int)) = left - (l.length : Int) := wz (by omega) (by omega)
  by_cases hn : left - (l.length : Int) < 0
  · refine ⟨-1, evC fun k => ?_, by omega, fun h => absurd h (by decide)⟩
    unfold laws_szStringS.f
    rw [w1, if_pos hn]
  · obtain ⟨r, e, h2, h3⟩ := sz_l0 l g2 (by omega) l.length 0 (left - (l.length : Int)) (by omega) (by omega) (by omega) (by omega)
    refine ⟨r, Ev.congr (fun k => ?_) e, by omega, fun hr => ⟨by omega, fun x hx => ?_⟩⟩
    · unfold laws_szStringS.f
      rw [w1, if_neg hn]
      rfl
    · have := h3 hr x (by rw [List.drop_zero]; exact hx)
      omega
theorem toS_l0 (l : List ByteArray) (hl : l.length ≤ 1048576) : ∀ (d i : Nat) (acc : List ByteArray), l.length - i ≤ d → i ≤ l.length → acc.length = l.length → (∀ j, j < i → acc[j]? = l[j]?) → Ev (fun k => laws_toStringS.l0 k l acc (i : Int)) l := by
  intro d
  induction d with
  | zero =>
    intro i acc h0 h1 ha hj
    have : acc = l := List.ext_getElem? fun j => by
      by_cases h : j < i
      · exact hj j h
      · rw [List.getElem?_eq_none (by omega), List.getElem?_eq_none (by omega)]
    subst this
    exact Ev.step (f := fun _ => some acc) (fun k => by rw [laws_toStringS.l0, if_neg (by omega)]) (Ev.now _)
  | succ d ih =>
    intro i acc h0 h1 ha hj
    by_cases h : i < l.length
    · refine Ev.step (f := fun k => laws_toStringS.l0 k l (acc.set i l[i]) ((i + 1 : Nat) : Int)) (fun k => by rw [laws_toStringS.l0, if_pos (by omega), if_pos (by omega), if_pos (by omega), rdS_at h, wz (x := (i : Int) + 1) (by omega) (by omega), Int.toNat_natCast]; rfl) (ih (i + 1) (acc.set i l[i]) (by omega) (by omega) (by rw [List.length_set]; exact ha) fun j hlt => ?_)
      rw [List.getElem?_set]
      by_cases hji : i = j
      · subst hji
        rw [if_pos rfl, if_pos (by omega), List.getElem?_eq_getElem h]
      · rw [if_neg hji]
        exact hj j (by omega)
    · have : acc = l := List.ext_getElem? fun j => by
        by_cases h : j < i
        · exact hj j h
        · rw [List.getElem?_eq_none (by omega), List.getElem?_eq_none (by omega)]
      subst this
      exact Ev.step (f := fun _ => some acc) (fun k => by rw [laws_toStringS.l0, if_neg (by omega)]) (Ev.now _)
theorem toS_ev (l : List ByteArray) (hl : l.length ≤ 1048576) : Ev (fun k => laws_toStringS.f k l) l := by
  refine Ev.congr (fun k => ?_) (toS_l0 l hl l.length 0 (List.replicate l.length (⟨#[]⟩ : ByteArray)) (by omega) (by omega) (by simp) (fun j h => by omega))
  unfold laws_toStringS.f
  rw [if_pos (by omega), if_pos (by omega), Int.toNat_natCast]
  rfl
theorem eqS_l0 (l : List ByteArray) (hl : l.length ≤ 8796093022208) : ∀ (d i : Nat), l.length - i ≤ d → i ≤ l.length → Ev (fun k => laws_eqStringS.l0 k l l (i : Int)) true := by
  intro d
  induction d with
  | zero => intro i h0 h1; exact Ev.step (f := fun _ => some true) (fun k => by rw [laws_eqStringS.l0, if_neg (by omega)]) (Ev.now _)
  | succ d ih =>
    intro i h0 h1
    by_cases h : i < l.length
    · exact Ev.step (f := fun k => laws_eqStringS.l0 k l l ((i + 1 : Nat) : Int)) (fun k => by rw [laws_eqStringS.l0, if_pos (by omega), if_pos (by omega), if_pos (by omega), if_pos rfl, wz (x := (i : Int) + 1) (by omega) (by omega)]; rfl) (ih (i + 1) (by omega) (by omega))
    · exact Ev.step (f := fun _ => some true) (fun k => by rw [laws_eqStringS.l0, if_neg (by omega)]) (Ev.now _)
theorem eqS_ev (l : List ByteArray) (hl : l.length ≤ 8796093022208) : Ev (fun k => laws_eqStringS.f k l l) true :=
  Ev.congr (fun k => by unfold laws_eqStringS.f; rw [if_pos rfl]; rfl) (eqS_l0 l hl l.length 0 (by omega) (by omega))
end
end Go.Proofs.YtnemchmiplbopaaGreatDoor.Pure
namespace Go.Proofs.YtnemchmiplbopaaGreatDoor.Pure
section
open Go.RowKit Go.Proofs.YtnemchmiplbopaaGreatDoor Go.Proofs.YtnemchmiplbopaaGreatDoor.Zj Go.Proofs.YtnemchmiplbopaaGreatDoorW.PrintWords Go.Proofs.YtnemchmiplbopaaGreatDoorW.PrintLast
open Go.Proofs.YtnemchmiplbopaaGreatDoor.Th (T B Nm nm dec hd prsNum whole)

theorem rdB_at {l : List Bx} {i : Nat} (h : i < l.length) : rd_T52 l (i : Int) = l[i] := by
  unfold rd_T52
  rw [Int.toNat_natCast, List.getD_eq_getElem?_getD, List.getElem?_eq_getElem h]
  rfl
theorem boxes_l0 (l : List Bx) (hl : l.length ≤ 1000000) : ∀ (d i : Nat), l.length - i ≤ d → i ≤ l.length → Ev (fun k => spec_l2Boxes.l0 k l (i : Int)) ((l.drop i).all okBx) := by
  intro d
  induction d with
  | zero =>
    intro i h0 h1
    rw [List.drop_eq_nil_of_le (by omega)]
    exact Ev.step (f := fun _ => some true) (fun k => by rw [spec_l2Boxes.l0, if_neg (by omega)]) (Ev.now _)
  | succ d ih =>
    intro i h0 h1
    by_cases h : i < l.length
    · rw [List.drop_eq_getElem_cons h, List.all_cons]
      have es := secOk_ev l[i].f0
      have et := secOk_ev l[i].f1
      refine Ev.step (f := fun k => (spec_SecOk.f k l[i].f0).bind fun t => (if t = true then ((spec_SecOk.f k l[i].f1).bind fun t => (if t = true then (spec_l2Boxes.l0 k l ((i + 1 : Nat) : Int)) else (some false))) else (some false))) (fun k => by rw [spec_l2Boxes.l0, if_pos (by omega), if_pos (by omega), rdB_at h, wz (x := (i : Int) + 1) (by omega) (by omega)]; rfl) (Ev.bind es ?_)
      show Ev _ ((nm l[i].f0).isSome && (nm l[i].f1).isSome && _)
      cases hx : (nm l[i].f0).isSome with
      | false => rw [Bool.false_and, Bool.false_and]; exact Ev.of_eq fun k => if_neg Bool.false_ne_true
      | true =>
        rw [Bool.true_and]
        refine Ev.congr (fun k => if_pos rfl) (Ev.bind et ?_)
        cases hy : (nm l[i].f1).isSome with
        | true => rw [Bool.true_and]; exact Ev.congr (fun k => if_pos rfl) (ih (i + 1) (by omega) (by omega))
        | false => rw [Bool.false_and]; exact Ev.of_eq fun k => if_neg Bool.false_ne_true
    · rw [List.drop_eq_nil_of_le (by omega)]
      exact Ev.step (f := fun _ => some true) (fun k => by rw [spec_l2Boxes.l0, if_neg (by omega)]) (Ev.now _)
theorem l2Boxes_ev (l : List Bx) : Ev (fun k => spec_l2Boxes.f k l) (decide (l.length ≤ 400) && l.all okBx) := by
  by_cases h : l.length ≤ 400
  · rw [decide_eq_true h, Bool.true_and]
    exact Ev.congr (fun k => by unfold spec_l2Boxes.f; rw [if_neg (by omega)]; rfl) (boxes_l0 l (by omega) l.length 0 (by omega) (by omega))
  · rw [decide_eq_false h, Bool.false_and]
    exact Ev.of_eq fun k => by unfold spec_l2Boxes.f; rw [if_pos (by omega)]
end
end Go.Proofs.YtnemchmiplbopaaGreatDoor.Pure
namespace Go.Proofs.YtnemchmiplbopaaGreatDoor.Pure
section
open Go.RowKit Go.Proofs.YtnemchmiplbopaaGreatDoor Go.Proofs.YtnemchmiplbopaaGreatDoor.Zj Go.Proofs.YtnemchmiplbopaaGreatDoorW.PrintWords Go.Proofs.YtnemchmiplbopaaGreatDoorW.PrintLast

abbrev Kx := S43
theorem rdKx_at {l : List Kx} {i : Nat} (h : i < l.length) : rd_T43 l (i : Int) = l[i] := by
  unfold rd_T43
  rw [Int.toNat_natCast, List.getD_eq_getElem?_getD, List.getElem?_eq_getElem h]
  rfl
theorem szKnwBox_ev (x y : ByteArray) (hx : x.size ≤ 140737488351232) (hy : y.size ≤ 140737488351232) (left : Int) (h0 : 0 ≤ left) (h1 : left ≤ 1048576) : ∃ r, laws_szKnwBox.f x y left = some r ∧ r ≤ left ∧ -1 ≤ r := by
  unfold laws_szKnwBox.f
  have w1 : wrap64 (left - (x.size : Int)) = left - (x.size : Int) := wz (by omega) (by omega)
  have w2 : wrap64 (left - (x.size : Int) - (y.size : Int)) = left - (x.size : Int) - (y.size : Int) := wz (by omega) (by omega)
  rw [w1, w2]
  by_cases ha : left - (x.size : Int) < 0
  · exact ⟨-1, if_pos ha, by omega, by omega⟩
  · by_cases hb : left - (x.size : Int) - (y.size : Int) < 0
    · exact ⟨-1, by rw [if_neg ha, if_pos hb], by omega, by omega⟩
    · exact ⟨_, by rw [if_neg ha, if_neg hb], by omega, by omega⟩
theorem szB_l0 (l : List Kx) (hs : ∀ z ∈ l, z.f0.size ≤ 140737488351232 ∧ z.f1.size ≤ 140737488351232) (hl : l.length ≤ 8796093022208) : ∀ (d i : Nat) (left : Int), l.length - i ≤ d → i ≤ l.length → 0 ≤ left → left ≤ 1048576 →
    ∃ r, Ev (fun k => laws_szKnwBoxS.l0 k l left (i : Int)) r ∧ r ≤ left := by
  intro d
  induction d with
  | zero =>
    intro i left h0 h1 g0 g1
    exact ⟨left, Ev.step (f := fun _ => some left) (fun k => by rw [laws_szKnwBoxS.l0, if_neg (by omega)]) (Ev.now _), Int.le_refl _⟩
  | succ d ih =>
    intro i left h0 h1 g0 g1
    by_cases h : i < l.length
    · obtain ⟨z1, z2⟩ := hs l[i] (List.getElem_mem h)
      obtain ⟨r, e, r1, r2⟩ := szKnwBox_ev l[i].f0 l[i].f1 z1 z2 left g0 g1
      by_cases hn : r < 0
      · exact ⟨-1, Ev.step (f := fun _ => some (-1)) (fun k => by rw [laws_szKnwBoxS.l0, if_pos (by omega), if_pos (by omega), rdKx_at h, e, Option.bind_some, if_pos hn]) (Ev.now _), by omega⟩
      · obtain ⟨r', e', r3⟩ := ih (i + 1) r (by omega) (by omega) (by omega) (by omega)
        exact ⟨r', Ev.step (f := fun k => laws_szKnwBoxS.l0 k l r ((i + 1 : Nat) : Int)) (fun k => by rw [laws_szKnwBoxS.l0, if_pos (by omega), if_pos (by omega), rdKx_at h, e, Option.bind_some, if_neg hn, wz (x := (i : Int) + 1) (by omega) (by omega)]; rfl) e', by omega⟩
    · exact ⟨left, Ev.step (f := fun _ => some left) (fun k => by rw [laws_szKnwBoxS.l0, if_neg (by omega)]) (Ev.now _), Int.le_refl _⟩
theorem szB_ev (l : List Kx) (g : l.length * 32 ≤ 140737488351232 ∧ l.length ≤ maxLen ∧ ∀ z_ ∈ l, (z_.f0.size ≤ 140737488351232 ∧ z_.f1.size ≤ 140737488351232)) (left : Int) (h0 : 0 ≤ left) (h1 : left ≤ 1048576) :
    ∃ r, Ev (fun k => laws_szKnwBoxS.f k l left) r ∧ r ≤ left ∧ (0 ≤ r → (l.length : Int) ≤ left) := by
  obtain ⟨g1, _, g2⟩ := g
  have w1 : wrap64 (left - (l.length : Int)) = left - (l.length : Int) := wz (by omega) (by omega)
  by_cases hn : left - (l.length : Int) < 0
  · refine ⟨-1, evC fun k => ?_, by omega, fun h => absurd h (by decide)⟩
    unfold laws_szKnwBoxS.f
    rw [w1, if_pos hn]
  · obtain ⟨r, e, h2⟩ := szB_l0 l g2 (by omega) l.length 0 (left - (l.length : Int)) (by omega) (by omega) (by omega) (by omega)
    refine ⟨r, Ev.congr (fun k => ?_) e, by omega, fun hr => by omega⟩
    unfold laws_szKnwBoxS.f
    rw [w1, if_neg hn]
    rfl
def conv (l : List Kx) : List Bx := l.map fun x => ⟨x.f0, x.f1⟩
theorem conv_len (l : List Kx) : (conv l).length = l.length := by unfold conv; rw [List.length_map]
theorem toB_l0 (l : List Kx) (hl : l.length ≤ 1048576) : ∀ (d i : Nat) (acc : List Bx), l.length - i ≤ d → i ≤ l.length → acc.length = l.length → (∀ j, j < i → acc[j]? = (conv l)[j]?) → Ev (fun k => laws_toKnwBoxS.l0 k l acc (i : Int)) (conv l) := by
  have fin : ∀ (i : Nat) (acc : List Bx), l.length ≤ i → acc.length = l.length → (∀ j, j < i → acc[j]? = (conv l)[j]?) → Ev (fun k => laws_toKnwBoxS.l0 k l acc (i : Int)) (conv l) := by
    intro i acc h1 ha hj
    have : acc = conv l := List.ext_getElem? fun j => by
      by_cases h : j < i
      · exact hj j h
      · rw [List.getElem?_eq_none (by omega), List.getElem?_eq_none (by rw [conv_len]; omega)]
    subst this
    exact Ev.step (f := fun _ => some (conv l)) (fun k => by rw [laws_toKnwBoxS.l0, if_neg (by omega)]) (Ev.now _)
  intro d
  induction d with
  | zero => intro i acc h0 h1 ha hj; exact fin i acc (by omega) ha hj
  | succ d ih =>
    intro i acc h0 h1 ha hj
    by_cases h : i < l.length
    · have w1 : wrap64 ((i : Int) + 1) = ((i + 1 : Nat) : Int) := wz (x := (i : Int) + 1) (by omega) (by omega)
      refine Ev.step (f := fun k => laws_toKnwBoxS.l0 k l (acc.set i ⟨l[i].f0, l[i].f1⟩) ((i + 1 : Nat) : Int)) (fun k => by rw [laws_toKnwBoxS.l0, if_pos (by omega), if_pos (by omega), rdKx_at h, laws_toKnwBox.f, Option.bind_some, if_pos (by omega), w1, Int.toNat_natCast]) (ih (i + 1) (acc.set i ⟨l[i].f0, l[i].f1⟩) (by omega) (by omega) (by rw [List.length_set]; exact ha) fun j hlt => ?_)
      rw [List.getElem?_set]
      by_cases hji : i = j
      · subst hji
        rw [if_pos rfl, if_pos (by omega)]
        unfold conv
        rw [List.getElem?_map, List.getElem?_eq_getElem h]
        rfl
      · rw [if_neg hji]
        exact hj j (by omega)
    · exact fin i acc (by omega) ha hj
theorem toB_ev (l : List Kx) (hl : l.length ≤ 1048576) : Ev (fun k => laws_toKnwBoxS.f k l) (conv l) := by
  refine Ev.congr (fun k => ?_) (toB_l0 l hl l.length 0 (List.replicate l.length z52) (by omega) (by omega) (by simp) (fun j h => by omega))
  unfold laws_toKnwBoxS.f
  rw [if_pos (by omega), if_pos (by omega), Int.toNat_natCast]
  rfl
theorem eqB_l0 (l : List Bx) (hl : l.length ≤ 1000000000) : ∀ (d i : Nat), l.length - i ≤ d → i ≤ l.length → Ev (fun k => laws_eqKnwBoxS.l0 k l l (i : Int)) true := by
  intro d
  induction d with
  | zero => intro i h0 h1; exact Ev.step (f := fun _ => some true) (fun k => by rw [laws_eqKnwBoxS.l0, if_neg (by omega)]) (Ev.now _)
  | succ d ih =>
    intro i h0 h1
    by_cases h : i < l.length
    · exact Ev.step (f := fun k => laws_eqKnwBoxS.l0 k l l ((i + 1 : Nat) : Int)) (fun k => by rw [laws_eqKnwBoxS.l0, if_pos (by omega), if_pos (by omega), if_pos (by omega), laws_eqKnwBox.f, if_pos rfl, if_pos rfl, Option.bind_some, if_pos rfl, wz (x := (i : Int) + 1) (by omega) (by omega)]; rfl) (ih (i + 1) (by omega) (by omega))
    · exact Ev.step (f := fun _ => some true) (fun k => by rw [laws_eqKnwBoxS.l0, if_neg (by omega)]) (Ev.now _)
theorem eqB_ev (l : List Bx) (hl : l.length ≤ 1000000000) : Ev (fun k => laws_eqKnwBoxS.f k l l) true :=
  Ev.congr (fun k => by unfold laws_eqKnwBoxS.f; rw [if_pos rfl]; rfl) (eqB_l0 l hl l.length 0 (by omega) (by omega))
end
end Go.Proofs.YtnemchmiplbopaaGreatDoor.Pure
namespace Go.Proofs.YtnemchmiplbopaaGreatDoor.Pure
section
open Go.RowKit Go.Proofs.YtnemchmiplbopaaGreatDoor Go.Proofs.YtnemchmiplbopaaGreatDoor.Zj Go.Proofs.YtnemchmiplbopaaGreatDoorW.PrintWords Go.Proofs.YtnemchmiplbopaaGreatDoorW.PrintLast

theorem size_one (x : Int) : (strOfNums [x]).size = 1 := by simp [strOfNums, ByteArray.size]
theorem markText_l0 : ∀ (d : Nat) (m : Int) (x : ByteArray), 0 ≤ m → m ≤ d → (x.size : Int) + m ≤ 100000000000 → ∃ t, Ev (fun k => laws_markText.l0 k m x) t ∧ (t.size : Int) ≤ x.size + m + 1 := by
  intro d
  induction d with
  | zero =>
    intro m x h0 h1 h2
    obtain rfl : m = 0 := by omega
    refine ⟨(⟨#[109]⟩ : ByteArray) ++ x, Ev.step (f := fun _ => some ((⟨#[109]⟩ : ByteArray) ++ x)) (fun k => by rw [laws_markText.l0, if_neg (by omega), if_pos (by omega)]) (Ev.now _), ?_⟩
    rw [ByteArray.size_append]
    have : (⟨#[109]⟩ : ByteArray).size = 1 := rfl
    omega
  | succ d ih =>
    intro m x h0 h1 h2
    by_cases h : m > 0
    · have e1 : m.tdiv 10 = m / 10 := Int.tdiv_eq_ediv_of_nonneg h0
      obtain ⟨t, e, ht⟩ := ih (m.tdiv 10) (strOfNums [(wrap64 (48 + (Int.tmod m 10))) % 256] ++ x) (by omega) (by omega) (by rw [ByteArray.size_append, size_one]; omega)
      refine ⟨t, Ev.step (fun k => ?_) e, by rw [ByteArray.size_append, size_one] at ht; omega⟩
      rw [laws_markText.l0, if_pos h, Option.bind_some, if_pos (by rw [size_one]; omega), wz (x := m.tdiv 10) (by omega) (by omega)]
    · obtain rfl : m = 0 := by omega
      refine ⟨(⟨#[109]⟩ : ByteArray) ++ x, Ev.step (f := fun _ => some ((⟨#[109]⟩ : ByteArray) ++ x)) (fun k => by rw [laws_markText.l0, if_neg (by omega), if_pos (by omega)]) (Ev.now _), ?_⟩
      rw [ByteArray.size_append]
      have : (⟨#[109]⟩ : ByteArray).size = 1 := rfl
      omega
theorem markText_ev (m : Int) (h0 : 1 ≤ m) (h1 : m ≤ 10000000) : ∃ t, Ev (fun k => laws_markText.f k m) t := by
  obtain ⟨t, e, _⟩ := markText_l0 m.toNat m ⟨#[]⟩ (by omega) (by omega) (by show ((0 : Nat) : Int) + m ≤ _; omega)
  refine ⟨t, Ev.congr (fun k => ?_) e⟩
  unfold laws_markText.f
  rw [if_neg (by omega)]
/-- Each text is the mark of its own number. -/
def Marked (l : List ByteArray) (m : Int) (n : Nat) : Prop := ∀ j : Nat, j < n → ∃ t, l[j]? = some t ∧ Ev (fun k => laws_markText.f k (m + (j : Int))) t
theorem markS_l0 (n : Nat) (m : Int) (hm : 1 ≤ m) (hm2 : m ≤ 5000000) (hn : n ≤ 1100000) : ∀ (d i : Nat) (l : List ByteArray), n - i ≤ d → i ≤ n → l.length = n → Marked l m i →
    ∃ l', Ev (fun k => laws_markStringS.l0 k l (m + (i : Int)) (i : Int)) (m + (n : Int), l') ∧ l'.length = n ∧ Marked l' m n := by
  intro d
  induction d with
  | zero =>
    intro i l h0 h1 hl hj
    obtain rfl : i = n := by omega
    exact ⟨l, Ev.step (f := fun _ => some (m + (i : Int), l)) (fun k => by rw [laws_markStringS.l0, if_neg (by omega)]) (Ev.now _), hl, hj⟩
  | succ d ih =>
    intro i l h0 h1 hl hj
    by_cases h : i < n
    · obtain ⟨t, et⟩ := markText_ev (m + (i : Int)) (by omega) (by omega)
      obtain ⟨l', e, h2, h3⟩ := ih (i + 1) (l.set i t) (by omega) (by omega) (by rw [List.length_set]; exact hl) (fun j hlt => by
        rw [List.getElem?_set]
        by_cases hji : i = j
        · subst hji
          rw [if_pos rfl, if_pos (by omega)]
          exact ⟨t, rfl, et⟩
        · rw [if_neg hji]
          exact hj j (by omega))
      refine ⟨l', Ev.step (fun k => by rw [laws_markStringS.l0, if_pos (by omega)]) (Ev.bind et (Ev.congr (fun k => ?_) e)), h2, h3⟩
      rw [if_pos (by omega), Int.toNat_natCast, wz (x := m + (i : Int) + 1) (by omega) (by omega), wz (x := (i : Int) + 1) (by omega) (by omega), show m + (i : Int) + 1 = m + ((i + 1 : Nat) : Int) by omega]
      rfl
    · obtain rfl : i = n := by omega
      exact ⟨l, Ev.step (f := fun _ => some (m + (i : Int), l)) (fun k => by rw [laws_markStringS.l0, if_neg (by omega)]) (Ev.now _), hl, hj⟩
theorem markS_ev (l : List ByteArray) (m : Int) (hm : 1 ≤ m) (hm2 : m ≤ 5000000) (hn : l.length ≤ 1100000) : ∃ l', Ev (fun k => laws_markStringS.f k l m) (m + (l.length : Int), l') ∧ l'.length = l.length ∧ Marked l' m l.length := by
  obtain ⟨l', e, h2, h3⟩ := markS_l0 l.length m hm hm2 hn l.length 0 l (by omega) (by omega) rfl (fun j h => by omega)
  refine ⟨l', Ev.congr (fun k => ?_) e, h2, h3⟩
  unfold laws_markStringS.f
  rw [show m + ((0 : Nat) : Int) = m by omega]
  rfl
end
end Go.Proofs.YtnemchmiplbopaaGreatDoor.Pure
namespace Go.Proofs.YtnemchmiplbopaaGreatDoor.Pure
section
open Go.RowKit Go.Proofs.YtnemchmiplbopaaGreatDoor Go.Proofs.YtnemchmiplbopaaGreatDoor.Zj Go.Proofs.YtnemchmiplbopaaGreatDoorW.PrintWords Go.Proofs.YtnemchmiplbopaaGreatDoorW.PrintLast
open Go.Proofs.YtnemchmiplbopaaGreatDoor.Th (T B Nm nm dec hd prsNum whole)

theorem eqW_l0 (l : List Ow) (hl : l.length ≤ 1000000000) : ∀ (d i : Nat), l.length - i ≤ d → i ≤ l.length → Ev (fun k => laws_eqMemOwnS.l0 k l l (i : Int)) true := by
  intro d
  induction d with
  | zero => intro i h0 h1; exact Ev.step (f := fun _ => some true) (fun k => by rw [laws_eqMemOwnS.l0, if_neg (by omega)]) (Ev.now _)
  | succ d ih =>
    intro i h0 h1
    by_cases h : i < l.length
    · exact Ev.step (f := fun k => laws_eqMemOwnS.l0 k l l ((i + 1 : Nat) : Int)) (fun k => by rw [laws_eqMemOwnS.l0, if_pos (by omega), if_pos (by omega), if_pos (by omega), laws_eqMemOwn.f, if_pos rfl, if_pos rfl, Option.bind_some, if_pos rfl, wz (x := (i : Int) + 1) (by omega) (by omega)]; rfl) (ih (i + 1) (by omega) (by omega))
    · exact Ev.step (f := fun _ => some true) (fun k => by rw [laws_eqMemOwnS.l0, if_neg (by omega)]) (Ev.now _)
theorem eqW_ev (l : List Ow) (hl : l.length ≤ 1000000000) : Ev (fun k => laws_eqMemOwnS.f k l l) true :=
  Ev.congr (fun k => by unfold laws_eqMemOwnS.f; rw [if_pos rfl]; rfl) (eqW_l0 l hl l.length 0 (by omega) (by omega))
theorem eqMem_ev (b : Bool) (x : Int) (t : List ByteArray) (l : List Ow) (e : Int) (i g : ByteArray) (n1 : t.length ≤ 1048576) (n2 : l.length ≤ 1048576) : Ev (fun k => laws_eqMemMember.f k b x t l e i g b x t l e i g) true := by
  unfold laws_eqMemMember.f laws_eqTreTree.f
  refine Ev.congr (fun k => by rw [bne_self_eq_false, if_neg Bool.false_ne_true, if_pos rfl]) ?_
  refine Ev.bind (Ev.bind (eqS_ev t (by omega)) (Ev.of_eq fun k => if_pos rfl)) ?_
  refine Ev.congr (fun k => if_pos rfl) ?_
  refine Ev.bind (eqW_ev l (by omega)) (Ev.of_eq fun k => ?_)
  rw [if_pos rfl, if_pos rfl, if_pos rfl, if_pos rfl]
end
end Go.Proofs.YtnemchmiplbopaaGreatDoor.Pure
namespace Go.Proofs.YtnemchmiplbopaaGreatDoor.Pure
section
open Go.RowKit Go.Proofs.YtnemchmiplbopaaGreatDoor Go.Proofs.YtnemchmiplbopaaGreatDoor.Zj Go.Proofs.YtnemchmiplbopaaGreatDoorW.PrintWords Go.Proofs.YtnemchmiplbopaaGreatDoorW.PrintLast
open Go.Proofs.YtnemchmiplbopaaGreatDoor.Th (T B Nm nm dec hd prsNum whole)

theorem l4Key_ev (s : ByteArray) : Ev (fun k => spec_l4Key.f k s) (keyB s) := by
  unfold spec_l4Key.f keyB
  refine Ev.bind (secOk_ev s) ?_
  cases hn : nm s with
  | none => exact Ev.of_eq fun k => if_neg (by decide)
  | some a => exact Ev.congr (fun k => if_pos rfl) (Ev.bind (how_nm hn) (Ev.now _))
theorem isKey_is (s : ByteArray) : Go.Proofs.YtnemchmiplbopaaGreatDoor.Zj.impl_isKey.f s = some (keyB s) := by
  unfold Go.Proofs.YtnemchmiplbopaaGreatDoor.Zj.impl_isKey.f keyB
  rw [implMade, Option.bind_some]
  cases nm s <;> rfl
/-- One who is nobody, or one other than who sends. -/
theorem someone_yes {a x : Int} (h : -1 ≤ a ∧ a ≤ 7) (hx : a ≠ x) : impl_someone.f a x = some true := by
  unfold impl_someone.f
  by_cases h1 : a = -1
  · rw [if_pos h1]
  · rw [if_neg h1, isOne_is, decide_eq_true (by omega), Option.bind_some, if_pos rfl, bne_iff_ne.2 hx]
theorem someone_no {a x : Int} (hx : 0 ≤ x) (h : ¬ ((-1 ≤ a ∧ a ≤ 7) ∧ a ≠ x)) : impl_someone.f a x = some false := by
  unfold impl_someone.f
  rw [if_neg (by omega), isOne_is]
  by_cases h1 : 0 ≤ a ∧ a ≤ 7
  · rw [decide_eq_true h1, Option.bind_some, if_pos rfl, bne_eq_false_iff_eq.2 (by omega)]
  · rw [decide_eq_false h1, Option.bind_some, if_neg Bool.false_ne_true]
section
variable (x : Int) (tag name : ByteArray) (add rem : Int) (leaf : ByteArray) (keys : List ByteArray) (boxes : List Bx) (k0 k1 k2 k3 k4 : ByteArray)
/-- What a commit must be, behind who sends it, and its names. -/
def tailB : Bool := if add < 0 then (if leaf.toList = ([] : List UInt8) then (k0.toList == ([] : List UInt8) && ((k1.toList == ([] : List UInt8) && (k2.toList == ([] : List UInt8))) && ((k3.toList == ([] : List UInt8) && (k4.toList == ([] : List UInt8)))))) else false)
  else (if keyB leaf = true then (if keyB k0 = true then (if leaf.toList = k0.toList then false else (if k1.toList = k0.toList then (if k3.toList = k0.toList then (if okB k2 = true then okB k4 else false) else false) else false)) else false) else false)
theorem spec_j1 : Ev (fun k => spec_CmtOk.j1 k false x tag name add rem leaf keys boxes k0 k1 k2 k3 k4) (tailB add leaf k0 k1 k2 k3 k4) := by
  unfold tailB
  by_cases ha : add < 0
  · rw [if_pos ha]
    by_cases hl : leaf.toList = ([] : List UInt8)
    · rw [if_pos hl]
      exact Ev.step (f := fun _ => some _) (fun k => by rw [spec_CmtOk.j1, if_neg Bool.false_ne_true, if_pos ha, if_pos hl]) (Ev.now _)
    · rw [if_neg hl]
      exact Ev.step (f := fun _ => some false) (fun k => by rw [spec_CmtOk.j1, if_neg Bool.false_ne_true, if_pos ha, if_neg hl]) (Ev.now _)
  · rw [if_neg ha]
    refine Ev.step (fun k => by rw [spec_CmtOk.j1, if_neg Bool.false_ne_true, if_neg ha]) (Ev.bind (l4Key_ev leaf) ?_)
    cases h1 : keyB leaf with
    | false => rw [if_neg Bool.false_ne_true]; exact Ev.of_eq fun k => if_neg Bool.false_ne_true
    | true =>
      rw [if_pos rfl]
      refine Ev.congr (fun k => if_pos rfl) (Ev.bind (l4Key_ev k0) ?_)
      cases h2 : keyB k0 with
      | false => rw [if_neg Bool.false_ne_true]; exact Ev.of_eq fun k => if_neg Bool.false_ne_true
      | true =>
        rw [if_pos rfl]
        refine Ev.congr (fun k => if_pos rfl) ?_
        by_cases h3 : leaf.toList = k0.toList
        · rw [if_pos h3]; exact Ev.of_eq fun k => if_pos h3
        · rw [if_neg h3]
          refine Ev.congr (fun k => if_neg h3) ?_
          by_cases h4 : k1.toList = k0.toList
          · rw [if_pos h4]
            refine Ev.congr (fun k => if_pos h4) ?_
            by_cases h5 : k3.toList = k0.toList
            · rw [if_pos h5]
              refine Ev.congr (fun k => if_pos h5) (Ev.bind (secOk_ev k2) ?_)
              show Ev _ (if okB k2 = true then okB k4 else false)
              unfold okB
              cases h6 : (nm k2).isSome with
              | false => rw [if_neg Bool.false_ne_true]; exact Ev.of_eq fun k => if_neg Bool.false_ne_true
              | true => rw [if_pos rfl]; exact Ev.congr (fun k => if_pos rfl) (Ev.bind (secOk_ev k4) (Ev.now _))
            · rw [if_neg h5]; exact Ev.of_eq fun k => if_neg h5
          · rw [if_neg h4]; exact Ev.of_eq fun k => if_neg h4
theorem impl_tail : Ev (fun k => (impl_twoKeys.f add leaf k0).bind fun t233 => (impl_CmtOk.j0 k (!t233) x tag name add rem leaf keys boxes k0 k1 k2 k3 k4 k0 k1 k2 k3 k4)) (tailB add leaf k0 k1 k2 k3 k4) := by
  have no : Ev (fun k => impl_CmtOk.j0 k true x tag name add rem leaf keys boxes k0 k1 k2 k3 k4 k0 k1 k2 k3 k4) false := Ev.step (f := fun _ => some false) (fun k => by rw [impl_CmtOk.j0, if_pos rfl]) (Ev.now _)
  unfold tailB
  by_cases ha : add < 0
  · rw [if_pos ha]
    by_cases hl : leaf.toList = ([] : List UInt8)
    · rw [if_pos hl]
      by_cases hk : k0.toList = ([] : List UInt8)
      · refine Ev.congr (f := fun k => impl_CmtOk.j0 k false x tag name add rem leaf keys boxes k0 k1 k2 k3 k4 k0 k1 k2 k3 k4) (fun k => by rw [impl_twoKeys.f, if_pos ha, if_pos hl, Option.bind_some, beq_iff_eq.2 hk]; rfl) ?_
        exact Ev.step (f := fun _ => some _) (fun k => by rw [impl_CmtOk.j0, if_neg Bool.false_ne_true, if_pos ha]) (Ev.now _)
      · rw [beq_eq_false_iff_ne.2 hk, Bool.false_and]
        exact Ev.congr (fun k => by rw [impl_twoKeys.f, if_pos ha, if_pos hl, Option.bind_some, beq_eq_false_iff_ne.2 hk]; rfl) no
    · rw [if_neg hl]
      exact Ev.congr (fun k => by rw [impl_twoKeys.f, if_pos ha, if_neg hl, Option.bind_some]; rfl) no
  · rw [if_neg ha]
    cases h1 : keyB leaf with
    | false => rw [if_neg Bool.false_ne_true]; exact Ev.congr (fun k => by rw [impl_twoKeys.f, if_neg ha, isKey_is, h1, Option.bind_some, if_neg Bool.false_ne_true, Option.bind_some]; rfl) no
    | true =>
      rw [if_pos rfl]
      cases h2 : keyB k0 with
      | false => rw [if_neg Bool.false_ne_true]; exact Ev.congr (fun k => by rw [impl_twoKeys.f, if_neg ha, isKey_is, h1, Option.bind_some, if_pos rfl, isKey_is, h2, Option.bind_some, if_neg Bool.false_ne_true, Option.bind_some]; rfl) no
      | true =>
        rw [if_pos rfl]
        by_cases h3 : leaf.toList = k0.toList
        · rw [if_pos h3]
          exact Ev.congr (fun k => by rw [impl_twoKeys.f, if_neg ha, isKey_is, h1, Option.bind_some, if_pos rfl, isKey_is, h2, Option.bind_some, if_pos rfl, Option.bind_some, bne_eq_false_iff_eq.2 h3]; rfl) no
        · rw [if_neg h3]
          refine Ev.congr (f := fun k => impl_CmtOk.j0 k false x tag name add rem leaf keys boxes k0 k1 k2 k3 k4 k0 k1 k2 k3 k4) (fun k => by rw [impl_twoKeys.f, if_neg ha, isKey_is, h1, Option.bind_some, if_pos rfl, isKey_is, h2, Option.bind_some, if_pos rfl, Option.bind_some, bne_iff_ne.2 h3]; rfl) ?_
          refine Ev.step (f := fun _ => some _) (fun k => ?_) (Ev.now _)
          rw [impl_CmtOk.j0, if_neg Bool.false_ne_true, if_neg ha]
          by_cases h4 : k1.toList = k0.toList
          · rw [if_pos h4, if_pos h4]
            by_cases h5 : k3.toList = k0.toList
            · rw [if_pos h5, if_pos h5, impl_SecOk.f, Option.bind_some, impl_SecOk.f, Option.bind_some]
              show (if okB k2 = true then some (okB k4) else some false) = some (if okB k2 = true then okB k4 else false)
              cases okB k2 <;> rfl
            · rw [if_neg h5, if_neg h5]
          · rw [if_neg h4, if_neg h4]
theorem tail_tells (h : tailB add leaf k0 k1 k2 k3 k4 = true) : 0 ≤ add → keyB leaf = true ∧ keyB k0 = true ∧ okB k4 = true := by
  intro ha
  unfold tailB at h
  rw [if_neg (by omega)] at h
  cases h1 : keyB leaf with
  | false => rw [h1, if_neg Bool.false_ne_true] at h; cases h
  | true =>
    rw [h1, if_pos rfl] at h
    cases h2 : keyB k0 with
    | false => rw [h2, if_neg Bool.false_ne_true] at h; cases h
    | true =>
      rw [h2, if_pos rfl] at h
      by_cases h3 : leaf.toList = k0.toList
      · rw [if_pos h3] at h; cases h
      · rw [if_neg h3] at h
        by_cases h4 : k1.toList = k0.toList
        · rw [if_pos h4] at h
          by_cases h5 : k3.toList = k0.toList
          · rw [if_pos h5] at h
            cases h6 : okB k2 with
            | false => rw [h6, if_neg Bool.false_ne_true] at h; cases h
            | true => rw [h6, if_pos rfl] at h; exact ⟨rfl, rfl, h⟩
          · rw [if_neg h5] at h; cases h
        · rw [if_neg h4] at h; cases h
theorem cmt_both : ∃ b, Ev (fun k => spec_CmtOk.f k x tag name add rem leaf keys boxes k0 k1 k2 k3 k4) b ∧ Ev (fun k => impl_CmtOk.f k x tag name add rem leaf keys boxes k0 k1 k2 k3 k4) b ∧ (b = true → ((0 ≤ x ∧ x ≤ 7) ∧ (-1 ≤ add ∧ add ≤ 7) ∧ (0 ≤ add → keyB leaf = true ∧ keyB k0 = true ∧ okB k4 = true))) := by
  have noS : Ev (fun k => spec_CmtOk.j0 k true x tag name add rem leaf keys boxes k0 k1 k2 k3 k4) false := Ev.step (f := fun _ => some false) (fun k => by rw [spec_CmtOk.j0, if_pos rfl]) (Ev.now _)
  have noT : Ev (fun k => spec_CmtOk.j1 k true x tag name add rem leaf keys boxes k0 k1 k2 k3 k4) false := Ev.step (f := fun _ => some false) (fun k => by rw [spec_CmtOk.j1, if_pos rfl]) (Ev.now _)
  have noI : Ev (fun k => impl_CmtOk.j0 k true x tag name add rem leaf keys boxes k0 k1 k2 k3 k4 k0 k1 k2 k3 k4) false := Ev.step (f := fun _ => some false) (fun k => by rw [impl_CmtOk.j0, if_pos rfl]) (Ev.now _)
  have eo := secOk_ev name
  unfold spec_CmtOk.f impl_CmtOk.f
  by_cases hx : 0 ≤ x ∧ x ≤ 7
  · cases hn : nm name with
    | none =>
      rw [hn] at eo
      refine ⟨false, Ev.congr (fun k => by rw [in_spec, decide_eq_true hx, Option.bind_some, if_pos rfl]) (Ev.bind eo (Ev.congr (fun k => if_neg Bool.false_ne_true) noS)), Ev.congr (fun k => ?_) noI, fun h => nomatch h⟩
      rw [isOne_is, decide_eq_true hx, Option.bind_some, if_pos rfl, implMade, hn, Option.bind_some]
      exact if_neg (c := (0 : Int) = 1) (by decide)
    | some a =>
      rw [hn] at eo
      have eh := how_nm hn
      by_cases h1 : a.op = 1
      · have s0 : ∀ {b : Bool} {g : Nat → Option Bool}, Ev (fun k => if (wrap64 ((tag.size : Int) + (name.size : Int))) > 300 then (spec_CmtOk.j0 k true x tag name add rem leaf keys boxes k0 k1 k2 k3 k4) else g k) b → Ev (fun k => if (tells a).1 = 1 then (if (wrap64 ((tag.size : Int) + (name.size : Int))) > 300 then (spec_CmtOk.j0 k true x tag name add rem leaf keys boxes k0 k1 k2 k3 k4) else g k) else (spec_CmtOk.j0 k true x tag name add rem leaf keys boxes k0 k1 k2 k3 k4)) b := fun h => Ev.congr (fun k => if_pos (show (tells a).1 = 1 from h1)) h
        by_cases hz : (wrap64 ((tag.size : Int) + (name.size : Int))) > 300
        · refine ⟨false, Ev.congr (fun k => by rw [in_spec, decide_eq_true hx, Option.bind_some, if_pos rfl]) (Ev.bind eo (Ev.congr (fun k => if_pos rfl) (Ev.bind eh (Ev.congr (fun k => by rw [if_pos (show (tells a).1 = 1 from h1), if_pos hz]) noS)))), Ev.congr (fun k => ?_) noI, fun h => nomatch h⟩
          rw [isOne_is, decide_eq_true hx, Option.bind_some, if_pos rfl, implMade, hn, Option.bind_some]
          exact (if_pos (show (tells a).1 = 1 from h1)).trans (if_pos hz)
        · by_cases hA : (-1 ≤ add ∧ add ≤ 7) ∧ add ≠ x
          · by_cases hR : (-1 ≤ rem ∧ rem ≤ 7) ∧ rem ≠ x
            · have et := specTreOk_ev keys
              have eb := l2Boxes_ev boxes
              have goS : ∀ {b : Bool}, Ev (fun k => spec_CmtOk.j0 k false x tag name add rem leaf keys boxes k0 k1 k2 k3 k4) b → Ev (fun k => spec_CmtOk.f k x tag name add rem leaf keys boxes k0 k1 k2 k3 k4) b := fun h => by
                unfold spec_CmtOk.f
                refine Ev.congr (fun k => by rw [in_spec, decide_eq_true hx, Option.bind_some, if_pos rfl]) (Ev.bind eo (Ev.congr (fun k => if_pos rfl) (Ev.bind eh (Ev.congr (fun k => ?_) h))))
                rw [if_pos (show (tells a).1 = 1 from h1), if_neg hz, in_spec, decide_eq_true hA.1, Option.bind_some, if_pos rfl, in_spec, decide_eq_true hR.1, Option.bind_some, if_pos rfl, if_neg hA.2, beq_eq_false_iff_ne.2 hR.2]
              have goI : ∀ {b : Bool} {g : Nat → Option Bool}, (∀ k, impl_CmtOk.f k x tag name add rem leaf keys boxes k0 k1 k2 k3 k4 = (if treB keys = true then (if (boxes.length : Int) > 20 then (impl_CmtOk.j0 k true x tag name add rem leaf keys boxes k0 k1 k2 k3 k4 k0 k1 k2 k3 k4) else (if namedB [] boxes = true then ((impl_twoKeys.f add leaf k0).bind fun t233 => (impl_CmtOk.j0 k (!t233) x tag name add rem leaf keys boxes k0 k1 k2 k3 k4 k0 k1 k2 k3 k4)) else (impl_CmtOk.j0 k true x tag name add rem leaf keys boxes k0 k1 k2 k3 k4 k0 k1 k2 k3 k4))) else (impl_CmtOk.j0 k true x tag name add rem leaf keys boxes k0 k1 k2 k3 k4 k0 k1 k2 k3 k4))) := fun {b} {g} k => by
                unfold impl_CmtOk.f
                rw [isOne_is, decide_eq_true hx, Option.bind_some, if_pos rfl, implMade, hn, Option.bind_some]
                refine (if_pos (show (tells a).1 = 1 from h1)).trans ((if_neg hz).trans ?_)
                rw [someone_yes hA.1 hA.2, Option.bind_some, if_pos rfl, someone_yes hR.1 hR.2, Option.bind_some, if_pos rfl, impl_TreOk.f, Option.bind_some, impl_named.f, Option.bind_some]
              have gi := goI (b := true) (g := fun _ => none)
              unfold spec_CmtOk.f at goS
              unfold impl_CmtOk.f at gi
              cases hT : treB keys with
              | false =>
                rw [hT] at et gi
                exact ⟨false, goS (Ev.step (fun k => by rw [spec_CmtOk.j0, if_neg Bool.false_ne_true]) (Ev.bind et (Ev.congr (fun k => if_neg Bool.false_ne_true) noT))), Ev.congr (fun k => by rw [gi k, if_neg Bool.false_ne_true]) noI, fun h => nomatch h⟩
              | true =>
                rw [hT] at et gi
                by_cases h20 : (boxes.length : Int) > 20
                · refine ⟨false, goS (Ev.step (fun k => by rw [spec_CmtOk.j0, if_neg Bool.false_ne_true]) (Ev.bind et (Ev.congr (fun k => if_pos rfl) (Ev.bind eb ?_)))), Ev.congr (fun k => by rw [gi k, if_pos rfl, if_pos h20]) noI, fun h => nomatch h⟩
                  cases (decide (boxes.length ≤ 400) && boxes.all okBx) with
                  | false => exact Ev.congr (fun k => if_neg Bool.false_ne_true) noT
                  | true => exact Ev.congr (fun k => by rw [if_pos rfl, decide_eq_true h20]) noT
                · have e400 : decide (boxes.length ≤ 400) = true := decide_eq_true (by omega)
                  have hnm : namedB [] boxes = boxes.all okBx := by
                    unfold namedB
                    rw [e400]
                    rfl
                  rw [e400, Bool.true_and] at eb
                  rw [hnm] at gi
                  cases hB : boxes.all okBx with
                  | false =>
                    rw [hB] at eb gi
                    exact ⟨false, goS (Ev.step (fun k => by rw [spec_CmtOk.j0, if_neg Bool.false_ne_true]) (Ev.bind et (Ev.congr (fun k => if_pos rfl) (Ev.bind eb (Ev.congr (fun k => if_neg Bool.false_ne_true) noT))))), Ev.congr (fun k => by rw [gi k, if_pos rfl, if_neg h20, if_neg Bool.false_ne_true]) noI, fun h => nomatch h⟩
                  | true =>
                    rw [hB] at eb gi
                    exact ⟨_, goS (Ev.step (fun k => by rw [spec_CmtOk.j0, if_neg Bool.false_ne_true]) (Ev.bind et (Ev.congr (fun k => if_pos rfl) (Ev.bind eb (Ev.congr (fun k => by rw [if_pos rfl, decide_eq_false h20]) (spec_j1 x tag name add rem leaf keys boxes k0 k1 k2 k3 k4)))))), Ev.congr (fun k => by rw [gi k, if_pos rfl, if_neg h20, if_pos rfl]) (impl_tail x tag name add rem leaf keys boxes k0 k1 k2 k3 k4), fun h => ⟨hx, hA.1, tail_tells add leaf k0 k1 k2 k3 k4 h⟩⟩
            · refine ⟨false, Ev.congr (fun k => by rw [in_spec, decide_eq_true hx, Option.bind_some, if_pos rfl]) (Ev.bind eo (Ev.congr (fun k => if_pos rfl) (Ev.bind eh (Ev.congr (fun k => ?_) noS)))), Ev.congr (fun k => ?_) noI, fun h => nomatch h⟩
              · rw [if_pos (show (tells a).1 = 1 from h1), if_neg hz, in_spec, decide_eq_true hA.1, Option.bind_some, if_pos rfl, in_spec]
                by_cases hi : -1 ≤ rem ∧ rem ≤ 7
                · rw [decide_eq_true hi, Option.bind_some, if_pos rfl, if_neg hA.2, beq_iff_eq.2 (by omega)]
                · rw [decide_eq_false hi, Option.bind_some, if_neg Bool.false_ne_true]
              · rw [isOne_is, decide_eq_true hx, Option.bind_some, if_pos rfl, implMade, hn, Option.bind_some]
                refine (if_pos (show (tells a).1 = 1 from h1)).trans ((if_neg hz).trans ?_)
                rw [someone_yes hA.1 hA.2, Option.bind_some, if_pos rfl, someone_no hx.1 hR, Option.bind_some, if_neg Bool.false_ne_true]
          · refine ⟨false, Ev.congr (fun k => by rw [in_spec, decide_eq_true hx, Option.bind_some, if_pos rfl]) (Ev.bind eo (Ev.congr (fun k => if_pos rfl) (Ev.bind eh (Ev.congr (fun k => ?_) noS)))), Ev.congr (fun k => ?_) noI, fun h => nomatch h⟩
            · rw [if_pos (show (tells a).1 = 1 from h1), if_neg hz, in_spec]
              by_cases hi : -1 ≤ add ∧ add ≤ 7
              · rw [decide_eq_true hi, Option.bind_some, if_pos rfl, in_spec]
                by_cases hj : -1 ≤ rem ∧ rem ≤ 7
                · rw [decide_eq_true hj, Option.bind_some, if_pos rfl, if_pos (by omega)]
                · rw [decide_eq_false hj, Option.bind_some, if_neg Bool.false_ne_true]
              · rw [decide_eq_false hi, Option.bind_some, if_neg Bool.false_ne_true]
            · rw [isOne_is, decide_eq_true hx, Option.bind_some, if_pos rfl, implMade, hn, Option.bind_some]
              refine (if_pos (show (tells a).1 = 1 from h1)).trans ((if_neg hz).trans ?_)
              rw [someone_no hx.1 hA, Option.bind_some, if_neg Bool.false_ne_true]
      · refine ⟨false, Ev.congr (fun k => by rw [in_spec, decide_eq_true hx, Option.bind_some, if_pos rfl]) (Ev.bind eo (Ev.congr (fun k => if_pos rfl) (Ev.bind eh (Ev.congr (fun k => if_neg (show ¬ (tells a).1 = 1 from h1)) noS)))), Ev.congr (fun k => ?_) noI, fun h => nomatch h⟩
        rw [isOne_is, decide_eq_true hx, Option.bind_some, if_pos rfl, implMade, hn, Option.bind_some]
        exact if_neg (show ¬ (tells a).1 = 1 from h1)
  · exact ⟨false, Ev.congr (fun k => by rw [in_spec, decide_eq_false hx, Option.bind_some, if_neg Bool.false_ne_true]) noS, Ev.congr (fun k => by rw [isOne_is, decide_eq_false hx, Option.bind_some, if_neg Bool.false_ne_true]) noI, fun h => nomatch h⟩
end
theorem specNext_ev (s : ByteArray) (hs : s.size ≤ 2000000) : Ev (fun k => spec_MakNext.f k s) (made1 (T [110]) s) := by
  unfold spec_MakNext.f made1
  refine Ev.bind (secOk_ev s) ?_
  cases hn : nm s with
  | none => exact Ev.of_eq fun k => by rw [Option.isSome_none, if_neg (by decide), if_neg (by decide)]
  | some a =>
    have ha := (Th.nm_some.1 hn).1
    refine Ev.congr (f := fun k => (spec_l1Ok.f k (T [110] ++ s)).bind fun t => some t) (fun k => ?_) ?_
    · rw [Option.isSome_some, if_pos rfl, if_pos (by omega)]
      rfl
    · rw [Option.isSome_some, if_pos rfl, ← okCap (nm_put hn [110] (.next a) ha rfl)]
      exact Ev.bind (l1Ok_ev _) (Ev.now _)
theorem implNext (s : ByteArray) (k : Nat) : impl_MakNext.f (k + 2) s = some (made1 (T [110]) s) := by
  unfold impl_MakNext.f
  rw [impl_made1 _ _ (by decide), Option.bind_some]
  rfl
/-! ### A path of places, each with the next secret -/
def nx (s : ByteArray) : ByteArray := made1 (T [110]) s
def nxn (s : ByteArray) : Nat → ByteArray
  | 0 => s
  | n + 1 => nx (nxn s n)
theorem cap_size (s : ByteArray) : (cap s).size ≤ 300 := by
  unfold cap
  split
  · assumption
  · exact Nat.zero_le _
theorem nx_size (s : ByteArray) : (nx s).size ≤ 300 := by
  unfold nx made1
  split
  · exact cap_size _
  · exact Nat.zero_le _
theorem nxn_size {s : ByteArray} (hs : s.size ≤ 1048576) : ∀ n, (nxn s n).size ≤ 1048576
  | 0 => hs
  | n + 1 => Nat.le_trans (nx_size _) (by omega)
theorem implNext_ev (s : ByteArray) : Ev (fun k => impl_MakNext.f k s) (nx s) := ⟨2, fun k hk => by
  obtain ⟨j, rfl⟩ : ∃ j, k = j + 2 := ⟨k - 2, by omega⟩
  exact implNext s j⟩
theorem implKey_ev (s : ByteArray) : Ev (fun k => impl_MakKey.f k s) (ky s) := ⟨2, fun k hk => by
  obtain ⟨j, rfl⟩ : ∃ j, k = j + 2 := ⟨k - 2, by omega⟩
  exact implKey s j⟩
def ent (p : List Int) (s : ByteArray) (i : Nat) : Ow := ⟨rd p (i : Int), nxn s i⟩
def ownL (p : List Int) (s : ByteArray) (n : Nat) : List Ow := (List.range n).map (ent p s)
def chn (s : ByteArray) (n : Nat) : List ByteArray := (List.range n).map (nxn s)
theorem ownL_len (p : List Int) (s : ByteArray) (n : Nat) : (ownL p s n).length = n := by unfold ownL; rw [List.length_map, List.length_range]
theorem chn_len (s : ByteArray) (n : Nat) : (chn s n).length = n := by unfold chn; rw [List.length_map, List.length_range]
theorem ownL_succ (p : List Int) (s : ByteArray) (n : Nat) : ownL p s (n + 1) = ownL p s n ++ [ent p s n] := by unfold ownL; rw [List.range_succ, List.map_append]; rfl
theorem chn_succ (s : ByteArray) (n : Nat) : chn s (n + 1) = chn s n ++ [nxn s n] := by unfold chn; rw [List.range_succ, List.map_append]; rfl
theorem chn_at (s : ByteArray) {n i : Nat} (h : i < n) : rdOf ByteArray.empty (chn s n) (i : Int) = nxn s i := by
  rw [rdS_at (by rw [chn_len]; exact h)]
  unfold chn
  rw [List.getElem_map, List.getElem_range]
theorem ownL_mem {p : List Int} {s : ByteArray} {n : Nat} {o : Ow} (h : o ∈ ownL p s n) (hs : s.size ≤ 1048576) : o.f1.size ≤ 1048576 := by
  unfold ownL at h
  obtain ⟨i, _, rfl⟩ := List.mem_map.1 h
  exact nxn_size hs i
theorem rd_succ (m : Int) (u : List Int) (j : Nat) : rd (m :: u) ((j + 1 : Nat) : Int) = rd u (j : Int) := by
  unfold rd
  rw [Int.toNat_natCast, Int.toNat_natCast]
  rfl
theorem l4Path_l0 (m : Int) (u : List Int) (s : ByteArray) (hs : s.size ≤ 1048576) (hu : u.length ≤ 1000) : ∀ (d j : Nat), u.length - j ≤ d → j ≤ u.length → Ev (fun k => spec_l4Path.l0 k (nxn s j) (ownL (m :: u) s (j + 1)) u (j : Int)) (ownL (m :: u) s (u.length + 1)) := by
  have fin : ∀ j : Nat, j = u.length → Ev (fun k => spec_l4Path.l0 k (nxn s j) (ownL (m :: u) s (j + 1)) u (j : Int)) (ownL (m :: u) s (u.length + 1)) := by
    intro j hj
    subst hj
    exact Ev.step (f := fun _ => some _) (fun k => by rw [spec_l4Path.l0, if_neg (by omega)]) (Ev.now _)
  intro d
  induction d with
  | zero => intro j h0 h1; exact fin j (by omega)
  | succ d ih =>
    intro j h0 h1
    by_cases h : j < u.length
    · refine Ev.step (fun k => by rw [spec_l4Path.l0, if_pos (by omega)]) (Ev.bind (specNext_ev (nxn s j) (Nat.le_trans (nxn_size hs j) (by omega))) (Ev.congr (fun k => ?_) (ih (j + 1) (by omega) (by omega))))
      rw [if_pos (by omega), if_pos (by rw [ownL_len]; omega), wz (x := (j : Int) + 1) (by omega) (by omega), ownL_succ (m :: u) s (j + 1), ent, rd_succ]
      rfl
    · exact fin j (by omega)
theorem l4Path_ev {m : Int} {u : List Int} (s : ByteArray) (hs : s.size ≤ 1048576) (hu : u.length ≤ 1000) (e : Ev (fun k => spec_TreUp.f k m) u) : Ev (fun k => spec_l4Path.f k m s) (ownL (m :: u) s (u.length + 1)) := by
  unfold spec_l4Path.f
  exact Ev.bind e (Ev.congr (fun k => rfl) (l4Path_l0 m u s hs hu u.length 0 (by omega) (by omega)))
theorem chain_l0 (s : ByteArray) (n : Nat) (hn : n ≤ 1000) : ∀ (d j : Nat), n - j ≤ d → 1 ≤ j → j ≤ n → Ev (fun k => impl_chain.l0 k (n : Int) (chn s j)) (chn s n) := by
  have fin : ∀ j : Nat, j = n → Ev (fun k => impl_chain.l0 k (n : Int) (chn s j)) (chn s n) := by
    intro j hj
    subst hj
    exact Ev.step (f := fun _ => some _) (fun k => by rw [impl_chain.l0, if_neg (by rw [chn_len]; omega)]) (Ev.now _)
  intro d
  induction d with
  | zero => intro j h0 _ h1; exact fin j (by omega)
  | succ d ih =>
    intro j h0 hj h1
    by_cases h : j < n
    · have w : wrap64 ((j : Int) - 1) = ((j - 1 : Nat) : Int) := by rw [wz (by omega) (by omega)]; omega
      refine Ev.step (fun k => by rw [impl_chain.l0, chn_len, w, if_pos (by omega), if_pos (by omega), if_pos (by omega), chn_at s (show j - 1 < j by omega)]) (Ev.bind (implNext_ev (nxn s (j - 1))) (Ev.congr (fun k => ?_) (ih (j + 1) (by omega) (by omega) (by omega))))
      rw [if_pos (by omega), chn_succ s j]
      obtain ⟨i, rfl⟩ : ∃ i, j = i + 1 := ⟨j - 1, by omega⟩
      rfl
    · exact fin j (by omega)
theorem chain_ev (s : ByteArray) (n : Nat) (h1 : 1 ≤ n) (hn : n ≤ 1000) : Ev (fun k => impl_chain.f k s (n : Int)) (chn s n) := by
  unfold impl_chain.f
  exact Ev.congr (fun k => rfl) (chain_l0 s n hn n 1 (by omega) (by omega) h1)
theorem owned_l0 (p : List Int) (s : ByteArray) (n : Nat) (hp : p.length = n) (hn : n ≤ 1000) : ∀ (d i : Nat) (out : List Ow), n - i ≤ d → i ≤ n → out.length = n → (∀ j, j < i → out[j]? = some (ent p s j)) → Ev (fun k => impl_owned.l0 k p out (chn s n) (n : Int) (i : Int)) (ownL p s n) := by
  have fin : ∀ (i : Nat) (out : List Ow), i = n → out.length = n → (∀ j, j < i → out[j]? = some (ent p s j)) → Ev (fun k => impl_owned.l0 k p out (chn s n) (n : Int) (i : Int)) (ownL p s n) := by
    intro i out hi ho hj
    have : out = ownL p s n := List.ext_getElem? fun j => by
      by_cases h : j < n
      · rw [hj j (by omega)]
        unfold ownL
        rw [List.getElem?_map, List.getElem?_range h]
        rfl
      · rw [List.getElem?_eq_none (by omega), List.getElem?_eq_none (by rw [ownL_len]; omega)]
    subst this
    exact Ev.step (f := fun _ => some _) (fun k => by rw [impl_owned.l0, if_neg (by omega)]) (Ev.now _)
  intro d
  induction d with
  | zero => intro i out h0 h1 ho hj; exact fin i out (by omega) ho hj
  | succ d ih =>
    intro i out h0 h1 ho hj
    by_cases h : i < n
    · have w1 : wrap64 ((i : Int) + 1) = ((i + 1 : Nat) : Int) := wz (x := (i : Int) + 1) (by omega) (by omega)
      refine Ev.step (f := fun k => impl_owned.l0 k p (out.set i (ent p s i)) (chn s n) (n : Int) ((i + 1 : Nat) : Int)) (fun k => by rw [impl_owned.l0, if_pos (by omega), if_pos (by omega), if_pos (by rw [chn_len]; omega), if_pos (by omega), if_pos (by omega), chn_at s h, w1, Int.toNat_natCast]; rfl) (ih (i + 1) (out.set i (ent p s i)) (by omega) (by omega) (by rw [List.length_set]; exact ho) fun j hlt => ?_)
      rw [List.getElem?_set]
      by_cases hji : i = j
      · subst hji
        rw [if_pos rfl, if_pos (by omega)]
      · rw [if_neg hji]
        exact hj j (by omega)
    · exact fin i out (by omega) ho hj
theorem owned_ev (p : List Int) (s : ByteArray) (h1 : 1 ≤ p.length) (hp : p.length ≤ 1000) : Ev (fun k => impl_owned.f k p s) (ownL p s p.length) := by
  unfold impl_owned.f
  refine Ev.congr (fun k => by rw [if_pos (by omega), if_pos (by rw [Int.toNat_natCast]; omega)]) (Ev.bind (chain_ev s p.length h1 hp) ?_)
  rw [chn_len]
  exact owned_l0 p s p.length rfl hp p.length 0 _ (by omega) (by omega) (by simp) (fun j h => by omega)
def upv (m : Nat) : List Int := (spec_TreUp.f 14 (m : Int)).getD []
theorem up_all : ∀ m : Fin 15, spec_TreUp.f 14 (m.1 : Int) = some (upv m.1) ∧ impl_TreUp.f 14 (m.1 : Int) = some (upv m.1) ∧ (upv m.1).length ≤ 3 := by decide +kernel
def mtv (a b : Nat) : Int := (spec_TreMeet.f 14 ((7 + a : Nat) : Int) ((7 + b : Nat) : Int)).getD 0
theorem meet_all : ∀ a b : Fin 8, spec_TreMeet.f 14 ((7 + a.1 : Nat) : Int) ((7 + b.1 : Nat) : Int) = some (mtv a.1 b.1) ∧ impl_TreMeet.f 14 ((7 + a.1 : Nat) : Int) ((7 + b.1 : Nat) : Int) = some (mtv a.1 b.1) ∧ 0 ≤ mtv a.1 b.1 ∧ mtv a.1 b.1 < 15 := by decide +kernel
/-- What lies above the place where two meet, with a secret: both ways the same. -/
theorem path_both (a b : Nat) (ha : a < 8) (hb : b < 8) (s : ByteArray) (hs : s.size ≤ 1048576) : ∃ (m : Int) (u : List Int), u.length ≤ 3 ∧ Ev (fun k => spec_TreMeet.f k ((7 + a : Nat) : Int) ((7 + b : Nat) : Int)) m ∧ Ev (fun k => impl_TreMeet.f k ((7 + a : Nat) : Int) ((7 + b : Nat) : Int)) m ∧
    Ev (fun k => spec_l4Path.f k m s) (ownL (m :: u) s (u.length + 1)) ∧ Ev (fun k => impl_above.f k m) (m :: u) ∧ Ev (fun k => impl_owned.f k (m :: u) s) (ownL (m :: u) s (u.length + 1)) := by
  obtain ⟨e1, e2, h0, h1⟩ := meet_all ⟨a, ha⟩ ⟨b, hb⟩
  obtain ⟨n, hn⟩ : ∃ n : Nat, mtv a b = (n : Int) := ⟨(mtv a b).toNat, by simp only at h0; omega⟩
  simp only [hn] at e1 e2 h0 h1
  obtain ⟨u1, u2, u3⟩ := up_all ⟨n, by omega⟩
  have us : Ev (fun k => spec_TreUp.f k (n : Int)) (upv n) := Ev.of (fun k => spec_TreUp.mono _ k) u1
  have ui : Ev (fun k => impl_TreUp.f k (n : Int)) (upv n) := Ev.of (fun k => impl_TreUp.mono _ k) u2
  simp only at u3
  refine ⟨(n : Int), upv n, u3, Ev.of (fun k => spec_TreMeet.mono _ _ k) e1, Ev.of (fun k => impl_TreMeet.mono _ _ k) e2, l4Path_ev s hs (by omega) us, ?_, owned_ev _ s (by simp) (by rw [List.length_cons]; omega)⟩
  unfold impl_above.f
  refine Ev.congr (fun k => by rw [Option.bind_some]) (Ev.bind ui (Ev.of_eq fun k => ?_))
  rw [if_pos (by simp; omega)]
  rfl
/-! ### How many commits a tag tells -/
theorem count_l0 (s : ByteArray) (hs : s.size ≤ 1048576) : ∀ (d i n : Nat), s.size - i ≤ d → i ≤ s.size → n ≤ i → Ev (fun k => spec_l5Count.l0 k s (n : Int) (i : Int)) ((n + (s.data.toList.drop i).count 59 : Nat) : Int) := by
  have hz : s.data.toList.length = s.size := rfl
  intro d
  induction d with
  | zero =>
    intro i n h0 h1 h2
    rw [List.drop_eq_nil_of_le (by omega)]
    exact Ev.step (f := fun _ => some _) (fun k => by rw [spec_l5Count.l0, if_neg (by omega)]; rfl) (Ev.now _)
  | succ d ih =>
    intro i n h0 h1 h2
    by_cases h : i < s.size
    · have hb : bt s (i : Int) = ((s.data.toList[i]'(by omega)).toNat : Int) := by
        rw [← bt_at s (i : Int) (by rw [Int.toNat_natCast]; exact h)]
        simp only [Int.toNat_natCast]
        rfl
      have w1 : wrap64 ((i : Int) + 1) = ((i + 1 : Nat) : Int) := wz (x := (i : Int) + 1) (by omega) (by omega)
      have w2 : wrap64 ((n : Int) + 1) = ((n + 1 : Nat) : Int) := wz (x := (n : Int) + 1) (by omega) (by omega)
      rw [List.drop_eq_getElem_cons (by omega), List.count_cons]
      by_cases hc : s.data.toList[i]'(by omega) = 59
      · have h59 : bt s (i : Int) = 59 := by rw [hb, hc]; rfl
        rw [hc, if_pos (by decide)]
        have e := ih (i + 1) (n + 1) (by omega) (by omega) (by omega)
        rw [show n + 1 + (s.data.toList.drop (i + 1)).count 59 = n + ((s.data.toList.drop (i + 1)).count 59 + 1) by omega] at e
        exact Ev.step (f := fun k => spec_l5Count.l0 k s ((n + 1 : Nat) : Int) ((i + 1 : Nat) : Int)) (fun k => by rw [spec_l5Count.l0, if_pos (by omega), if_pos (by omega), if_pos h59, w1, w2]) e
      · have h59 : ¬ bt s (i : Int) = 59 := by
          rw [hb]
          intro he
          exact hc (UInt8.toNat_inj.1 ((show (s.data.toList[i]'(by omega)).toNat = 59 by omega).trans rfl))
        rw [if_neg (by simpa using hc), Nat.add_zero]
        exact Ev.step (f := fun k => spec_l5Count.l0 k s (n : Int) ((i + 1 : Nat) : Int)) (fun k => by rw [spec_l5Count.l0, if_pos (by omega), if_pos (by omega), if_neg h59, w1]) (ih (i + 1) n (by omega) (by omega) (by omega))
    · rw [List.drop_eq_nil_of_le (by omega)]
      exact Ev.step (f := fun _ => some _) (fun k => by rw [spec_l5Count.l0, if_neg (by omega)]; rfl) (Ev.now _)
theorem count_ev (s : ByteArray) (hs : s.size ≤ 1048576) : Ev (fun k => spec_l5Count.f k s) ((Lib.countByte s.data.toList 59 : Nat) : Int) := by
  unfold spec_l5Count.f
  have e := count_l0 s hs s.size 0 0 (by omega) (by omega) (by omega)
  rw [List.drop_zero, Nat.zero_add] at e
  exact e
/-! ### Who comes by a commit -/
theorem keyB_full {s : ByteArray} (h : keyB s = true) : s.toList ≠ ([] : List UInt8) := by
  intro he
  rw [Th.toList_nil.1 he] at h
  revert h
  decide +kernel
abbrev Jn := Bool × Int × List ByteArray × List Ow × Int × ByteArray × ByteArray × Bool
def noJ : Jn := (false, 0, [], [], 0, ⟨#[]⟩, ⟨#[]⟩, false)
section
variable (who : Int) (a1 a2 : ByteArray) (x : Int) (tag name : ByteArray) (add rem : Int) (leaf : ByteArray) (keys : List ByteArray) (boxes : List Bx) (k0 k1 k2 k3 k4 : ByteArray)
theorem joinS_no : Ev (fun k => spec_MemJoin.j0 k who a1 true x tag name add rem leaf keys boxes k0 k1 k2 k3 k4) noJ := Ev.step (f := fun _ => some noJ) (fun k => by rw [spec_MemJoin.j0, if_pos rfl]; rfl) (Ev.now _)
theorem joinI_no : Ev (fun k => impl_MemJoin.j0 k who a1 true x tag name add rem leaf keys boxes k0 k1 k2 k3 k4 k0 k1 k2 k3 k4) noJ := Ev.step (f := fun _ => some noJ) (fun k => by rw [impl_MemJoin.j0, if_pos rfl]; rfl) (Ev.now _)
theorem join_j0 (hw : 0 ≤ who ∧ who ≤ 7) (hx : 0 ≤ x ∧ x ≤ 7) (h1 : a1.size ≤ 1048576) (ht : tag.size ≤ 1048576) (hn : name.size ≤ 1048576) (hk : keys.length ≤ 1048576) (h4 : k4.size ≤ 292) :
    ∃ r : Jn, Ev (fun k => spec_MemJoin.j0 k who a1 false x tag name add rem leaf keys boxes k0 k1 k2 k3 k4) r ∧ Ev (fun k => impl_MemJoin.j0 k who a1 false x tag name add rem leaf keys boxes k0 k1 k2 k3 k4 k0 k1 k2 k3 k4) r ∧ r.2.2.1.length ≤ 1048576 ∧ r.2.2.2.1.length ≤ 10 := by
  obtain ⟨a, rfl⟩ : ∃ a : Nat, who = (a : Int) := ⟨who.toNat, by omega⟩
  obtain ⟨b, rfl⟩ : ∃ b : Nat, x = (b : Int) := ⟨x.toNat, by omega⟩
  have la := leaf_is (w := a) (by omega)
  have lb := leaf_is (w := b) (by omega)
  have ia : impl_leaf.f (a : Int) = some ((7 + a : Nat) : Int) := by unfold impl_leaf.f; rw [wz (by omega) (by omega)]; congr 1
  have ib : impl_leaf.f (b : Int) = some ((7 + b : Nat) : Int) := by unfold impl_leaf.f; rw [wz (by omega) (by omega)]; congr 1
  obtain ⟨m, u, hu, ms, mi, ps, ai, oi⟩ := path_both a b (by omega) (by omega) k4 (by omega)
  generalize hO : (⟨((7 + a : Nat) : Int), a1⟩ : Ow) :: ownL (m :: u) k4 (u.length + 1) = own
  have hOl : own.length = u.length + 2 := by rw [← hO, List.length_cons, ownL_len]
  have hOs : ∀ o ∈ own, o.f1.size ≤ 2000000 := by
    intro o ho
    rw [← hO] at ho
    rcases List.mem_cons.1 ho with rfl | ho
    · show a1.size ≤ 2000000
      omega
    · exact Nat.le_trans (ownL_mem ho (by omega)) (by omega)
  obtain ⟨r, es, ei⟩ := mem_both true (a : Int) keys own (wrap64 (((Lib.countByte tag.data.toList 59 : Nat) : Int) + 1)) k2 (tag ++ name) (by omega) hOs
  refine ⟨if r = true then (true, (a : Int), keys, own, wrap64 (((Lib.countByte tag.data.toList 59 : Nat) : Int) + 1), k2, tag ++ name, true) else noJ, ?_, ?_, ?_, ?_⟩
  · refine Ev.step (fun k => by rw [spec_MemJoin.j0, if_neg Bool.false_ne_true, Option.bind_some, if_pos (by rw [List.length_nil]; omega), List.nil_append, Option.bind_some, if_neg (by omega), la, Option.bind_some, lb, Option.bind_some]) (Ev.bind ms (Ev.bind ps ?_))
    refine Ev.congr (fun k => by rw [Option.bind_some, Option.bind_some, if_pos (by rw [List.length_singleton, ownL_len]; omega), List.singleton_append, Option.bind_some, hO]) ?_
    refine Ev.bind (count_ev tag ht) ?_
    refine Ev.congr (fun k => if_pos (by omega)) ?_
    refine Ev.bind es ?_
    cases r with
    | true => exact Ev.of_eq fun k => if_pos rfl
    | false => exact Ev.of_eq fun k => if_neg Bool.false_ne_true
  · refine Ev.step (fun k => by rw [impl_MemJoin.j0, if_neg Bool.false_ne_true, impl_clone_string.f, slices_Clone_string_string.f, if_pos (by omega), Option.bind_some, Option.bind_some, strings_Count.f, if_pos rfl, Option.bind_some, if_pos (by omega), ia, Option.bind_some, Option.bind_some, Option.bind_some, ib, Option.bind_some]) (Ev.bind mi (Ev.bind ai (Ev.bind oi ?_)))
    refine Ev.congr (fun k => by rw [if_pos (by rw [List.length_singleton, ownL_len]; omega), List.singleton_append, impl_MemOwn_62.f, hO, show impl_MemOwn_103.f own = some own from if_pos (by omega), Option.bind_some, Option.bind_some]) ?_
    refine Ev.bind ei ?_
    cases r with
    | true => exact Ev.of_eq fun k => if_pos rfl
    | false => exact Ev.of_eq fun k => if_neg Bool.false_ne_true
  · split
    · exact hk
    · exact Nat.zero_le _
  · split
    · show own.length ≤ 10
      omega
    · exact Nat.zero_le _
theorem join_both (h1 : a1.size ≤ 1048576) (h2 : a2.size ≤ 1048576) (ht : tag.size ≤ 1048576) (hn : name.size ≤ 1048576) (hk : keys.length ≤ 1048576) :
    ∃ r : Jn, Ev (fun k => spec_MemJoin.f k who a1 a2 x tag name add rem leaf keys boxes k0 k1 k2 k3 k4) r ∧ Ev (fun k => impl_MemJoin.f k who a1 a2 x tag name add rem leaf keys boxes k0 k1 k2 k3 k4) r ∧ r.2.2.1.length ≤ 1048576 ∧ r.2.2.2.1.length ≤ 10 := by
  have nS := joinS_no who a1 x tag name add rem leaf keys boxes k0 k1 k2 k3 k4
  have nI := joinI_no who a1 x tag name add rem leaf keys boxes k0 k1 k2 k3 k4
  obtain ⟨b, es, ei, hb⟩ := cmt_both x tag name add rem leaf keys boxes k0 k1 k2 k3 k4
  unfold spec_MemJoin.f impl_MemJoin.f
  have no : noJ.2.2.1.length ≤ 1048576 ∧ noJ.2.2.2.1.length ≤ 10 := ⟨Nat.zero_le _, Nat.zero_le _⟩
  cases b with
  | false => exact ⟨noJ, Ev.bind es (Ev.congr (fun k => if_neg Bool.false_ne_true) nS), Ev.bind ei (Ev.congr (fun k => if_neg Bool.false_ne_true) nI), no⟩
  | true =>
    obtain ⟨hx, hA, hT⟩ := hb rfl
    by_cases ha : add < 0
    · exact ⟨noJ, Ev.bind es (Ev.congr (fun k => (if_pos rfl).trans (if_pos ha)) nS), Ev.bind ei (Ev.congr (fun k => (if_pos rfl).trans (if_pos ha)) nI), no⟩
    obtain ⟨hl, hk0, hk4⟩ := hT (by omega)
    have fl := keyB_full hl
    have f0 := keyB_full hk0
    by_cases hw : ¬ add = who
    · exact ⟨noJ, Ev.bind es (Ev.congr (fun k => (if_pos rfl).trans ((if_neg ha).trans (if_neg hw))) nS), Ev.bind ei (Ev.congr (fun k => (if_pos rfl).trans ((if_neg ha).trans (if_neg hw))) nI), no⟩
    have hw := Decidable.of_not_not hw
    have o1 := secOk_ev a1
    have o2 := secOk_ev a2
    have e1 := specKey_ev a1 (by omega)
    have e2 := specKey_ev a2 (by omega)
    have i1 := implKey_ev a1
    have i2 := implKey_ev a2
    unfold ky at i1 i2
    cases q1 : nm a1 with
    | none =>
      rw [q1] at o1
      rw [made1_no q1] at i1
      exact ⟨noJ, Ev.bind es (Ev.congr (fun k => (if_pos rfl).trans ((if_neg ha).trans (if_pos hw))) (Ev.bind o1 (Ev.congr (fun k => if_neg Bool.false_ne_true) nS))), Ev.bind ei (Ev.congr (fun k => (if_pos rfl).trans ((if_neg ha).trans (if_pos hw))) (Ev.bind i1 (Ev.congr (fun k => if_neg (fun h => fl (h.symm.trans (Th.toList_nil.2 rfl)))) nI))), no⟩
    | some n1 =>
      rw [q1] at o1
      by_cases g1 : ¬ (made1 (T [107]) a1).toList = leaf.toList
      · refine ⟨noJ, Ev.bind es (Ev.congr (fun k => (if_pos rfl).trans ((if_neg ha).trans (if_pos hw))) (Ev.bind o1 (Ev.congr (fun k => if_pos rfl) (Ev.bind o2 ?_)))), Ev.bind ei (Ev.congr (fun k => (if_pos rfl).trans ((if_neg ha).trans (if_pos hw))) (Ev.bind i1 (Ev.congr (fun k => if_neg g1) nI))), no⟩
        cases (nm a2).isSome with
        | false => exact Ev.congr (fun k => if_neg Bool.false_ne_true) nS
        | true => exact Ev.congr (fun k => if_pos rfl) (Ev.bind e1 (Ev.congr (fun k => if_neg g1) nS))
      have g1 := Decidable.of_not_not g1
      cases q2 : nm a2 with
      | none =>
        rw [q2] at o2
        rw [made1_no q2] at i2
        exact ⟨noJ, Ev.bind es (Ev.congr (fun k => (if_pos rfl).trans ((if_neg ha).trans (if_pos hw))) (Ev.bind o1 (Ev.congr (fun k => if_pos rfl) (Ev.bind o2 (Ev.congr (fun k => if_neg Bool.false_ne_true) nS))))), Ev.bind ei (Ev.congr (fun k => (if_pos rfl).trans ((if_neg ha).trans (if_pos hw))) (Ev.bind i1 (Ev.congr (fun k => if_pos g1) (Ev.bind i2 (Ev.congr (fun k => if_neg (fun h => f0 (h.symm.trans (Th.toList_nil.2 rfl)))) nI))))), no⟩
      | some n2 =>
        rw [q2] at o2
        have toS : ∀ {r : Jn}, Ev (fun k => spec_MemJoin.j0 k who a1 ((made1 (T [107]) a2).toList != k0.toList) x tag name add rem leaf keys boxes k0 k1 k2 k3 k4) r → Ev (fun k => spec_MemJoin.f k who a1 a2 x tag name add rem leaf keys boxes k0 k1 k2 k3 k4) r := fun {r} h => by unfold spec_MemJoin.f; exact Ev.bind es (Ev.congr (fun k => (if_pos rfl).trans ((if_neg ha).trans (if_pos hw))) (Ev.bind o1 (Ev.congr (fun k => if_pos rfl) (Ev.bind o2 (Ev.congr (fun k => if_pos rfl) (Ev.bind e1 (Ev.congr (fun k => if_pos g1) (Ev.bind e2 h))))))))
        by_cases g2 : ¬ (made1 (T [107]) a2).toList = k0.toList
        · rw [bne_iff_ne.2 g2] at toS
          exact ⟨noJ, toS nS, Ev.bind ei (Ev.congr (fun k => (if_pos rfl).trans ((if_neg ha).trans (if_pos hw))) (Ev.bind i1 (Ev.congr (fun k => if_pos g1) (Ev.bind i2 (Ev.congr (fun k => if_neg g2) nI))))), no⟩
        have g2 := Decidable.of_not_not g2
        rw [bne_eq_false_iff_eq.2 g2] at toS
        have sh : impl_short.f k4 = some (decide ((k4.size : Int) ≤ 292)) := by
          unfold impl_short.f
          rw [impl_SecOk.f, Option.bind_some]
          exact if_pos hk4
        have toI : ∀ {r : Jn}, Ev (fun k => impl_MemJoin.j0 k who a1 (!decide ((k4.size : Int) ≤ 292)) x tag name add rem leaf keys boxes k0 k1 k2 k3 k4 k0 k1 k2 k3 k4) r → Ev (fun k => impl_MemJoin.f k who a1 a2 x tag name add rem leaf keys boxes k0 k1 k2 k3 k4) r := fun {r} h => by unfold impl_MemJoin.f; exact Ev.bind ei (Ev.congr (fun k => (if_pos rfl).trans ((if_neg ha).trans (if_pos hw))) (Ev.bind i1 (Ev.congr (fun k => if_pos g1) (Ev.bind i2 (Ev.congr (fun k => by rw [if_pos g2, sh, Option.bind_some]) h)))))
        by_cases g4 : (k4.size : Int) ≤ 292
        · rw [decide_eq_true g4] at toI
          obtain ⟨r, s, i, z⟩ := join_j0 who a1 x tag name add rem leaf keys boxes k0 k1 k2 k3 k4 (by omega) hx h1 ht hn hk (by omega)
          exact ⟨r, toS s, toI i, z⟩
        · rw [decide_eq_false g4] at toI
          refine ⟨noJ, toS ?_, toI nI, no⟩
          exact Ev.step (f := fun _ => some noJ) (fun k => by rw [spec_MemJoin.j0, if_neg Bool.false_ne_true, Option.bind_some, if_pos (by rw [List.length_nil]; omega), Option.bind_some, if_pos (by omega)]; rfl) (Ev.now _)
end
theorem szWelcome_ev (a b c d e : ByteArray) (ha : a.size ≤ 140737488351232) (hb : b.size ≤ 140737488351232) (hc : c.size ≤ 140737488351232) (hd : d.size ≤ 140737488351232) (he : e.size ≤ 140737488351232) (left : Int) (h0 : 0 ≤ left) (h1 : left ≤ 1048576) : ∃ r, laws_szCmtWelcome.f a b c d e left = some r := by
  unfold laws_szCmtWelcome.f
  rw [wz (x := left - (a.size : Int)) (by omega) (by omega)]
  by_cases hn : left - (a.size : Int) < 0
  · exact ⟨-1, if_pos hn⟩
  · obtain ⟨r, e1, r1, r2⟩ := szKnwBox_ev b c hb hc (left - (a.size : Int)) (by omega) (by omega)
    rw [if_neg hn, e1, Option.bind_some]
    by_cases hm : r < 0
    · exact ⟨-1, if_pos hm⟩
    · obtain ⟨r', e2, r3, r4⟩ := szKnwBox_ev d e hd he r (by omega) (by omega)
      rw [if_neg hm, e2, Option.bind_some]
      by_cases hp : r' < 0
      · exact ⟨-1, if_pos hp⟩
      · exact ⟨r', if_neg hp⟩
theorem szC_ev (x : Int) (tag name : ByteArray) (add rem : Int) (leaf : ByteArray) (keys : List ByteArray) (boxes : List Kx) (k0 k1 k2 k3 k4 : ByteArray) (g1 : tag.size ≤ 140737488351232) (g2 : name.size ≤ 140737488351232) (g5 : leaf.size ≤ 140737488351232)
    (g6 : keys.length * 16 ≤ 140737488351232 ∧ keys.length ≤ maxLen ∧ ∀ z_ ∈ keys, z_.size ≤ 140737488351232) (g7 : boxes.length * 32 ≤ 140737488351232 ∧ boxes.length ≤ maxLen ∧ ∀ z_ ∈ boxes, (z_.f0.size ≤ 140737488351232 ∧ z_.f1.size ≤ 140737488351232))
    (g8 : k0.size ≤ 140737488351232) (g9 : k1.size ≤ 140737488351232) (g10 : k2.size ≤ 140737488351232) (g11 : k3.size ≤ 140737488351232) (g12 : k4.size ≤ 140737488351232) :
    ∃ r, Ev (fun k => laws_szCmtCommit.f k x tag name add rem leaf keys boxes k0 k1 k2 k3 k4 1048576) r ∧ (0 ≤ r → keys.length ≤ 1048576 ∧ boxes.length ≤ 1048576 ∧ tag.size ≤ 1048576 ∧ name.size ≤ 1048576) := by
  unfold laws_szCmtCommit.f
  rw [wz (x := 1048576 - (tag.size : Int)) (by omega) (by omega), wz (x := 1048576 - (tag.size : Int) - (name.size : Int)) (by omega) (by omega), wz (x := 1048576 - (tag.size : Int) - (name.size : Int) - (leaf.size : Int)) (by omega) (by omega)]
  by_cases s1 : 1048576 - (tag.size : Int) < 0
  · exact ⟨-1, Ev.of_eq fun k => if_pos s1, fun h => absurd h (by decide)⟩
  · by_cases s2 : 1048576 - (tag.size : Int) - (name.size : Int) < 0
    · exact ⟨-1, Ev.of_eq fun k => (if_neg s1).trans (if_pos s2), fun h => absurd h (by decide)⟩
    · by_cases s3 : 1048576 - (tag.size : Int) - (name.size : Int) - (leaf.size : Int) < 0
      · exact ⟨-1, Ev.of_eq fun k => (if_neg s1).trans ((if_neg s2).trans (if_pos s3)), fun h => absurd h (by decide)⟩
      · obtain ⟨r, er, r1, r2⟩ := szS_ev keys g6 (1048576 - (tag.size : Int) - (name.size : Int) - (leaf.size : Int)) (by omega) (by omega)
        by_cases s4 : r < 0
        · exact ⟨-1, Ev.congr (fun k => (if_neg s1).trans ((if_neg s2).trans (if_neg s3))) (Ev.bind er (Ev.of_eq fun k => if_pos s4)), fun h => absurd h (by decide)⟩
        · obtain ⟨q, eq, q1, q2⟩ := szB_ev boxes g7 r (by omega) (by omega)
          by_cases s5 : q < 0
          · exact ⟨-1, Ev.congr (fun k => (if_neg s1).trans ((if_neg s2).trans (if_neg s3))) (Ev.bind er (Ev.congr (fun k => if_neg s4) (Ev.bind eq (Ev.of_eq fun k => if_pos s5)))), fun h => absurd h (by decide)⟩
          · obtain ⟨u, eu⟩ := szWelcome_ev k0 k1 k2 k3 k4 g8 g9 g10 g11 g12 q (by omega) (by omega)
            have b1 := (r2 (by omega)).1
            have b2 := q2 (by omega)
            refine ⟨if u < 0 then -1 else u, Ev.congr (fun k => (if_neg s1).trans ((if_neg s2).trans (if_neg s3))) (Ev.bind er (Ev.congr (fun k => if_neg s4) (Ev.bind eq (Ev.of_eq fun k => ?_)))), fun _ => ⟨by omega, by omega, by omega, by omega⟩⟩
            rw [if_neg s5, eu, Option.bind_some]
            split <;> rfl
theorem toC_ev (x : Int) (tag name : ByteArray) (add rem : Int) (leaf : ByteArray) (keys : List ByteArray) (boxes : List Kx) (k0 k1 k2 k3 k4 : ByteArray) (hk : keys.length ≤ 1048576) (hb : boxes.length ≤ 1048576) : Ev (fun k => laws_toCmtCommit.f k x tag name add rem leaf keys boxes k0 k1 k2 k3 k4) (x, tag, name, add, rem, leaf, keys, conv boxes, k0, k1, k2, k3, k4) := by
  unfold laws_toCmtCommit.f
  refine Ev.bind (toS_ev keys hk) (Ev.bind (toB_ev boxes hb) (Ev.of_eq fun k => ?_))
  unfold laws_toCmtWelcome.f laws_toKnwBox.f
  rfl
theorem eqC_ev (x : Int) (tag name : ByteArray) (add rem : Int) (leaf : ByteArray) (keys : List ByteArray) (boxes : List Bx) (k0 k1 k2 k3 k4 : ByteArray) (hk : keys.length ≤ 1048576) (hb : boxes.length ≤ 1048576) : Ev (fun k => laws_eqCmtCommit.f k x tag name add rem leaf keys boxes k0 k1 k2 k3 k4 x tag name add rem leaf keys boxes k0 k1 k2 k3 k4) true := by
  unfold laws_eqCmtCommit.f
  refine Ev.congr (fun k => by rw [if_pos rfl, if_pos rfl, if_pos rfl, if_pos rfl, if_pos rfl, if_pos rfl]) (Ev.bind (eqS_ev keys (by omega)) (Ev.congr (fun k => if_pos rfl) (Ev.bind (eqB_ev boxes (by omega)) (Ev.of_eq fun k => ?_))))
  unfold laws_eqCmtWelcome.f laws_eqKnwBox.f
  simp
theorem markB_l0 (n : Nat) (hn : n ≤ 1100000) : ∀ (d i : Nat) (l : List Bx) (m : Int), n - i ≤ d → i ≤ n → l.length = n → 1 ≤ m → m + 2 * ((n - i : Nat) : Int) ≤ 9000000 →
    ∃ r, Ev (fun k => laws_markKnwBoxS.l0 k l m (i : Int)) r ∧ r.1 = m + 2 * ((n - i : Nat) : Int) := by
  intro d
  induction d with
  | zero =>
    intro i l m h0 h1 hl _ _
    exact ⟨(m, l), Ev.step (f := fun _ => some (m, l)) (fun k => by rw [laws_markKnwBoxS.l0, if_neg (by omega)]) (Ev.now _), by show m = _; omega⟩
  | succ d ih =>
    intro i l m h0 h1 hl hm hx
    by_cases h : i < n
    · have w1 : wrap64 (m + 1) = m + 1 := wz (by omega) (by omega)
      have w2 : wrap64 (m + 1 + 1) = m + 1 + 1 := wz (by omega) (by omega)
      have w3 : wrap64 ((i : Int) + 1) = ((i + 1 : Nat) : Int) := wz (x := (i : Int) + 1) (by omega) (by omega)
      obtain ⟨t, et⟩ := markText_ev m (by omega) (by omega)
      obtain ⟨u, eu⟩ := markText_ev (m + 1) (by omega) (by omega)
      obtain ⟨r, er, hr⟩ := ih (i + 1) ((l.set (i : Int).toNat (⟨t, (rd_T52 l (i : Int)).f1⟩ : Bx)).set (i : Int).toNat (⟨(rd_T52 (l.set (i : Int).toNat (⟨t, (rd_T52 l (i : Int)).f1⟩ : Bx)) (i : Int)).f0, u⟩ : Bx)) (m + 1 + 1) (by omega) (by omega) (by rw [List.length_set, List.length_set]; exact hl) (by omega) (by omega)
      refine ⟨r, Ev.step (fun k => by rw [laws_markKnwBoxS.l0, if_pos (by omega)]) (Ev.bind et (Ev.congr (fun k => by rw [if_pos (by omega), Option.bind_some, w1, w2, w3]) (Ev.bind eu er))), by rw [hr]; omega⟩
    · exact ⟨(m, l), Ev.step (f := fun _ => some (m, l)) (fun k => by rw [laws_markKnwBoxS.l0, if_neg (by omega)]) (Ev.now _), by show m = _; omega⟩
def MarkedW (l : List Ow) (m : Int) (n : Nat) : Prop := ∀ j : Nat, j < n → ∃ t, l[j]? = some (⟨m + 2 * (j : Int), t⟩ : Ow) ∧ Ev (fun k => laws_markText.f k (m + 2 * (j : Int) + 1)) t
theorem markW_l0 (n : Nat) (m : Int) (hm : 1 ≤ m) (hm2 : m ≤ 5000000) (hn : n ≤ 1000) : ∀ (d i : Nat) (l : List Ow), n - i ≤ d → i ≤ n → l.length = n → MarkedW l m i →
    ∃ l', Ev (fun k => laws_markMemOwnS.l0 k l (m + 2 * (i : Int)) (i : Int)) (m + 2 * (n : Int), l') ∧ l'.length = n ∧ MarkedW l' m n := by
  intro d
  induction d with
  | zero =>
    intro i l h0 h1 hl hj
    obtain rfl : i = n := by omega
    exact ⟨l, Ev.step (f := fun _ => some (m + 2 * (i : Int), l)) (fun k => by rw [laws_markMemOwnS.l0, if_neg (by omega)]) (Ev.now _), hl, hj⟩
  | succ d ih =>
    intro i l h0 h1 hl hj
    by_cases h : i < n
    · have w1 : wrap64 (m + 2 * (i : Int) + 1) = m + 2 * (i : Int) + 1 := wz (by omega) (by omega)
      have w2 : wrap64 (m + 2 * (i : Int) + 1 + 1) = m + 2 * ((i + 1 : Nat) : Int) := by rw [wz (by omega) (by omega)]; omega
      have w3 : wrap64 ((i : Int) + 1) = ((i + 1 : Nat) : Int) := wz (x := (i : Int) + 1) (by omega) (by omega)
      obtain ⟨t, et⟩ := markText_ev (m + 2 * (i : Int) + 1) (by omega) (by omega)
      generalize ha : (⟨m + 2 * (i : Int), (rd_T74 l (i : Int)).f1⟩ : Ow) = a
      have hrd : rd_T74 (l.set i a) (i : Int) = a := by
        rw [rdO_at (by rw [List.length_set]; omega), List.getElem_set_self]
      have hset : (l.set i a).set i (⟨a.f0, t⟩ : Ow) = l.set i ⟨m + 2 * (i : Int), t⟩ := by rw [List.set_set, ← ha]
      obtain ⟨l', e, h2, h3⟩ := ih (i + 1) (l.set i ⟨m + 2 * (i : Int), t⟩) (by omega) (by omega) (by rw [List.length_set]; exact hl) (fun j hlt => by
        rw [List.getElem?_set]
        by_cases hji : i = j
        · subst hji
          rw [if_pos rfl, if_pos (by omega)]
          exact ⟨t, rfl, et⟩
        · rw [if_neg hji]
          exact hj j (by omega))
      refine ⟨l', Ev.step (fun k => by rw [laws_markMemOwnS.l0, if_pos (by omega), if_pos (by omega), Option.bind_some, w1, w2, w3, Int.toNat_natCast, ha]) (Ev.bind et (Ev.congr (fun k => by rw [hrd, hset]) e)), h2, h3⟩
    · obtain rfl : i = n := by omega
      exact ⟨l, Ev.step (f := fun _ => some (m + 2 * (i : Int), l)) (fun k => by rw [laws_markMemOwnS.l0, if_neg (by omega)]) (Ev.now _), hl, hj⟩
theorem heldW_l0 (l : List Ow) (m : Int) (hm : 1 ≤ m) (hm2 : m ≤ 5000000) (hn : l.length ≤ 1000) (hM : MarkedW l m l.length) : ∀ (d i : Nat), l.length - i ≤ d → i ≤ l.length → Ev (fun k => laws_heldMemOwnS.l0 k l (m + 2 * (i : Int)) (i : Int)) (m + 2 * (l.length : Int)) := by
  have fin : ∀ i : Nat, i = l.length → Ev (fun k => laws_heldMemOwnS.l0 k l (m + 2 * (i : Int)) (i : Int)) (m + 2 * (l.length : Int)) := by
    intro i hi
    subst hi
    exact Ev.step (f := fun _ => some (m + 2 * (l.length : Int))) (fun k => by rw [laws_heldMemOwnS.l0, if_neg (by omega)]) (Ev.now _)
  intro d
  induction d with
  | zero => intro i h0 h1; exact fin i (by omega)
  | succ d ih =>
    intro i h0 h1
    by_cases h : i < l.length
    · obtain ⟨t, ht, et⟩ := hM i h
      rw [List.getElem?_eq_getElem h] at ht
      have ht' : rd_T74 l (i : Int) = ⟨m + 2 * (i : Int), t⟩ := (rdO_at h).trans (Option.some.inj ht)
      have w1 : wrap64 (m + 2 * (i : Int) + 1) = m + 2 * (i : Int) + 1 := wz (by omega) (by omega)
      have w2 : wrap64 (m + 2 * (i : Int) + 1 + 1) = m + 2 * ((i + 1 : Nat) : Int) := by rw [wz (by omega) (by omega)]; omega
      have w3 : wrap64 ((i : Int) + 1) = ((i + 1 : Nat) : Int) := wz (x := (i : Int) + 1) (by omega) (by omega)
      exact Ev.step (fun k => by rw [laws_heldMemOwnS.l0, if_pos (by omega), if_pos (by omega), ht', if_pos rfl, w1]) (Ev.bind et (Ev.congr (fun k => by rw [if_pos rfl, w2, w3]) (ih (i + 1) (by omega) (by omega))))
    · exact fin i (by omega)
theorem heldS_l0 (l : List ByteArray) (m : Int) (hm : 1 ≤ m) (hm2 : m ≤ 5000000) (hn : l.length ≤ 1100000) (hM : Marked l m l.length) : ∀ (d i : Nat), l.length - i ≤ d → i ≤ l.length → Ev (fun k => laws_heldStringS.l0 k l (m + (i : Int)) (i : Int)) (m + (l.length : Int)) := by
  have fin : ∀ i : Nat, i = l.length → Ev (fun k => laws_heldStringS.l0 k l (m + (i : Int)) (i : Int)) (m + (l.length : Int)) := by
    intro i hi
    subst hi
    exact Ev.step (f := fun _ => some (m + (l.length : Int))) (fun k => by rw [laws_heldStringS.l0, if_neg (by omega)]) (Ev.now _)
  intro d
  induction d with
  | zero => intro i h0 h1; exact fin i (by omega)
  | succ d ih =>
    intro i h0 h1
    by_cases h : i < l.length
    · obtain ⟨t, ht, et⟩ := hM i h
      rw [List.getElem?_eq_getElem h] at ht
      have ht' : l[i] = t := Option.some.inj ht
      have w0 : wrap64 (m + (i : Int) + 1) = m + ((i + 1 : Nat) : Int) := by rw [wz (by omega) (by omega)]; omega
      have w1 : wrap64 ((i : Int) + 1) = ((i + 1 : Nat) : Int) := wz (x := (i : Int) + 1) (by omega) (by omega)
      exact Ev.step (fun k => by rw [laws_heldStringS.l0, if_pos (by omega), if_pos (by omega)]) (Ev.bind et (Ev.congr (fun k => by rw [rdS_at h, ht', if_pos rfl, w0, w1]) (ih (i + 1) (by omega) (by omega))))
    · exact fin i (by omega)
/-- Marks that are set are held. -/
theorem mark_held (b : Bool) (w : Int) (ks : List ByteArray) (own : List Ow) (e : Int) (i g : ByteArray) (h1 : ks.length ≤ 1048576) (h2 : own.length ≤ 1000) : ∃ (M : Int) (ks' : List ByteArray) (own' : List Ow), 1 ≤ M ∧ Ev (fun k => laws_markMemMember.f k b w ks own e i g 1) (M, ks', own') ∧ Ev (fun k => laws_heldMemMember.f k b w ks' own' e i g 1) M := by
  obtain ⟨ks', e1, n1, m1⟩ := markS_ev ks 1 (by omega) (by omega) (by omega)
  obtain ⟨own', e2, n2, m2⟩ := markW_l0 own.length (1 + (ks.length : Int)) (by omega) (by omega) h2 own.length 0 own (by omega) (by omega) rfl (fun j h => by omega)
  rw [← n1] at m1
  rw [← n2] at m2
  have c1 := heldS_l0 ks' 1 (by omega) (by omega) (by omega) m1 ks'.length 0 (by omega) (by omega)
  have c2 := heldW_l0 own' (1 + (ks.length : Int)) (by omega) (by omega) (by omega) m2 own'.length 0 (by omega) (by omega)
  rw [show (1 : Int) + ((0 : Nat) : Int) = 1 by omega] at c1
  rw [show 1 + (ks.length : Int) + 2 * ((0 : Nat) : Int) = 1 + (ks.length : Int) by omega] at c2 e2
  rw [n1] at c1
  rw [n2] at c2
  refine ⟨1 + (ks.length : Int) + 2 * (own.length : Int), ks', own', by omega, ?_, ?_⟩
  · unfold laws_markMemMember.f laws_markTreTree.f
    exact Ev.bind (Ev.bind e1 (Ev.now _)) (Ev.bind (show Ev (fun k => laws_markMemOwnS.f k own (1 + (ks.length : Int))) _ from e2) (Ev.now _))
  · unfold laws_heldMemMember.f laws_heldTreTree.f
    refine Ev.bind (Ev.bind (show Ev (fun k => laws_heldStringS.f k ks' 1) _ from c1) (Ev.of_eq fun k => if_neg (by omega))) (Ev.congr (fun k => if_neg (by omega)) (Ev.bind (show Ev (fun k => laws_heldMemOwnS.f k own' (1 + (ks.length : Int))) _ from c2) (Ev.of_eq fun k => if_neg (by omega))))
theorem FnExactMemJoin : laws_FnExactMemJoin.Pure := by
  intro who a1 a2 x tag name add rem leaf keys boxes k0 k1 k2 k3 k4 _ _ _ _ g1 g2 _ _ g5 g6 g7 g8 g9 g10 g11 g12
  refine Ev.rounds ?_
  unfold laws_FnExactMemJoin.f
  by_cases c1 : (a1.size : Int) > 1048576
  · exact Ev.of_eq fun k => if_pos c1
  by_cases c2 : (a2.size : Int) > 1048576
  · exact Ev.of_eq fun k => (if_neg c1).trans (if_pos c2)
  obtain ⟨r, er, hr⟩ := szC_ev x tag name add rem leaf keys boxes k0 k1 k2 k3 k4 g1 g2 g5 g6 g7 g8 g9 g10 g11 g12
  refine Ev.congr (fun k => (if_neg c1).trans (if_neg c2)) (Ev.bind er ?_)
  by_cases h1 : r < 0
  · exact Ev.of_eq fun k => if_pos h1
  obtain ⟨hk, hb, ht, hn⟩ := hr (by omega)
  refine Ev.congr (fun k => if_neg h1) ?_
  have et := toC_ev x tag name add rem leaf keys boxes k0 k1 k2 k3 k4 hk hb
  have ec := eqC_ev x tag name add rem leaf keys (conv boxes) k0 k1 k2 k3 k4 hk (by rw [conv_len]; exact hb)
  obtain ⟨⟨b, w, ks, own, ep, ini, tg, ok⟩, es, ei, l1, l2⟩ := join_both who a1 a2 x tag name add rem leaf keys (conv boxes) k0 k1 k2 k3 k4 (by omega) (by omega) ht hn hk
  simp only at l1 l2
  have em := eqMem_ev b w ks own ep ini tg l1 (by omega)
  obtain ⟨t', mt, _, _⟩ := markS_ev keys 1 (by omega) (by omega) (by omega)
  obtain ⟨q, mq, hq⟩ := markB_l0 (conv boxes).length (by rw [conv_len]; omega) (conv boxes).length 0 (conv boxes) (1 + (keys.length : Int)) (by omega) (by omega) rfl (by omega) (by rw [conv_len]; omega)
  have mc : Ev (fun k => laws_markCmtCommit.f k x tag name add rem leaf keys (conv boxes) k0 k1 k2 k3 k4 1) (q.1, t', q.2) := by
    unfold laws_markCmtCommit.f
    exact Ev.bind mt (Ev.bind (show Ev (fun k => laws_markKnwBoxS.f k (conv boxes) (1 + (keys.length : Int))) q from mq) (Ev.now _))
  obtain ⟨M, ks', own', hM, mm, hm⟩ := mark_held b w ks own ep ini tg l1 (by omega)
  refine Ev.bind et (Ev.bind es (Ev.bind et (Ev.bind ei (Ev.bind em (Ev.congr (fun k => if_pos rfl) ?_)))))
  refine Ev.step (fun k => by rw [laws_FnExactMemJoin.j0, if_neg (by simp)]) ?_
  refine Ev.bind et (Ev.bind ec (Ev.congr (fun k => if_pos rfl) (Ev.bind mc (Ev.congr (fun k => if_neg (show ¬ q.1 < 0 by omega)) (Ev.bind em (Ev.congr (fun k => if_pos rfl) ?_))))))
  refine Ev.step (fun k => by rw [laws_FnExactMemJoin.j1, if_neg (by simp)]) ?_
  refine Ev.bind mm (Ev.bind hm (Ev.congr (fun k => (if_neg (show ¬ M < 0 by omega)).trans (if_pos rfl)) ?_))
  refine Ev.bind et (Ev.bind ei (Ev.bind em (Ev.congr (fun k => if_pos rfl) ?_)))
  refine Ev.step (fun k => by rw [laws_FnExactMemJoin.j2, if_neg (by simp)]) ?_
  exact Ev.bind hm (Ev.of_eq fun k => (if_neg (show ¬ M < 0 by omega)).trans (if_pos rfl))
end
end Go.Proofs.YtnemchmiplbopaaGreatDoor.Pure
