/- What the reference reads of a name: sizes, whether it is one, and how it was made. Plain Lean. The reference's reading of a name's size, and whether a text is a name. Plain Lean. How a name was made, as the reference reads it. Plain Lean. Whether a tree is ok: the reference's answer is the program's. Plain Lean. Boxes that are ok, as the reference tells them. Plain Lean. What the laws do with slices of texts: how much they bear, a copy, the same as itself. Plain Lean. What the laws do with slices of boxes: how much they bear, a copy, the same as itself, marks. Plain Lean. The program's CmtOk returns what the reference's returns, for all arguments: the law's plain statement. -/
import Derived.Test.YtnemchmiplbopaaDoorXqx4
import Derived.Test.YtnemchmiplbopaaDoorXqx6
import Derived.Test.YtnemchmiplbopaaDoorXqx7
import Derived.Test.YtnemchmiplbopaaDoorGivTree
import Derived.Test.YtnemchmiplbopaaDoorXqx8
import Derived.Test.YtnemchmiplbopaaDoorXqGivK
import Derived.Test.YtnemchmiplbopaaDoorXqx6
import Derived.Test.YtnemchmiplbopaaDoorXqx2
import Derived.Test.YtnemchmiplbopaaDoorXqx10
import Derived.Test.YtnemchmiplbopaaDoorXqx13
import Derived.Test.YtnemchmiplbopaaDoorXqx2
import Derived.Test.YtnemchmiplbopaaDoorXqx10
import Derived.Test.YtnemchmiplbopaaDoorXqx14
import Derived.Test.YtnemchmiplbopaaDoorXqx12
import Derived.Test.YtnemchmiplbopaaDoorXqx9
import Derived.Test.YtnemchmiplbopaaDoorXqx3
import Derived.Test.YtnemchmiplbopaaDoorXqx10
import Derived.Test.YtnemchmiplbopaaDoorXqx15
import Derived.Test.YtnemchmiplbopaaDoorXqx16
namespace Go.Proofs.YtnemchmiplbopaaDoor.Pure
section
open Go.RowKit Go.Proofs.YtnemchmiplbopaaDoor Go.Proofs.YtnemchmiplbopaaDoor.Xq Go.Proofs.YtnemchmiplbopaaDoorW.PrintWords Go.Proofs.YtnemchmiplbopaaDoorW.PrintLast
open Go.Proofs.YtnemchmiplbopaaDoor.Th (T B Nm nm dec hd prsNum whole)

theorem wz {x : Int} (h0 : -1000000000000000 ≤ x) (h1 : x ≤ 1000000000000000) : wrap64 x = x := by
  unfold wrap64
  omega
theorem T_app (a b : List Nat) : T (a ++ b) = T a ++ T b := by
  apply Th.B_inj
  rw [Th.B_append]
  simp [T, B]
theorem spec_in (x a b : Int) : spec_l1In.f x a b = some (decide (a ≤ x ∧ x ≤ b)) := by
  unfold spec_l1In.f
  by_cases h : x ≥ a
  · rw [if_pos h]; simp [show a ≤ x from h]
  · rw [if_neg h]; simp [show ¬ a ≤ x from h]
theorem spec_letter (w : Nat) (h : w < 8) : spec_l1Who.f (w : Int) = some (T [65 + w]) := by
  have : ∀ n : Fin 8, spec_l1Who.f ((n.1 : Nat) : Int) = some (T [65 + n.1]) := by decide +kernel
  exact this ⟨w, h⟩
theorem spec_plain (n : Nat) (h : n < 100) (k : Nat) (hk : 3 ≤ k) : spec_l1Plain.f k (n : Int) = some (T (dec n)) := by
  have : ∀ n : Fin 100, spec_l1Plain.f 3 ((n.1 : Nat) : Int) = some (T (dec n.1)) := by decide +kernel
  exact at_rounds (fun k => spec_l1Plain.mono _ k) hk (this ⟨n, h⟩)
theorem dec_two (n : Nat) : (dec n).length ≤ 2 := by unfold dec; split <;> simp
/-- What makNew of one and a number is. -/
def mkN (w n : Nat) : ByteArray := if w < 8 ∧ 1 ≤ n ∧ n ≤ 99 then T (Nm.new w n).enc else ⟨#[]⟩
theorem spec_mkN (w n : Nat) (k : Nat) (hk : 4 ≤ k) : spec_MakNew.f k (w : Int) (n : Int) = some (mkN w n) := by
  obtain ⟨k, rfl⟩ : ∃ j, k = j + 1 := ⟨k - 1, by omega⟩
  unfold spec_MakNew.f mkN
  rw [spec_in, spec_in]
  simp only [Option.bind_some]
  by_cases h0 : w < 8
  · by_cases h1 : 1 ≤ n ∧ n ≤ 99
    · rw [decide_eq_true (by omega), decide_eq_true (by omega), if_pos rfl, if_pos ⟨h0, h1⟩]
      simp only [Bool.not_true, spec_MakNew.j0]
      rw [if_neg (by decide), spec_letter w h0, spec_plain n (by omega) k (by omega)]
      simp only [Option.bind_some]
      have := dec_two n
      rw [if_pos (by rw [Th.T_size, Th.T_size, List.length_singleton]; omega), if_pos (by rw [ByteArray.size_append, Th.T_size, Th.T_size, List.length_singleton]; omega)]
      rw [show (⟨#[59]⟩ : ByteArray) = T [59] from rfl, ← T_app, ← T_app]
      rfl
    · rw [decide_eq_true (by omega), decide_eq_false (by omega), if_pos rfl, if_neg (fun h => h1 h.2)]
      simp [spec_MakNew.j0]
  · rw [decide_eq_false (by omega), if_neg (by decide), if_neg (fun h => h0 h.1)]
    simp [spec_MakNew.j0]

/-! ### a new secret's name, read -/
theorem bt_pre {s : ByteArray} {pre t : List Nat} (h : B s = pre ++ t) (i : Nat) : bt s ((pre.length + i : Nat) : Int) = ((t.getD i 0 : Nat) : Int) := by
  rw [Th.bt_B, h, Int.toNat_natCast, List.getD_eq_getElem?_getD, List.getElem?_append_right (by omega), show pre.length + i - pre.length = i by omega, List.getD_eq_getElem?_getD]
theorem size_pre {s : ByteArray} {pre t : List Nat} (h : B s = pre ++ t) : s.size = pre.length + t.length := by
  rw [← Th.B_length, h, List.length_append]
theorem cut_pre {s : ByteArray} {pre t : List Nat} (h : B s = pre ++ t) (j : Nat) : s.extract pre.length (pre.length + j) = T (t.take j) := by
  apply Th.B_inj
  rw [Th.B_extract, h, Th.B_T (fun x hx => Th.B_lt s x (by rw [h]; exact List.mem_append_right _ (List.mem_of_mem_take hx)))]
  rw [List.take_append, List.take_of_length_le (by omega), show pre.length + j - pre.length = j by omega, List.drop_left]
theorem take_snoc {t : List Nat} {i : Nat} (h : i < t.length) : t.take (i + 1) = t.take i ++ [t.getD i 0] := by
  rw [List.take_add_one, List.getElem?_eq_getElem h, List.getD_eq_getElem?_getD, List.getElem?_eq_getElem h]
  rfl
section
variable {s : ByteArray} {pre t : List Nat} {c : Nat}
theorem fresh_tail (h : B s = pre ++ c :: t) (hs : s.size ≤ 1000000000000) (hc : 65 ≤ c ∧ c ≤ 72) (i n k : Nat) (hi : i ≤ t.length) (hk : 6 ≤ k) :
    spec_l1Fresh.j2 k s pre.length n ((pre.length + (1 + i) : Nat) : Int) false = some (if t.getD i 0 = 59 ∧ mkN (c - 65) n = T (c :: (t.take i ++ [59])) then ((i + 2 : Nat) : Int) else 0) := by
  obtain ⟨k, rfl⟩ : ∃ j, k = j + 2 := ⟨k - 2, by omega⟩
  have hz := size_pre h
  rw [List.length_cons] at hz
  have b0 : bt s ((pre.length : Nat) : Int) = (c : Int) := bt_pre h 0
  have b1 : bt s ((pre.length + (1 + i) : Nat) : Int) = ((t.getD i 0 : Nat) : Int) := by
    rw [bt_pre h (1 + i), show 1 + i = i + 1 by omega]
    rfl
  simp only [spec_l1Fresh.j2]
  rw [if_neg (by decide)]
  by_cases h0 : i < t.length
  · rw [if_neg (by omega), if_pos (by omega), if_pos (by omega), b1]
    by_cases h1 : t.getD i 0 = 59
    · rw [if_pos (by omega), if_pos (by omega), if_pos (by omega), b0, show ((c : Int) - 65) % 256 = ((c - 65 : Nat) : Int) by omega, spec_mkN _ _ _ (by omega), Option.bind_some]
      have e0 : wrap64 (((pre.length + (1 + i) : Nat) : Int) + 1) = ((pre.length + (i + 2) : Nat) : Int) := by rw [wz (by omega) (by omega)]; omega
      rw [e0, if_pos (by omega), if_pos (by omega), Int.toNat_natCast, Int.toNat_natCast, cut_pre h, show (c :: t).take (i + 2) = c :: t.take (i + 1) from rfl, take_snoc h0, h1]
      by_cases h2 : mkN (c - 65) n = T (c :: (t.take i ++ [59]))
      · rw [if_pos ⟨rfl, h2⟩, h2, bne_self_eq_false]
        simp only [spec_l1Fresh.j3]
        rw [if_neg (by decide), e0, wz (by omega) (by omega)]
        congr 1
        omega
      · have e2 : ((mkN (c - 65) n).toList != (T (c :: (t.take i ++ [59]))).toList) = true := bne_iff_ne.2 (fun e => h2 (Th.toList_eq.1 e))
        rw [if_neg (fun h => h2 h.2), e2]
        simp only [spec_l1Fresh.j3]
        rw [if_pos trivial]
    · rw [if_neg (by omega), if_neg (fun h => h1 h.1)]
      simp only [spec_l1Fresh.j3]
      rw [if_pos trivial]
  · have e1 : t.getD i 0 = 0 := by rw [List.getD_eq_getElem?_getD, List.getElem?_eq_none (by omega)]; rfl
    rw [if_pos (by omega), e1, if_neg (fun h => by omega)]
    simp only [spec_l1Fresh.j3]
    rw [if_pos trivial]
theorem fresh_more (h : B s = pre ++ c :: t) (hs : s.size ≤ 1000000000000) (i n k : Nat) (hi : i < 3) (hn : n ≤ 1000) (hd : 48 ≤ t.getD i 0 ∧ t.getD i 0 ≤ 57) :
    spec_l1Fresh.l0 (k + 2) s pre.length n ((pre.length + (1 + i) : Nat) : Int) = spec_l1Fresh.l0 k s pre.length ((10 * n + (t.getD i 0 - 48) : Nat) : Int) ((pre.length + (1 + (i + 1)) : Nat) : Int) := by
  have hz := size_pre h
  rw [List.length_cons] at hz
  have hl : i < t.length := Th.lt_of_getD (by omega)
  have b1 : bt s ((pre.length + (1 + i) : Nat) : Int) = ((t.getD i 0 : Nat) : Int) := by
    rw [bt_pre h (1 + i), show 1 + i = i + 1 by omega]
    rfl
  conv => lhs; rw [spec_l1Fresh.l0]
  rw [if_pos (by omega), if_pos (by omega), b1, if_pos (by omega), if_pos (by omega), wz (x := (pre.length : Int) + 4) (by omega) (by omega), decide_eq_true (by omega)]
  conv => lhs; rw [spec_l1Fresh.j2]
  rw [if_pos rfl, if_pos (by omega), if_pos (by omega), b1, wz (x := (n : Int) * 10) (by omega) (by omega), wz (x := (n : Int) * 10 + _) (by omega) (by omega), wz (x := ((pre.length + (1 + i) : Nat) : Int) + 1) (by omega) (by omega)]
  congr 1 <;> omega
theorem fresh_stop (h : B s = pre ++ c :: t) (hs : s.size ≤ 1000000000000) (hc : 65 ≤ c ∧ c ≤ 72) (i n k : Nat) (hi : i ≤ t.length) (hk : 6 ≤ k) (hd : ¬ (48 ≤ t.getD i 0 ∧ t.getD i 0 ≤ 57) ∨ i = 3) :
    spec_l1Fresh.l0 (k + 1) s pre.length n ((pre.length + (1 + i) : Nat) : Int) = some (if t.getD i 0 = 59 ∧ mkN (c - 65) n = T (c :: (t.take i ++ [59])) then ((i + 2 : Nat) : Int) else 0) := by
  have hz := size_pre h
  rw [List.length_cons] at hz
  have b1 : bt s ((pre.length + (1 + i) : Nat) : Int) = ((t.getD i 0 : Nat) : Int) := by
    rw [bt_pre h (1 + i), show 1 + i = i + 1 by omega]
    rfl
  rw [← fresh_tail h hs hc i n k hi hk]
  conv => lhs; rw [spec_l1Fresh.l0]
  by_cases h0 : i < t.length
  · rw [if_pos (by omega), if_pos (by omega), b1]
    by_cases h1 : (t.getD i 0 : Int) ≥ 48
    · rw [if_pos h1]
      by_cases h2 : (t.getD i 0 : Int) ≤ 57
      · rw [if_pos h2, wz (by omega) (by omega), decide_eq_false (by omega)]
      · rw [if_neg h2]
    · rw [if_neg h1]
  · rw [if_neg (by omega)]
theorem T_eq {a b : List Nat} (ha : ∀ x ∈ a, x < 256) (hb : ∀ x ∈ b, x < 256) (h : T a = T b) : a = b := by
  have := congrArg B h
  rwa [Th.B_T ha, Th.B_T hb] at this
theorem T_len {a b : List Nat} (h : T a = T b) : a.length = b.length := by
  have := congrArg ByteArray.size h
  rwa [Th.T_size, Th.T_size] at this
/-- The size of the new secret's name that stands first. -/
def freshSz (c : Nat) (t : List Nat) : Int := if 65 ≤ c ∧ c ≤ 72 then (match prsNum t with | some p => ((1 + t.length - p.2.length : Nat) : Int) | none => 0) else 0
theorem fresh_20 (h : B s = pre ++ c :: t) (hs : s.size ≤ 1000000000000) : spec_l1Fresh.f 20 s pre.length = some (freshSz c t) := by
  have hz := size_pre h
  rw [List.length_cons] at hz
  have b0 : bt s ((pre.length : Nat) : Int) = (c : Int) := bt_pre h 0
  unfold spec_l1Fresh.f freshSz
  rw [if_pos (by omega), if_pos (by omega), b0]
  by_cases hc : 65 ≤ c ∧ c ≤ 72
  · rw [if_neg (by omega), decide_eq_false (by omega), if_pos hc]
    simp only [spec_l1Fresh.j0]
    rw [if_neg (by decide), wz (x := (pre.length : Int) + 1) (by omega) (by omega), show (pre.length : Int) + 1 = ((pre.length + (1 + 0) : Nat) : Int) by omega, show (0 : Int) = ((0 : Nat) : Int) from rfl]
    have empty : ∀ (n : Nat) (l : List Nat), (n < 1 ∨ 99 < n) → mkN (c - 65) n ≠ T (c :: l) := by
      intro n l hn e
      rw [mkN, if_neg (by omega)] at e
      have z : (0 : Nat) = (c :: l).length := (congrArg ByteArray.size e).trans (Th.T_size _)
      exact absurd z (by simp)
    have some_ : ∀ (n : Nat), 1 ≤ n → n ≤ 99 → mkN (c - 65) n = T (c :: (dec n ++ [59])) := by
      intro n h1 h2
      rw [mkN, if_pos (by omega)]
      simp only [Nm.enc]
      rw [show 65 + (c - 65) = c by omega]
    by_cases d0 : 48 ≤ t.getD 0 0 ∧ t.getD 0 0 ≤ 57
    · have l0 : 0 < t.length := Th.lt_of_getD (by omega)
      have k1 : t.take 1 = [t.getD 0 0] := by rw [take_snoc l0]; rfl
      rw [fresh_more h hs 0 0 17 (by omega) (by omega) d0]
      by_cases d1 : 48 ≤ t.getD 1 0 ∧ t.getD 1 0 ≤ 57
      · have l1 : 1 < t.length := Th.lt_of_getD (by omega)
        have k2 : t.take 2 = [t.getD 0 0, t.getD 1 0] := by rw [take_snoc l1, k1]; rfl
        rw [fresh_more h hs 1 _ 15 (by omega) (by omega) d1]
        by_cases d2 : 48 ≤ t.getD 2 0 ∧ t.getD 2 0 ≤ 57
        · have l2 : 2 < t.length := Th.lt_of_getD (by omega)
          rw [fresh_more h hs 2 _ 13 (by omega) (by omega) d2, fresh_stop h hs hc 3 _ 12 (by omega) (by omega) (.inr rfl)]
          have no : prsNum t = none := by
            unfold prsNum
            by_cases z : 49 ≤ t.getD 0 0 ∧ t.getD 0 0 ≤ 57
            · rw [if_pos z, if_pos d1, if_neg (by omega)]
            · rw [if_neg z]
          rw [no, if_neg]
          · rfl
          rintro ⟨_, e⟩
          by_cases hv : 1 ≤ 10 * (10 * (10 * 0 + (t.getD 0 0 - 48)) + (t.getD 1 0 - 48)) + (t.getD 2 0 - 48) ∧ 10 * (10 * (10 * 0 + (t.getD 0 0 - 48)) + (t.getD 1 0 - 48)) + (t.getD 2 0 - 48) ≤ 99
          · rw [some_ _ hv.1 hv.2] at e
            have := T_len e
            have := dec_two (10 * (10 * (10 * 0 + (t.getD 0 0 - 48)) + (t.getD 1 0 - 48)) + (t.getD 2 0 - 48))
            simp only [List.length_cons, List.length_append, List.length_nil, List.length_take] at *
            omega
          · exact empty _ _ (by omega) e
        · rw [fresh_stop h hs hc 2 _ 14 (by omega) (by omega) (.inl d2), k2]
          by_cases z : t.getD 0 0 = 48
          · have no : prsNum t = none := by unfold prsNum; rw [if_neg (by omega)]
            rw [no, if_neg]
            · rfl
            rintro ⟨_, e⟩
            by_cases hv : 1 ≤ 10 * (10 * 0 + (t.getD 0 0 - 48)) + (t.getD 1 0 - 48)
            · rw [some_ _ hv (by omega)] at e
              have := T_len e
              unfold dec at this
              rw [if_pos (by omega)] at this
              simp at this
            · exact empty _ _ (by omega) e
          · by_cases q : t.getD 2 0 = 59
            · have yes : prsNum t = some (10 * (t.getD 0 0 - 48) + (t.getD 1 0 - 48), t.drop 3) := by
                unfold prsNum; rw [if_pos (by omega), if_pos d1, if_pos q]
              have l2 : 2 < t.length := Th.lt_of_getD (by omega)
              rw [yes, if_pos]
              · simp only [List.length_drop]
                congr 1
                omega
              · refine ⟨q, ?_⟩
                rw [some_ _ (by omega) (by omega)]
                unfold dec
                rw [if_neg (by omega)]
                rw [show 48 + (10 * (10 * 0 + (t.getD 0 0 - 48)) + (t.getD 1 0 - 48)) / 10 = t.getD 0 0 by omega, show 48 + (10 * (10 * 0 + (t.getD 0 0 - 48)) + (t.getD 1 0 - 48)) % 10 = t.getD 1 0 by omega]
            · have no : prsNum t = none := by unfold prsNum; rw [if_pos (by omega), if_pos d1, if_neg q]
              rw [no, if_neg (fun h => q h.1)]; rfl
      · rw [fresh_stop h hs hc 1 _ 16 (by omega) (by omega) (.inl d1), k1]
        by_cases z : t.getD 0 0 = 48
        · have no : prsNum t = none := by unfold prsNum; rw [if_neg (by omega)]
          rw [no, if_neg]
          · rfl
          rintro ⟨_, e⟩
          exact empty _ _ (by omega) e
        · by_cases q : t.getD 1 0 = 59
          · have yes : prsNum t = some (t.getD 0 0 - 48, t.drop 2) := by
              unfold prsNum; rw [if_pos (by omega), if_neg d1, if_pos q]
            have l1 : 1 < t.length := Th.lt_of_getD (by omega)
            rw [yes, if_pos]
            · simp only [List.length_drop]
              congr 1
              omega
            · refine ⟨q, ?_⟩
              rw [some_ _ (by omega) (by omega)]
              unfold dec
              rw [if_pos (by omega), show 48 + (10 * 0 + (t.getD 0 0 - 48)) = t.getD 0 0 by omega]
          · have no : prsNum t = none := by unfold prsNum; rw [if_pos (by omega), if_neg d1, if_neg q]
            rw [no, if_neg (fun h => q h.1)]; rfl
    · rw [fresh_stop h hs hc 0 0 18 (by omega) (by omega) (.inl d0)]
      have no : prsNum t = none := by unfold prsNum; rw [if_neg (by omega)]
      rw [no, if_neg]
      · rfl
      rintro ⟨_, e⟩
      exact empty _ _ (by omega) e
  · rw [if_neg hc]
    have key : spec_l1Fresh.j0 20 s pre.length true = some 0 := by
      simp only [spec_l1Fresh.j0]
      rw [if_pos trivial]
    by_cases g : (c : Int) < 65
    · rw [if_pos g]; exact key
    · rw [if_neg g, decide_eq_true (by omega)]; exact key
end
end
end Go.Proofs.YtnemchmiplbopaaDoor.Pure
namespace Go.Proofs.YtnemchmiplbopaaDoor.Pure
section
open Go.RowKit Go.Proofs.YtnemchmiplbopaaDoor Go.Proofs.YtnemchmiplbopaaDoor.Xq Go.Proofs.YtnemchmiplbopaaDoorW.PrintWords Go.Proofs.YtnemchmiplbopaaDoorW.PrintLast
open Go.Proofs.YtnemchmiplbopaaDoor.Th (T B Nm nm dec hd prsNum whole)

/-- The size of the name that stands first; 0 if none does. -/
def sz (t : List Nat) : Int := match hd t with | some p => ((t.length - p.2.length : Nat) : Int) | none => 0
def more (a n : Int) : Int := if n = 0 then 0 else a + n
theorem hd_short {t : List Nat} {a : Nm} {r : List Nat} (h : hd t = some (a, r)) : r.length < t.length := by
  obtain ⟨_, e⟩ := Th.hd_sound h
  have := Th.enc_pos a
  rw [e, List.length_append]
  omega
theorem sz_range (t : List Nat) : 0 ≤ sz t ∧ sz t ≤ t.length := by
  unfold sz
  split
  · omega
  · omega
theorem sz_some {t : List Nat} {a : Nm} {r : List Nat} (h : hd t = some (a, r)) : sz t = ((t.length - r.length : Nat) : Int) := by unfold sz; rw [h]
theorem sz_none {t : List Nat} (h : hd t = none) : sz t = 0 := by unfold sz; rw [h]
theorem sz_zero {t : List Nat} : sz t = 0 ↔ hd t = none := by
  constructor
  · intro h
    cases e : hd t with
    | none => rfl
    | some p =>
      obtain ⟨a, r⟩ := p
      rw [sz_some e] at h
      have := hd_short e
      omega
  · exact sz_none
theorem sz_nil : sz [] = 0 := rfl
theorem sz_map {c : Nat} {t u : List Nat} {d : Nat} (hu : u.length + d = t.length + 1) (f : Nm → Nm) (e : hd (c :: t) = (hd u).map fun p => (f p.1, p.2)) : sz (c :: t) = more d (sz u) := by
  unfold more
  cases g : hd u with
  | none =>
    rw [sz_none g, if_pos rfl]
    exact sz_none (by rw [e, g]; rfl)
  | some p =>
    obtain ⟨a, r⟩ := p
    have hs := hd_short g
    rw [sz_some g, if_neg (by omega), sz_some (a := f a) (r := r) (by rw [e, g]; rfl), List.length_cons]
    omega
theorem sz_next (t : List Nat) : sz (110 :: t) = more 1 (sz t) := sz_map (d := 1) (by omega) Nm.next (by rw [Th.hd_cons, if_neg (by decide), if_pos rfl])
theorem sz_key (t : List Nat) : sz (107 :: t) = more 1 (sz t) := sz_map (d := 1) (by omega) Nm.key (by rw [Th.hd_cons, if_neg (by decide), if_neg (by decide), if_pos rfl])
theorem sz_say {t : List Nat} (h : 65 ≤ t.getD 0 0 ∧ t.getD 0 0 ≤ 72) : sz (109 :: t) = more 2 (sz (t.drop 1)) :=
  sz_map (d := 2) (by have := Th.lt_of_getD (l := t) (i := 0) (by omega); rw [List.length_drop]; omega) (Nm.say (t.getD 0 0 - 65)) (by rw [Th.hd_cons, if_neg (by decide), if_neg (by decide), if_neg (by decide), if_neg (by decide), if_pos rfl, if_pos h])
theorem sz_say_no {t : List Nat} (h : ¬ (65 ≤ t.getD 0 0 ∧ t.getD 0 0 ≤ 72)) : sz (109 :: t) = 0 := sz_none (by rw [Th.hd_cons, if_neg (by decide), if_neg (by decide), if_neg (by decide), if_neg (by decide), if_pos rfl, if_neg h])
theorem sz_room {t : List Nat} (h : 49 ≤ t.getD 0 0 ∧ t.getD 0 0 ≤ 57) : sz (114 :: t) = more 2 (sz (t.drop 1)) :=
  sz_map (d := 2) (by have := Th.lt_of_getD (l := t) (i := 0) (by omega); rw [List.length_drop]; omega) (Nm.room (t.getD 0 0 - 48)) (by rw [Th.hd_cons, if_neg (by decide), if_neg (by decide), if_neg (by decide), if_neg (by decide), if_neg (by decide), if_pos rfl, if_pos h])
theorem sz_room_no {t : List Nat} (h : ¬ (49 ≤ t.getD 0 0 ∧ t.getD 0 0 ≤ 57)) : sz (114 :: t) = 0 := sz_none (by rw [Th.hd_cons, if_neg (by decide), if_neg (by decide), if_neg (by decide), if_neg (by decide), if_neg (by decide), if_pos rfl, if_neg h])
theorem hd_epoch (t : List Nat) : hd (101 :: t) = (hd t).bind fun p => (hd p.2).map fun q => (Nm.epoch p.1 q.1, q.2) := by
  rw [Th.hd_cons, if_neg (by decide), if_neg (by decide), if_neg (by decide), if_pos rfl]
theorem drop_sz {t : List Nat} {a : Nm} {r : List Nat} (h : hd t = some (a, r)) : t.drop (sz t).toNat = r := by
  rw [sz_some h, Int.toNat_natCast]
  obtain ⟨_, e⟩ := Th.hd_sound h
  rw [e, List.length_append, show a.enc.length + r.length - r.length = a.enc.length by omega, List.drop_left]
theorem sz_epoch_no {t : List Nat} (h : sz t = 0) : sz (101 :: t) = 0 := sz_none (by rw [hd_epoch, sz_zero.1 h]; rfl)
theorem sz_epoch {t : List Nat} (h : sz t ≠ 0) : sz (101 :: t) = more (1 + sz t) (sz (t.drop (sz t).toNat)) := by
  unfold more
  cases g : hd t with
  | none => exact absurd (sz_none g) h
  | some p =>
    obtain ⟨a, r⟩ := p
    have hs := hd_short g
    rw [drop_sz g, sz_some g]
    cases g2 : hd r with
    | none => rw [sz_none g2, if_pos rfl]; exact sz_none (by rw [hd_epoch, g]; simp [g2])
    | some q =>
      obtain ⟨b, r2⟩ := q
      have hs2 := hd_short g2
      rw [sz_some g2, if_neg (by omega), sz_some (a := .epoch a b) (r := r2) (by rw [hd_epoch, g]; simp [g2]), List.length_cons]
      omega
theorem sz_fresh {c : Nat} (t : List Nat) (h0 : c ≠ 110) (h1 : c ≠ 107) (h2 : c ≠ 109) (h3 : c ≠ 114) (h4 : c ≠ 101) : sz (c :: t) = freshSz c t := by
  unfold sz freshSz
  rw [Th.hd_cons]
  by_cases hc : 65 ≤ c ∧ c ≤ 72
  · rw [if_pos hc, if_pos hc]
    cases prsNum t with
    | none => rfl
    | some p =>
      simp only [Option.map_some, List.length_cons]
      rw [show t.length + 1 = 1 + t.length by omega]
  · rw [if_neg hc, if_neg h0, if_neg h1, if_neg h4, if_neg h2, if_neg h3, if_neg hc]
theorem more_any {a n : Int} (h0 : 0 ≤ a) (h1 : a ≤ 100000000000000) (h2 : 0 ≤ n) (h3 : n ≤ 100000000000000) : spec_l1More.f a n = some (more a n) := by
  unfold spec_l1More.f more
  by_cases h : n = 0
  · rw [if_pos h, if_pos h]
  · rw [if_neg h, if_neg h, wz (by omega) (by omega)]
theorem Ev.of_eq {α : Type} {g : Nat → Option α} {r : α} (h : ∀ k, g k = some r) : Ev g r := ⟨0, fun k _ => h k⟩

theorem size_ev {s : ByteArray} (hs : s.size ≤ 1000000000000) : ∀ (m : Nat) (pre t : List Nat), B s = pre ++ t → t.length ≤ m → Ev (fun k => spec_l1Size.f k s pre.length) (sz t) := by
  intro m
  induction m with
  | zero =>
    intro pre t h hm
    obtain rfl : t = [] := List.length_eq_zero_iff.1 (by omega)
    have hz := size_pre h
    rw [List.length_nil] at hz
    refine Ev.step (f := fun _ => some 0) (fun k => ?_) (Ev.now 0)
    rw [spec_l1Size.f, if_pos (by omega)]
  | succ m ih =>
    intro pre t h hm
    have hz := size_pre h
    cases t with
    | nil =>
      rw [List.length_nil] at hz
      refine Ev.step (f := fun _ => some 0) (fun k => ?_) (Ev.now 0)
      rw [spec_l1Size.f, if_pos (by omega)]
    | cons c t =>
      rw [List.length_cons] at hz hm
      have b0 : bt s ((pre.length : Nat) : Int) = (c : Int) := bt_pre h 0
      have b1 : bt s ((pre.length + 1 : Nat) : Int) = ((t.getD 0 0 : Nat) : Int) := bt_pre h 1
      have next : ∀ j, j ≤ t.length → Ev (fun k => spec_l1Size.f k s ((pre.length + (1 + j) : Nat) : Int)) (sz (t.drop j)) := by
        intro j hj
        have e : (pre ++ c :: t.take j).length = pre.length + (1 + j) := by
          rw [List.length_append, List.length_cons, List.length_take]
          omega
        rw [← e]
        exact ih _ _ (by rw [h]; simp) (by rw [List.length_drop]; omega)
      have p1 : wrap64 ((pre.length : Int) + 1) = ((pre.length + (1 + 0) : Nat) : Int) := by rw [wz (by omega) (by omega)]; omega
      have p2 : wrap64 ((pre.length : Int) + 2) = ((pre.length + (1 + 1) : Nat) : Int) := by rw [wz (by omega) (by omega)]; omega
      have z0 := sz_range t
      have one : ∀ k, spec_l1Size.f (k + 1) s (pre.length : Int) = if (c : Int) = 110 then spec_l1Size.j0 k s pre.length c true else spec_l1Size.j0 k s pre.length c ((c : Int) == 107) := by
        intro k
        rw [spec_l1Size.f, if_neg (by omega), if_pos (by omega), if_pos (by omega), b0]
      have lead : ∀ d : Nat, Ev (fun k => spec_l1Size.j0 k s pre.length d true) (more 1 (sz t)) := by
        intro d
        refine Ev.step (f := fun k => (spec_l1Size.f k s ((pre.length + (1 + 0) : Nat) : Int)).bind fun u => (spec_l1More.f 1 u).bind fun v => some v) (fun k => ?_) ?_
        · rw [spec_l1Size.j0, if_pos rfl, p1]
        · refine Ev.bind (next 0 (by omega)) (Ev.of_eq fun k => ?_)
          rw [List.drop_zero, more_any (by omega) (by omega) (by omega) (by omega), Option.bind_some]
      by_cases c0 : c = 110
      · subst c0
        rw [sz_next]
        refine Ev.step (f := fun k => spec_l1Size.j0 k s pre.length ((110 : Nat) : Int) true) (fun k => ?_) (lead 110)
        rw [one, if_pos (by omega)]
      by_cases c1 : c = 107
      · subst c1
        rw [sz_key]
        refine Ev.step (f := fun k => spec_l1Size.j0 k s pre.length ((107 : Nat) : Int) true) (fun k => ?_) (lead 107)
        rw [one, if_neg (by omega)]
        rfl
      have f1 : ((c : Int) == 107) = false := beq_eq_false_iff_ne.2 (by omega)
      refine Ev.step (f := fun k => spec_l1Size.j0 k s pre.length c false) (fun k => by rw [one, if_neg (by omega), f1]) ?_
      by_cases c2 : c = 109
      · subst c2
        by_cases g : 65 ≤ t.getD 0 0 ∧ t.getD 0 0 ≤ 72
        · have hl := Th.lt_of_getD (l := t) (i := 0) (by omega)
          have z1 := sz_range (t.drop 1)
          rw [List.length_drop] at z1
          rw [sz_say g]
          refine Ev.step (f := fun k => spec_l1Size.j1 k s pre.length false) (fun k => ?_) ?_
          · rw [spec_l1Size.j0, if_neg (by decide), if_pos (by omega), p1, if_neg (by omega), if_pos (by omega), if_pos (by omega), show pre.length + (1 + 0) = pre.length + 1 by omega, b1, if_neg (by omega), decide_eq_false (by omega)]
          · refine Ev.step (f := fun k => (spec_l1Size.f k s ((pre.length + (1 + 1) : Nat) : Int)).bind fun u => (spec_l1More.f 2 u).bind fun v => some v) (fun k => ?_) ?_
            · rw [spec_l1Size.j1, if_neg (by decide), p2]
            · refine Ev.bind (next 1 (by omega)) (Ev.of_eq fun k => ?_)
              rw [more_any (by omega) (by omega) (by omega) (by omega), Option.bind_some]
        · rw [sz_say_no g]
          have stop : ∀ k, spec_l1Size.j1 (k + 1) s pre.length true = some 0 := fun k => by rw [spec_l1Size.j1, if_pos rfl]
          refine Ev.step (f := fun k => spec_l1Size.j1 k s pre.length true) (fun k => ?_) (Ev.step (f := fun _ => some 0) stop (Ev.now 0))
          rw [spec_l1Size.j0, if_neg (by decide), if_pos (by omega), p1, show pre.length + (1 + 0) = pre.length + 1 by omega]
          by_cases q : ((pre.length + 1 : Nat) : Int) ≥ (s.size : Int)
          · rw [if_pos q]
          · rw [if_neg q, if_pos (by omega), if_pos (by omega), b1]
            by_cases q2 : ((t.getD 0 0 : Nat) : Int) < 65
            · rw [if_pos q2]
            · rw [if_neg q2, decide_eq_true (by omega)]
      by_cases c3 : c = 114
      · subst c3
        by_cases g : 49 ≤ t.getD 0 0 ∧ t.getD 0 0 ≤ 57
        · have hl := Th.lt_of_getD (l := t) (i := 0) (by omega)
          have z1 := sz_range (t.drop 1)
          rw [List.length_drop] at z1
          rw [sz_room g]
          refine Ev.step (f := fun k => spec_l1Size.j2 k s pre.length false) (fun k => ?_) ?_
          · rw [spec_l1Size.j0, if_neg (by decide), if_neg (by omega), if_pos (by omega), p1, if_neg (by omega), if_pos (by omega), if_pos (by omega), show pre.length + (1 + 0) = pre.length + 1 by omega, b1, if_neg (by omega), decide_eq_false (by omega)]
          · refine Ev.step (f := fun k => (spec_l1Size.f k s ((pre.length + (1 + 1) : Nat) : Int)).bind fun u => (spec_l1More.f 2 u).bind fun v => some v) (fun k => ?_) ?_
            · rw [spec_l1Size.j2, if_neg (by decide), p2]
            · refine Ev.bind (next 1 (by omega)) (Ev.of_eq fun k => ?_)
              rw [more_any (by omega) (by omega) (by omega) (by omega), Option.bind_some]
        · rw [sz_room_no g]
          have stop : ∀ k, spec_l1Size.j2 (k + 1) s pre.length true = some 0 := fun k => by rw [spec_l1Size.j2, if_pos rfl]
          refine Ev.step (f := fun k => spec_l1Size.j2 k s pre.length true) (fun k => ?_) (Ev.step (f := fun _ => some 0) stop (Ev.now 0))
          rw [spec_l1Size.j0, if_neg (by decide), if_neg (by omega), if_pos (by omega), p1, show pre.length + (1 + 0) = pre.length + 1 by omega]
          by_cases q : ((pre.length + 1 : Nat) : Int) ≥ (s.size : Int)
          · rw [if_pos q]
          · rw [if_neg q, if_pos (by omega), if_pos (by omega), b1]
            by_cases q2 : ((t.getD 0 0 : Nat) : Int) < 49
            · rw [if_pos q2]
            · rw [if_neg q2, decide_eq_true (by omega)]
      by_cases c4 : c = 101
      · subst c4
        refine Ev.step (f := fun k => (spec_l1Size.f k s ((pre.length + (1 + 0) : Nat) : Int)).bind fun u => if u = 0 then some 0 else (spec_l1Size.f k s (wrap64 (((pre.length + (1 + 0) : Nat) : Int) + u))).bind fun v => (spec_l1More.f (wrap64 (1 + u)) v).bind fun y => some y) (fun k => ?_) ?_
        · rw [spec_l1Size.j0, if_neg (by decide), if_neg (by omega), if_neg (by omega), if_pos (by omega), p1]
        · refine Ev.bind (next 0 (by omega)) ?_
          rw [List.drop_zero]
          by_cases g : sz t = 0
          · rw [sz_epoch_no g]
            exact Ev.of_eq fun k => by rw [if_pos g]
          · rw [sz_epoch g]
            obtain ⟨n, hn⟩ := Int.eq_ofNat_of_zero_le z0.1
            have z1 := sz_range (t.drop (sz t).toNat)
            rw [List.length_drop] at z1
            refine Ev.congr (f := fun k => (spec_l1Size.f k s ((pre.length + (1 + (sz t).toNat) : Nat) : Int)).bind fun v => (spec_l1More.f (1 + sz t) v).bind fun y => some y) (fun k => ?_) ?_
            · rw [if_neg g, wz (x := ((pre.length + (1 + 0) : Nat) : Int) + sz t) (by omega) (by omega), wz (x := 1 + sz t) (by omega) (by omega), show ((pre.length + (1 + 0) : Nat) : Int) + sz t = ((pre.length + (1 + (sz t).toNat) : Nat) : Int) by omega]
            · refine Ev.bind (next (sz t).toNat (by omega)) (Ev.of_eq fun k => ?_)
              rw [more_any (by omega) (by omega) (by omega) (by omega), Option.bind_some]
      rw [sz_fresh t c0 c1 c2 c3 c4]
      refine Ev.step (f := fun k => (spec_l1Fresh.f k s pre.length).bind fun u => some u) (fun k => ?_) ?_
      · rw [spec_l1Size.j0, if_neg (by decide), if_neg (by omega), if_neg (by omega), if_neg (by omega)]
      · exact Ev.bind (Ev.of (fun k => spec_l1Fresh.mono _ _ k) (fresh_20 h hs)) (Ev.now _)
theorem size_0 {s : ByteArray} (hs : s.size ≤ 1000000000000) : Ev (fun k => spec_l1Size.f k s 0) (sz (B s)) := size_ev hs (B s).length [] (B s) rfl (Nat.le_refl _)
theorem whole_sz {l : List Nat} (h : l ≠ []) : ((sz l == (l.length : Int)) : Bool) = (whole l).isSome := by
  have hp : 0 < l.length := List.length_pos_iff.2 h
  unfold whole
  cases g : hd l with
  | none =>
    rw [sz_none g]
    exact beq_eq_false_iff_ne.2 (by omega)
  | some p =>
    obtain ⟨a, r⟩ := p
    have hs := hd_short g
    rw [sz_some g]
    cases r with
    | nil => exact beq_iff_eq.2 (by rw [List.length_nil]; omega)
    | cons x y =>
      rw [List.length_cons] at hs ⊢
      exact beq_eq_false_iff_ne.2 (by omega)
/-- The reference says of a text that it is a name just if it is one. -/
theorem secOk_ev (s : ByteArray) : Ev (fun k => spec_SecOk.f k s) (nm s).isSome := by
  unfold spec_SecOk.f
  by_cases h0 : s = ⟨#[]⟩
  · subst h0
    refine Ev.of_eq fun k => ?_
    rw [if_pos (Th.toList_nil.2 rfl)]
    rfl
  · have hn : ¬ s.toList = ([] : List UInt8) := fun e => h0 (Th.toList_nil.1 e)
    by_cases h1 : s.size ≤ 300
    · refine Ev.congr (f := fun k => (spec_l1Size.f k s 0).bind fun u => some (u == (s.size : Int))) (fun k => ?_) ?_
      · rw [if_neg hn, if_pos (by omega)]
      · refine Ev.bind (size_0 (by omega)) (Ev.of_eq fun k => ?_)
        unfold nm
        rw [if_pos h1, ← Th.B_length, whole_sz (fun e => h0 (Th.B_eq_nil.1 e))]
    · refine Ev.of_eq fun k => ?_
      rw [if_neg hn, if_neg (by omega)]
      unfold nm
      rw [if_neg h1]
      rfl
end
end Go.Proofs.YtnemchmiplbopaaDoor.Pure
namespace Go.Proofs.YtnemchmiplbopaaDoor.Pure
section
open Go.RowKit Go.Proofs.YtnemchmiplbopaaDoor Go.Proofs.YtnemchmiplbopaaDoor.Xq Go.Proofs.YtnemchmiplbopaaDoorW.PrintWords Go.Proofs.YtnemchmiplbopaaDoorW.PrintLast
open Go.Proofs.YtnemchmiplbopaaDoor.Th (T B Nm nm dec hd prsNum whole)

theorem cut_ {s : ByteArray} {pre u v : List Nat} (h : B s = pre ++ (u ++ v)) (i j : Nat) (hi : i = pre.length) (hj : j = pre.length + u.length) : s.extract i j = T u := by
  subst hi hj
  rw [cut_pre h, List.take_left]
theorem cut_end {s : ByteArray} {pre u : List Nat} (h : B s = pre ++ u) (i : Nat) (hi : i = pre.length) : s.extract i s.size = T u :=
  cut_ (v := []) (by rw [List.append_nil]; exact h) i _ hi (by rw [← Th.B_length, h, List.length_append])
/-- What the fields tell of a name. -/
def tells (a : Nm) : Int × Int × Int × ByteArray × ByteArray := (a.op, a.who, a.num, T a.fst, T a.snd)
theorem how_new (w n : Nat) (hw : w < 8) (h1 : 1 ≤ n) (h2 : n ≤ 99) : spec_l1How.f 6 (T (Nm.new w n).enc) = some (tells (.new w n)) := by
  have : ∀ w : Fin 8, ∀ n : Fin 100, 1 ≤ n.1 → spec_l1How.f 6 (T (Nm.new w.1 n.1).enc) = some (tells (.new w.1 n.1)) := by decide +kernel
  exact this ⟨w, hw⟩ ⟨n, by omega⟩ h1
theorem how_ev {s : ByteArray} {a : Nm} (ha : a.ok = true) (hl : s.size ≤ 300) (h : B s = a.enc) : Ev (fun k => spec_l1How.f k s) (tells a) := by
  have hz : s.size = a.enc.length := by rw [← Th.B_length, h]
  have hp := Th.enc_pos a
  cases a with
  | new w n =>
    simp only [Nm.ok, Bool.and_eq_true, decide_eq_true_eq] at ha
    have e : s = T (Nm.new w n).enc := by rw [← h, Th.T_B]
    rw [e]
    exact Ev.of (fun k => spec_l1How.mono _ k) (how_new w n ha.1.1 ha.1.2 ha.2)
  | next a =>
    have b0 : bt s 0 = 110 := bt_pre (pre := []) h 0
    have hs : s.size = a.enc.length + 1 := hz
    refine Ev.of_eq fun k => ?_
    unfold spec_l1How.f
    rw [if_pos (by omega), b0, if_pos rfl, if_pos (by omega), cut_end (pre := [110]) h 1 rfl]
    rfl
  | key a =>
    have b0 : bt s 0 = 107 := bt_pre (pre := []) h 0
    have hs : s.size = a.enc.length + 1 := hz
    refine Ev.of_eq fun k => ?_
    unfold spec_l1How.f
    rw [if_pos (by omega), b0, if_neg (by decide), if_pos rfl, if_pos (by omega), cut_end (pre := [107]) h 1 rfl]
    rfl
  | say w a =>
    simp only [Nm.ok, Bool.and_eq_true, decide_eq_true_eq] at ha
    have b0 : bt s 0 = 109 := bt_pre (pre := []) h 0
    have b1 : bt s 1 = ((65 + w : Nat) : Int) := bt_pre (pre := []) h 1
    have hs : s.size = a.enc.length + 2 := hz
    have hw : (((65 + w : Nat) : Int) - 65) % 256 = (w : Int) := by omega
    refine Ev.of_eq fun k => ?_
    unfold spec_l1How.f
    rw [if_pos (by omega), b0, if_neg (by decide), if_neg (by decide), if_pos rfl, if_pos (by omega), if_pos (by omega), b1, hw, cut_end (pre := [109, 65 + w]) h 2 rfl]
    rfl
  | room r a =>
    simp only [Nm.ok, Bool.and_eq_true, decide_eq_true_eq] at ha
    have b0 : bt s 0 = 114 := bt_pre (pre := []) h 0
    have b1 : bt s 1 = ((48 + r : Nat) : Int) := bt_pre (pre := []) h 1
    have hs : s.size = a.enc.length + 2 := hz
    have hw : (((48 + r : Nat) : Int) - 48) % 256 = (r : Int) := by omega
    refine Ev.of_eq fun k => ?_
    unfold spec_l1How.f
    rw [if_pos (by omega), b0, if_neg (by decide), if_neg (by decide), if_neg (by decide), if_pos rfl, if_pos (by omega), if_pos (by omega), b1, hw, cut_end (pre := [114, 48 + r]) h 2 rfl]
    rfl
  | epoch a b =>
    simp only [Nm.ok, Bool.and_eq_true] at ha
    have b0 : bt s 0 = 101 := bt_pre (pre := []) h 0
    have hs : s.size = a.enc.length + b.enc.length + 1 := by rw [hz]; simp [Nm.enc]
    have hsz : sz (a.enc ++ b.enc) = (a.enc.length : Int) := by
      rw [sz_some (Th.hd_enc ha.1 b.enc), List.length_append]
      omega
    refine Ev.congr (f := fun k => (spec_l1Size.f k s (([101] : List Nat).length : Int)).bind fun u => if 1 ≤ wrap64 (1 + u) then if wrap64 (1 + u) ≤ (s.size : Int) then if 0 ≤ wrap64 (1 + u) then some ((4 : Int), (0 : Int), (0 : Int), s.extract 1 (wrap64 (1 + u)).toNat, s.extract (wrap64 (1 + u)).toNat s.size) else none else none else none) (fun k => ?_) ?_
    · unfold spec_l1How.f
      rw [if_pos (by omega), b0, if_neg (by decide), if_neg (by decide), if_neg (by decide), if_neg (by decide), if_pos rfl]
      rfl
    · refine Ev.bind (size_ev (by omega) _ [101] (a.enc ++ b.enc) h (Nat.le_refl _)) (Ev.of_eq fun k => ?_)
      rw [hsz, wz (by omega) (by omega), if_pos (by omega), if_pos (by omega), if_pos (by omega), show (1 + (a.enc.length : Int)).toNat = 1 + a.enc.length by omega]
      rw [cut_ (pre := [101]) (u := a.enc) (v := b.enc) h 1 (1 + a.enc.length) rfl rfl, cut_end (pre := 101 :: a.enc) (u := b.enc) h (1 + a.enc.length) (by rw [List.length_cons]; omega)]
      rfl
/-- What the reference tells of a text. -/
theorem implMade (s : ByteArray) : impl_SecMade.f s = some (match nm s with | some a => tells a | none => (0, 0, 0, ⟨#[]⟩, ⟨#[]⟩)) := by
  unfold impl_SecMade.f
  cases nm s <;> rfl
end
end Go.Proofs.YtnemchmiplbopaaDoor.Pure
namespace Go.Proofs.YtnemchmiplbopaaDoor.Pure
section
open Go.RowKit Go.Proofs.YtnemchmiplbopaaDoor Go.Proofs.YtnemchmiplbopaaDoor.Xq Go.Proofs.YtnemchmiplbopaaDoorW.PrintWords Go.Proofs.YtnemchmiplbopaaDoorW.PrintLast
open Go.Proofs.YtnemchmiplbopaaDoor.Th (T B Nm nm dec hd prsNum whole)

theorem rdT_at {l : List ByteArray} {i : Nat} (h : i < l.length) : rdOf ByteArray.empty l (i : Int) = l[i] := by
  unfold rdOf
  rw [Int.toNat_natCast, List.getD_eq_getElem?_getD, List.getElem?_eq_getElem h]
  rfl
theorem how_nm {s : ByteArray} {a : Nm} (h : nm s = some a) : Ev (fun k => spec_l1How.f k s) (tells a) := by
  obtain ⟨ha, hl, he⟩ := Th.nm_some.1 h
  exact how_ev ha hl (by rw [he, Th.B_T (Th.enc_lt a ha)])
theorem tre_j1 (l : List ByteArray) (i : Nat) (hi : i < 15) (b r : Bool) (h : Ev (fun k => spec_TreOk.l0 k ((i + 1 : Nat) : Int) l) r) : Ev (fun k => spec_TreOk.j1 k (i : Int) (!b) l) (b && r) := by
  cases b with
  | false => exact Ev.step (f := fun _ => some false) (fun k => by rw [spec_TreOk.j1, if_pos (by decide)]) (Ev.now _)
  | true =>
    refine Ev.step (fun k => ?_) (show Ev (fun k => spec_TreOk.l0 k ((i + 1 : Nat) : Int) l) (true && r) from h)
    rw [spec_TreOk.j1, if_neg (by decide), wz (x := (i : Int) + 1) (by omega) (by omega)]
    rfl
theorem tre_l0 (l : List ByteArray) (hl : l.length = 15) : ∀ (d i : Nat), 15 - i ≤ d → i ≤ 15 → Ev (fun k => spec_TreOk.l0 k (i : Int) l) ((l.drop i).all slotB) := by
  intro d
  induction d with
  | zero =>
    intro i h0 h1
    obtain rfl : i = 15 := by omega
    rw [List.drop_eq_nil_of_le (by omega)]
    exact Ev.step (f := fun _ => some true) (fun k => by rw [spec_TreOk.l0, if_neg (by omega)]) (Ev.now _)
  | succ d ih =>
    intro i h0 h1
    by_cases h : i < 15
    · have hi : i < l.length := by omega
      have e := ih (i + 1) (by omega) (by omega)
      rw [List.drop_eq_getElem_cons hi, List.all_cons]
      have st := fun b => tre_j1 l i h b _ e
      by_cases h2 : l[i] = ⟨#[]⟩
      · have s := st true
        rw [show slotB l[i] = true from if_pos h2]
        refine Ev.step (fun k => ?_) s
        rw [spec_TreOk.l0, if_pos (by omega), if_pos (by omega), if_pos (by omega), rdT_at hi, if_pos (Th.toList_nil.2 h2)]
        rfl
      · refine Ev.step (fun k => by rw [spec_TreOk.l0, if_pos (by omega), if_pos (by omega), if_pos (by omega), rdT_at hi, if_neg (fun e => h2 (Th.toList_nil.1 e))]) (Ev.bind (secOk_ev l[i]) ?_)
        cases hn : nm l[i] with
        | none =>
          have s := st false
          rw [show slotB l[i] = false by unfold slotB keyB; rw [if_neg h2, hn]]
          rw [Option.isSome_none]
          exact Ev.congr (fun k => if_neg (by decide)) s
        | some a =>
          have s := st (a.op == 3)
          rw [show slotB l[i] = (a.op == 3) by unfold slotB keyB; rw [if_neg h2, hn]]
          rw [Option.isSome_some]
          exact Ev.congr (fun k => if_pos rfl) (Ev.bind (how_nm hn) s)
    · obtain rfl : i = 15 := by omega
      rw [List.drop_eq_nil_of_le (by omega)]
      exact Ev.step (f := fun _ => some true) (fun k => by rw [spec_TreOk.l0, if_neg (by omega)]) (Ev.now _)
theorem specTreOk_ev (l : List ByteArray) : Ev (fun k => spec_TreOk.f k l) (treB l) := by
  unfold spec_TreOk.f treB
  by_cases h : l.length = 15
  · rw [decide_eq_true h, Bool.true_and]
    exact Ev.congr (fun k => if_pos (by omega)) (tre_l0 l h 15 0 (by omega) (by omega))
  · rw [decide_eq_false h, Bool.false_and]
    exact Ev.of_eq fun k => if_neg (by omega)
end
end Go.Proofs.YtnemchmiplbopaaDoor.Pure
namespace Go.Proofs.YtnemchmiplbopaaDoor.Pure
section
open Go.RowKit Go.Proofs.YtnemchmiplbopaaDoor Go.Proofs.YtnemchmiplbopaaDoor.Xq Go.Proofs.YtnemchmiplbopaaDoorW.PrintWords Go.Proofs.YtnemchmiplbopaaDoorW.PrintLast
open Go.Proofs.YtnemchmiplbopaaDoor.Th (T B Nm nm dec hd prsNum whole)

theorem rdB_at {l : List Bx} {i : Nat} (h : i < l.length) : rd_T45 l (i : Int) = l[i] := by
  unfold rd_T45
  rw [Int.toNat_natCast, List.getD_eq_getElem?_getD, List.getElem?_eq_getElem h]
  rfl
theorem boxes_l0 (l : List Bx) (hl : l.length ≤ 1000000) : ∀ (d i : Nat), l.length - i ≤ d → i ≤ l.length → Ev (fun k => spec_l2Boxes.l0 k l (i : Int)) ((l.drop i).all okBx) := by
  intro d
  induction d with
  | zero =>
    intro i h0 h1
    rw [List.drop_eq_nil_of_le (by omega)]
    exact Ev.step (f := fun _ => some true) (fun k => by rw [spec_l2Boxes.l0, if_neg (by omega)]) (Ev.now _)
  | succ d ih =>
    intro i h0 h1
    by_cases h : i < l.length
    · rw [List.drop_eq_getElem_cons h, List.all_cons]
      have es := secOk_ev l[i].f0
      have et := secOk_ev l[i].f1
      refine Ev.step (f := fun k => (spec_SecOk.f k l[i].f0).bind fun t => (if t = true then ((spec_SecOk.f k l[i].f1).bind fun t => (if t = true then (spec_l2Boxes.l0 k l ((i + 1 : Nat) : Int)) else (some false))) else (some false))) (fun k => by rw [spec_l2Boxes.l0, if_pos (by omega), if_pos (by omega), rdB_at h, wz (x := (i : Int) + 1) (by omega) (by omega)]; rfl) (Ev.bind es ?_)
      show Ev _ ((nm l[i].f0).isSome && (nm l[i].f1).isSome && _)
      cases hx : (nm l[i].f0).isSome with
      | false => rw [Bool.false_and, Bool.false_and]; exact Ev.of_eq fun k => if_neg Bool.false_ne_true
      | true =>
        rw [Bool.true_and]
        refine Ev.congr (fun k => if_pos rfl) (Ev.bind et ?_)
        cases hy : (nm l[i].f1).isSome with
        | true => rw [Bool.true_and]; exact Ev.congr (fun k => if_pos rfl) (ih (i + 1) (by omega) (by omega))
        | false => rw [Bool.false_and]; exact Ev.of_eq fun k => if_neg Bool.false_ne_true
    · rw [List.drop_eq_nil_of_le (by omega)]
      exact Ev.step (f := fun _ => some true) (fun k => by rw [spec_l2Boxes.l0, if_neg (by omega)]) (Ev.now _)
theorem l2Boxes_ev (l : List Bx) : Ev (fun k => spec_l2Boxes.f k l) (decide (l.length ≤ 400) && l.all okBx) := by
  by_cases h : l.length ≤ 400
  · rw [decide_eq_true h, Bool.true_and]
    exact Ev.congr (fun k => by unfold spec_l2Boxes.f; rw [if_neg (by omega)]; rfl) (boxes_l0 l (by omega) l.length 0 (by omega) (by omega))
  · rw [decide_eq_false h, Bool.false_and]
    exact Ev.of_eq fun k => by unfold spec_l2Boxes.f; rw [if_pos (by omega)]
end
end Go.Proofs.YtnemchmiplbopaaDoor.Pure
namespace Go.Proofs.YtnemchmiplbopaaDoor.Pure
section
open Go.RowKit Go.Proofs.YtnemchmiplbopaaDoor Go.Proofs.YtnemchmiplbopaaDoor.Xq Go.Proofs.YtnemchmiplbopaaDoorW.PrintWords Go.Proofs.YtnemchmiplbopaaDoorW.PrintLast

theorem evC {α : Type} {g : Nat → Option α} {r : α} (h : ∀ k, g k = some r) : Ev g r := ⟨0, fun k _ => h k⟩
theorem rdS_at {l : List ByteArray} {i : Nat} (h : i < l.length) : rdOf ByteArray.empty l (i : Int) = l[i] := by
  unfold rdOf
  rw [Int.toNat_natCast, List.getD_eq_getElem?_getD, List.getElem?_eq_getElem h]
  rfl
theorem sz_l0 (l : List ByteArray) (hs : ∀ z ∈ l, z.size ≤ 140737488351232) (hl : l.length ≤ 8796093022208) : ∀ (d i : Nat) (left : Int), l.length - i ≤ d → i ≤ l.length → 0 ≤ left → left ≤ 1048576 →
    ∃ r, Ev (fun k => laws_szStringS.l0 k l left (i : Int)) r ∧ r ≤ left ∧ (0 ≤ r → ∀ x ∈ l.drop i, (x.size : Int) ≤ left) := by
  intro d
  induction d with
  | zero =>
    intro i left h0 h1 g0 g1
    refine ⟨left, Ev.step (f := fun _ => some left) (fun k => by rw [laws_szStringS.l0, if_neg (by omega)]) (Ev.now _), Int.le_refl _, fun _ x hx => ?_⟩
    rw [List.drop_eq_nil_of_le (by omega)] at hx
    cases hx
  | succ d ih =>
    intro i left h0 h1 g0 g1
    by_cases h : i < l.length
    · have hz := hs l[i] (List.getElem_mem h)
      have w1 : wrap64 (left - (l[i].size : Int)) = left - (l[i].size : Int) := wz (by omega) (by omega)
      by_cases hn : left - (l[i].size : Int) < 0
      · refine ⟨-1, Ev.step (f := fun _ => some (-1)) (fun k => by rw [laws_szStringS.l0, if_pos (by omega), if_pos (by omega), rdS_at h, w1, if_pos hn]) (Ev.now _), by omega, fun h => absurd h (by decide)⟩
      · obtain ⟨r, e, h2, h3⟩ := ih (i + 1) (left - (l[i].size : Int)) (by omega) (by omega) (by omega) (by omega)
        refine ⟨r, Ev.step (f := fun k => laws_szStringS.l0 k l (left - (l[i].size : Int)) ((i + 1 : Nat) : Int)) (fun k => by rw [laws_szStringS.l0, if_pos (by omega), if_pos (by omega), rdS_at h, w1, if_neg hn, wz (x := (i : Int) + 1) (by omega) (by omega)]; rfl) e, by omega, fun hr x hx => ?_⟩
        rw [List.drop_eq_getElem_cons h] at hx
        rcases List.mem_cons.1 hx with rfl | hx
        · omega
        · have := h3 hr x hx
          omega
    · refine ⟨left, Ev.step (f := fun _ => some left) (fun k => by rw [laws_szStringS.l0, if_neg (by omega)]) (Ev.now _), Int.le_refl _, fun _ x hx => ?_⟩
      rw [List.drop_eq_nil_of_le (by omega)] at hx
      cases hx
/-- How much room is left behind a slice of texts: less than none, or there is as much as they bear. -/
theorem szS_ev (l : List ByteArray) (g : l.length * 16 ≤ 140737488351232 ∧ l.length ≤ maxLen ∧ ∀ z_ ∈ l, z_.size ≤ 140737488351232) (left : Int) (h0 : 0 ≤ left) (h1 : left ≤ 1048576) :
    ∃ r, Ev (fun k => laws_szStringS.f k l left) r ∧ r ≤ left ∧ (0 ≤ r → (l.length : Int) ≤ left ∧ ∀ x ∈ l, (x.size : Int) ≤ left) := by
  obtain ⟨g1, _, g2⟩ := g
  have w1 : wrap64 (left - (l.length : Int)) = left - (l.length : Int) := wz (by omega) (by omega)
  by_cases hn : left - (l.length : Int) < 0
  · refine ⟨-1, evC fun k => ?_, by omega, fun h => absurd h (by decide)⟩
    unfold laws_szStringS.f
    rw [w1, if_pos hn]
  · obtain ⟨r, e, h2, h3⟩ := sz_l0 l g2 (by omega) l.length 0 (left - (l.length : Int)) (by omega) (by omega) (by omega) (by omega)
    refine ⟨r, Ev.congr (fun k => ?_) e, by omega, fun hr => ⟨by omega, fun x hx => ?_⟩⟩
    · unfold laws_szStringS.f
      rw [w1, if_neg hn]
      rfl
    · have := h3 hr x (by rw [List.drop_zero]; exact hx)
      omega
theorem toS_l0 (l : List ByteArray) (hl : l.length ≤ 1048576) : ∀ (d i : Nat) (acc : List ByteArray), l.length - i ≤ d → i ≤ l.length → acc.length = l.length → (∀ j, j < i → acc[j]? = l[j]?) → Ev (fun k => laws_toStringS.l0 k l acc (i : Int)) l := by
  intro d
  induction d with
  | zero =>
    intro i acc h0 h1 ha hj
    have : acc = l := List.ext_getElem? fun j => by
      by_cases h : j < i
      · exact hj j h
      · rw [List.getElem?_eq_none (by omega), List.getElem?_eq_none (by omega)]
    subst this
    exact Ev.step (f := fun _ => some acc) (fun k => by rw [laws_toStringS.l0, if_neg (by omega)]) (Ev.now _)
  | succ d ih =>
    intro i acc h0 h1 ha hj
    by_cases h : i < l.length
    · refine Ev.step (f := fun k => laws_toStringS.l0 k l (acc.set i l[i]) ((i + 1 : Nat) : Int)) (fun k => by rw [laws_toStringS.l0, if_pos (by omega), if_pos (by omega), if_pos (by omega), rdS_at h, wz (x := (i : Int) + 1) (by omega) (by omega), Int.toNat_natCast]; rfl) (ih (i + 1) (acc.set i l[i]) (by omega) (by omega) (by rw [List.length_set]; exact ha) fun j hlt => ?_)
      rw [List.getElem?_set]
      by_cases hji : i = j
      · subst hji
        rw [if_pos rfl, if_pos (by omega), List.getElem?_eq_getElem h]
      · rw [if_neg hji]
        exact hj j (by omega)
    · have : acc = l := List.ext_getElem? fun j => by
        by_cases h : j < i
        · exact hj j h
        · rw [List.getElem?_eq_none (by omega), List.getElem?_eq_none (by omega)]
      subst this
      exact Ev.step (f := fun _ => some acc) (fun k => by rw [laws_toStringS.l0, if_neg (by omega)]) (Ev.now _)
theorem toS_ev (l : List ByteArray) (hl : l.length ≤ 1048576) : Ev (fun k => laws_toStringS.f k l) l := by
  refine Ev.congr (fun k => ?_) (toS_l0 l hl l.length 0 (List.replicate l.length (⟨#[]⟩ : ByteArray)) (by omega) (by omega) (by simp) (fun j h => by omega))
  unfold laws_toStringS.f
  rw [if_pos (by omega), if_pos (by omega), Int.toNat_natCast]
  rfl
theorem eqS_l0 (l : List ByteArray) (hl : l.length ≤ 8796093022208) : ∀ (d i : Nat), l.length - i ≤ d → i ≤ l.length → Ev (fun k => laws_eqStringS.l0 k l l (i : Int)) true := by
  intro d
  induction d with
  | zero => intro i h0 h1; exact Ev.step (f := fun _ => some true) (fun k => by rw [laws_eqStringS.l0, if_neg (by omega)]) (Ev.now _)
  | succ d ih =>
    intro i h0 h1
    by_cases h : i < l.length
    · exact Ev.step (f := fun k => laws_eqStringS.l0 k l l ((i + 1 : Nat) : Int)) (fun k => by rw [laws_eqStringS.l0, if_pos (by omega), if_pos (by omega), if_pos (by omega), if_pos rfl, wz (x := (i : Int) + 1) (by omega) (by omega)]; rfl) (ih (i + 1) (by omega) (by omega))
    · exact Ev.step (f := fun _ => some true) (fun k => by rw [laws_eqStringS.l0, if_neg (by omega)]) (Ev.now _)
theorem eqS_ev (l : List ByteArray) (hl : l.length ≤ 8796093022208) : Ev (fun k => laws_eqStringS.f k l l) true :=
  Ev.congr (fun k => by unfold laws_eqStringS.f; rw [if_pos rfl]; rfl) (eqS_l0 l hl l.length 0 (by omega) (by omega))
end
end Go.Proofs.YtnemchmiplbopaaDoor.Pure
namespace Go.Proofs.YtnemchmiplbopaaDoor.Pure
section
open Go.RowKit Go.Proofs.YtnemchmiplbopaaDoor Go.Proofs.YtnemchmiplbopaaDoor.Xq Go.Proofs.YtnemchmiplbopaaDoorW.PrintWords Go.Proofs.YtnemchmiplbopaaDoorW.PrintLast

abbrev Kx := S38
theorem rdKx_at {l : List Kx} {i : Nat} (h : i < l.length) : rd_T38 l (i : Int) = l[i] := by
  unfold rd_T38
  rw [Int.toNat_natCast, List.getD_eq_getElem?_getD, List.getElem?_eq_getElem h]
  rfl
theorem szKnwBox_ev (x y : ByteArray) (hx : x.size ≤ 140737488351232) (hy : y.size ≤ 140737488351232) (left : Int) (h0 : 0 ≤ left) (h1 : left ≤ 1048576) : ∃ r, laws_szKnwBox.f x y left = some r ∧ r ≤ left ∧ -1 ≤ r := by
  unfold laws_szKnwBox.f
  have w1 : wrap64 (left - (x.size : Int)) = left - (x.size : Int) := wz (by omega) (by omega)
  have w2 : wrap64 (left - (x.size : Int) - (y.size : Int)) = left - (x.size : Int) - (y.size : Int) := wz (by omega) (by omega)
  rw [w1, w2]
  by_cases ha : left - (x.size : Int) < 0
  · exact ⟨-1, if_pos ha, by omega, by omega⟩
  · by_cases hb : left - (x.size : Int) - (y.size : Int) < 0
    · exact ⟨-1, by rw [if_neg ha, if_pos hb], by omega, by omega⟩
    · exact ⟨_, by rw [if_neg ha, if_neg hb], by omega, by omega⟩
theorem szB_l0 (l : List Kx) (hs : ∀ z ∈ l, z.f0.size ≤ 140737488351232 ∧ z.f1.size ≤ 140737488351232) (hl : l.length ≤ 8796093022208) : ∀ (d i : Nat) (left : Int), l.length - i ≤ d → i ≤ l.length → 0 ≤ left → left ≤ 1048576 →
    ∃ r, Ev (fun k => laws_szKnwBoxS.l0 k l left (i : Int)) r ∧ r ≤ left := by
  intro d
  induction d with
  | zero =>
    intro i left h0 h1 g0 g1
    exact ⟨left, Ev.step (f := fun _ => some left) (fun k => by rw [laws_szKnwBoxS.l0, if_neg (by omega)]) (Ev.now _), Int.le_refl _⟩
  | succ d ih =>
    intro i left h0 h1 g0 g1
    by_cases h : i < l.length
    · obtain ⟨z1, z2⟩ := hs l[i] (List.getElem_mem h)
      obtain ⟨r, e, r1, r2⟩ := szKnwBox_ev l[i].f0 l[i].f1 z1 z2 left g0 g1
      by_cases hn : r < 0
      · exact ⟨-1, Ev.step (f := fun _ => some (-1)) (fun k => by rw [laws_szKnwBoxS.l0, if_pos (by omega), if_pos (by omega), rdKx_at h, e, Option.bind_some, if_pos hn]) (Ev.now _), by omega⟩
      · obtain ⟨r', e', r3⟩ := ih (i + 1) r (by omega) (by omega) (by omega) (by omega)
        exact ⟨r', Ev.step (f := fun k => laws_szKnwBoxS.l0 k l r ((i + 1 : Nat) : Int)) (fun k => by rw [laws_szKnwBoxS.l0, if_pos (by omega), if_pos (by omega), rdKx_at h, e, Option.bind_some, if_neg hn, wz (x := (i : Int) + 1) (by omega) (by omega)]; rfl) e', by omega⟩
    · exact ⟨left, Ev.step (f := fun _ => some left) (fun k => by rw [laws_szKnwBoxS.l0, if_neg (by omega)]) (Ev.now _), Int.le_refl _⟩
theorem szB_ev (l : List Kx) (g : l.length * 32 ≤ 140737488351232 ∧ l.length ≤ maxLen ∧ ∀ z_ ∈ l, (z_.f0.size ≤ 140737488351232 ∧ z_.f1.size ≤ 140737488351232)) (left : Int) (h0 : 0 ≤ left) (h1 : left ≤ 1048576) :
    ∃ r, Ev (fun k => laws_szKnwBoxS.f k l left) r ∧ r ≤ left ∧ (0 ≤ r → (l.length : Int) ≤ left) := by
  obtain ⟨g1, _, g2⟩ := g
  have w1 : wrap64 (left - (l.length : Int)) = left - (l.length : Int) := wz (by omega) (by omega)
  by_cases hn : left - (l.length : Int) < 0
  · refine ⟨-1, evC fun k => ?_, by omega, fun h => absurd h (by decide)⟩
    unfold laws_szKnwBoxS.f
    rw [w1, if_pos hn]
  · obtain ⟨r, e, h2⟩ := szB_l0 l g2 (by omega) l.length 0 (left - (l.length : Int)) (by omega) (by omega) (by omega) (by omega)
    refine ⟨r, Ev.congr (fun k => ?_) e, by omega, fun hr => by omega⟩
    unfold laws_szKnwBoxS.f
    rw [w1, if_neg hn]
    rfl
def conv (l : List Kx) : List Bx := l.map fun x => ⟨x.f0, x.f1⟩
theorem conv_len (l : List Kx) : (conv l).length = l.length := by unfold conv; rw [List.length_map]
theorem toB_l0 (l : List Kx) (hl : l.length ≤ 1048576) : ∀ (d i : Nat) (acc : List Bx), l.length - i ≤ d → i ≤ l.length → acc.length = l.length → (∀ j, j < i → acc[j]? = (conv l)[j]?) → Ev (fun k => laws_toKnwBoxS.l0 k l acc (i : Int)) (conv l) := by
  have fin : ∀ (i : Nat) (acc : List Bx), l.length ≤ i → acc.length = l.length → (∀ j, j < i → acc[j]? = (conv l)[j]?) → Ev (fun k => laws_toKnwBoxS.l0 k l acc (i : Int)) (conv l) := by
    intro i acc h1 ha hj
    have : acc = conv l := List.ext_getElem? fun j => by
      by_cases h : j < i
      · exact hj j h
      · rw [List.getElem?_eq_none (by omega), List.getElem?_eq_none (by rw [conv_len]; omega)]
    subst this
    exact Ev.step (f := fun _ => some (conv l)) (fun k => by rw [laws_toKnwBoxS.l0, if_neg (by omega)]) (Ev.now _)
  intro d
  induction d with
  | zero => intro i acc h0 h1 ha hj; exact fin i acc (by omega) ha hj
  | succ d ih =>
    intro i acc h0 h1 ha hj
    by_cases h : i < l.length
    · have w1 : wrap64 ((i : Int) + 1) = ((i + 1 : Nat) : Int) := wz (x := (i : Int) + 1) (by omega) (by omega)
      refine Ev.step (f := fun k => laws_toKnwBoxS.l0 k l (acc.set i ⟨l[i].f0, l[i].f1⟩) ((i + 1 : Nat) : Int)) (fun k => by rw [laws_toKnwBoxS.l0, if_pos (by omega), if_pos (by omega), rdKx_at h, laws_toKnwBox.f, Option.bind_some, if_pos (by omega), w1, Int.toNat_natCast]) (ih (i + 1) (acc.set i ⟨l[i].f0, l[i].f1⟩) (by omega) (by omega) (by rw [List.length_set]; exact ha) fun j hlt => ?_)
      rw [List.getElem?_set]
      by_cases hji : i = j
      · subst hji
        rw [if_pos rfl, if_pos (by omega)]
        unfold conv
        rw [List.getElem?_map, List.getElem?_eq_getElem h]
        rfl
      · rw [if_neg hji]
        exact hj j (by omega)
    · exact fin i acc (by omega) ha hj
theorem toB_ev (l : List Kx) (hl : l.length ≤ 1048576) : Ev (fun k => laws_toKnwBoxS.f k l) (conv l) := by
  refine Ev.congr (fun k => ?_) (toB_l0 l hl l.length 0 (List.replicate l.length z45) (by omega) (by omega) (by simp) (fun j h => by omega))
  unfold laws_toKnwBoxS.f
  rw [if_pos (by omega), if_pos (by omega), Int.toNat_natCast]
  rfl
theorem eqB_l0 (l : List Bx) (hl : l.length ≤ 1000000000) : ∀ (d i : Nat), l.length - i ≤ d → i ≤ l.length → Ev (fun k => laws_eqKnwBoxS.l0 k l l (i : Int)) true := by
  intro d
  induction d with
  | zero => intro i h0 h1; exact Ev.step (f := fun _ => some true) (fun k => by rw [laws_eqKnwBoxS.l0, if_neg (by omega)]) (Ev.now _)
  | succ d ih =>
    intro i h0 h1
    by_cases h : i < l.length
    · exact Ev.step (f := fun k => laws_eqKnwBoxS.l0 k l l ((i + 1 : Nat) : Int)) (fun k => by rw [laws_eqKnwBoxS.l0, if_pos (by omega), if_pos (by omega), if_pos (by omega), laws_eqKnwBox.f, if_pos rfl, if_pos rfl, Option.bind_some, if_pos rfl, wz (x := (i : Int) + 1) (by omega) (by omega)]; rfl) (ih (i + 1) (by omega) (by omega))
    · exact Ev.step (f := fun _ => some true) (fun k => by rw [laws_eqKnwBoxS.l0, if_neg (by omega)]) (Ev.now _)
theorem eqB_ev (l : List Bx) (hl : l.length ≤ 1000000000) : Ev (fun k => laws_eqKnwBoxS.f k l l) true :=
  Ev.congr (fun k => by unfold laws_eqKnwBoxS.f; rw [if_pos rfl]; rfl) (eqB_l0 l hl l.length 0 (by omega) (by omega))
end
end Go.Proofs.YtnemchmiplbopaaDoor.Pure
namespace Go.Proofs.YtnemchmiplbopaaDoor.Pure
section
open Go.RowKit Go.Proofs.YtnemchmiplbopaaDoor Go.Proofs.YtnemchmiplbopaaDoor.Xq Go.Proofs.YtnemchmiplbopaaDoorW.PrintWords Go.Proofs.YtnemchmiplbopaaDoorW.PrintLast
open Go.Proofs.YtnemchmiplbopaaDoor.Th (T B Nm nm dec hd prsNum whole)

theorem in_spec (x a b : Int) : spec_l1In.f x a b = some (decide (a ≤ x ∧ x ≤ b)) := by
  unfold spec_l1In.f
  by_cases h1 : x ≥ a
  · rw [if_pos h1]; congr 1; simp; omega
  · rw [if_neg h1, decide_eq_false (by omega)]
theorem in_impl (x a b : Int) : impl_in.f x a b = some (decide (a ≤ x ∧ x ≤ b)) := by
  unfold impl_in.f
  by_cases h1 : x ≥ a
  · rw [if_pos h1]; congr 1; simp; omega
  · rw [if_neg h1, decide_eq_false (by omega)]
theorem isOne_is (x : Int) : impl_isOne.f x = some (decide (0 ≤ x ∧ x ≤ 7)) := by
  unfold impl_isOne.f
  rw [in_impl]
  rfl
theorem l4Key_ev (s : ByteArray) : Ev (fun k => spec_l4Key.f k s) (keyB s) := by
  unfold spec_l4Key.f keyB
  refine Ev.bind (secOk_ev s) ?_
  cases hn : nm s with
  | none => exact Ev.of_eq fun k => if_neg (by decide)
  | some a => exact Ev.congr (fun k => if_pos rfl) (Ev.bind (how_nm hn) (Ev.now _))
theorem isKey_is (s : ByteArray) : Go.Proofs.YtnemchmiplbopaaDoor.Xq.impl_isKey.f s = some (keyB s) := by
  unfold Go.Proofs.YtnemchmiplbopaaDoor.Xq.impl_isKey.f keyB
  rw [implMade, Option.bind_some]
  cases nm s <;> rfl
/-- One who is nobody, or one other than who sends. -/
theorem someone_yes {a x : Int} (h : -1 ≤ a ∧ a ≤ 7) (hx : a ≠ x) : impl_someone.f a x = some true := by
  unfold impl_someone.f
  by_cases h1 : a = -1
  · rw [if_pos h1]
  · rw [if_neg h1, isOne_is, decide_eq_true (by omega), Option.bind_some, if_pos rfl, bne_iff_ne.2 hx]
theorem someone_no {a x : Int} (hx : 0 ≤ x) (h : ¬ ((-1 ≤ a ∧ a ≤ 7) ∧ a ≠ x)) : impl_someone.f a x = some false := by
  unfold impl_someone.f
  rw [if_neg (by omega), isOne_is]
  by_cases h1 : 0 ≤ a ∧ a ≤ 7
  · rw [decide_eq_true h1, Option.bind_some, if_pos rfl, bne_eq_false_iff_eq.2 (by omega)]
  · rw [decide_eq_false h1, Option.bind_some, if_neg Bool.false_ne_true]
section
variable (x : Int) (tag name : ByteArray) (add rem : Int) (leaf : ByteArray) (keys : List ByteArray) (boxes : List Bx) (k0 k1 k2 k3 k4 : ByteArray)
/-- What a commit must be, behind who sends it, and its names. -/
def tailB : Bool := if add < 0 then (if leaf.toList = ([] : List UInt8) then (k0.toList == ([] : List UInt8) && ((k1.toList == ([] : List UInt8) && (k2.toList == ([] : List UInt8))) && ((k3.toList == ([] : List UInt8) && (k4.toList == ([] : List UInt8)))))) else false)
  else (if keyB leaf = true then (if keyB k0 = true then (if leaf.toList = k0.toList then false else (if k1.toList = k0.toList then (if k3.toList = k0.toList then (if okB k2 = true then okB k4 else false) else false) else false)) else false) else false)
theorem spec_j1 : Ev (fun k => spec_CmtOk.j1 k false x tag name add rem leaf keys boxes k0 k1 k2 k3 k4) (tailB add leaf k0 k1 k2 k3 k4) := by
  unfold tailB
  by_cases ha : add < 0
  · rw [if_pos ha]
    by_cases hl : leaf.toList = ([] : List UInt8)
    · rw [if_pos hl]
      exact Ev.step (f := fun _ => some _) (fun k => by rw [spec_CmtOk.j1, if_neg Bool.false_ne_true, if_pos ha, if_pos hl]) (Ev.now _)
    · rw [if_neg hl]
      exact Ev.step (f := fun _ => some false) (fun k => by rw [spec_CmtOk.j1, if_neg Bool.false_ne_true, if_pos ha, if_neg hl]) (Ev.now _)
  · rw [if_neg ha]
    refine Ev.step (fun k => by rw [spec_CmtOk.j1, if_neg Bool.false_ne_true, if_neg ha]) (Ev.bind (l4Key_ev leaf) ?_)
    cases h1 : keyB leaf with
    | false => rw [if_neg Bool.false_ne_true]; exact Ev.of_eq fun k => if_neg Bool.false_ne_true
    | true =>
      rw [if_pos rfl]
      refine Ev.congr (fun k => if_pos rfl) (Ev.bind (l4Key_ev k0) ?_)
      cases h2 : keyB k0 with
      | false => rw [if_neg Bool.false_ne_true]; exact Ev.of_eq fun k => if_neg Bool.false_ne_true
      | true =>
        rw [if_pos rfl]
        refine Ev.congr (fun k => if_pos rfl) ?_
        by_cases h3 : leaf.toList = k0.toList
        · rw [if_pos h3]; exact Ev.of_eq fun k => if_pos h3
        · rw [if_neg h3]
          refine Ev.congr (fun k => if_neg h3) ?_
          by_cases h4 : k1.toList = k0.toList
          · rw [if_pos h4]
            refine Ev.congr (fun k => if_pos h4) ?_
            by_cases h5 : k3.toList = k0.toList
            · rw [if_pos h5]
              refine Ev.congr (fun k => if_pos h5) (Ev.bind (secOk_ev k2) ?_)
              show Ev _ (if okB k2 = true then okB k4 else false)
              unfold okB
              cases h6 : (nm k2).isSome with
              | false => rw [if_neg Bool.false_ne_true]; exact Ev.of_eq fun k => if_neg Bool.false_ne_true
              | true => rw [if_pos rfl]; exact Ev.congr (fun k => if_pos rfl) (Ev.bind (secOk_ev k4) (Ev.now _))
            · rw [if_neg h5]; exact Ev.of_eq fun k => if_neg h5
          · rw [if_neg h4]; exact Ev.of_eq fun k => if_neg h4
theorem impl_tail : Ev (fun k => (impl_twoKeys.f add leaf k0).bind fun t233 => (impl_CmtOk.j0 k (!t233) x tag name add rem leaf keys boxes k0 k1 k2 k3 k4 k0 k1 k2 k3 k4)) (tailB add leaf k0 k1 k2 k3 k4) := by
  have no : Ev (fun k => impl_CmtOk.j0 k true x tag name add rem leaf keys boxes k0 k1 k2 k3 k4 k0 k1 k2 k3 k4) false := Ev.step (f := fun _ => some false) (fun k => by rw [impl_CmtOk.j0, if_pos rfl]) (Ev.now _)
  unfold tailB
  by_cases ha : add < 0
  · rw [if_pos ha]
    by_cases hl : leaf.toList = ([] : List UInt8)
    · rw [if_pos hl]
      by_cases hk : k0.toList = ([] : List UInt8)
      · refine Ev.congr (f := fun k => impl_CmtOk.j0 k false x tag name add rem leaf keys boxes k0 k1 k2 k3 k4 k0 k1 k2 k3 k4) (fun k => by rw [impl_twoKeys.f, if_pos ha, if_pos hl, Option.bind_some, beq_iff_eq.2 hk]; rfl) ?_
        exact Ev.step (f := fun _ => some _) (fun k => by rw [impl_CmtOk.j0, if_neg Bool.false_ne_true, if_pos ha]) (Ev.now _)
      · rw [beq_eq_false_iff_ne.2 hk, Bool.false_and]
        exact Ev.congr (fun k => by rw [impl_twoKeys.f, if_pos ha, if_pos hl, Option.bind_some, beq_eq_false_iff_ne.2 hk]; rfl) no
    · rw [if_neg hl]
      exact Ev.congr (fun k => by rw [impl_twoKeys.f, if_pos ha, if_neg hl, Option.bind_some]; rfl) no
  · rw [if_neg ha]
    cases h1 : keyB leaf with
    | false => rw [if_neg Bool.false_ne_true]; exact Ev.congr (fun k => by rw [impl_twoKeys.f, if_neg ha, isKey_is, h1, Option.bind_some, if_neg Bool.false_ne_true, Option.bind_some]; rfl) no
    | true =>
      rw [if_pos rfl]
      cases h2 : keyB k0 with
      | false => rw [if_neg Bool.false_ne_true]; exact Ev.congr (fun k => by rw [impl_twoKeys.f, if_neg ha, isKey_is, h1, Option.bind_some, if_pos rfl, isKey_is, h2, Option.bind_some, if_neg Bool.false_ne_true, Option.bind_some]; rfl) no
      | true =>
        rw [if_pos rfl]
        by_cases h3 : leaf.toList = k0.toList
        · rw [if_pos h3]
          exact Ev.congr (fun k => by rw [impl_twoKeys.f, if_neg ha, isKey_is, h1, Option.bind_some, if_pos rfl, isKey_is, h2, Option.bind_some, if_pos rfl, Option.bind_some, bne_eq_false_iff_eq.2 h3]; rfl) no
        · rw [if_neg h3]
          refine Ev.congr (f := fun k => impl_CmtOk.j0 k false x tag name add rem leaf keys boxes k0 k1 k2 k3 k4 k0 k1 k2 k3 k4) (fun k => by rw [impl_twoKeys.f, if_neg ha, isKey_is, h1, Option.bind_some, if_pos rfl, isKey_is, h2, Option.bind_some, if_pos rfl, Option.bind_some, bne_iff_ne.2 h3]; rfl) ?_
          refine Ev.step (f := fun _ => some _) (fun k => ?_) (Ev.now _)
          rw [impl_CmtOk.j0, if_neg Bool.false_ne_true, if_neg ha]
          by_cases h4 : k1.toList = k0.toList
          · rw [if_pos h4, if_pos h4]
            by_cases h5 : k3.toList = k0.toList
            · rw [if_pos h5, if_pos h5, impl_SecOk.f, Option.bind_some, impl_SecOk.f, Option.bind_some]
              show (if okB k2 = true then some (okB k4) else some false) = some (if okB k2 = true then okB k4 else false)
              cases okB k2 <;> rfl
            · rw [if_neg h5, if_neg h5]
          · rw [if_neg h4, if_neg h4]
theorem cmt_both : ∃ b, Ev (fun k => spec_CmtOk.f k x tag name add rem leaf keys boxes k0 k1 k2 k3 k4) b ∧ Ev (fun k => impl_CmtOk.f k x tag name add rem leaf keys boxes k0 k1 k2 k3 k4) b := by
  have noS : Ev (fun k => spec_CmtOk.j0 k true x tag name add rem leaf keys boxes k0 k1 k2 k3 k4) false := Ev.step (f := fun _ => some false) (fun k => by rw [spec_CmtOk.j0, if_pos rfl]) (Ev.now _)
  have noT : Ev (fun k => spec_CmtOk.j1 k true x tag name add rem leaf keys boxes k0 k1 k2 k3 k4) false := Ev.step (f := fun _ => some false) (fun k => by rw [spec_CmtOk.j1, if_pos rfl]) (Ev.now _)
  have noI : Ev (fun k => impl_CmtOk.j0 k true x tag name add rem leaf keys boxes k0 k1 k2 k3 k4 k0 k1 k2 k3 k4) false := Ev.step (f := fun _ => some false) (fun k => by rw [impl_CmtOk.j0, if_pos rfl]) (Ev.now _)
  have eo := secOk_ev name
  unfold spec_CmtOk.f impl_CmtOk.f
  by_cases hx : 0 ≤ x ∧ x ≤ 7
  · cases hn : nm name with
    | none =>
      rw [hn] at eo
      refine ⟨false, Ev.congr (fun k => by rw [in_spec, decide_eq_true hx, Option.bind_some, if_pos rfl]) (Ev.bind eo (Ev.congr (fun k => if_neg Bool.false_ne_true) noS)), Ev.congr (fun k => ?_) noI⟩
      rw [isOne_is, decide_eq_true hx, Option.bind_some, if_pos rfl, implMade, hn, Option.bind_some]
      exact if_neg (c := (0 : Int) = 1) (by decide)
    | some a =>
      rw [hn] at eo
      have eh := how_nm hn
      by_cases h1 : a.op = 1
      · have s0 : ∀ {b : Bool} {g : Nat → Option Bool}, Ev (fun k => if (wrap64 ((tag.size : Int) + (name.size : Int))) > 300 then (spec_CmtOk.j0 k true x tag name add rem leaf keys boxes k0 k1 k2 k3 k4) else g k) b → Ev (fun k => if (tells a).1 = 1 then (if (wrap64 ((tag.size : Int) + (name.size : Int))) > 300 then (spec_CmtOk.j0 k true x tag name add rem leaf keys boxes k0 k1 k2 k3 k4) else g k) else (spec_CmtOk.j0 k true x tag name add rem leaf keys boxes k0 k1 k2 k3 k4)) b := fun h => Ev.congr (fun k => if_pos (show (tells a).1 = 1 from h1)) h
        by_cases hz : (wrap64 ((tag.size : Int) + (name.size : Int))) > 300
        · refine ⟨false, Ev.congr (fun k => by rw [in_spec, decide_eq_true hx, Option.bind_some, if_pos rfl]) (Ev.bind eo (Ev.congr (fun k => if_pos rfl) (Ev.bind eh (Ev.congr (fun k => by rw [if_pos (show (tells a).1 = 1 from h1), if_pos hz]) noS)))), Ev.congr (fun k => ?_) noI⟩
          rw [isOne_is, decide_eq_true hx, Option.bind_some, if_pos rfl, implMade, hn, Option.bind_some]
          exact (if_pos (show (tells a).1 = 1 from h1)).trans (if_pos hz)
        · by_cases hA : (-1 ≤ add ∧ add ≤ 7) ∧ add ≠ x
          · by_cases hR : (-1 ≤ rem ∧ rem ≤ 7) ∧ rem ≠ x
            · have et := specTreOk_ev keys
              have eb := l2Boxes_ev boxes
              have goS : ∀ {b : Bool}, Ev (fun k => spec_CmtOk.j0 k false x tag name add rem leaf keys boxes k0 k1 k2 k3 k4) b → Ev (fun k => spec_CmtOk.f k x tag name add rem leaf keys boxes k0 k1 k2 k3 k4) b := fun h => by
                unfold spec_CmtOk.f
                refine Ev.congr (fun k => by rw [in_spec, decide_eq_true hx, Option.bind_some, if_pos rfl]) (Ev.bind eo (Ev.congr (fun k => if_pos rfl) (Ev.bind eh (Ev.congr (fun k => ?_) h))))
                rw [if_pos (show (tells a).1 = 1 from h1), if_neg hz, in_spec, decide_eq_true hA.1, Option.bind_some, if_pos rfl, in_spec, decide_eq_true hR.1, Option.bind_some, if_pos rfl, if_neg hA.2, beq_eq_false_iff_ne.2 hR.2]
              have goI : ∀ {b : Bool} {g : Nat → Option Bool}, (∀ k, impl_CmtOk.f k x tag name add rem leaf keys boxes k0 k1 k2 k3 k4 = (if treB keys = true then (if (boxes.length : Int) > 20 then (impl_CmtOk.j0 k true x tag name add rem leaf keys boxes k0 k1 k2 k3 k4 k0 k1 k2 k3 k4) else (if namedB [] boxes = true then ((impl_twoKeys.f add leaf k0).bind fun t233 => (impl_CmtOk.j0 k (!t233) x tag name add rem leaf keys boxes k0 k1 k2 k3 k4 k0 k1 k2 k3 k4)) else (impl_CmtOk.j0 k true x tag name add rem leaf keys boxes k0 k1 k2 k3 k4 k0 k1 k2 k3 k4))) else (impl_CmtOk.j0 k true x tag name add rem leaf keys boxes k0 k1 k2 k3 k4 k0 k1 k2 k3 k4))) := fun {b} {g} k => by
                unfold impl_CmtOk.f
                rw [isOne_is, decide_eq_true hx, Option.bind_some, if_pos rfl, implMade, hn, Option.bind_some]
                refine (if_pos (show (tells a).1 = 1 from h1)).trans ((if_neg hz).trans ?_)
                rw [someone_yes hA.1 hA.2, Option.bind_some, if_pos rfl, someone_yes hR.1 hR.2, Option.bind_some, if_pos rfl, impl_TreOk.f, Option.bind_some, impl_named.f, Option.bind_some]
              have gi := goI (b := true) (g := fun _ => none)
              unfold spec_CmtOk.f at goS
              unfold impl_CmtOk.f at gi
              cases hT : treB keys with
              | false =>
                rw [hT] at et gi
                exact ⟨false, goS (Ev.step (fun k => by rw [spec_CmtOk.j0, if_neg Bool.false_ne_true]) (Ev.bind et (Ev.congr (fun k => if_neg Bool.false_ne_true) noT))), Ev.congr (fun k => by rw [gi k, if_neg Bool.false_ne_true]) noI⟩
              | true =>
                rw [hT] at et gi
                by_cases h20 : (boxes.length : Int) > 20
                · refine ⟨false, goS (Ev.step (fun k => by rw [spec_CmtOk.j0, if_neg Bool.false_ne_true]) (Ev.bind et (Ev.congr (fun k => if_pos rfl) (Ev.bind eb ?_)))), Ev.congr (fun k => by rw [gi k, if_pos rfl, if_pos h20]) noI⟩
                  cases (decide (boxes.length ≤ 400) && boxes.all okBx) with
                  | false => exact Ev.congr (fun k => if_neg Bool.false_ne_true) noT
                  | true => exact Ev.congr (fun k => by rw [if_pos rfl, decide_eq_true h20]) noT
                · have e400 : decide (boxes.length ≤ 400) = true := decide_eq_true (by omega)
                  have hnm : namedB [] boxes = boxes.all okBx := by
                    unfold namedB
                    rw [e400]
                    rfl
                  rw [e400, Bool.true_and] at eb
                  rw [hnm] at gi
                  cases hB : boxes.all okBx with
                  | false =>
                    rw [hB] at eb gi
                    exact ⟨false, goS (Ev.step (fun k => by rw [spec_CmtOk.j0, if_neg Bool.false_ne_true]) (Ev.bind et (Ev.congr (fun k => if_pos rfl) (Ev.bind eb (Ev.congr (fun k => if_neg Bool.false_ne_true) noT))))), Ev.congr (fun k => by rw [gi k, if_pos rfl, if_neg h20, if_neg Bool.false_ne_true]) noI⟩
                  | true =>
                    rw [hB] at eb gi
                    exact ⟨_, goS (Ev.step (fun k => by rw [spec_CmtOk.j0, if_neg Bool.false_ne_true]) (Ev.bind et (Ev.congr (fun k => if_pos rfl) (Ev.bind eb (Ev.congr (fun k => by rw [if_pos rfl, decide_eq_false h20]) (spec_j1 x tag name add rem leaf keys boxes k0 k1 k2 k3 k4)))))), Ev.congr (fun k => by rw [gi k, if_pos rfl, if_neg h20, if_pos rfl]) (impl_tail x tag name add rem leaf keys boxes k0 k1 k2 k3 k4)⟩
            · refine ⟨false, Ev.congr (fun k => by rw [in_spec, decide_eq_true hx, Option.bind_some, if_pos rfl]) (Ev.bind eo (Ev.congr (fun k => if_pos rfl) (Ev.bind eh (Ev.congr (fun k => ?_) noS)))), Ev.congr (fun k => ?_) noI⟩
              · rw [if_pos (show (tells a).1 = 1 from h1), if_neg hz, in_spec, decide_eq_true hA.1, Option.bind_some, if_pos rfl, in_spec]
                by_cases hi : -1 ≤ rem ∧ rem ≤ 7
                · rw [decide_eq_true hi, Option.bind_some, if_pos rfl, if_neg hA.2, beq_iff_eq.2 (by omega)]
                · rw [decide_eq_false hi, Option.bind_some, if_neg Bool.false_ne_true]
              · rw [isOne_is, decide_eq_true hx, Option.bind_some, if_pos rfl, implMade, hn, Option.bind_some]
                refine (if_pos (show (tells a).1 = 1 from h1)).trans ((if_neg hz).trans ?_)
                rw [someone_yes hA.1 hA.2, Option.bind_some, if_pos rfl, someone_no hx.1 hR, Option.bind_some, if_neg Bool.false_ne_true]
          · refine ⟨false, Ev.congr (fun k => by rw [in_spec, decide_eq_true hx, Option.bind_some, if_pos rfl]) (Ev.bind eo (Ev.congr (fun k => if_pos rfl) (Ev.bind eh (Ev.congr (fun k => ?_) noS)))), Ev.congr (fun k => ?_) noI⟩
            · rw [if_pos (show (tells a).1 = 1 from h1), if_neg hz, in_spec]
              by_cases hi : -1 ≤ add ∧ add ≤ 7
              · rw [decide_eq_true hi, Option.bind_some, if_pos rfl, in_spec]
                by_cases hj : -1 ≤ rem ∧ rem ≤ 7
                · rw [decide_eq_true hj, Option.bind_some, if_pos rfl, if_pos (by omega)]
                · rw [decide_eq_false hj, Option.bind_some, if_neg Bool.false_ne_true]
              · rw [decide_eq_false hi, Option.bind_some, if_neg Bool.false_ne_true]
            · rw [isOne_is, decide_eq_true hx, Option.bind_some, if_pos rfl, implMade, hn, Option.bind_some]
              refine (if_pos (show (tells a).1 = 1 from h1)).trans ((if_neg hz).trans ?_)
              rw [someone_no hx.1 hA, Option.bind_some, if_neg Bool.false_ne_true]
      · refine ⟨false, Ev.congr (fun k => by rw [in_spec, decide_eq_true hx, Option.bind_some, if_pos rfl]) (Ev.bind eo (Ev.congr (fun k => if_pos rfl) (Ev.bind eh (Ev.congr (fun k => if_neg (show ¬ (tells a).1 = 1 from h1)) noS)))), Ev.congr (fun k => ?_) noI⟩
        rw [isOne_is, decide_eq_true hx, Option.bind_some, if_pos rfl, implMade, hn, Option.bind_some]
        exact if_neg (show ¬ (tells a).1 = 1 from h1)
  · exact ⟨false, Ev.congr (fun k => by rw [in_spec, decide_eq_false hx, Option.bind_some, if_neg Bool.false_ne_true]) noS, Ev.congr (fun k => by rw [isOne_is, decide_eq_false hx, Option.bind_some, if_neg Bool.false_ne_true]) noI⟩
end
theorem szWelcome_ev (a b c d e : ByteArray) (ha : a.size ≤ 140737488351232) (hb : b.size ≤ 140737488351232) (hc : c.size ≤ 140737488351232) (hd : d.size ≤ 140737488351232) (he : e.size ≤ 140737488351232) (left : Int) (h0 : 0 ≤ left) (h1 : left ≤ 1048576) : ∃ r, laws_szCmtWelcome.f a b c d e left = some r := by
  unfold laws_szCmtWelcome.f
  rw [wz (x := left - (a.size : Int)) (by omega) (by omega)]
  by_cases hn : left - (a.size : Int) < 0
  · exact ⟨-1, if_pos hn⟩
  · obtain ⟨r, e1, r1, r2⟩ := szKnwBox_ev b c hb hc (left - (a.size : Int)) (by omega) (by omega)
    rw [if_neg hn, e1, Option.bind_some]
    by_cases hm : r < 0
    · exact ⟨-1, if_pos hm⟩
    · obtain ⟨r', e2, r3, r4⟩ := szKnwBox_ev d e hd he r (by omega) (by omega)
      rw [if_neg hm, e2, Option.bind_some]
      by_cases hp : r' < 0
      · exact ⟨-1, if_pos hp⟩
      · exact ⟨r', if_neg hp⟩
theorem FnExactCmtOk : laws_FnExactCmtOk.Pure := by
  intro x tag name add rem leaf keys boxes k0 k1 k2 k3 k4 _ g1 g2 _ _ g5 g6 g7 g8 g9 g10 g11 g12
  refine Ev.rounds ?_
  unfold laws_FnExactCmtOk.f
  have hsz : ∃ r, Ev (fun k => laws_szCmtCommit.f k x tag name add rem leaf keys boxes k0 k1 k2 k3 k4 1048576) r ∧ (0 ≤ r → keys.length ≤ 1048576 ∧ boxes.length ≤ 1048576) := by
    unfold laws_szCmtCommit.f
    rw [wz (x := 1048576 - (tag.size : Int)) (by omega) (by omega), wz (x := 1048576 - (tag.size : Int) - (name.size : Int)) (by omega) (by omega), wz (x := 1048576 - (tag.size : Int) - (name.size : Int) - (leaf.size : Int)) (by omega) (by omega)]
    by_cases s1 : 1048576 - (tag.size : Int) < 0
    · exact ⟨-1, Ev.of_eq fun k => if_pos s1, fun h => absurd h (by decide)⟩
    · by_cases s2 : 1048576 - (tag.size : Int) - (name.size : Int) < 0
      · exact ⟨-1, Ev.of_eq fun k => (if_neg s1).trans (if_pos s2), fun h => absurd h (by decide)⟩
      · by_cases s3 : 1048576 - (tag.size : Int) - (name.size : Int) - (leaf.size : Int) < 0
        · exact ⟨-1, Ev.of_eq fun k => (if_neg s1).trans ((if_neg s2).trans (if_pos s3)), fun h => absurd h (by decide)⟩
        · obtain ⟨r, er, r1, r2⟩ := szS_ev keys g6 (1048576 - (tag.size : Int) - (name.size : Int) - (leaf.size : Int)) (by omega) (by omega)
          by_cases s4 : r < 0
          · exact ⟨-1, Ev.congr (fun k => (if_neg s1).trans ((if_neg s2).trans (if_neg s3))) (Ev.bind er (Ev.of_eq fun k => if_pos s4)), fun h => absurd h (by decide)⟩
          · obtain ⟨q, eq, q1, q2⟩ := szB_ev boxes g7 r (by omega) (by omega)
            by_cases s5 : q < 0
            · exact ⟨-1, Ev.congr (fun k => (if_neg s1).trans ((if_neg s2).trans (if_neg s3))) (Ev.bind er (Ev.congr (fun k => if_neg s4) (Ev.bind eq (Ev.of_eq fun k => if_pos s5)))), fun h => absurd h (by decide)⟩
            · obtain ⟨u, eu⟩ := szWelcome_ev k0 k1 k2 k3 k4 g8 g9 g10 g11 g12 q (by omega) (by omega)
              have b1 := (r2 (by omega)).1
              have b2 := q2 (by omega)
              refine ⟨if u < 0 then -1 else u, Ev.congr (fun k => (if_neg s1).trans ((if_neg s2).trans (if_neg s3))) (Ev.bind er (Ev.congr (fun k => if_neg s4) (Ev.bind eq (Ev.of_eq fun k => ?_)))), fun _ => ⟨by omega, by omega⟩⟩
              rw [if_neg s5, eu, Option.bind_some]
              split <;> rfl
  obtain ⟨r, er, hr⟩ := hsz
  refine Ev.bind er ?_
  by_cases h1 : r < 0
  · exact Ev.of_eq fun k => if_pos h1
  obtain ⟨hk, hb⟩ := hr (by omega)
  refine Ev.congr (fun k => if_neg h1) ?_
  have et : Ev (fun k => laws_toCmtCommit.f k x tag name add rem leaf keys boxes k0 k1 k2 k3 k4) (x, tag, name, add, rem, leaf, keys, conv boxes, k0, k1, k2, k3, k4) := by
    unfold laws_toCmtCommit.f
    refine Ev.bind (toS_ev keys hk) (Ev.bind (toB_ev boxes hb) (Ev.of_eq fun k => ?_))
    unfold laws_toCmtWelcome.f laws_toKnwBox.f
    rfl
  have eq : Ev (fun k => laws_eqCmtCommit.f k x tag name add rem leaf keys (conv boxes) k0 k1 k2 k3 k4 x tag name add rem leaf keys (conv boxes) k0 k1 k2 k3 k4) true := by
    unfold laws_eqCmtCommit.f
    refine Ev.congr (fun k => by rw [if_pos rfl, if_pos rfl, if_pos rfl, if_pos rfl, if_pos rfl, if_pos rfl]) (Ev.bind (eqS_ev keys (by omega)) (Ev.congr (fun k => if_pos rfl) (Ev.bind (eqB_ev (conv boxes) (by rw [conv_len]; omega)) (Ev.of_eq fun k => ?_))))
    unfold laws_eqCmtWelcome.f laws_eqKnwBox.f
    simp
  obtain ⟨b, es, ei⟩ := cmt_both x tag name add rem leaf keys (conv boxes) k0 k1 k2 k3 k4
  refine Ev.bind et (Ev.bind es (Ev.bind et (Ev.bind ei ?_)))
  rw [bne_self_eq_false]
  exact Ev.congr (fun k => if_neg Bool.false_ne_true) (Ev.bind et (Ev.bind eq (Ev.of_eq fun k => if_pos rfl)))
end
end Go.Proofs.YtnemchmiplbopaaDoor.Pure
