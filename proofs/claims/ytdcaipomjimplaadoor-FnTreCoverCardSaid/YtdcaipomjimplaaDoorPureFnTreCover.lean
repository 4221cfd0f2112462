/- What the reference reads of a name: sizes, whether it is one, and how it was made. Plain Lean. The reference's reading of a name's size, and whether a text is a name. Plain Lean. How a name was made, as the reference reads it. Plain Lean. Names that are made from names: the program's and the reference's. Plain Lean. The reader of codes: each pick is a number below its bound, and moves on by one. Plain Lean. Names that are made from names: the program's and the reference's. Plain Lean. Drawn secrets: whatever the code, a text comes, and it is short. Plain Lean. Drawn places: whatever the code, a number from -1 to 15 comes. Plain Lean. Whether a tree is ok: the reference's answer is the program's. Plain Lean. Places of a tree, the place above two, what covers a place, who is in. Plain Lean, over which places have keys. Who is in a tree, and places, as the program and the reference tell them; numbers compared, a number looked for. Plain Lean. Trees, drawn: each is a list of texts, of sixteen at most. Plain Lean. All are covered, and none twice: the law's plain statement. -/
import Derived.Test.YtdcaipomjimplaaDoorWcx2
import Derived.Test.YtdcaipomjimplaaDoorWcx3
import Derived.Test.YtdcaipomjimplaaDoorWcx4
import Derived.Test.YtdcaipomjimplaaDoorWcx6
import Derived.Test.YtdcaipomjimplaaDoorWcx6
import Derived.Test.YtdcaipomjimplaaDoorWcx6
import Derived.Test.YtdcaipomjimplaaDoorWcx6
import Derived.Laws.BitsLemmas
import Derived.Test.YtdcaipomjimplaaDoorWcx6
import Derived.Test.YtdcaipomjimplaaDoorWcx7
import Derived.Test.YtdcaipomjimplaaDoorWcx8
import Derived.Test.YtdcaipomjimplaaDoorWcx6
import Derived.Test.YtdcaipomjimplaaDoorGivTree
import Derived.Test.YtdcaipomjimplaaDoorWcx5
import Derived.Test.YtdcaipomjimplaaDoorNames
import Derived.Test.YtdcaipomjimplaaDoorWcx5
import Derived.Test.YtdcaipomjimplaaDoorWcx5
import Derived.Test.YtdcaipomjimplaaDoorWcx1
import Derived.Test.YtdcaipomjimplaaDoorWcx1
import Derived.Test.YtdcaipomjimplaaDoorWcx6
import Derived.Test.YtdcaipomjimplaaDoorWcx8
import Derived.Test.YtdcaipomjimplaaDoorWcx9
import Derived.Test.YtdcaipomjimplaaDoorWcx10
import Derived.Test.YtdcaipomjimplaaDoorWcx11
import Derived.Test.YtdcaipomjimplaaDoorWcx11
import Derived.Test.YtdcaipomjimplaaDoorWcx1
import Derived.Test.YtdcaipomjimplaaDoorWcx11
import Derived.Test.YtdcaipomjimplaaDoorWcx12
namespace Go.Proofs.YtdcaipomjimplaaDoor.Pure
section
open Go.RowKit Go.Proofs.YtdcaipomjimplaaDoor Go.Proofs.YtdcaipomjimplaaDoor.Wc Go.Proofs.YtdcaipomjimplaaDoorW.PrintWords Go.Proofs.YtdcaipomjimplaaDoorW.PrintLast
open Go.Proofs.YtdcaipomjimplaaDoor.Th (T B Nm nm dec hd prsNum whole)

theorem wz {x : Int} (h0 : -1000000000000000 ≤ x) (h1 : x ≤ 1000000000000000) : wrap64 x = x := by
  unfold wrap64
  omega
theorem T_app (a b : List Nat) : T (a ++ b) = T a ++ T b := by
  apply Th.B_inj
  rw [Th.B_append]
  simp [T, B]
theorem spec_in (x a b : Int) : spec_l1In.f x a b = some (decide (a ≤ x ∧ x ≤ b)) := by
  unfold spec_l1In.f
  by_cases h : x ≥ a
  · rw [if_pos h]; simp [show a ≤ x from h]
  · rw [if_neg h]; simp [show ¬ a ≤ x from h]
theorem spec_letter (w : Nat) (h : w < 8) : spec_l1Who.f (w : Int) = some (T [65 + w]) := by
  have : ∀ n : Fin 8, spec_l1Who.f ((n.1 : Nat) : Int) = some (T [65 + n.1]) := by decide +kernel
  exact this ⟨w, h⟩
theorem spec_plain (n : Nat) (h : n < 100) (k : Nat) (hk : 3 ≤ k) : spec_l1Plain.f k (n : Int) = some (T (dec n)) := by
  have : ∀ n : Fin 100, spec_l1Plain.f 3 ((n.1 : Nat) : Int) = some (T (dec n.1)) := by decide +kernel
  exact at_rounds (fun k => spec_l1Plain.mono _ k) hk (this ⟨n, h⟩)
theorem dec_two (n : Nat) : (dec n).length ≤ 2 := by unfold dec; split <;> simp
/-- What makNew of one and a number is. -/
def mkN (w n : Nat) : ByteArray := if w < 8 ∧ 1 ≤ n ∧ n ≤ 99 then T (Nm.new w n).enc else ⟨#[]⟩
theorem spec_mkN (w n : Nat) (k : Nat) (hk : 4 ≤ k) : spec_MakNew.f k (w : Int) (n : Int) = some (mkN w n) := by
  obtain ⟨k, rfl⟩ : ∃ j, k = j + 1 := ⟨k - 1, by omega⟩
  unfold spec_MakNew.f mkN
  rw [spec_in, spec_in]
  simp only [Option.bind_some]
  by_cases h0 : w < 8
  · by_cases h1 : 1 ≤ n ∧ n ≤ 99
    · rw [decide_eq_true (by omega), decide_eq_true (by omega), if_pos rfl, if_pos ⟨h0, h1⟩]
      simp only [Bool.not_true, spec_MakNew.j0]
      rw [if_neg (by decide), spec_letter w h0, spec_plain n (by omega) k (by omega)]
      simp only [Option.bind_some]
      have := dec_two n
      rw [if_pos (by rw [Th.T_size, Th.T_size, List.length_singleton]; omega), if_pos (by rw [ByteArray.size_append, Th.T_size, Th.T_size, List.length_singleton]; omega)]
      rw [show (⟨#[59]⟩ : ByteArray) = T [59] from rfl, ← T_app, ← T_app]
      rfl
    · rw [decide_eq_true (by omega), decide_eq_false (by omega), if_pos rfl, if_neg (fun h => h1 h.2)]
      simp [spec_MakNew.j0]
  · rw [decide_eq_false (by omega), if_neg (by decide), if_neg (fun h => h0 h.1)]
    simp [spec_MakNew.j0]

/-! ### a new secret's name, read -/
theorem bt_pre {s : ByteArray} {pre t : List Nat} (h : B s = pre ++ t) (i : Nat) : bt s ((pre.length + i : Nat) : Int) = ((t.getD i 0 : Nat) : Int) := by
  rw [Th.bt_B, h, Int.toNat_natCast, List.getD_eq_getElem?_getD, List.getElem?_append_right (by omega), show pre.length + i - pre.length = i by omega, List.getD_eq_getElem?_getD]
theorem size_pre {s : ByteArray} {pre t : List Nat} (h : B s = pre ++ t) : s.size = pre.length + t.length := by
  rw [← Th.B_length, h, List.length_append]
theorem cut_pre {s : ByteArray} {pre t : List Nat} (h : B s = pre ++ t) (j : Nat) : s.extract pre.length (pre.length + j) = T (t.take j) := by
  apply Th.B_inj
  rw [Th.B_extract, h, Th.B_T (fun x hx => Th.B_lt s x (by rw [h]; exact List.mem_append_right _ (List.mem_of_mem_take hx)))]
  rw [List.take_append, List.take_of_length_le (by omega), show pre.length + j - pre.length = j by omega, List.drop_left]
theorem take_snoc {t : List Nat} {i : Nat} (h : i < t.length) : t.take (i + 1) = t.take i ++ [t.getD i 0] := by
  rw [List.take_add_one, List.getElem?_eq_getElem h, List.getD_eq_getElem?_getD, List.getElem?_eq_getElem h]
  rfl
section
variable {s : ByteArray} {pre t : List Nat} {c : Nat}
theorem fresh_tail (h : B s = pre ++ c :: t) (hs : s.size ≤ 1000000000000) (hc : 65 ≤ c ∧ c ≤ 72) (i n k : Nat) (hi : i ≤ t.length) (hk : 6 ≤ k) :
    spec_l1Fresh.j2 k s pre.length n ((pre.length + (1 + i) : Nat) : Int) false = some (if t.getD i 0 = 59 ∧ mkN (c - 65) n = T (c :: (t.take i ++ [59])) then ((i + 2 : Nat) : Int) else 0) := by
  obtain ⟨k, rfl⟩ : ∃ j, k = j + 2 := ⟨k - 2, by omega⟩
  have hz := size_pre h
  rw [List.length_cons] at hz
  have b0 : bt s ((pre.length : Nat) : Int) = (c : Int) := bt_pre h 0
  have b1 : bt s ((pre.length + (1 + i) : Nat) : Int) = ((t.getD i 0 : Nat) : Int) := by
    rw [bt_pre h (1 + i), show 1 + i = i + 1 by omega]
    rfl
  simp only [spec_l1Fresh.j2]
  rw [if_neg (by decide)]
  by_cases h0 : i < t.length
  · rw [if_neg (by omega), if_pos (by omega), if_pos (by omega), b1]
    by_cases h1 : t.getD i 0 = 59
    · rw [if_pos (by omega), if_pos (by omega), if_pos (by omega), b0, show ((c : Int) - 65) % 256 = ((c - 65 : Nat) : Int) by omega, spec_mkN _ _ _ (by omega), Option.bind_some]
      have e0 : wrap64 (((pre.length + (1 + i) : Nat) : Int) + 1) = ((pre.length + (i + 2) : Nat) : Int) := by rw [wz (by omega) (by omega)]; omega
      rw [e0, if_pos (by omega), if_pos (by omega), Int.toNat_natCast, Int.toNat_natCast, cut_pre h, show (c :: t).take (i + 2) = c :: t.take (i + 1) from rfl, take_snoc h0, h1]
      by_cases h2 : mkN (c - 65) n = T (c :: (t.take i ++ [59]))
      · rw [if_pos ⟨rfl, h2⟩, h2, bne_self_eq_false]
        simp only [spec_l1Fresh.j3]
        rw [if_neg (by decide), e0, wz (by omega) (by omega)]
        congr 1
        omega
      · have e2 : ((mkN (c - 65) n).toList != (T (c :: (t.take i ++ [59]))).toList) = true := bne_iff_ne.2 (fun e => h2 (Th.toList_eq.1 e))
        rw [if_neg (fun h => h2 h.2), e2]
        simp only [spec_l1Fresh.j3]
        rw [if_pos trivial]
    · rw [if_neg (by omega), if_neg (fun h => h1 h.1)]
      simp only [spec_l1Fresh.j3]
      rw [if_pos trivial]
  · have e1 : t.getD i 0 = 0 := by rw [List.getD_eq_getElem?_getD, List.getElem?_eq_none (by omega)]; rfl
    rw [if_pos (by omega), e1, if_neg (fun h => by omega)]
    simp only [spec_l1Fresh.j3]
    rw [if_pos trivial]
theorem fresh_more (h : B s = pre ++ c :: t) (hs : s.size ≤ 1000000000000) (i n k : Nat) (hi : i < 3) (hn : n ≤ 1000) (hd : 48 ≤ t.getD i 0 ∧ t.getD i 0 ≤ 57) :
    spec_l1Fresh.l0 (k + 2) s pre.length n ((pre.length + (1 + i) : Nat) : Int) = spec_l1Fresh.l0 k s pre.length ((10 * n + (t.getD i 0 - 48) : Nat) : Int) ((pre.length + (1 + (i + 1)) : Nat) : Int) := by
  have hz := size_pre h
  rw [List.length_cons] at hz
  have hl : i < t.length := Th.lt_of_getD (by omega)
  have b1 : bt s ((pre.length + (1 + i) : Nat) : Int) = ((t.getD i 0 : Nat) : Int) := by
    rw [bt_pre h (1 + i), show 1 + i = i + 1 by omega]
    rfl
  conv => lhs; rw [spec_l1Fresh.l0]
  rw [if_pos (by omega), if_pos (by omega), b1, if_pos (by omega), if_pos (by omega), wz (x := (pre.length : Int) + 4) (by omega) (by omega), decide_eq_true (by omega)]
  conv => lhs; rw [spec_l1Fresh.j2]
  rw [if_pos rfl, if_pos (by omega), if_pos (by omega), b1, wz (x := (n : Int) * 10) (by omega) (by omega), wz (x := (n : Int) * 10 + _) (by omega) (by omega), wz (x := ((pre.length + (1 + i) : Nat) : Int) + 1) (by omega) (by omega)]
  congr 1 <;> omega
theorem fresh_stop (h : B s = pre ++ c :: t) (hs : s.size ≤ 1000000000000) (hc : 65 ≤ c ∧ c ≤ 72) (i n k : Nat) (hi : i ≤ t.length) (hk : 6 ≤ k) (hd : ¬ (48 ≤ t.getD i 0 ∧ t.getD i 0 ≤ 57) ∨ i = 3) :
    spec_l1Fresh.l0 (k + 1) s pre.length n ((pre.length + (1 + i) : Nat) : Int) = some (if t.getD i 0 = 59 ∧ mkN (c - 65) n = T (c :: (t.take i ++ [59])) then ((i + 2 : Nat) : Int) else 0) := by
  have hz := size_pre h
  rw [List.length_cons] at hz
  have b1 : bt s ((pre.length + (1 + i) : Nat) : Int) = ((t.getD i 0 : Nat) : Int) := by
    rw [bt_pre h (1 + i), show 1 + i = i + 1 by omega]
    rfl
  rw [← fresh_tail h hs hc i n k hi hk]
  conv => lhs; rw [spec_l1Fresh.l0]
  by_cases h0 : i < t.length
  · rw [if_pos (by omega), if_pos (by omega), b1]
    by_cases h1 : (t.getD i 0 : Int) ≥ 48
    · rw [if_pos h1]
      by_cases h2 : (t.getD i 0 : Int) ≤ 57
      · rw [if_pos h2, wz (by omega) (by omega), decide_eq_false (by omega)]
      · rw [if_neg h2]
    · rw [if_neg h1]
  · rw [if_neg (by omega)]
theorem T_eq {a b : List Nat} (ha : ∀ x ∈ a, x < 256) (hb : ∀ x ∈ b, x < 256) (h : T a = T b) : a = b := by
  have := congrArg B h
  rwa [Th.B_T ha, Th.B_T hb] at this
theorem T_len {a b : List Nat} (h : T a = T b) : a.length = b.length := by
  have := congrArg ByteArray.size h
  rwa [Th.T_size, Th.T_size] at this
/-- The size of the new secret's name that stands first. -/
def freshSz (c : Nat) (t : List Nat) : Int := if 65 ≤ c ∧ c ≤ 72 then (match prsNum t with | some p => ((1 + t.length - p.2.length : Nat) : Int) | none => 0) else 0
theorem fresh_20 (h : B s = pre ++ c :: t) (hs : s.size ≤ 1000000000000) : spec_l1Fresh.f 20 s pre.length = some (freshSz c t) := by
  have hz := size_pre h
  rw [List.length_cons] at hz
  have b0 : bt s ((pre.length : Nat) : Int) = (c : Int) := bt_pre h 0
  unfold spec_l1Fresh.f freshSz
  rw [if_pos (by omega), if_pos (by omega), b0]
  by_cases hc : 65 ≤ c ∧ c ≤ 72
  · rw [if_neg (by omega), decide_eq_false (by omega), if_pos hc]
    simp only [spec_l1Fresh.j0]
    rw [if_neg (by decide), wz (x := (pre.length : Int) + 1) (by omega) (by omega), show (pre.length : Int) + 1 = ((pre.length + (1 + 0) : Nat) : Int) by omega, show (0 : Int) = ((0 : Nat) : Int) from rfl]
    have empty : ∀ (n : Nat) (l : List Nat), (n < 1 ∨ 99 < n) → mkN (c - 65) n ≠ T (c :: l) := by
      intro n l hn e
      rw [mkN, if_neg (by omega)] at e
      have z : (0 : Nat) = (c :: l).length := (congrArg ByteArray.size e).trans (Th.T_size _)
      exact absurd z (by simp)
    have some_ : ∀ (n : Nat), 1 ≤ n → n ≤ 99 → mkN (c - 65) n = T (c :: (dec n ++ [59])) := by
      intro n h1 h2
      rw [mkN, if_pos (by omega)]
      simp only [Nm.enc]
      rw [show 65 + (c - 65) = c by omega]
    by_cases d0 : 48 ≤ t.getD 0 0 ∧ t.getD 0 0 ≤ 57
    · have l0 : 0 < t.length := Th.lt_of_getD (by omega)
      have k1 : t.take 1 = [t.getD 0 0] := by rw [take_snoc l0]; rfl
      rw [fresh_more h hs 0 0 17 (by omega) (by omega) d0]
      by_cases d1 : 48 ≤ t.getD 1 0 ∧ t.getD 1 0 ≤ 57
      · have l1 : 1 < t.length := Th.lt_of_getD (by omega)
        have k2 : t.take 2 = [t.getD 0 0, t.getD 1 0] := by rw [take_snoc l1, k1]; rfl
        rw [fresh_more h hs 1 _ 15 (by omega) (by omega) d1]
        by_cases d2 : 48 ≤ t.getD 2 0 ∧ t.getD 2 0 ≤ 57
        · have l2 : 2 < t.length := Th.lt_of_getD (by omega)
          rw [fresh_more h hs 2 _ 13 (by omega) (by omega) d2, fresh_stop h hs hc 3 _ 12 (by omega) (by omega) (.inr rfl)]
          have no : prsNum t = none := by
            unfold prsNum
            by_cases z : 49 ≤ t.getD 0 0 ∧ t.getD 0 0 ≤ 57
            · rw [if_pos z, if_pos d1, if_neg (by omega)]
            · rw [if_neg z]
          rw [no, if_neg]
          · rfl
          rintro ⟨_, e⟩
          by_cases hv : 1 ≤ 10 * (10 * (10 * 0 + (t.getD 0 0 - 48)) + (t.getD 1 0 - 48)) + (t.getD 2 0 - 48) ∧ 10 * (10 * (10 * 0 + (t.getD 0 0 - 48)) + (t.getD 1 0 - 48)) + (t.getD 2 0 - 48) ≤ 99
          · rw [some_ _ hv.1 hv.2] at e
            have := T_len e
            have := dec_two (10 * (10 * (10 * 0 + (t.getD 0 0 - 48)) + (t.getD 1 0 - 48)) + (t.getD 2 0 - 48))
            simp only [List.length_cons, List.length_append, List.length_nil, List.length_take] at *
            omega
          · exact empty _ _ (by omega) e
        · rw [fresh_stop h hs hc 2 _ 14 (by omega) (by omega) (.inl d2), k2]
          by_cases z : t.getD 0 0 = 48
          · have no : prsNum t = none := by unfold prsNum; rw [if_neg (by omega)]
            rw [no, if_neg]
            · rfl
            rintro ⟨_, e⟩
            by_cases hv : 1 ≤ 10 * (10 * 0 + (t.getD 0 0 - 48)) + (t.getD 1 0 - 48)
            · rw [some_ _ hv (by omega)] at e
              have := T_len e
              unfold dec at this
              rw [if_pos (by omega)] at this
              simp at this
            · exact empty _ _ (by omega) e
          · by_cases q : t.getD 2 0 = 59
            · have yes : prsNum t = some (10 * (t.getD 0 0 - 48) + (t.getD 1 0 - 48), t.drop 3) := by
                unfold prsNum; rw [if_pos (by omega), if_pos d1, if_pos q]
              have l2 : 2 < t.length := Th.lt_of_getD (by omega)
              rw [yes, if_pos]
              · simp only [List.length_drop]
                congr 1
                omega
              · refine ⟨q, ?_⟩
                rw [some_ _ (by omega) (by omega)]
                unfold dec
                rw [if_neg (by omega)]
                rw [show 48 + (10 * (10 * 0 + (t.getD 0 0 - 48)) + (t.getD 1 0 - 48)) / 10 = t.getD 0 0 by omega, show 48 + (10 * (10 * 0 + (t.getD 0 0 - 48)) + (t.getD 1 0 - 48)) % 10 = t.getD 1 0 by omega]
            · have no : prsNum t = none := by unfold prsNum; rw [if_pos (by omega), if_pos d1, if_neg q]
              rw [no, if_neg (fun h => q h.1)]; rfl
      · rw [fresh_stop h hs hc 1 _ 16 (by omega) (by omega) (.inl d1), k1]
        by_cases z : t.getD 0 0 = 48
        · have no : prsNum t = none := by unfold prsNum; rw [if_neg (by omega)]
          rw [no, if_neg]
          · rfl
          rintro ⟨_, e⟩
          exact empty _ _ (by omega) e
        · by_cases q : t.getD 1 0 = 59
          · have yes : prsNum t = some (t.getD 0 0 - 48, t.drop 2) := by
              unfold prsNum; rw [if_pos (by omega), if_neg d1, if_pos q]
            have l1 : 1 < t.length := Th.lt_of_getD (by omega)
            rw [yes, if_pos]
            · simp only [List.length_drop]
              congr 1
              omega
            · refine ⟨q, ?_⟩
              rw [some_ _ (by omega) (by omega)]
              unfold dec
              rw [if_pos (by omega), show 48 + (10 * 0 + (t.getD 0 0 - 48)) = t.getD 0 0 by omega]
          · have no : prsNum t = none := by unfold prsNum; rw [if_pos (by omega), if_neg d1, if_neg q]
            rw [no, if_neg (fun h => q h.1)]; rfl
    · rw [fresh_stop h hs hc 0 0 18 (by omega) (by omega) (.inl d0)]
      have no : prsNum t = none := by unfold prsNum; rw [if_neg (by omega)]
      rw [no, if_neg]
      · rfl
      rintro ⟨_, e⟩
      exact empty _ _ (by omega) e
  · rw [if_neg hc]
    have key : spec_l1Fresh.j0 20 s pre.length true = some 0 := by
      simp only [spec_l1Fresh.j0]
      rw [if_pos trivial]
    by_cases g : (c : Int) < 65
    · rw [if_pos g]; exact key
    · rw [if_neg g, decide_eq_true (by omega)]; exact key
end
end
end Go.Proofs.YtdcaipomjimplaaDoor.Pure
namespace Go.Proofs.YtdcaipomjimplaaDoor.Pure
section
open Go.RowKit Go.Proofs.YtdcaipomjimplaaDoor Go.Proofs.YtdcaipomjimplaaDoor.Wc Go.Proofs.YtdcaipomjimplaaDoorW.PrintWords Go.Proofs.YtdcaipomjimplaaDoorW.PrintLast
open Go.Proofs.YtdcaipomjimplaaDoor.Th (T B Nm nm dec hd prsNum whole)

/-- The size of the name that stands first; 0 if none does. -/
def sz (t : List Nat) : Int := match hd t with | some p => ((t.length - p.2.length : Nat) : Int) | none => 0
def more (a n : Int) : Int := if n = 0 then 0 else a + n
theorem hd_short {t : List Nat} {a : Nm} {r : List Nat} (h : hd t = some (a, r)) : r.length < t.length := by
  obtain ⟨_, e⟩ := Th.hd_sound h
  have := Th.enc_pos a
  rw [e, List.length_append]
  omega
theorem sz_range (t : List Nat) : 0 ≤ sz t ∧ sz t ≤ t.length := by
  unfold sz
  split
  · omega
  · omega
theorem sz_some {t : List Nat} {a : Nm} {r : List Nat} (h : hd t = some (a, r)) : sz t = ((t.length - r.length : Nat) : Int) := by unfold sz; rw [h]
theorem sz_none {t : List Nat} (h : hd t = none) : sz t = 0 := by unfold sz; rw [h]
theorem sz_zero {t : List Nat} : sz t = 0 ↔ hd t = none := by
  constructor
  · intro h
    cases e : hd t with
    | none => rfl
    | some p =>
      obtain ⟨a, r⟩ := p
      rw [sz_some e] at h
      have := hd_short e
      omega
  · exact sz_none
theorem sz_nil : sz [] = 0 := rfl
theorem sz_map {c : Nat} {t u : List Nat} {d : Nat} (hu : u.length + d = t.length + 1) (f : Nm → Nm) (e : hd (c :: t) = (hd u).map fun p => (f p.1, p.2)) : sz (c :: t) = more d (sz u) := by
  unfold more
  cases g : hd u with
  | none =>
    rw [sz_none g, if_pos rfl]
    exact sz_none (by rw [e, g]; rfl)
  | some p =>
    obtain ⟨a, r⟩ := p
    have hs := hd_short g
    rw [sz_some g, if_neg (by omega), sz_some (a := f a) (r := r) (by rw [e, g]; rfl), List.length_cons]
    omega
theorem sz_next (t : List Nat) : sz (110 :: t) = more 1 (sz t) := sz_map (d := 1) (by omega) Nm.next (by rw [Th.hd_cons, if_neg (by decide), if_pos rfl])
theorem sz_key (t : List Nat) : sz (107 :: t) = more 1 (sz t) := sz_map (d := 1) (by omega) Nm.key (by rw [Th.hd_cons, if_neg (by decide), if_neg (by decide), if_pos rfl])
theorem sz_say {t : List Nat} (h : 65 ≤ t.getD 0 0 ∧ t.getD 0 0 ≤ 72) : sz (109 :: t) = more 2 (sz (t.drop 1)) :=
  sz_map (d := 2) (by have := Th.lt_of_getD (l := t) (i := 0) (by omega); rw [List.length_drop]; omega) (Nm.say (t.getD 0 0 - 65)) (by rw [Th.hd_cons, if_neg (by decide), if_neg (by decide), if_neg (by decide), if_neg (by decide), if_pos rfl, if_pos h])
theorem sz_say_no {t : List Nat} (h : ¬ (65 ≤ t.getD 0 0 ∧ t.getD 0 0 ≤ 72)) : sz (109 :: t) = 0 := sz_none (by rw [Th.hd_cons, if_neg (by decide), if_neg (by decide), if_neg (by decide), if_neg (by decide), if_pos rfl, if_neg h])
theorem sz_room {t : List Nat} (h : 49 ≤ t.getD 0 0 ∧ t.getD 0 0 ≤ 57) : sz (114 :: t) = more 2 (sz (t.drop 1)) :=
  sz_map (d := 2) (by have := Th.lt_of_getD (l := t) (i := 0) (by omega); rw [List.length_drop]; omega) (Nm.room (t.getD 0 0 - 48)) (by rw [Th.hd_cons, if_neg (by decide), if_neg (by decide), if_neg (by decide), if_neg (by decide), if_neg (by decide), if_pos rfl, if_pos h])
theorem sz_room_no {t : List Nat} (h : ¬ (49 ≤ t.getD 0 0 ∧ t.getD 0 0 ≤ 57)) : sz (114 :: t) = 0 := sz_none (by rw [Th.hd_cons, if_neg (by decide), if_neg (by decide), if_neg (by decide), if_neg (by decide), if_neg (by decide), if_pos rfl, if_neg h])
theorem hd_epoch (t : List Nat) : hd (101 :: t) = (hd t).bind fun p => (hd p.2).map fun q => (Nm.epoch p.1 q.1, q.2) := by
  rw [Th.hd_cons, if_neg (by decide), if_neg (by decide), if_neg (by decide), if_pos rfl]
theorem drop_sz {t : List Nat} {a : Nm} {r : List Nat} (h : hd t = some (a, r)) : t.drop (sz t).toNat = r := by
  rw [sz_some h, Int.toNat_natCast]
  obtain ⟨_, e⟩ := Th.hd_sound h
  rw [e, List.length_append, show a.enc.length + r.length - r.length = a.enc.length by omega, List.drop_left]
theorem sz_epoch_no {t : List Nat} (h : sz t = 0) : sz (101 :: t) = 0 := sz_none (by rw [hd_epoch, sz_zero.1 h]; rfl)
theorem sz_epoch {t : List Nat} (h : sz t ≠ 0) : sz (101 :: t) = more (1 + sz t) (sz (t.drop (sz t).toNat)) := by
  unfold more
  cases g : hd t with
  | none => exact absurd (sz_none g) h
  | some p =>
    obtain ⟨a, r⟩ := p
    have hs := hd_short g
    rw [drop_sz g, sz_some g]
    cases g2 : hd r with
    | none => rw [sz_none g2, if_pos rfl]; exact sz_none (by rw [hd_epoch, g]; simp [g2])
    | some q =>
      obtain ⟨b, r2⟩ := q
      have hs2 := hd_short g2
      rw [sz_some g2, if_neg (by omega), sz_some (a := .epoch a b) (r := r2) (by rw [hd_epoch, g]; simp [g2]), List.length_cons]
      omega
theorem sz_fresh {c : Nat} (t : List Nat) (h0 : c ≠ 110) (h1 : c ≠ 107) (h2 : c ≠ 109) (h3 : c ≠ 114) (h4 : c ≠ 101) : sz (c :: t) = freshSz c t := by
  unfold sz freshSz
  rw [Th.hd_cons]
  by_cases hc : 65 ≤ c ∧ c ≤ 72
  · rw [if_pos hc, if_pos hc]
    cases prsNum t with
    | none => rfl
    | some p =>
      simp only [Option.map_some, List.length_cons]
      rw [show t.length + 1 = 1 + t.length by omega]
  · rw [if_neg hc, if_neg h0, if_neg h1, if_neg h4, if_neg h2, if_neg h3, if_neg hc]
theorem more_any {a n : Int} (h0 : 0 ≤ a) (h1 : a ≤ 100000000000000) (h2 : 0 ≤ n) (h3 : n ≤ 100000000000000) : spec_l1More.f a n = some (more a n) := by
  unfold spec_l1More.f more
  by_cases h : n = 0
  · rw [if_pos h, if_pos h]
  · rw [if_neg h, if_neg h, wz (by omega) (by omega)]
theorem Ev.of_eq {α : Type} {g : Nat → Option α} {r : α} (h : ∀ k, g k = some r) : Ev g r := ⟨0, fun k _ => h k⟩

theorem size_ev {s : ByteArray} (hs : s.size ≤ 1000000000000) : ∀ (m : Nat) (pre t : List Nat), B s = pre ++ t → t.length ≤ m → Ev (fun k => spec_l1Size.f k s pre.length) (sz t) := by
  intro m
  induction m with
  | zero =>
    intro pre t h hm
    obtain rfl : t = [] := List.length_eq_zero_iff.1 (by omega)
    have hz := size_pre h
    rw [List.length_nil] at hz
    refine Ev.step (f := fun _ => some 0) (fun k => ?_) (Ev.now 0)
    rw [spec_l1Size.f, if_pos (by omega)]
  | succ m ih =>
    intro pre t h hm
    have hz := size_pre h
    cases t with
    | nil =>
      rw [List.length_nil] at hz
      refine Ev.step (f := fun _ => some 0) (fun k => ?_) (Ev.now 0)
      rw [spec_l1Size.f, if_pos (by omega)]
    | cons c t =>
      rw [List.length_cons] at hz hm
      have b0 : bt s ((pre.length : Nat) : Int) = (c : Int) := bt_pre h 0
      have b1 : bt s ((pre.length + 1 : Nat) : Int) = ((t.getD 0 0 : Nat) : Int) := bt_pre h 1
      have next : ∀ j, j ≤ t.length → Ev (fun k => spec_l1Size.f k s ((pre.length + (1 + j) : Nat) : Int)) (sz (t.drop j)) := by
        intro j hj
        have e : (pre ++ c :: t.take j).length = pre.length + (1 + j) := by
          rw [List.length_append, List.length_cons, List.length_take]
          omega
        rw [← e]
        exact ih _ _ (by rw [h]; simp) (by rw [List.length_drop]; omega)
      have p1 : wrap64 ((pre.length : Int) + 1) = ((pre.length + (1 + 0) : Nat) : Int) := by rw [wz (by omega) (by omega)]; omega
      have p2 : wrap64 ((pre.length : Int) + 2) = ((pre.length + (1 + 1) : Nat) : Int) := by rw [wz (by omega) (by omega)]; omega
      have z0 := sz_range t
      have one : ∀ k, spec_l1Size.f (k + 1) s (pre.length : Int) = if (c : Int) = 110 then spec_l1Size.j0 k s pre.length c true else spec_l1Size.j0 k s pre.length c ((c : Int) == 107) := by
        intro k
        rw [spec_l1Size.f, if_neg (by omega), if_pos (by omega), if_pos (by omega), b0]
      have lead : ∀ d : Nat, Ev (fun k => spec_l1Size.j0 k s pre.length d true) (more 1 (sz t)) := by
        intro d
        refine Ev.step (f := fun k => (spec_l1Size.f k s ((pre.length + (1 + 0) : Nat) : Int)).bind fun u => (spec_l1More.f 1 u).bind fun v => some v) (fun k => ?_) ?_
        · rw [spec_l1Size.j0, if_pos rfl, p1]
        · refine Ev.bind (next 0 (by omega)) (Ev.of_eq fun k => ?_)
          rw [List.drop_zero, more_any (by omega) (by omega) (by omega) (by omega), Option.bind_some]
      by_cases c0 : c = 110
      · subst c0
        rw [sz_next]
        refine Ev.step (f := fun k => spec_l1Size.j0 k s pre.length ((110 : Nat) : Int) true) (fun k => ?_) (lead 110)
        rw [one, if_pos (by omega)]
      by_cases c1 : c = 107
      · subst c1
        rw [sz_key]
        refine Ev.step (f := fun k => spec_l1Size.j0 k s pre.length ((107 : Nat) : Int) true) (fun k => ?_) (lead 107)
        rw [one, if_neg (by omega)]
        rfl
      have f1 : ((c : Int) == 107) = false := beq_eq_false_iff_ne.2 (by omega)
      refine Ev.step (f := fun k => spec_l1Size.j0 k s pre.length c false) (fun k => by rw [one, if_neg (by omega), f1]) ?_
      by_cases c2 : c = 109
      · subst c2
        by_cases g : 65 ≤ t.getD 0 0 ∧ t.getD 0 0 ≤ 72
        · have hl := Th.lt_of_getD (l := t) (i := 0) (by omega)
          have z1 := sz_range (t.drop 1)
          rw [List.length_drop] at z1
          rw [sz_say g]
          refine Ev.step (f := fun k => spec_l1Size.j1 k s pre.length false) (fun k => ?_) ?_
          · rw [spec_l1Size.j0, if_neg (by decide), if_pos (by omega), p1, if_neg (by omega), if_pos (by omega), if_pos (by omega), show pre.length + (1 + 0) = pre.length + 1 by omega, b1, if_neg (by omega), decide_eq_false (by omega)]
          · refine Ev.step (f := fun k => (spec_l1Size.f k s ((pre.length + (1 + 1) : Nat) : Int)).bind fun u => (spec_l1More.f 2 u).bind fun v => some v) (fun k => ?_) ?_
            · rw [spec_l1Size.j1, if_neg (by decide), p2]
            · refine Ev.bind (next 1 (by omega)) (Ev.of_eq fun k => ?_)
              rw [more_any (by omega) (by omega) (by omega) (by omega), Option.bind_some]
        · rw [sz_say_no g]
          have stop : ∀ k, spec_l1Size.j1 (k + 1) s pre.length true = some 0 := fun k => by rw [spec_l1Size.j1, if_pos rfl]
          refine Ev.step (f := fun k => spec_l1Size.j1 k s pre.length true) (fun k => ?_) (Ev.step (f := fun _ => some 0) stop (Ev.now 0))
          rw [spec_l1Size.j0, if_neg (by decide), if_pos (by omega), p1, show pre.length + (1 + 0) = pre.length + 1 by omega]
          by_cases q : ((pre.length + 1 : Nat) : Int) ≥ (s.size : Int)
          · rw [if_pos q]
          · rw [if_neg q, if_pos (by omega), if_pos (by omega), b1]
            by_cases q2 : ((t.getD 0 0 : Nat) : Int) < 65
            · rw [if_pos q2]
            · rw [if_neg q2, decide_eq_true (by omega)]
      by_cases c3 : c = 114
      · subst c3
        by_cases g : 49 ≤ t.getD 0 0 ∧ t.getD 0 0 ≤ 57
        · have hl := Th.lt_of_getD (l := t) (i := 0) (by omega)
          have z1 := sz_range (t.drop 1)
          rw [List.length_drop] at z1
          rw [sz_room g]
          refine Ev.step (f := fun k => spec_l1Size.j2 k s pre.length false) (fun k => ?_) ?_
          · rw [spec_l1Size.j0, if_neg (by decide), if_neg (by omega), if_pos (by omega), p1, if_neg (by omega), if_pos (by omega), if_pos (by omega), show pre.length + (1 + 0) = pre.length + 1 by omega, b1, if_neg (by omega), decide_eq_false (by omega)]
          · refine Ev.step (f := fun k => (spec_l1Size.f k s ((pre.length + (1 + 1) : Nat) : Int)).bind fun u => (spec_l1More.f 2 u).bind fun v => some v) (fun k => ?_) ?_
            · rw [spec_l1Size.j2, if_neg (by decide), p2]
            · refine Ev.bind (next 1 (by omega)) (Ev.of_eq fun k => ?_)
              rw [more_any (by omega) (by omega) (by omega) (by omega), Option.bind_some]
        · rw [sz_room_no g]
          have stop : ∀ k, spec_l1Size.j2 (k + 1) s pre.length true = some 0 := fun k => by rw [spec_l1Size.j2, if_pos rfl]
          refine Ev.step (f := fun k => spec_l1Size.j2 k s pre.length true) (fun k => ?_) (Ev.step (f := fun _ => some 0) stop (Ev.now 0))
          rw [spec_l1Size.j0, if_neg (by decide), if_neg (by omega), if_pos (by omega), p1, show pre.length + (1 + 0) = pre.length + 1 by omega]
          by_cases q : ((pre.length + 1 : Nat) : Int) ≥ (s.size : Int)
          · rw [if_pos q]
          · rw [if_neg q, if_pos (by omega), if_pos (by omega), b1]
            by_cases q2 : ((t.getD 0 0 : Nat) : Int) < 49
            · rw [if_pos q2]
            · rw [if_neg q2, decide_eq_true (by omega)]
      by_cases c4 : c = 101
      · subst c4
        refine Ev.step (f := fun k => (spec_l1Size.f k s ((pre.length + (1 + 0) : Nat) : Int)).bind fun u => if u = 0 then some 0 else (spec_l1Size.f k s (wrap64 (((pre.length + (1 + 0) : Nat) : Int) + u))).bind fun v => (spec_l1More.f (wrap64 (1 + u)) v).bind fun y => some y) (fun k => ?_) ?_
        · rw [spec_l1Size.j0, if_neg (by decide), if_neg (by omega), if_neg (by omega), if_pos (by omega), p1]
        · refine Ev.bind (next 0 (by omega)) ?_
          rw [List.drop_zero]
          by_cases g : sz t = 0
          · rw [sz_epoch_no g]
            exact Ev.of_eq fun k => by rw [if_pos g]
          · rw [sz_epoch g]
            obtain ⟨n, hn⟩ := Int.eq_ofNat_of_zero_le z0.1
            have z1 := sz_range (t.drop (sz t).toNat)
            rw [List.length_drop] at z1
            refine Ev.congr (f := fun k => (spec_l1Size.f k s ((pre.length + (1 + (sz t).toNat) : Nat) : Int)).bind fun v => (spec_l1More.f (1 + sz t) v).bind fun y => some y) (fun k => ?_) ?_
            · rw [if_neg g, wz (x := ((pre.length + (1 + 0) : Nat) : Int) + sz t) (by omega) (by omega), wz (x := 1 + sz t) (by omega) (by omega), show ((pre.length + (1 + 0) : Nat) : Int) + sz t = ((pre.length + (1 + (sz t).toNat) : Nat) : Int) by omega]
            · refine Ev.bind (next (sz t).toNat (by omega)) (Ev.of_eq fun k => ?_)
              rw [more_any (by omega) (by omega) (by omega) (by omega), Option.bind_some]
      rw [sz_fresh t c0 c1 c2 c3 c4]
      refine Ev.step (f := fun k => (spec_l1Fresh.f k s pre.length).bind fun u => some u) (fun k => ?_) ?_
      · rw [spec_l1Size.j0, if_neg (by decide), if_neg (by omega), if_neg (by omega), if_neg (by omega)]
      · exact Ev.bind (Ev.of (fun k => spec_l1Fresh.mono _ _ k) (fresh_20 h hs)) (Ev.now _)
theorem size_0 {s : ByteArray} (hs : s.size ≤ 1000000000000) : Ev (fun k => spec_l1Size.f k s 0) (sz (B s)) := size_ev hs (B s).length [] (B s) rfl (Nat.le_refl _)
theorem whole_sz {l : List Nat} (h : l ≠ []) : ((sz l == (l.length : Int)) : Bool) = (whole l).isSome := by
  have hp : 0 < l.length := List.length_pos_iff.2 h
  unfold whole
  cases g : hd l with
  | none =>
    rw [sz_none g]
    exact beq_eq_false_iff_ne.2 (by omega)
  | some p =>
    obtain ⟨a, r⟩ := p
    have hs := hd_short g
    rw [sz_some g]
    cases r with
    | nil => exact beq_iff_eq.2 (by rw [List.length_nil]; omega)
    | cons x y =>
      rw [List.length_cons] at hs ⊢
      exact beq_eq_false_iff_ne.2 (by omega)
/-- The reference says of a text that it is a name just if it is one. -/
theorem secOk_ev (s : ByteArray) : Ev (fun k => spec_SecOk.f k s) (nm s).isSome := by
  unfold spec_SecOk.f
  by_cases h0 : s = ⟨#[]⟩
  · subst h0
    refine Ev.of_eq fun k => ?_
    rw [if_pos (Th.toList_nil.2 rfl)]
    rfl
  · have hn : ¬ s.toList = ([] : List UInt8) := fun e => h0 (Th.toList_nil.1 e)
    by_cases h1 : s.size ≤ 300
    · refine Ev.congr (f := fun k => (spec_l1Size.f k s 0).bind fun u => some (u == (s.size : Int))) (fun k => ?_) ?_
      · rw [if_neg hn, if_pos (by omega)]
      · refine Ev.bind (size_0 (by omega)) (Ev.of_eq fun k => ?_)
        unfold nm
        rw [if_pos h1, ← Th.B_length, whole_sz (fun e => h0 (Th.B_eq_nil.1 e))]
    · refine Ev.of_eq fun k => ?_
      rw [if_neg hn, if_neg (by omega)]
      unfold nm
      rw [if_neg h1]
      rfl
end
end Go.Proofs.YtdcaipomjimplaaDoor.Pure
namespace Go.Proofs.YtdcaipomjimplaaDoor.Pure
section
open Go.RowKit Go.Proofs.YtdcaipomjimplaaDoor Go.Proofs.YtdcaipomjimplaaDoor.Wc Go.Proofs.YtdcaipomjimplaaDoorW.PrintWords Go.Proofs.YtdcaipomjimplaaDoorW.PrintLast
open Go.Proofs.YtdcaipomjimplaaDoor.Th (T B Nm nm dec hd prsNum whole)

theorem cut_ {s : ByteArray} {pre u v : List Nat} (h : B s = pre ++ (u ++ v)) (i j : Nat) (hi : i = pre.length) (hj : j = pre.length + u.length) : s.extract i j = T u := by
  subst hi hj
  rw [cut_pre h, List.take_left]
theorem cut_end {s : ByteArray} {pre u : List Nat} (h : B s = pre ++ u) (i : Nat) (hi : i = pre.length) : s.extract i s.size = T u :=
  cut_ (v := []) (by rw [List.append_nil]; exact h) i _ hi (by rw [← Th.B_length, h, List.length_append])
/-- What the fields tell of a name. -/
def tells (a : Nm) : Int × Int × Int × ByteArray × ByteArray := (a.op, a.who, a.num, T a.fst, T a.snd)
theorem how_new (w n : Nat) (hw : w < 8) (h1 : 1 ≤ n) (h2 : n ≤ 99) : spec_l1How.f 6 (T (Nm.new w n).enc) = some (tells (.new w n)) := by
  have : ∀ w : Fin 8, ∀ n : Fin 100, 1 ≤ n.1 → spec_l1How.f 6 (T (Nm.new w.1 n.1).enc) = some (tells (.new w.1 n.1)) := by decide +kernel
  exact this ⟨w, hw⟩ ⟨n, by omega⟩ h1
theorem how_ev {s : ByteArray} {a : Nm} (ha : a.ok = true) (hl : s.size ≤ 300) (h : B s = a.enc) : Ev (fun k => spec_l1How.f k s) (tells a) := by
  have hz : s.size = a.enc.length := by rw [← Th.B_length, h]
  have hp := Th.enc_pos a
  cases a with
  | new w n =>
    simp only [Nm.ok, Bool.and_eq_true, decide_eq_true_eq] at ha
    have e : s = T (Nm.new w n).enc := by rw [← h, Th.T_B]
    rw [e]
    exact Ev.of (fun k => spec_l1How.mono _ k) (how_new w n ha.1.1 ha.1.2 ha.2)
  | next a =>
    have b0 : bt s 0 = 110 := bt_pre (pre := []) h 0
    have hs : s.size = a.enc.length + 1 := hz
    refine Ev.of_eq fun k => ?_
    unfold spec_l1How.f
    rw [if_pos (by omega), b0, if_pos rfl, if_pos (by omega), cut_end (pre := [110]) h 1 rfl]
    rfl
  | key a =>
    have b0 : bt s 0 = 107 := bt_pre (pre := []) h 0
    have hs : s.size = a.enc.length + 1 := hz
    refine Ev.of_eq fun k => ?_
    unfold spec_l1How.f
    rw [if_pos (by omega), b0, if_neg (by decide), if_pos rfl, if_pos (by omega), cut_end (pre := [107]) h 1 rfl]
    rfl
  | say w a =>
    simp only [Nm.ok, Bool.and_eq_true, decide_eq_true_eq] at ha
    have b0 : bt s 0 = 109 := bt_pre (pre := []) h 0
    have b1 : bt s 1 = ((65 + w : Nat) : Int) := bt_pre (pre := []) h 1
    have hs : s.size = a.enc.length + 2 := hz
    have hw : (((65 + w : Nat) : Int) - 65) % 256 = (w : Int) := by omega
    refine Ev.of_eq fun k => ?_
    unfold spec_l1How.f
    rw [if_pos (by omega), b0, if_neg (by decide), if_neg (by decide), if_pos rfl, if_pos (by omega), if_pos (by omega), b1, hw, cut_end (pre := [109, 65 + w]) h 2 rfl]
    rfl
  | room r a =>
    simp only [Nm.ok, Bool.and_eq_true, decide_eq_true_eq] at ha
    have b0 : bt s 0 = 114 := bt_pre (pre := []) h 0
    have b1 : bt s 1 = ((48 + r : Nat) : Int) := bt_pre (pre := []) h 1
    have hs : s.size = a.enc.length + 2 := hz
    have hw : (((48 + r : Nat) : Int) - 48) % 256 = (r : Int) := by omega
    refine Ev.of_eq fun k => ?_
    unfold spec_l1How.f
    rw [if_pos (by omega), b0, if_neg (by decide), if_neg (by decide), if_neg (by decide), if_pos rfl, if_pos (by omega), if_pos (by omega), b1, hw, cut_end (pre := [114, 48 + r]) h 2 rfl]
    rfl
  | epoch a b =>
    simp only [Nm.ok, Bool.and_eq_true] at ha
    have b0 : bt s 0 = 101 := bt_pre (pre := []) h 0
    have hs : s.size = a.enc.length + b.enc.length + 1 := by rw [hz]; simp [Nm.enc]
    have hsz : sz (a.enc ++ b.enc) = (a.enc.length : Int) := by
      rw [sz_some (Th.hd_enc ha.1 b.enc), List.length_append]
      omega
    refine Ev.congr (f := fun k => (spec_l1Size.f k s (([101] : List Nat).length : Int)).bind fun u => if 1 ≤ wrap64 (1 + u) then if wrap64 (1 + u) ≤ (s.size : Int) then if 0 ≤ wrap64 (1 + u) then some ((4 : Int), (0 : Int), (0 : Int), s.extract 1 (wrap64 (1 + u)).toNat, s.extract (wrap64 (1 + u)).toNat s.size) else none else none else none) (fun k => ?_) ?_
    · unfold spec_l1How.f
      rw [if_pos (by omega), b0, if_neg (by decide), if_neg (by decide), if_neg (by decide), if_neg (by decide), if_pos rfl]
      rfl
    · refine Ev.bind (size_ev (by omega) _ [101] (a.enc ++ b.enc) h (Nat.le_refl _)) (Ev.of_eq fun k => ?_)
      rw [hsz, wz (by omega) (by omega), if_pos (by omega), if_pos (by omega), if_pos (by omega), show (1 + (a.enc.length : Int)).toNat = 1 + a.enc.length by omega]
      rw [cut_ (pre := [101]) (u := a.enc) (v := b.enc) h 1 (1 + a.enc.length) rfl rfl, cut_end (pre := 101 :: a.enc) (u := b.enc) h (1 + a.enc.length) (by rw [List.length_cons]; omega)]
      rfl
/-- What the reference tells of a text. -/
theorem implMade (s : ByteArray) : impl_SecMade.f s = some (match nm s with | some a => tells a | none => (0, 0, 0, ⟨#[]⟩, ⟨#[]⟩)) := by
  unfold impl_SecMade.f
  cases nm s <;> rfl
end
end Go.Proofs.YtdcaipomjimplaaDoor.Pure
namespace Go.Proofs.YtdcaipomjimplaaDoor.Pure
section
open Go.RowKit Go.Proofs.YtdcaipomjimplaaDoor Go.Proofs.YtdcaipomjimplaaDoor.Wc Go.Proofs.YtdcaipomjimplaaDoorW.PrintWords Go.Proofs.YtdcaipomjimplaaDoorW.PrintLast
open Go.Proofs.YtdcaipomjimplaaDoor.Th (T B Nm nm dec hd prsNum whole)

/-- A text that is not too long, or none. -/
def cap (s : ByteArray) : ByteArray := if s.size ≤ 300 then s else ⟨#[]⟩
def made1 (h s : ByteArray) : ByteArray := if (nm s).isSome = true then cap (h ++ s) else ⟨#[]⟩
def made2 (h a b : ByteArray) : ByteArray := if (nm a).isSome = true then (if (nm b).isSome = true then cap (h ++ (a ++ b)) else ⟨#[]⟩) else ⟨#[]⟩
theorem nm_short {s : ByteArray} (h : (nm s).isSome = true) : s.size ≤ 300 := by
  obtain ⟨a, e⟩ := Option.isSome_iff_exists.1 h
  exact (Th.nm_some.1 e).2.1
theorem cap_ite (s : ByteArray) : (if (s.size : Int) ≤ 300 then (some s) else (some (⟨#[]⟩ : ByteArray))) = some (cap s) := by
  unfold cap
  by_cases h : s.size ≤ 300
  · rw [if_pos h, if_pos (by omega)]
  · rw [if_neg h, if_neg (by omega)]
theorem l1Ok_ev (s : ByteArray) : Ev (fun k => spec_l1Ok.f k s) (if (nm s).isSome = true then s else ⟨#[]⟩) := by
  unfold spec_l1Ok.f
  refine Ev.bind (secOk_ev s) (Ev.of_eq fun k => ?_)
  split <;> rfl
/-- A name behind its head is a name, if it is not too long. -/
theorem nm_put {s : ByteArray} {a : Nm} (h : nm s = some a) (l : List Nat) (f : Nm) (hok : f.ok = true) (he : f.enc = l ++ a.enc) : (nm (T l ++ s)).isSome = decide ((T l ++ s).size ≤ 300) := by
  obtain ⟨_, _, hs⟩ := Th.nm_some.1 h
  rw [hs, ← T_app, ← he]
  by_cases g : (T f.enc).size ≤ 300
  · rw [decide_eq_true g, Th.nm_T hok (by rw [← Th.T_size]; exact g)]
    rfl
  · rw [decide_eq_false g, nm, if_neg g]
    rfl
theorem okCap {s : ByteArray} (h : (nm s).isSome = decide (s.size ≤ 300)) : (if (nm s).isSome = true then s else ⟨#[]⟩) = cap s := by
  unfold cap
  rw [h]
  by_cases g : s.size ≤ 300
  · rw [if_pos g, if_pos (decide_eq_true g)]
  · rw [if_neg g, if_neg (by rw [decide_eq_false g]; decide)]
theorem specNext_ev (s : ByteArray) (hs : s.size ≤ 2000000) : Ev (fun k => spec_MakNext.f k s) (made1 (T [110]) s) := by
  unfold spec_MakNext.f made1
  refine Ev.bind (secOk_ev s) ?_
  cases hn : nm s with
  | none => exact Ev.of_eq fun k => by rw [Option.isSome_none, if_neg (by decide), if_neg (by decide)]
  | some a =>
    have ha := (Th.nm_some.1 hn).1
    refine Ev.congr (f := fun k => (spec_l1Ok.f k (T [110] ++ s)).bind fun t => some t) (fun k => ?_) ?_
    · rw [Option.isSome_some, if_pos rfl, if_pos (by omega)]
      rfl
    · rw [Option.isSome_some, if_pos rfl, ← okCap (nm_put hn [110] (.next a) ha rfl)]
      exact Ev.bind (l1Ok_ev _) (Ev.now _)
theorem specKey_ev (s : ByteArray) (hs : s.size ≤ 2000000) : Ev (fun k => spec_MakKey.f k s) (made1 (T [107]) s) := by
  unfold spec_MakKey.f made1
  refine Ev.bind (secOk_ev s) ?_
  cases hn : nm s with
  | none => exact Ev.of_eq fun k => by rw [Option.isSome_none, if_neg (by decide), if_neg (by decide)]
  | some a =>
    have ha := (Th.nm_some.1 hn).1
    refine Ev.congr (f := fun k => (spec_l1Ok.f k (T [107] ++ s)).bind fun t => some t) (fun k => ?_) ?_
    · rw [Option.isSome_some, if_pos rfl, if_pos (by omega)]
      rfl
    · rw [Option.isSome_some, if_pos rfl, ← okCap (nm_put hn [107] (.key a) ha rfl)]
      exact Ev.bind (l1Ok_ev _) (Ev.now _)
theorem T_assoc (x y z : ByteArray) : (x ++ y) ++ z = x ++ (y ++ z) := by
  apply Th.B_inj
  simp only [Th.B_append, List.append_assoc]
theorem specEpoch_ev (a b : ByteArray) (ha : a.size ≤ 2000000) (hb : b.size ≤ 2000000) : Ev (fun k => spec_MakEpoch.f k a b) (made2 (T [101]) a b) := by
  unfold spec_MakEpoch.f made2
  refine Ev.bind (secOk_ev a) ?_
  cases hn : nm a with
  | none => exact Ev.of_eq fun k => by rw [Option.isSome_none, if_neg (by decide), if_neg (by decide)]
  | some x =>
    refine Ev.congr (fun k => if_pos rfl) ?_
    rw [Option.isSome_some, if_pos rfl]
    refine Ev.bind (secOk_ev b) ?_
    cases hm : nm b with
    | none => exact Ev.of_eq fun k => by rw [Option.isSome_none, if_neg (by decide), if_neg (by decide)]
    | some y =>
      have hx := (Th.nm_some.1 hn).1
      have hy := (Th.nm_some.1 hm).1
      refine Ev.congr (f := fun k => (spec_l1Ok.f k (T [101] ++ (a ++ b))).bind fun t => some t) (fun k => ?_) ?_
      · rw [Option.isSome_some, if_pos rfl, if_pos (by omega), if_pos (by rw [ByteArray.size_append]; show 1 + a.size + b.size ≤ _; omega), T_assoc]
        rfl
      · have e : (nm (T [101] ++ (a ++ b))).isSome = decide ((T [101] ++ (a ++ b)).size ≤ 300) := by
          have ea := (Th.nm_some.1 hn).2.2
          rw [← T_assoc, show T [101] ++ a = T (101 :: x.enc) by rw [ea, ← T_app]; rfl]
          exact nm_put hm (101 :: x.enc) (.epoch x y) (by simp [Nm.ok, hx, hy]) rfl
        rw [Option.isSome_some, if_pos rfl, ← okCap e]
        exact Ev.bind (l1Ok_ev _) (Ev.now _)
end
end Go.Proofs.YtdcaipomjimplaaDoor.Pure
namespace Go.Proofs.YtdcaipomjimplaaDoor.Pure
section
open Go.RowKit Go.Proofs.YtdcaipomjimplaaDoor Go.Proofs.YtdcaipomjimplaaDoor.Wc Go.Proofs.YtdcaipomjimplaaDoorW.PrintWords Go.Proofs.YtdcaipomjimplaaDoorW.PrintLast

theorem w64 {x : Int} (h0 : -1000000000000 ≤ x) (h1 : x ≤ 1000000000000) : wrap64 x = x := by
  unfold wrap64
  omega
theorem xor_nat (a b : Nat) (ha : a < 2 ^ 31) (hb : b < 2 ^ 31) : Go.bits .xor .i64 (a : Int) (b : Int) = ((a ^^^ b : Nat) : Int) := by
  have ha' : a % 2 ^ 64 = a := Nat.mod_eq_of_lt (by omega)
  have hb' : b % 2 ^ 64 = b := Nat.mod_eq_of_lt (by omega)
  have hx : a ^^^ b < 2 ^ 31 := Nat.xor_lt_two_pow ha hb
  have e : (BitVec.ofNat 64 a ^^^ BitVec.ofNat 64 b).toNat = a ^^^ b := by
    rw [BitVec.toNat_xor, BitVec.toNat_ofNat, BitVec.toNat_ofNat, ha', hb']
  simp only [Go.bits, BitVec.ofInt_natCast, IntKind.bits]
  rw [IntKind.wrap_i64]
  show (((BitVec.ofNat 64 a ^^^ BitVec.ofNat 64 b).toNat : Int) + 9223372036854775808) % 18446744073709551616 - 9223372036854775808 = _
  rw [e]
  omega
theorem xor_pos {x y : Int} (h0 : 0 ≤ x) (h1 : x < 2 ^ 31) (g0 : 0 ≤ y) (g1 : y < 2 ^ 31) : 0 ≤ Go.bits .xor .i64 x y ∧ Go.bits .xor .i64 x y < 2 ^ 31 := by
  obtain ⟨a, rfl⟩ := Int.eq_ofNat_of_zero_le h0
  obtain ⟨b, rfl⟩ := Int.eq_ofNat_of_zero_le g0
  have ha : a < 2 ^ 31 := by omega
  have hb : b < 2 ^ 31 := by omega
  rw [xor_nat a b ha hb]
  have := Nat.xor_lt_two_pow ha hb
  omega
/-- The bytes of a code. -/
def Bytes (b : List Int) : Prop := ∀ x ∈ b, 0 ≤ x ∧ x ≤ 255
theorem Bytes.of_wf {l : List Int} (h : ∀ x ∈ l, (Lit.int .u8 x).wf = true) : Bytes l := by
  intro x hx
  have := h x hx
  simp only [Lit.wf, Bool.and_eq_true, decide_eq_true_eq] at this
  exact ⟨by have := this.1; simpa [IntKind.min, IntKind.signed] using this, by have := this.2; simpa [IntKind.max, IntKind.signed, IntKind.bits] using this⟩
theorem Bytes.take {l : List Int} (h : Bytes l) (n : Nat) : Bytes (l.take n) := fun x hx => h x (List.mem_of_mem_take hx)
theorem Bytes.rd_ {l : List Int} (h : Bytes l) (i : Int) : 0 ≤ rd l i ∧ rd l i ≤ 255 := by
  unfold rd
  rw [List.getD_eq_getElem?_getD]
  cases e : l[i.toNat]? with
  | none => exact ⟨Int.le_refl _, by decide⟩
  | some x => exact h x (List.mem_of_getElem? e)
/-- What a reader is good for: short, of bytes, not far on. -/
structure Rd (b : List Int) (p : Int) (m : Int) : Prop where
  bytes : Bytes b
  short : b.length ≤ 2000
  lo : 0 ≤ p
  hi : p ≤ m
theorem open_any (l : List Int) (h : Bytes l) : ∃ b, spec_l20Open.f l = some (b, 0) ∧ Rd b 0 0 := by
  unfold spec_l20Open.f
  by_cases hl : (l.length : Int) > 2000
  · rw [if_pos hl, if_pos (by omega)]
    exact ⟨_, rfl, h.take _, by rw [List.length_take]; omega, Int.le_refl _, Int.le_refl _⟩
  · rw [if_neg hl]
    exact ⟨_, rfl, h, by omega, Int.le_refl _, Int.le_refl _⟩
theorem pick_any {b : List Int} {p m : Int} (h : Rd b p m) (hm : m ≤ 100000) (n : Int) (hn : 1 ≤ n) (hn2 : n ≤ 1000000) (k : Nat) (hk : 1 ≤ k) :
    ∃ r, spec_l20Rd_pick.f k b p n = some (r, p + 1) ∧ 0 ≤ r ∧ r < n := by
  obtain ⟨k, rfl⟩ : ∃ j, k = j + 1 := ⟨k - 1, by omega⟩
  obtain ⟨hb, hl, h0, h1⟩ := h
  unfold spec_l20Rd_pick.f
  rw [if_neg (by omega)]
  simp only [spec_l20Rd_pick.j0]
  rw [w64 (x := p + 1) (by omega) (by omega), show p + 1 - 1 = p by omega, w64 (x := p) (by omega) (by omega)]
  by_cases hz : ((b.length : Int) == 0) = true
  · rw [if_pos hz]
    exact ⟨0, rfl, by omega, by omega⟩
  · rw [if_neg hz]
    have hlen : 0 < (b.length : Int) := by
      have : ¬ (b.length : Int) = 0 := fun e => hz (by rw [e]; rfl)
      omega
    by_cases hp : p < (b.length : Int)
    · rw [if_pos hp, if_pos h0, if_neg (by omega)]
      obtain ⟨r0, r1⟩ := hb.rd_ p
      rw [w64 (x := rd b p) (by omega) (by omega)]
      exact ⟨_, rfl, Int.tmod_nonneg _ r0, Int.tmod_lt_of_pos _ (by omega)⟩
    · rw [if_neg hp, if_neg (by omega)]
      have i0 := Int.tmod_nonneg (b.length : Int) h0
      have i1 := Int.tmod_lt_of_pos p hlen
      have j0 := Int.tmod_nonneg (b.length : Int) (show 0 ≤ p * 7 + 3 by omega)
      have j1 := Int.tmod_lt_of_pos (p * 7 + 3) hlen
      rw [if_pos i0, if_pos i1, w64 (x := p * 7) (by omega) (by omega), w64 (x := p * 7 + 3) (by omega) (by omega), if_pos j0, if_pos j1, if_neg (by omega)]
      obtain ⟨u0, u1⟩ := hb.rd_ (p.tmod (b.length : Int))
      obtain ⟨v0, v1⟩ := hb.rd_ ((p * 7 + 3).tmod (b.length : Int))
      have q0 : 0 ≤ p.tdiv (b.length : Int) := Int.tdiv_nonneg h0 (by omega)
      have q1 : p.tdiv (b.length : Int) ≤ p := Int.tdiv_le_self _ h0
      generalize rd b (p.tmod (b.length : Int)) = u at u0 u1 ⊢
      generalize rd b ((p * 7 + 3).tmod (b.length : Int)) = v at v0 v1 ⊢
      generalize p.tdiv (b.length : Int) = q at q0 q1 ⊢
      rw [w64 (x := u) (by omega) (by omega), w64 (x := v) (by omega) (by omega), w64 (x := q) (by omega) (by omega), w64 (x := u * 131) (by omega) (by omega), w64 (x := v * 1117) (by omega) (by omega), w64 (x := p * 29) (by omega) (by omega), w64 (x := q * 53) (by omega) (by omega), w64 (x := u * 131 + v * 1117) (by omega) (by omega), w64 (x := u * 131 + v * 1117 + p * 29) (by omega) (by omega), w64 (x := u * 131 + v * 1117 + p * 29 + q * 53) (by omega) (by omega)]
      have X0 : 0 ≤ u * 131 + v * 1117 + p * 29 + q * 53 := by omega
      have X1 : u * 131 + v * 1117 + p * 29 + q * 53 < 2 ^ 31 := by omega
      generalize u * 131 + v * 1117 + p * 29 + q * 53 = X at X0 X1 ⊢
      have d0 : 0 ≤ X.tdiv 64 := Int.tdiv_nonneg X0 (by omega)
      have d1 : X.tdiv 64 ≤ X := Int.tdiv_le_self _ X0
      rw [w64 (x := X.tdiv 64) (by omega) (by omega)]
      obtain ⟨z0, z1⟩ := xor_pos X0 X1 d0 (by omega)
      exact ⟨_, rfl, Int.tmod_nonneg _ z0, Int.tmod_lt_of_pos _ (by omega)⟩
theorem Rd.next {b : List Int} {p m : Int} (h : Rd b p m) : Rd b (p + 1) (m + 1) := ⟨h.bytes, h.short, by have := h.lo; omega, by have := h.hi; omega⟩
end
end Go.Proofs.YtdcaipomjimplaaDoor.Pure
namespace Go.Proofs.YtdcaipomjimplaaDoor.Pure
section
open Go.RowKit Go.Proofs.YtdcaipomjimplaaDoor Go.Proofs.YtdcaipomjimplaaDoor.Wc Go.Proofs.YtdcaipomjimplaaDoorW.PrintWords Go.Proofs.YtdcaipomjimplaaDoorW.PrintLast
open Go.Proofs.YtdcaipomjimplaaDoor.Th (T B Nm nm dec hd prsNum whole)

/-- What makSay is. -/
def madeSay (s : ByteArray) (w : Int) : ByteArray := if 0 ≤ w ∧ w ≤ 7 then made1 (T [109, 65 + w.toNat]) s else ⟨#[]⟩
def madeRoom (s : ByteArray) (r : Int) : ByteArray := if 1 ≤ r ∧ r ≤ 9 then made1 (T [114, 48 + r.toNat]) s else ⟨#[]⟩
theorem made1_no {h s : ByteArray} (g : nm s = none) : made1 h s = ⟨#[]⟩ := by unfold made1; rw [g]; rfl
theorem specSay_ev (s : ByteArray) (w : Int) (hs : s.size ≤ 2000000) : Ev (fun k => spec_MakSay.f k s w) (madeSay s w) := by
  unfold spec_MakSay.f madeSay
  refine Ev.bind (secOk_ev s) ?_
  have no : ∀ q : Bool, Ev (fun k => spec_MakSay.j0 k s w true) (⟨#[]⟩ : ByteArray) := fun _ => Ev.step (f := fun _ => some ⟨#[]⟩) (fun k => by rw [spec_MakSay.j0, if_pos rfl]) (Ev.now _)
  cases hn : nm s with
  | none =>
    rw [made1_no hn, ite_self]
    refine Ev.congr (fun k => ?_) (no true)
    rw [Option.isSome_none, if_neg (by decide)]
  | some a =>
    have ha := (Th.nm_some.1 hn).1
    refine Ev.congr (f := fun k => spec_MakSay.j0 k s w (!decide (0 ≤ w ∧ w ≤ 7))) (fun k => ?_) ?_
    · rw [Option.isSome_some, if_pos rfl, spec_in, Option.bind_some]
    · by_cases g : 0 ≤ w ∧ w ≤ 7
      · obtain ⟨n, rfl⟩ := Int.eq_ofNat_of_zero_le g.1
        rw [decide_eq_true g, if_pos g, Int.toNat_natCast]
        refine Ev.step (f := fun k => (spec_l1Ok.f k (T [109, 65 + n] ++ s)).bind fun t => some t) (fun k => ?_) ?_
        · rw [spec_MakSay.j0, if_neg (by decide), spec_letter n (by omega), Option.bind_some, if_pos (by rw [Th.T_size]; simp), if_pos (by rw [ByteArray.size_append, Th.T_size]; show 1 + 1 + s.size ≤ _; omega)]
          rw [show (⟨#[109]⟩ : ByteArray) ++ T [65 + n] = T [109, 65 + n] from (T_app [109] [65 + n]).symm]
        · unfold made1
          rw [hn, Option.isSome_some, if_pos rfl, ← okCap (nm_put hn [109, 65 + n] (.say n a) (by simp only [Nm.ok, Bool.and_eq_true, decide_eq_true_eq]; exact ⟨by omega, ha⟩) rfl)]
          exact Ev.bind (l1Ok_ev _) (Ev.now _)
      · rw [decide_eq_false g, if_neg g]
        exact no true
theorem specRoom_ev (s : ByteArray) (r : Int) (hs : s.size ≤ 2000000) : Ev (fun k => spec_MakRoom.f k s r) (madeRoom s r) := by
  unfold spec_MakRoom.f madeRoom
  refine Ev.bind (secOk_ev s) ?_
  have no : ∀ q : Bool, Ev (fun k => spec_MakRoom.j0 k s r true) (⟨#[]⟩ : ByteArray) := fun _ => Ev.step (f := fun _ => some ⟨#[]⟩) (fun k => by rw [spec_MakRoom.j0, if_pos rfl]) (Ev.now _)
  cases hn : nm s with
  | none =>
    rw [made1_no hn, ite_self]
    refine Ev.congr (fun k => ?_) (no true)
    rw [Option.isSome_none, if_neg (by decide)]
  | some a =>
    have ha := (Th.nm_some.1 hn).1
    refine Ev.congr (f := fun k => spec_MakRoom.j0 k s r (!decide (1 ≤ r ∧ r ≤ 9))) (fun k => ?_) ?_
    · rw [Option.isSome_some, if_pos rfl, spec_in, Option.bind_some]
    · by_cases g : 1 ≤ r ∧ r ≤ 9
      · obtain ⟨n, rfl⟩ := Int.eq_ofNat_of_zero_le (show 0 ≤ r by omega)
        have hd : dec n = [48 + n] := by unfold dec; rw [if_pos (by omega)]
        rw [decide_eq_true g, if_pos g, Int.toNat_natCast]
        have pl : Ev (fun k => spec_l1Plain.f k (n : Int)) (T [48 + n]) := ⟨3, fun k hk => (spec_plain n (by omega) k hk).trans (by rw [hd])⟩
        refine Ev.step (f := fun k => (spec_l1Plain.f k (n : Int)).bind fun t327 => (if 1 + t327.size ≤ 9223372036854775807 then (if ((⟨#[114]⟩ : ByteArray) ++ t327).size + s.size ≤ 9223372036854775807 then ((spec_l1Ok.f k (((⟨#[114]⟩ : ByteArray) ++ t327) ++ s)).bind fun t328 => (some t328)) else (none)) else (none))) (fun k => ?_) ?_
        · rw [spec_MakRoom.j0, if_neg (by decide)]
        · refine Ev.bind pl ?_
          refine Ev.congr (f := fun k => (spec_l1Ok.f k (T [114, 48 + n] ++ s)).bind fun t => some t) (fun k => ?_) ?_
          · rw [if_pos (by rw [Th.T_size]; simp), if_pos (by rw [ByteArray.size_append, Th.T_size]; show 1 + 1 + s.size ≤ _; omega)]
            rw [show (⟨#[114]⟩ : ByteArray) ++ T [48 + n] = T [114, 48 + n] from (T_app [114] [48 + n]).symm]
          · unfold made1
            rw [hn, Option.isSome_some, if_pos rfl, ← okCap (nm_put hn [114, 48 + n] (.room n a) (by simp only [Nm.ok, Bool.and_eq_true, decide_eq_true_eq]; exact ⟨⟨by omega, by omega⟩, ha⟩) rfl)]
            exact Ev.bind (l1Ok_ev _) (Ev.now _)
      · rw [decide_eq_false g, if_neg g]
        exact no true

end
end Go.Proofs.YtdcaipomjimplaaDoor.Pure
namespace Go.Proofs.YtdcaipomjimplaaDoor.Pure
section
open Go.RowKit Go.Proofs.YtdcaipomjimplaaDoor Go.Proofs.YtdcaipomjimplaaDoor.Wc Go.Proofs.YtdcaipomjimplaaDoorW.PrintWords Go.Proofs.YtdcaipomjimplaaDoorW.PrintLast
open Go.Proofs.YtdcaipomjimplaaDoor.Th (T B Nm nm dec hd prsNum whole)

theorem pick_ev {b : List Int} {p m : Int} (h : Rd b p m) (hm : m ≤ 100000) (n : Int) (hn : 1 ≤ n) (hn2 : n ≤ 1000000) : ∃ r, (0 ≤ r ∧ r < n) ∧ Ev (fun k => spec_l20Rd_pick.f k b p n) (r, p + 1) := by
  obtain ⟨r, e, h0, h1⟩ := pick_any h hm n hn hn2 1 (by omega)
  exact ⟨r, ⟨h0, h1⟩, Ev.of (fun k => spec_l20Rd_pick.mono _ _ _ k) e⟩
theorem Rd.weak {b : List Int} {p m m' : Int} (h : Rd b p m) (hm : m ≤ m') : Rd b p m' := ⟨h.bytes, h.short, h.lo, by have := h.hi; omega⟩
theorem cap_short (s : ByteArray) : (cap s).size ≤ 300 := by
  unfold cap
  split
  · assumption
  · exact Nat.zero_le _
theorem made1_short (h s : ByteArray) : (made1 h s).size ≤ 300 := by
  unfold made1
  split
  · exact cap_short _
  · exact Nat.zero_le _
theorem made2_short (h a b : ByteArray) : (made2 h a b).size ≤ 300 := by
  unfold made2
  split
  · split
    · exact cap_short _
    · exact Nat.zero_le _
  · exact Nat.zero_le _
theorem madeSay_short (s : ByteArray) (w : Int) : (madeSay s w).size ≤ 300 := by
  unfold madeSay
  split
  · exact made1_short _ _
  · exact Nat.zero_le _
theorem madeRoom_short (s : ByteArray) (w : Int) : (madeRoom s w).size ≤ 300 := by
  unfold madeRoom
  split
  · exact made1_short _ _
  · exact Nat.zero_le _
theorem mkN_short (w n : Nat) : (mkN w n).size ≤ 300 := by
  unfold mkN
  split
  · rw [Th.T_size]
    have := dec_two n
    simp only [Nm.enc, List.length_cons, List.length_append, List.length_nil]
    omega
  · exact Nat.zero_le _
/-- How far a secret's drawing moves on, at most. -/
def far : Nat → Int
  | 0 => 3
  | d + 1 => 2 * far d + 3
theorem far_pos (d : Nat) : 3 ≤ far d := by induction d with
  | zero => exact Int.le_refl _
  | succ d ih => simp only [far]; omega
theorem new_ev (a b : Int) (h0 : 0 ≤ a) (h1 : 0 ≤ b) : ∃ s, Ev (fun k => spec_MakNew.f k a b) s ∧ s.size ≤ 300 := by
  obtain ⟨x, rfl⟩ := Int.eq_ofNat_of_zero_le h0
  obtain ⟨y, rfl⟩ := Int.eq_ofNat_of_zero_le h1
  exact ⟨mkN x y, ⟨4, fun k hk => spec_mkN x y k hk⟩, mkN_short x y⟩
theorem secret_ev {b : List Int} : ∀ (d : Nat) (p m : Int), d ≤ 100 → Rd b p m → m + far d ≤ 90000 → ∃ s q, Ev (fun k => spec_l20Secret.f k b p (d : Int)) (s, q) ∧ s.size ≤ 300 ∧ Rd b q (m + far d) := by
  intro d
  induction d with
  | zero =>
    intro p m _ R hm
    simp only [far] at hm ⊢
    obtain ⟨r1, ⟨g1, _⟩, e1⟩ := pick_ev R (by omega) 3 (by omega) (by omega)
    obtain ⟨r2, ⟨g2, g3⟩, e2⟩ := pick_ev R.next (by omega) 4 (by omega) (by omega)
    obtain ⟨s, e3, hs⟩ := new_ev r1 (1 + r2) g1 (by omega)
    refine ⟨s, p + 1 + 1, ?_, hs, R.next.next.weak (by omega)⟩
    refine Ev.step (f := fun k => spec_l20Secret.j0 k ((0 : Nat) : Int) true b p) (fun k => ?_) ?_
    · rw [spec_l20Secret.f, if_pos (by rfl)]
    · refine Ev.step (f := fun k => (spec_l20Rd_pick.f k b p 3).bind fun bt151 => ((spec_l20Rd_pick.f k b bt151.2 4).bind fun bt153 => ((spec_MakNew.f k bt151.1 (wrap64 (1 + bt153.1))).bind fun t155 => (some (t155, bt153.2))))) (fun k => ?_) ?_
      · rw [spec_l20Secret.j0, if_pos rfl]
      · refine Ev.bind e1 (Ev.bind e2 ?_)
        refine Ev.congr (f := fun k => (spec_MakNew.f k r1 (1 + r2)).bind fun t => some (t, p + 1 + 1)) (fun k => by rw [wz (by omega) (by omega)]) ?_
        exact Ev.bind e3 (Ev.now _)
  | succ d ih =>
    intro p m hd R hm
    have hf := far_pos d
    simp only [far] at hm ⊢
    obtain ⟨r0, ⟨g0, _⟩, e0⟩ := pick_ev R (by omega) 3 (by omega) (by omega)
    have R1 := R.next
    have hdd : wrap64 (((d + 1 : Nat) : Int) - 1) = (d : Int) := by rw [wz (by omega) (by omega)]; omega
    have start : ∀ x, Ev (fun k => spec_l20Secret.j0 k ((d + 1 : Nat) : Int) (r0 == 0) b (p + 1)) x → Ev (fun k => spec_l20Secret.f k b p ((d + 1 : Nat) : Int)) x := by
      intro x hx
      refine Ev.step (f := fun k => (spec_l20Rd_pick.f k b p 3).bind fun bt149 => spec_l20Secret.j0 k ((d + 1 : Nat) : Int) (bt149.1 == 0) b bt149.2) (fun k => ?_) ?_
      · rw [spec_l20Secret.f, if_neg (by omega)]
      · exact Ev.bind e0 hx
    by_cases hr : r0 = 0
    · obtain ⟨r1, ⟨g1, _⟩, e1⟩ := pick_ev R1 (by omega) 3 (by omega) (by omega)
      obtain ⟨r2, ⟨g2, g3⟩, e2⟩ := pick_ev R1.next (by omega) 4 (by omega) (by omega)
      obtain ⟨s, e3, hs⟩ := new_ev r1 (1 + r2) g1 (by omega)
      refine ⟨s, p + 1 + 1 + 1, start _ ?_, hs, R1.next.next.weak (by omega)⟩
      rw [hr, show ((0 : Int) == 0) = true from rfl]
      refine Ev.step (f := fun k => (spec_l20Rd_pick.f k b (p + 1) 3).bind fun bt151 => ((spec_l20Rd_pick.f k b bt151.2 4).bind fun bt153 => ((spec_MakNew.f k bt151.1 (wrap64 (1 + bt153.1))).bind fun t155 => (some (t155, bt153.2))))) (fun k => ?_) ?_
      · rw [spec_l20Secret.j0, if_pos rfl]
      · refine Ev.bind e1 (Ev.bind e2 ?_)
        refine Ev.congr (f := fun k => (spec_MakNew.f k r1 (1 + r2)).bind fun t => some (t, p + 1 + 1 + 1)) (fun k => by rw [wz (by omega) (by omega)]) ?_
        exact Ev.bind e3 (Ev.now _)
    · obtain ⟨r1, ⟨g1, g2⟩, e1⟩ := pick_ev R1 (by omega) 6 (by omega) (by omega)
      have R2 := R1.next
      obtain ⟨s, q, es, hs, Rq⟩ := ih (p + 1 + 1) (m + 1 + 1) (by omega) R2 (by omega)
      have b0 : (r0 == 0) = false := beq_eq_false_iff_ne.2 hr
      have on : ∀ x, Ev (fun k => spec_l20Secret.j1 k ((d + 1 : Nat) : Int) r1 (r1 == 0 || r1 == 1) b (p + 1 + 1)) x → Ev (fun k => spec_l20Secret.f k b p ((d + 1 : Nat) : Int)) x := by
        intro x hx
        refine start x ?_
        rw [b0]
        refine Ev.step (f := fun k => (spec_l20Rd_pick.f k b (p + 1) 6).bind fun bt156 => (if bt156.1 = 0 then (spec_l20Secret.j1 k ((d + 1 : Nat) : Int) bt156.1 (bt156.1 == 0) b bt156.2) else (spec_l20Secret.j1 k ((d + 1 : Nat) : Int) bt156.1 (bt156.1 == 1) b bt156.2))) (fun k => ?_) ?_
        · rw [spec_l20Secret.j0, if_neg (by decide)]
        · refine Ev.bind e1 ?_
          by_cases z : r1 = 0
          · refine Ev.congr (fun k => ?_) hx
            rw [if_pos z, z]
            rfl
          · refine Ev.congr (fun k => ?_) hx
            rw [if_neg z, beq_eq_false_iff_ne.2 z, Bool.false_or]
      by_cases z : r1 = 0 ∨ r1 = 1
      · refine ⟨made1 (T [110]) s, q, on _ ?_, made1_short _ _, Rq.weak (by omega)⟩
        have bz : (r1 == 0 || r1 == 1) = true := by rcases z with z | z <;> rw [z] <;> rfl
        rw [bz]
        refine Ev.step (f := fun k => (spec_l20Secret.f k b (p + 1 + 1) (d : Int)).bind fun bt158 => ((spec_MakNext.f k bt158.1).bind fun t160 => (some (t160, bt158.2)))) (fun k => ?_) ?_
        · rw [spec_l20Secret.j1, if_pos rfl, hdd]
        · exact Ev.bind es (Ev.bind (specNext_ev s (by omega)) (Ev.now _))
      · have bz : (r1 == 0 || r1 == 1) = false := by
          rw [beq_eq_false_iff_ne.2 (fun h => z (.inl h)), beq_eq_false_iff_ne.2 (fun h => z (.inr h))]
          rfl
        rw [bz] at on
        by_cases z2 : r1 = 2
        · refine ⟨made1 (T [107]) s, q, on _ ?_, made1_short _ _, Rq.weak (by omega)⟩
          refine Ev.step (f := fun k => (spec_l20Secret.f k b (p + 1 + 1) (d : Int)).bind fun bt161 => ((spec_MakKey.f k bt161.1).bind fun t163 => (some (t163, bt161.2)))) (fun k => ?_) ?_
          · rw [spec_l20Secret.j1, if_neg (by decide), if_pos z2, hdd]
          · exact Ev.bind es (Ev.bind (specKey_ev s (by omega)) (Ev.now _))
        by_cases z3 : r1 = 3
        · obtain ⟨s2, q2, es2, hs2, Rq2⟩ := ih q (m + 1 + 1 + far d) (by omega) Rq (by omega)
          refine ⟨made2 (T [101]) s s2, q2, on _ ?_, made2_short _ _ _, Rq2.weak (by omega)⟩
          refine Ev.step (f := fun k => (spec_l20Secret.f k b (p + 1 + 1) (d : Int)).bind fun bt164 => ((spec_l20Secret.f k b bt164.2 (d : Int)).bind fun bt166 => ((spec_MakEpoch.f k bt164.1 bt166.1).bind fun t168 => (some (t168, bt166.2))))) (fun k => ?_) ?_
          · rw [spec_l20Secret.j1, if_neg (by decide), if_neg z2, if_pos z3, hdd]
          · exact Ev.bind es (Ev.bind es2 (Ev.bind (specEpoch_ev s s2 (by omega) (by omega)) (Ev.now _)))
        by_cases z4 : r1 = 4
        · obtain ⟨r2, ⟨u0, u1⟩, e2⟩ := pick_ev Rq (by omega) 8 (by omega) (by omega)
          refine ⟨madeSay s r2, q + 1, on _ ?_, madeSay_short _ _, Rq.next.weak (by omega)⟩
          refine Ev.step (f := fun k => (spec_l20Secret.f k b (p + 1 + 1) (d : Int)).bind fun bt169 => ((spec_l20Rd_pick.f k b bt169.2 8).bind fun bt171 => ((spec_MakSay.f k bt169.1 bt171.1).bind fun t173 => (some (t173, bt171.2))))) (fun k => ?_) ?_
          · rw [spec_l20Secret.j1, if_neg (by decide), if_neg z2, if_neg z3, if_pos z4, hdd]
          · exact Ev.bind es (Ev.bind e2 (Ev.bind (specSay_ev s r2 (by omega)) (Ev.now _)))
        · obtain ⟨r2, ⟨u0, u1⟩, e2⟩ := pick_ev Rq (by omega) 9 (by omega) (by omega)
          refine ⟨madeRoom s (1 + r2), q + 1, on _ ?_, madeRoom_short _ _, Rq.next.weak (by omega)⟩
          refine Ev.step (f := fun k => (spec_l20Secret.f k b (p + 1 + 1) (d : Int)).bind fun bt174 => ((spec_l20Rd_pick.f k b bt174.2 9).bind fun bt176 => ((spec_MakRoom.f k bt174.1 (wrap64 (1 + bt176.1))).bind fun t178 => (some (t178, bt176.2))))) (fun k => ?_) ?_
          · rw [spec_l20Secret.j1, if_neg (by decide), if_neg z2, if_neg z3, if_neg z4, hdd]
          · refine Ev.bind es (Ev.bind e2 ?_)
            refine Ev.congr (f := fun k => (spec_MakRoom.f k s (1 + r2)).bind fun t => some (t, q + 1)) (fun k => by rw [wz (by omega) (by omega)]) ?_
            exact Ev.bind (specRoom_ev s (1 + r2) (by omega)) (Ev.now _)
theorem sizeOf_one (x : Int) : (strOfNums [x]).size = 1 := by simp [strOfNums, ByteArray.size]
theorem bent_ev {b : List Int} {p m : Int} (R : Rd b p m) (hm : m ≤ 50000) (s : ByteArray) (hs : s.size ≤ 1000) : ∃ t q, Ev (fun k => spec_l20Bent.f k b p s) (t, q) ∧ t.size ≤ s.size + 1 ∧ Rd b q (m + 4) := by
  obtain ⟨r1, ⟨g1, h1⟩, e1⟩ := pick_ev R (by omega) ((s.size : Int) + 1) (by omega) (by omega)
  obtain ⟨r2, ⟨g2, h2⟩, e2⟩ := pick_ev R.next (by omega) 256 (by omega) (by omega)
  obtain ⟨r3, ⟨g3, h3⟩, e3⟩ := pick_ev R.next.next (by omega) 10 (by omega) (by omega)
  obtain ⟨r4, ⟨g4, h4⟩, e4⟩ := pick_ev R.next.next.next (by omega) 3 (by omega) (by omega)
  have R4 := R.next.next.next.next.weak (m' := m + 4) (by omega)
  obtain ⟨n, rfl⟩ := Int.eq_ofNat_of_zero_le g1
  have w1 : wrap64 ((n : Int) + 1) = ((n + 1 : Nat) : Int) := by rw [wz (by omega) (by omega)]; rfl
  have z1 : (s.extract 0 n).size = n := by rw [ByteArray.size_extract]; omega
  have z2 : (s.extract n s.size).size = s.size - n := by rw [ByteArray.size_extract]; omega
  have z3 : (s.extract (n + 1) s.size).size = s.size - (n + 1) := by rw [ByteArray.size_extract]; omega
  obtain ⟨c, hc, ec⟩ : ∃ c : ByteArray, c.size = 1 ∧ strOfNums [(rd [32, 48, 49, 57, 59, 110, 101, 65, 73, r2] r3) % 256] = c := ⟨_, sizeOf_one _, rfl⟩
  by_cases a0 : r4 = 0
  · refine ⟨(s.extract 0 n ++ c) ++ s.extract n s.size, p + 1 + 1 + 1 + 1, ?_, by rw [ByteArray.size_append, ByteArray.size_append]; omega, R4⟩
    unfold spec_l20Bent.f
    refine Ev.congr (fun k => by rw [wz (x := (s.size : Int) + 1) (by omega) (by omega)]) (Ev.bind e1 (Ev.bind e2 ?_))
    refine Ev.congr (fun k => by rw [Option.bind_some]) (Ev.bind e3 ?_)
    refine Ev.congr (fun k => by rw [if_pos g3, if_pos (by simpa using h3), Option.bind_some]) (Ev.bind e4 ?_)
    exact Ev.of_eq fun k => by
      rw [if_pos a0, ec, Int.toNat_natCast, if_pos (by omega), if_pos (by omega), if_pos (by omega), if_pos (by rw [ByteArray.size_append]; omega)]
  by_cases a1 : r4 = 1
  · by_cases b1 : (n : Int) < (s.size : Int)
    · refine ⟨s.extract 0 n ++ s.extract (n + 1) s.size, p + 1 + 1 + 1 + 1, ?_, by rw [ByteArray.size_append]; omega, R4⟩
      unfold spec_l20Bent.f
      refine Ev.congr (fun k => by rw [wz (x := (s.size : Int) + 1) (by omega) (by omega)]) (Ev.bind e1 (Ev.bind e2 ?_))
      refine Ev.congr (fun k => by rw [Option.bind_some]) (Ev.bind e3 ?_)
      refine Ev.congr (fun k => by rw [if_pos g3, if_pos (by simpa using h3), Option.bind_some]) (Ev.bind e4 ?_)
      exact Ev.of_eq fun k => by
        rw [if_neg a0, if_pos a1, w1, Int.toNat_natCast, Int.toNat_natCast, if_pos b1, if_pos (by omega), if_pos (by omega), if_pos (by omega), if_pos (by omega), if_pos (by omega)]
    · refine ⟨s, p + 1 + 1 + 1 + 1, ?_, by omega, R4⟩
      unfold spec_l20Bent.f
      refine Ev.congr (fun k => by rw [wz (x := (s.size : Int) + 1) (by omega) (by omega)]) (Ev.bind e1 (Ev.bind e2 ?_))
      refine Ev.congr (fun k => by rw [Option.bind_some]) (Ev.bind e3 ?_)
      refine Ev.congr (fun k => by rw [if_pos g3, if_pos (by simpa using h3), Option.bind_some]) (Ev.bind e4 ?_)
      exact Ev.of_eq fun k => by
        rw [if_neg a0, if_pos a1, if_neg b1]
  · by_cases b1 : (n : Int) < (s.size : Int)
    · refine ⟨(s.extract 0 n ++ c) ++ s.extract (n + 1) s.size, p + 1 + 1 + 1 + 1, ?_, by rw [ByteArray.size_append, ByteArray.size_append]; omega, R4⟩
      unfold spec_l20Bent.f
      refine Ev.congr (fun k => by rw [wz (x := (s.size : Int) + 1) (by omega) (by omega)]) (Ev.bind e1 (Ev.bind e2 ?_))
      refine Ev.congr (fun k => by rw [Option.bind_some]) (Ev.bind e3 ?_)
      refine Ev.congr (fun k => by rw [if_pos g3, if_pos (by simpa using h3), Option.bind_some]) (Ev.bind e4 ?_)
      exact Ev.of_eq fun k => by
        rw [if_neg a0, if_neg a1, ec, w1, Int.toNat_natCast, Int.toNat_natCast, if_pos b1, if_pos (by omega), if_pos (by omega), if_pos (by omega), if_pos (by omega), if_pos (by omega), if_pos (by rw [ByteArray.size_append]; omega)]
    · refine ⟨s, p + 1 + 1 + 1 + 1, ?_, by omega, R4⟩
      unfold spec_l20Bent.f
      refine Ev.congr (fun k => by rw [wz (x := (s.size : Int) + 1) (by omega) (by omega)]) (Ev.bind e1 (Ev.bind e2 ?_))
      refine Ev.congr (fun k => by rw [Option.bind_some]) (Ev.bind e3 ?_)
      refine Ev.congr (fun k => by rw [if_pos g3, if_pos (by simpa using h3), Option.bind_some]) (Ev.bind e4 ?_)
      exact Ev.of_eq fun k => by
        rw [if_neg a0, if_neg a1, if_neg b1]
theorem grow_ev {b : List Int} {p : Int} : ∀ (d : Nat) (s : ByteArray), 301 - s.size ≤ d → s.size ≤ 301 → ∃ t, Ev (fun k => spec_l20SecretOr.l0 k s b p) (t, p) ∧ t.size ≤ 301 := by
  intro d
  induction d with
  | zero =>
    intro s h0 h1
    refine ⟨s, Ev.step (f := fun _ => some (s, p)) (fun k => ?_) (Ev.now _), h1⟩
    rw [spec_l20SecretOr.l0, if_neg (by omega)]
  | succ d ih =>
    intro s h0 h1
    by_cases h : s.size ≤ 300
    · have e : ((⟨#[110]⟩ : ByteArray) ++ s).size = 1 + s.size := by rw [ByteArray.size_append]; rfl
      obtain ⟨t, ht, hz⟩ := ih ((⟨#[110]⟩ : ByteArray) ++ s) (by omega) (by omega)
      refine ⟨t, Ev.step (fun k => ?_) ht, hz⟩
      rw [spec_l20SecretOr.l0, if_pos (by omega), if_pos (by omega)]
    · refine ⟨s, Ev.step (f := fun _ => some (s, p)) (fun k => ?_) (Ev.now _), h1⟩
      rw [spec_l20SecretOr.l0, if_neg (by omega)]
/-- Whatever the code: a text comes, of at most 700 bytes. -/
theorem secretOr_ev {b : List Int} {p m : Int} (R : Rd b p m) (hm : m ≤ 20000) (n : Int) (hn : 1 ≤ n) (hn2 : n < 9000) : ∃ s q, Ev (fun k => spec_l20SecretOr.f k b p n) (s, q) ∧ s.size ≤ 700 ∧ Rd b q (m + 100) := by
  obtain ⟨s, q, es, hs, Rq⟩ := secret_ev 4 p m (by omega) R (by simp only [far]; omega)
  have R0 : Rd b q (m + 93) := Rq.weak (by simp only [far]; omega)
  obtain ⟨r1, ⟨g1, h1⟩, e1⟩ := pick_ev R0 (by omega) n hn (by omega)
  have eo : Ev (fun k => spec_l20Rd_odd.f k b q n) (r1 == wrap64 (n - 1), q + 1) := by
    unfold spec_l20Rd_odd.f
    refine Ev.congr (fun k => if_pos hn2) (Ev.bind e1 (Ev.now _))
  have R1 := R0.next
  have es' : Ev (fun k => spec_l20Secret.f k b p 4) (s, q) := es
  unfold spec_l20SecretOr.f
  by_cases ho : (r1 == wrap64 (n - 1)) = true
  · obtain ⟨r2, ⟨g2, h2⟩, e2⟩ := pick_ev R1 (by omega) 4 (by omega) (by omega)
    rw [ho] at eo
    have R2 := R1.next
    have go : ∀ {x : ByteArray × Int} {f : Nat → Option (ByteArray × Int)}, (∀ k, (if r2 = 0 then ((spec_l20Bent.f k b (q + 1 + 1) s).bind fun bt202 => (some (bt202.1, bt202.2))) else (if r2 = 1 then ((some (([(⟨#[]⟩ : ByteArray), (⟨#[65]⟩ : ByteArray), (⟨#[65, 48, 59]⟩ : ByteArray), (⟨#[65, 49, 48, 48, 59]⟩ : ByteArray), (⟨#[65, 48, 49, 59]⟩ : ByteArray), (⟨#[73, 49, 59]⟩ : ByteArray), (⟨#[110]⟩ : ByteArray), (⟨#[101]⟩ : ByteArray), (⟨#[101, 65, 49, 59]⟩ : ByteArray), (⟨#[109, 65]⟩ : ByteArray), (⟨#[114, 48, 65, 49, 59]⟩ : ByteArray), (⟨#[107, 65, 49, 59, 120]⟩ : ByteArray), (⟨#[109, 73, 65, 49, 59]⟩ : ByteArray)] : List ByteArray) : List ByteArray)).bind fun y204 => ((spec_l20Rd_pick.f k b (q + 1 + 1) 13).bind fun bt207 => (if 0 ≤ bt207.1 then (if bt207.1 < (y204.length : Int) then (some (rdOf ByteArray.empty y204 bt207.1, bt207.2)) else (none)) else (none)))) else (if r2 = 2 then (spec_l20SecretOr.l0 k s b (q + 1 + 1)) else (if s.size + s.size ≤ 9223372036854775807 then (some (s ++ s, q + 1 + 1)) else (none))))) = f k) → Ev f x → Ev (fun k => (spec_l20Secret.f k b p 4).bind fun bt196 => ((spec_l20Rd_odd.f k b bt196.2 n).bind fun bt198 => (if bt198.1 = true then ((spec_l20Rd_pick.f k b bt198.2 4).bind fun bt200 => (if bt200.1 = 0 then ((spec_l20Bent.f k b bt200.2 bt196.1).bind fun bt202 => (some (bt202.1, bt202.2))) else (if bt200.1 = 1 then ((some (([(⟨#[]⟩ : ByteArray), (⟨#[65]⟩ : ByteArray), (⟨#[65, 48, 59]⟩ : ByteArray), (⟨#[65, 49, 48, 48, 59]⟩ : ByteArray), (⟨#[65, 48, 49, 59]⟩ : ByteArray), (⟨#[73, 49, 59]⟩ : ByteArray), (⟨#[110]⟩ : ByteArray), (⟨#[101]⟩ : ByteArray), (⟨#[101, 65, 49, 59]⟩ : ByteArray), (⟨#[109, 65]⟩ : ByteArray), (⟨#[114, 48, 65, 49, 59]⟩ : ByteArray), (⟨#[107, 65, 49, 59, 120]⟩ : ByteArray), (⟨#[109, 73, 65, 49, 59]⟩ : ByteArray)] : List ByteArray) : List ByteArray)).bind fun y204 => ((spec_l20Rd_pick.f k b bt200.2 13).bind fun bt207 => (if 0 ≤ bt207.1 then (if bt207.1 < (y204.length : Int) then (some (rdOf ByteArray.empty y204 bt207.1, bt207.2)) else (none)) else (none)))) else (if bt200.1 = 2 then (spec_l20SecretOr.l0 k bt196.1 b bt200.2) else (if bt196.1.size + bt196.1.size ≤ 9223372036854775807 then (some (bt196.1 ++ bt196.1, bt200.2)) else (none)))))) else (some (bt196.1, bt198.2))))) x := by
      intro x f hf hx
      refine Ev.bind es' (Ev.bind eo ?_)
      refine Ev.congr (fun k => if_pos rfl) (Ev.bind e2 ?_)
      exact Ev.congr hf hx
    by_cases a0 : r2 = 0
    · obtain ⟨t, u, et, ht, Ru⟩ := bent_ev R2 (by omega) s (by omega)
      exact ⟨t, u, go (fun k => if_pos a0) (Ev.bind et (Ev.now _)), by omega, Ru.weak (by omega)⟩
    by_cases a1 : r2 = 1
    · obtain ⟨r3, ⟨g3, h3⟩, e3⟩ := pick_ev R2 (by omega) 13 (by omega) (by omega)
      obtain ⟨j, rfl⟩ := Int.eq_ofNat_of_zero_le g3
      have small : ∀ j : Fin 13, (rdOf ByteArray.empty ([(⟨#[]⟩ : ByteArray), (⟨#[65]⟩ : ByteArray), (⟨#[65, 48, 59]⟩ : ByteArray), (⟨#[65, 49, 48, 48, 59]⟩ : ByteArray), (⟨#[65, 48, 49, 59]⟩ : ByteArray), (⟨#[73, 49, 59]⟩ : ByteArray), (⟨#[110]⟩ : ByteArray), (⟨#[101]⟩ : ByteArray), (⟨#[101, 65, 49, 59]⟩ : ByteArray), (⟨#[109, 65]⟩ : ByteArray), (⟨#[114, 48, 65, 49, 59]⟩ : ByteArray), (⟨#[107, 65, 49, 59, 120]⟩ : ByteArray), (⟨#[109, 73, 65, 49, 59]⟩ : ByteArray)] : List ByteArray) ((j.1 : Nat) : Int)).size ≤ 700 := by decide +kernel
      refine ⟨_, q + 1 + 1 + 1, go (fun k => by rw [if_neg a0, if_pos a1, Option.bind_some]) (Ev.bind e3 (Ev.of_eq fun k => by rw [if_pos g3, if_pos (by simpa using h3)])), small ⟨j, by omega⟩, R2.next.weak (by omega)⟩
    by_cases a2 : r2 = 2
    · obtain ⟨t, et, ht⟩ := grow_ev (b := b) (p := q + 1 + 1) 301 s (by omega) (by omega)
      exact ⟨t, q + 1 + 1, go (fun k => by rw [if_neg a0, if_neg a1, if_pos a2]) et, by omega, R2.weak (by omega)⟩
    · exact ⟨s ++ s, q + 1 + 1, go (fun k => by rw [if_neg a0, if_neg a1, if_neg a2, if_pos (by omega)]) (Ev.now _), by rw [ByteArray.size_append]; omega, R2.weak (by omega)⟩
  · refine ⟨s, q + 1, Ev.bind es' (Ev.bind eo (Ev.of_eq fun k => by rw [if_neg ho])), by omega, R1.weak (by omega)⟩
end
end Go.Proofs.YtdcaipomjimplaaDoor.Pure
namespace Go.Proofs.YtdcaipomjimplaaDoor.Pure
section
open Go.RowKit Go.Proofs.YtdcaipomjimplaaDoor Go.Proofs.YtdcaipomjimplaaDoor.Wc Go.Proofs.YtdcaipomjimplaaDoorW.PrintWords Go.Proofs.YtdcaipomjimplaaDoorW.PrintLast

theorem evEq {α : Type} {g : Nat → Option α} {r : α} (h : ∀ k, g k = some r) : Ev g r := ⟨0, fun k _ => h k⟩
theorem pickN_ev {b : List Int} {p m : Int} (h : Rd b p m) (hm : m ≤ 100000) (n : Int) (hn : 1 ≤ n) (hn2 : n ≤ 1000000) : ∃ r, (0 ≤ r ∧ r < n) ∧ Ev (fun k => spec_l20Rd_pick.f k b p n) (r, p + 1) := by
  obtain ⟨r, e, h0, h1⟩ := pick_any h hm n hn hn2 1 (by omega)
  exact ⟨r, ⟨h0, h1⟩, Ev.of (fun k => spec_l20Rd_pick.mono _ _ _ k) e⟩
theorem node_ev {b : List Int} {p m : Int} (R : Rd b p m) (hm : m ≤ 50000) : ∃ r, (-1 ≤ r ∧ r ≤ 15) ∧ Ev (fun k => spec_l20Node.f k b p) (r, p + 1 + 1 + 1) ∧ Rd b (p + 1 + 1 + 1) (m + 1 + 1 + 1) := by
  obtain ⟨r1, ⟨g1, h1⟩, e1⟩ := pickN_ev R (by omega) 15 (by omega) (by omega)
  obtain ⟨r2, ⟨g2, h2⟩, e2⟩ := pickN_ev R.next (by omega) 8 (by omega) (by omega)
  obtain ⟨r3, ⟨g3, h3⟩, e3⟩ := pickN_ev R.next.next (by omega) 7 (by omega) (by omega)
  have w7 : wrap64 (7 + r2) = 7 + r2 := by unfold wrap64; omega
  have go : ∀ r, (if 0 ≤ r3 then (if r3 < (([0, 0, 0, 1, 1, 2, 3] : List Int).length : Int) then (if 0 ≤ (rd [0, 0, 0, 1, 1, 2, 3] r3) then (if (rd [0, 0, 0, 1, 1, 2, 3] r3) < (([r1, wrap64 (7 + r2), (-1), 15] : List Int).length : Int) then (some (rd [r1, wrap64 (7 + r2), (-1), 15] (rd [0, 0, 0, 1, 1, 2, 3] r3), p + 1 + 1 + 1)) else none) else none) else none) else none) = some (r, p + 1 + 1 + 1) → Ev (fun k => spec_l20Node.f k b p) (r, p + 1 + 1 + 1) := by
    intro r hr
    unfold spec_l20Node.f
    refine Ev.bind e1 (Ev.bind e2 ?_)
    refine Ev.congr (fun k => by rw [Option.bind_some, Option.bind_some]) (Ev.bind e3 (evEq fun k => hr))
  have hc : r3 = 0 ∨ r3 = 1 ∨ r3 = 2 ∨ r3 = 3 ∨ r3 = 4 ∨ r3 = 5 ∨ r3 = 6 := by omega
  rcases hc with rfl | rfl | rfl | rfl | rfl | rfl | rfl
  · exact ⟨r1, by omega, go r1 rfl, R.next.next.next⟩
  · exact ⟨r1, by omega, go r1 rfl, R.next.next.next⟩
  · exact ⟨r1, by omega, go r1 rfl, R.next.next.next⟩
  · exact ⟨7 + r2, by omega, go _ (by rw [w7]; rfl), R.next.next.next⟩
  · exact ⟨7 + r2, by omega, go _ (by rw [w7]; rfl), R.next.next.next⟩
  · exact ⟨-1, by omega, go _ rfl, R.next.next.next⟩
  · exact ⟨15, by omega, go _ rfl, R.next.next.next⟩
end
end Go.Proofs.YtdcaipomjimplaaDoor.Pure
namespace Go.Proofs.YtdcaipomjimplaaDoor.Pure
section
open Go.RowKit Go.Proofs.YtdcaipomjimplaaDoor Go.Proofs.YtdcaipomjimplaaDoor.Wc Go.Proofs.YtdcaipomjimplaaDoorW.PrintWords Go.Proofs.YtdcaipomjimplaaDoorW.PrintLast
open Go.Proofs.YtdcaipomjimplaaDoor.Th (T B Nm nm dec hd prsNum whole)

theorem rdT_at {l : List ByteArray} {i : Nat} (h : i < l.length) : rdOf ByteArray.empty l (i : Int) = l[i] := by
  unfold rdOf
  rw [Int.toNat_natCast, List.getD_eq_getElem?_getD, List.getElem?_eq_getElem h]
  rfl
theorem how_nm {s : ByteArray} {a : Nm} (h : nm s = some a) : Ev (fun k => spec_l1How.f k s) (tells a) := by
  obtain ⟨ha, hl, he⟩ := Th.nm_some.1 h
  exact how_ev ha hl (by rw [he, Th.B_T (Th.enc_lt a ha)])
theorem tre_j1 (l : List ByteArray) (i : Nat) (hi : i < 15) (b r : Bool) (h : Ev (fun k => spec_TreOk.l0 k ((i + 1 : Nat) : Int) l) r) : Ev (fun k => spec_TreOk.j1 k (i : Int) (!b) l) (b && r) := by
  cases b with
  | false => exact Ev.step (f := fun _ => some false) (fun k => by rw [spec_TreOk.j1, if_pos (by decide)]) (Ev.now _)
  | true =>
    refine Ev.step (fun k => ?_) (show Ev (fun k => spec_TreOk.l0 k ((i + 1 : Nat) : Int) l) (true && r) from h)
    rw [spec_TreOk.j1, if_neg (by decide), wz (x := (i : Int) + 1) (by omega) (by omega)]
    rfl
theorem tre_l0 (l : List ByteArray) (hl : l.length = 15) : ∀ (d i : Nat), 15 - i ≤ d → i ≤ 15 → Ev (fun k => spec_TreOk.l0 k (i : Int) l) ((l.drop i).all slotB) := by
  intro d
  induction d with
  | zero =>
    intro i h0 h1
    obtain rfl : i = 15 := by omega
    rw [List.drop_eq_nil_of_le (by omega)]
    exact Ev.step (f := fun _ => some true) (fun k => by rw [spec_TreOk.l0, if_neg (by omega)]) (Ev.now _)
  | succ d ih =>
    intro i h0 h1
    by_cases h : i < 15
    · have hi : i < l.length := by omega
      have e := ih (i + 1) (by omega) (by omega)
      rw [List.drop_eq_getElem_cons hi, List.all_cons]
      have st := fun b => tre_j1 l i h b _ e
      by_cases h2 : l[i] = ⟨#[]⟩
      · have s := st true
        rw [show slotB l[i] = true from if_pos h2]
        refine Ev.step (fun k => ?_) s
        rw [spec_TreOk.l0, if_pos (by omega), if_pos (by omega), if_pos (by omega), rdT_at hi, if_pos (Th.toList_nil.2 h2)]
        rfl
      · refine Ev.step (fun k => by rw [spec_TreOk.l0, if_pos (by omega), if_pos (by omega), if_pos (by omega), rdT_at hi, if_neg (fun e => h2 (Th.toList_nil.1 e))]) (Ev.bind (secOk_ev l[i]) ?_)
        cases hn : nm l[i] with
        | none =>
          have s := st false
          rw [show slotB l[i] = false by unfold slotB keyB; rw [if_neg h2, hn]]
          rw [Option.isSome_none]
          exact Ev.congr (fun k => if_neg (by decide)) s
        | some a =>
          have s := st (a.op == 3)
          rw [show slotB l[i] = (a.op == 3) by unfold slotB keyB; rw [if_neg h2, hn]]
          rw [Option.isSome_some]
          exact Ev.congr (fun k => if_pos rfl) (Ev.bind (how_nm hn) s)
    · obtain rfl : i = 15 := by omega
      rw [List.drop_eq_nil_of_le (by omega)]
      exact Ev.step (f := fun _ => some true) (fun k => by rw [spec_TreOk.l0, if_neg (by omega)]) (Ev.now _)
theorem specTreOk_ev (l : List ByteArray) : Ev (fun k => spec_TreOk.f k l) (treB l) := by
  unfold spec_TreOk.f treB
  by_cases h : l.length = 15
  · rw [decide_eq_true h, Bool.true_and]
    exact Ev.congr (fun k => if_pos (by omega)) (tre_l0 l h 15 0 (by omega) (by omega))
  · rw [decide_eq_false h, Bool.false_and]
    exact Ev.of_eq fun k => if_neg (by omega)
end
end Go.Proofs.YtdcaipomjimplaaDoor.Pure
namespace Go.Proofs.YtdcaipomjimplaaDoor.Tp
section
def meetN : Nat → Nat → Nat → Nat
  | 0, a, _ => a
  | n + 1, a, b => if a = b then a else if b < a then meetN n ((a - 1) / 2) b else meetN n a ((b - 1) / 2)
def meet (a b : Nat) : Nat := meetN 20 a b
/-- a is x, or above it. -/
def anc (a x : Nat) : Bool := meet a x == a
def cov (K : Nat → Bool) : Nat → Nat → List Nat
  | 0, _ => []
  | n + 1, i => if K i = true then [i] else if 7 ≤ i then [] else cov K n (2 * i + 1) ++ cov K n (2 * i + 2)
def ins (K : Nat → Bool) : List Nat := (List.range 8).filter fun w => K (7 + w)
theorem meet_comm {a b : Nat} (ha : a < 15) (hb : b < 15) : meet a b = meet b a := by
  have : ∀ x y : Fin 15, meet x.1 y.1 = meet y.1 x.1 := by decide +kernel
  exact this ⟨a, ha⟩ ⟨b, hb⟩
theorem anc_self {a : Nat} (ha : a < 15) : anc a a = true := by
  have : ∀ x : Fin 15, anc x.1 x.1 = true := by decide +kernel
  exact this ⟨a, ha⟩
theorem anc_down {i j : Nat} (hi : i < 7) (hj : j < 15) (h : anc (2 * i + 1) j = true ∨ anc (2 * i + 2) j = true) : anc i j = true := by
  have : ∀ x : Fin 7, ∀ y : Fin 15, (anc (2 * x.1 + 1) y.1 = true ∨ anc (2 * x.1 + 2) y.1 = true) → anc x.1 y.1 = true := by decide +kernel
  exact this ⟨i, hi⟩ ⟨j, hj⟩ h
theorem anc_split {i w : Nat} (hi : i < 7) (hw : w < 8) : (if anc (2 * i + 1) (7 + w) = true then 1 else 0) + (if anc (2 * i + 2) (7 + w) = true then 1 else 0) = if anc i (7 + w) = true then 1 else 0 := by
  have : ∀ x : Fin 7, ∀ y : Fin 8, (if anc (2 * x.1 + 1) (7 + y.1) = true then 1 else 0) + (if anc (2 * x.1 + 2) (7 + y.1) = true then 1 else 0) = if anc x.1 (7 + y.1) = true then 1 else 0 := by decide +kernel
  exact this ⟨i, hi⟩ ⟨w, hw⟩
theorem anc_leaf {i w : Nat} (hi : 7 ≤ i) (hi2 : i < 15) (hw : w < 8) (h : anc i (7 + w) = true) : i = 7 + w := by
  have : ∀ x y : Fin 8, anc (7 + x.1) (7 + y.1) = true → 7 + x.1 = 7 + y.1 := by decide +kernel
  have := this ⟨i - 7, by omega⟩ ⟨w, hw⟩ (by rw [show 7 + (i - 7) = i by omega]; exact h)
  simp only at this
  omega
theorem cov_each (K : Nat → Bool) : ∀ d i : Nat, i < 15 → ∀ j ∈ cov K d i, j < 15 ∧ K j = true ∧ anc i j = true := by
  intro d
  induction d with
  | zero => intro i _ j hj; simp [cov] at hj
  | succ d ih =>
    intro i hi j hj
    unfold cov at hj
    split at hj
    · rename_i hk
      rw [List.mem_singleton] at hj
      subst hj
      exact ⟨hi, hk, anc_self hi⟩
    · split at hj
      · simp at hj
      · rename_i h7
        rcases List.mem_append.1 hj with hj | hj
        · obtain ⟨a, b, c⟩ := ih (2 * i + 1) (by omega) j hj
          exact ⟨a, b, anc_down (by omega) a (.inl c)⟩
        · obtain ⟨a, b, c⟩ := ih (2 * i + 2) (by omega) j hj
          exact ⟨a, b, anc_down (by omega) a (.inr c)⟩
theorem cov_once (K : Nat → Bool) {w : Nat} (hw : w < 8) (hk : K (7 + w) = true) : ∀ d i : Nat, 15 - i ≤ d → i < 15 → ((cov K d i).filter fun j => anc j (7 + w)).length = if anc i (7 + w) = true then 1 else 0 := by
  intro d
  induction d with
  | zero => intro i h0 h1; omega
  | succ d ih =>
    intro i h0 h1
    unfold cov
    split
    · rw [List.filter_cons]
      split <;> simp
    · rename_i hn
      split
      · rename_i h7
        have h : ¬ anc i (7 + w) = true := fun h => hn (anc_leaf h7 h1 hw h ▸ hk)
        rw [if_neg h]
        rfl
      · rename_i h7
        rw [List.filter_append, List.length_append, ih (2 * i + 1) (by omega) (by omega), ih (2 * i + 2) (by omega) (by omega)]
        exact anc_split (by omega) hw
theorem cov_length (K : Nat → Bool) : ∀ d i : Nat, (cov K d i).length ≤ 2 ^ d := by
  intro d
  induction d with
  | zero => intro i; simp [cov]
  | succ d ih =>
    intro i
    have hp : 1 ≤ 2 ^ (d + 1) := Nat.one_le_two_pow
    unfold cov
    split
    · exact hp
    · split
      · exact Nat.zero_le _
      · have h1 := ih (2 * i + 1)
        have h2 := ih (2 * i + 2)
        rw [List.length_append, Nat.pow_succ]
        omega
theorem ins_mem {K : Nat → Bool} {w : Nat} : w ∈ ins K ↔ w < 8 ∧ K (7 + w) = true := by
  unfold ins
  rw [List.mem_filter, List.mem_range]
theorem ins_rise (K : Nat → Bool) : (ins K).Pairwise (· < ·) := List.Pairwise.sublist List.filter_sublist List.pairwise_lt_range
theorem ins_length (K : Nat → Bool) : (ins K).length ≤ 8 := by
  have := List.length_filter_le (fun w => K (7 + w)) (List.range 8)
  rw [List.length_range] at this
  exact this
end
end Go.Proofs.YtdcaipomjimplaaDoor.Tp
namespace Go.Proofs.YtdcaipomjimplaaDoor.Pure
section
open Go.RowKit Go.Proofs.YtdcaipomjimplaaDoor Go.Proofs.YtdcaipomjimplaaDoor.Wc Go.Proofs.YtdcaipomjimplaaDoorW.PrintWords Go.Proofs.YtdcaipomjimplaaDoorW.PrintLast
open Go.Proofs.YtdcaipomjimplaaDoor.Th (T B Nm nm dec hd prsNum whole)
open Go.Proofs.YtdcaipomjimplaaDoor.Tp (ins ins_mem ins_rise ins_length)

theorem keOk_is : laws_keOk.f = some true := by
  unfold laws_keOk.f impl_SecOk.f
  rfl
theorem rdV_at {l : List Int} {i : Nat} (h : i < l.length) : rd l (i : Int) = l[i] := by
  unfold rd
  rw [Int.toNat_natCast, List.getD_eq_getElem?_getD, List.getElem?_eq_getElem h]
  rfl
theorem in_spec (x a b : Int) : spec_l1In.f x a b = some (decide (a ≤ x ∧ x ≤ b)) := by
  unfold spec_l1In.f
  by_cases h1 : x ≥ a
  · rw [if_pos h1]; congr 1; simp; omega
  · rw [if_neg h1, decide_eq_false (by omega)]
theorem in_impl (x a b : Int) : impl_in.f x a b = some (decide (a ≤ x ∧ x ≤ b)) := by
  unfold impl_in.f
  by_cases h1 : x ≥ a
  · rw [if_pos h1]; congr 1; simp; omega
  · rw [if_neg h1, decide_eq_false (by omega)]
theorem leaf_at (i : Nat) (h : i < 8) : spec_TreLeaf.f (i : Int) = some ((7 + i : Nat) : Int) := by
  unfold spec_TreLeaf.f
  rw [in_spec, decide_eq_true (by omega), Option.bind_some, if_pos rfl, wz (by omega) (by omega)]
  rfl
theorem implLeaf {i : Nat} (h : i < 8) : impl_TreLeaf.f (i : Int) = some ((7 + i : Nat) : Int) := by
  unfold impl_TreLeaf.f impl_isOne.f impl_leaf.f
  rw [in_impl, decide_eq_true (by omega), Option.bind_some, Option.bind_some, if_pos rfl, Option.bind_some, wz (x := 7 + (i : Int)) (by omega) (by omega)]
  rfl
/-- Whether a place has a key. -/
def K (l : List ByteArray) (i : Nat) : Bool := (rdOf ByteArray.empty l (i : Int)).toList != ([] : List UInt8)
def insI (l : List ByteArray) : List Int := (ins (K l)).map fun w : Nat => (w : Int)
theorem insI_mem {l : List ByteArray} {x : Int} : x ∈ insI l ↔ ∃ w : Nat, x = (w : Int) ∧ w < 8 ∧ K l (7 + w) = true := by
  unfold insI
  rw [List.mem_map]
  constructor
  · rintro ⟨w, hw, rfl⟩
    obtain ⟨a, b⟩ := ins_mem.1 hw
    exact ⟨w, rfl, a, b⟩
  · rintro ⟨w, rfl, a, b⟩
    exact ⟨w, ins_mem.2 ⟨a, b⟩, rfl⟩
theorem insI_length (l : List ByteArray) : (insI l).length ≤ 8 := by
  unfold insI
  rw [List.length_map]
  exact ins_length _
theorem insI_rise (l : List ByteArray) (i j : Nat) (hij : i < j) (hi : i < (insI l).length) (hj : j < (insI l).length) : (insI l)[i] < (insI l)[j] := by
  have h := List.pairwise_iff_getElem.1 (ins_rise (K l)) i j (by unfold insI at hi; rwa [List.length_map] at hi) (by unfold insI at hj; rwa [List.length_map] at hj) hij
  simp only [insI, List.getElem_map]
  omega
theorem has_at (l : List ByteArray) (hl : l.length = 15) (i : Nat) (h : i < 8) : impl_TreTree_has.f l (i : Int) = some (K l (7 + i)) := by
  unfold impl_TreTree_has.f impl_isOne.f impl_leaf.f
  rw [in_impl, decide_eq_true (by omega), Option.bind_some, Option.bind_some, if_pos rfl, Option.bind_some, wz (x := 7 + (i : Int)) (by omega) (by omega), if_pos (by omega), if_pos (by omega), show (7 : Int) + (i : Int) = ((7 + i : Nat) : Int) by omega]
  rfl
def part (l : List ByteArray) (i : Nat) : List Int := ((List.range i).filter fun w => K l (7 + w)).map fun w : Nat => (w : Int)
theorem part_yes {l : List ByteArray} {i : Nat} (h : K l (7 + i) = true) : part l (i + 1) = part l i ++ [(i : Int)] := by
  unfold part
  rw [List.range_succ, List.filter_append, List.map_append, List.filter_cons, if_pos h]
  rfl
theorem part_no {l : List ByteArray} {i : Nat} (h : K l (7 + i) = false) : part l (i + 1) = part l i := by
  unfold part
  rw [List.range_succ, List.filter_append, List.map_append, List.filter_cons, if_neg (by rw [h]; decide)]
  simp
theorem part_length (l : List ByteArray) (i : Nat) : (part l i).length ≤ i := by
  unfold part
  rw [List.length_map]
  have := List.length_filter_le (fun w => K l (7 + w)) (List.range i)
  rw [List.length_range] at this
  exact this
theorem ins_impl (l : List ByteArray) (hl : l.length = 15) : ∀ (d i : Nat), 8 - i ≤ d → i ≤ 8 → Ev (fun k => impl_TreTree_members.l0 k (part l i) (i : Int) l) (insI l) := by
  have fin : ∀ i : Nat, i = 8 → Ev (fun k => impl_TreTree_members.l0 k (part l i) (i : Int) l) (insI l) := by
    intro i hi
    subst hi
    exact Ev.step (f := fun _ => some (insI l)) (fun k => by rw [impl_TreTree_members.l0, if_neg (by omega)]; rfl) (Ev.now _)
  intro d
  induction d with
  | zero => intro i h0 h1; exact fin i (by omega)
  | succ d ih =>
    intro i h0 h1
    by_cases h : i < 8
    · have b1 := ih (i + 1) (by omega) (by omega)
      have hp := part_length l i
      cases hk : K l (7 + i) with
      | false =>
        rw [part_no hk] at b1
        refine Ev.step (fun k => ?_) b1
        rw [impl_TreTree_members.l0, if_pos (by omega), has_at l hl i h, Option.bind_some, hk, if_neg Bool.false_ne_true, wz (by omega) (by omega)]
        rfl
      | true =>
        rw [part_yes hk] at b1
        refine Ev.step (fun k => ?_) b1
        rw [impl_TreTree_members.l0, if_pos (by omega), has_at l hl i h, Option.bind_some, hk, if_pos rfl, if_pos (by omega), wz (by omega) (by omega)]
        rfl
    · exact fin i (by omega)
theorem tre_len {l : List ByteArray} (h : treB l = true) : l.length = 15 := by
  unfold treB at h
  rw [Bool.and_eq_true, decide_eq_true_eq] at h
  exact h.1
theorem treIn_impl {l : List ByteArray} (h : treB l = true) : Ev (fun k => impl_TreIn.f k l) (insI l) := by
  unfold impl_TreIn.f impl_TreOk.f
  have hz := insI_length l
  refine Ev.congr (fun k => by rw [h, Option.bind_some, if_pos rfl]) (Ev.bind (show Ev (fun k => impl_TreTree_members.f k l) (insI l) from ins_impl l (tre_len h) 8 0 (by omega) (by omega)) (Ev.of_eq fun k => ?_))
  unfold impl_clone_int.f slices_Clone_int_int.f
  rw [if_pos (by omega)]
  rfl
theorem treIn_impl_no {l : List ByteArray} (h : treB l = false) : Ev (fun k => impl_TreIn.f k l) [] := by
  unfold impl_TreIn.f impl_TreOk.f
  exact Ev.of_eq fun k => by rw [h, Option.bind_some, if_neg (by decide)]
theorem keInts_l0 (l : List Int) (hl : l.length ≤ 1000000) : ∀ (d i : Nat), l.length - i ≤ d → i ≤ l.length → Ev (fun k => laws_keInts.l0 k l l (i : Int)) true := by
  have fin : ∀ i : Nat, l.length ≤ i → Ev (fun k => laws_keInts.l0 k l l (i : Int)) true := by
    intro i hi
    exact Ev.step (f := fun _ => some true) (fun k => by rw [laws_keInts.l0, if_neg (by omega)]) (Ev.now _)
  intro d
  induction d with
  | zero => intro i h0 h1; exact fin i (by omega)
  | succ d ih =>
    intro i h0 h1
    by_cases h : i < l.length
    · exact Ev.step (f := fun k => laws_keInts.l0 k l l ((i + 1 : Nat) : Int)) (fun k => by rw [laws_keInts.l0, if_pos (by omega), if_pos (by omega), if_pos (by omega), if_pos rfl, wz (x := (i : Int) + 1) (by omega) (by omega)]; rfl) (ih (i + 1) (by omega) (by omega))
    · exact fin i (by omega)
theorem keInts_ev (l : List Int) (hl : l.length ≤ 1000000) : Ev (fun k => laws_keInts.f k l l) true :=
  Ev.congr (fun k => by unfold laws_keInts.f; rw [if_pos rfl]; rfl) (keInts_l0 l hl l.length 0 (by omega) (by omega))
end
end Go.Proofs.YtdcaipomjimplaaDoor.Pure
namespace Go.Proofs.YtdcaipomjimplaaDoor.Pure
section
open Go.RowKit Go.Proofs.YtdcaipomjimplaaDoor Go.Proofs.YtdcaipomjimplaaDoor.Wc Go.Proofs.YtdcaipomjimplaaDoorW.PrintWords Go.Proofs.YtdcaipomjimplaaDoorW.PrintLast
open Go.Proofs.YtdcaipomjimplaaDoor.Th (T B Nm nm dec hd prsNum whole)

theorem treB_len {l : List ByteArray} (h : treB l = true) : l.length = 15 := by
  unfold treB at h
  rw [Bool.and_eq_true, decide_eq_true_eq] at h
  exact h.1
theorem treB_set {l : List ByteArray} {x : ByteArray} (i : Nat) (h : treB l = true) (hx : slotB x = true) : treB (l.set i x) = true := by
  unfold treB at h ⊢
  rw [Bool.and_eq_true, decide_eq_true_eq, List.all_eq_true] at h
  rw [Bool.and_eq_true, decide_eq_true_eq, List.all_eq_true, List.length_set]
  refine ⟨h.1, fun y hy => ?_⟩
  rcases List.mem_or_eq_of_mem_set hy with hy | rfl
  · exact h.2 y hy
  · exact hx
theorem slot_none : slotB ⟨#[]⟩ = true := if_pos rfl
theorem slot_key (s : ByteArray) : slotB (made1 (T [107]) s) = true := by
  unfold made1
  cases hn : nm s with
  | none => exact slot_none
  | some a =>
    rw [Option.isSome_some, if_pos rfl]
    unfold cap
    split
    · rename_i hz
      obtain ⟨h1, h2, h3⟩ := Th.nm_some.1 hn
      have e : T [107] ++ s = T (Nm.key a).enc := by rw [h3, ← T_app]; rfl
      rw [e] at hz ⊢
      unfold slotB keyB
      split
      · rfl
      · rw [Th.nm_T (a := .key a) h1 (by rw [← Th.T_size]; exact hz)]
        rfl
    · exact slot_none
theorem rdU_at {l : List Int} {i : Nat} (h : i < l.length) : rd l (i : Int) = l[i] := by
  unfold rd
  rw [Int.toNat_natCast, List.getD_eq_getElem?_getD, List.getElem?_eq_getElem h]
  rfl
/-- The places above that of one. -/
def ups (w : Nat) : List Int := [(((6 + w) / 2 : Nat) : Int), ((((6 + w) / 2 - 1) / 2 : Nat) : Int), 0]
theorem ups_ok {w : Nat} (h : w < 8) : ∀ x ∈ ups w, 0 ≤ x ∧ x < 15 := by
  intro x hx
  simp only [ups, List.mem_cons, List.not_mem_nil, or_false] at hx
  rcases hx with rfl | rfl | rfl <;> omega
theorem ups_ev {w : Nat} (h : w < 8) : Ev (fun k => spec_TreUp.f k ((7 + w : Nat) : Int)) (ups w) := by
  have : ∀ w : Fin 8, spec_TreUp.f 10 ((7 + w.1 : Nat) : Int) = some (ups w.1) := by decide +kernel
  exact Ev.of (fun k => spec_TreUp.mono _ k) (this ⟨w, h⟩)
theorem leaf_is {w : Nat} (h : w < 8) : spec_TreLeaf.f (w : Int) = some ((7 + w : Nat) : Int) := by
  unfold spec_TreLeaf.f
  rw [spec_in, decide_eq_true (by omega), Option.bind_some, if_pos rfl, wz (by omega) (by omega)]
  rfl
theorem clear_l0 (up : List Int) (hu : ∀ x ∈ up, 0 ≤ x ∧ x < 15) (hn : up.length ≤ 100) : ∀ (d i : Nat) (l : List ByteArray), up.length - i ≤ d → i ≤ up.length → treB l = true → ∃ r, Ev (fun k => spec_l3Clear.l0 k up (i : Int) l) r ∧ treB r = true := by
  intro d
  induction d with
  | zero =>
    intro i l h0 h1 hl
    exact ⟨l, Ev.step (f := fun _ => some l) (fun k => by rw [spec_l3Clear.l0, if_neg (by omega)]) (Ev.now _), hl⟩
  | succ d ih =>
    intro i l h0 h1 hl
    by_cases h : i < up.length
    · have hz := treB_len hl
      obtain ⟨g0, g1⟩ := hu _ (List.getElem_mem h)
      obtain ⟨r, er, hr⟩ := ih (i + 1) (l.set up[i].toNat ⟨#[]⟩) (by omega) (by omega) (treB_set _ hl slot_none)
      exact ⟨r, Ev.step (fun k => by rw [spec_l3Clear.l0, if_pos (by omega), if_pos (by omega), rdU_at h, if_pos g0, if_pos (by omega), wz (x := (i : Int) + 1) (by omega) (by omega)]; rfl) er, hr⟩
    · exact ⟨l, Ev.step (f := fun _ => some l) (fun k => by rw [spec_l3Clear.l0, if_neg (by omega)]) (Ev.now _), hl⟩
theorem set_l0 (up : List Int) (hu : ∀ x ∈ up, 0 ≤ x ∧ x < 15) (hn : up.length ≤ 100) : ∀ (d i : Nat) (s : ByteArray) (l : List ByteArray), up.length - i ≤ d → i ≤ up.length → s.size ≤ 300 → treB l = true → ∃ r, Ev (fun k => spec_l3Set.l0 k s up (i : Int) l) r ∧ treB r = true := by
  intro d
  induction d with
  | zero =>
    intro i s l h0 h1 _ hl
    exact ⟨l, Ev.step (f := fun _ => some l) (fun k => by rw [spec_l3Set.l0, if_neg (by omega)]) (Ev.now _), hl⟩
  | succ d ih =>
    intro i s l h0 h1 hs hl
    by_cases h : i < up.length
    · have hz := treB_len hl
      obtain ⟨g0, g1⟩ := hu _ (List.getElem_mem h)
      have hq := made1_short (T [110]) s
      obtain ⟨r, er, hr⟩ := ih (i + 1) (made1 (T [110]) s) (l.set up[i].toNat (made1 (T [107]) (made1 (T [110]) s))) (by omega) (by omega) hq (treB_set _ hl (slot_key _))
      refine ⟨r, ?_, hr⟩
      refine Ev.step (fun k => by rw [spec_l3Set.l0, if_pos (by omega)]) ?_
      refine Ev.bind (specNext_ev s (by omega)) ?_
      refine Ev.congr (fun k => if_pos (by omega)) ?_
      refine Ev.bind (specKey_ev (made1 (T [110]) s) (by omega)) ?_
      refine Ev.congr (fun k => ?_) er
      rw [rdU_at h, if_pos g0, if_pos (by omega), wz (x := (i : Int) + 1) (by omega) (by omega)]
      rfl
    · exact ⟨l, Ev.step (f := fun _ => some l) (fun k => by rw [spec_l3Set.l0, if_neg (by omega)]) (Ev.now _), hl⟩
theorem copy_is (l : List ByteArray) (h : l.length ≤ 1000000) : spec_l3Copy.f l = some l := by
  unfold spec_l3Copy.f
  rw [Option.bind_some, if_pos (by simp; omega), List.nil_append]
theorem treClear_ev {l : List ByteArray} {w : Nat} (hw : w < 8) (hl : treB l = true) : ∃ r, Ev (fun k => spec_TreClear.f k l (w : Int)) r ∧ treB r = true := by
  have hz := treB_len hl
  obtain ⟨r, er, hr⟩ := clear_l0 (ups w) (ups_ok hw) (by simp [ups]) 3 0 (l.set (7 + w) ⟨#[]⟩) (by simp [ups]) (by omega) (treB_set _ hl slot_none)
  have ec : Ev (fun k => spec_l3Clear.f k l (w : Int)) r := by
    unfold spec_l3Clear.f
    exact Ev.congr (fun k => by rw [leaf_is hw, Option.bind_some, if_pos (by omega), if_pos (by omega), Int.toNat_natCast]) (Ev.bind (ups_ev hw) er)
  have et := specTreOk_ev l
  rw [hl] at et
  refine ⟨r, ?_, hr⟩
  unfold spec_TreClear.f
  refine Ev.bind et (Ev.congr (f := fun k => spec_TreClear.j0 k (w : Int) false l) (fun k => by rw [if_pos rfl, spec_in, decide_eq_true (by omega), Option.bind_some]; rfl) ?_)
  exact Ev.step (fun k => by rw [spec_TreClear.j0, if_neg Bool.false_ne_true, copy_is l (by omega), Option.bind_some]) (Ev.bind ec (Ev.now _))
theorem treSet_ev {l : List ByteArray} {w : Nat} {s : ByteArray} (hw : w < 8) (hs : (nm s).isSome = true) (hz2 : s.size ≤ 292) (hl : treB l = true) : ∃ r, Ev (fun k => spec_TreSet.f k l (w : Int) s) r ∧ treB r = true := by
  have hz := treB_len hl
  obtain ⟨r, er, hr⟩ := set_l0 (ups w) (ups_ok hw) (by simp [ups]) 3 0 s (l.set (7 + w) (made1 (T [107]) s)) (by simp [ups]) (by omega) (by omega) (treB_set _ hl (slot_key _))
  have ec : Ev (fun k => spec_l3Set.f k l (w : Int) s) r := by
    unfold spec_l3Set.f
    exact Ev.congr (fun k => by rw [leaf_is hw, Option.bind_some]) (Ev.bind (specKey_ev s (by omega)) (Ev.congr (fun k => by rw [if_pos (by omega), if_pos (by omega), Int.toNat_natCast]) (Ev.bind (ups_ev hw) er)))
  have et := specTreOk_ev l
  rw [hl] at et
  have es := secOk_ev s
  rw [hs] at es
  refine ⟨r, ?_, hr⟩
  unfold spec_TreSet.f
  refine Ev.bind et (Ev.congr (fun k => by rw [if_pos rfl, spec_in, decide_eq_true (by omega), Option.bind_some, if_pos rfl]) (Ev.bind es (Ev.congr (f := fun k => spec_TreSet.j0 k (w : Int) s false l) (fun k => by rw [if_pos rfl, decide_eq_false (show ¬ (s.size : Int) > 292 by omega)]) ?_)))
  exact Ev.step (fun k => by rw [spec_TreSet.j0, if_neg Bool.false_ne_true, copy_is l (by omega), Option.bind_some]) (Ev.bind ec (Ev.now _))
theorem new_nm {w n : Nat} (hw : w < 8) (h1 : 1 ≤ n) (h2 : n ≤ 99) : Ev (fun k => spec_MakNew.f k (w : Int) (n : Int)) (T (Nm.new w n).enc) ∧ (nm (T (Nm.new w n).enc)).isSome = true ∧ (T (Nm.new w n).enc).size ≤ 5 := by
  have hz : (Nm.new w n).enc.length ≤ 5 := by have := dec_two n; simp only [Nm.enc, List.length_cons, List.length_append, List.length_nil]; omega
  refine ⟨⟨4, fun k hk => ?_⟩, ?_, by rw [Th.T_size]; exact hz⟩
  · have hs := spec_mkN w n k hk
    unfold Pure.mkN at hs
    rw [if_pos ⟨hw, h1, h2⟩] at hs
    exact hs
  · rw [Th.nm_T (a := .new w n) (by simp [Nm.ok, hw, h1, h2]) (by omega)]
    rfl
theorem oddT_ev {b : List Int} {p m : Int} (R : Rd b p m) (hm : m ≤ 90000) (n : Int) (hn : 1 ≤ n) (hn2 : n < 9000) : ∃ t : Bool, Ev (fun k => spec_l20Rd_odd.f k b p n) (t, p + 1) := by
  obtain ⟨r1, _, e1⟩ := pick_ev R (by omega) n hn (by omega)
  refine ⟨r1 == wrap64 (n - 1), ?_⟩
  unfold spec_l20Rd_odd.f
  exact Ev.congr (fun k => if_pos hn2) (Ev.bind e1 (Ev.now _))
theorem tree_l0 {b : List Int} (n : Int) (hn : 1 ≤ n) (hn2 : n < 9000) : ∀ (c : Nat) (p m : Int) (l : List ByteArray), c ≤ 10 → Rd b p m → m + 4 * (c : Int) ≤ 15000 → treB l = true →
    ∃ r q, Ev (fun k => spec_l20Tree.l0 k n (c : Int) b p l) (r, q) ∧ r.length ≤ 16 ∧ Rd b q (m + 4 * (c : Int) + 110) := by
  intro c
  induction c with
  | zero =>
    intro p m l _ R hm hl
    have hz := treB_len hl
    obtain ⟨t, eo⟩ := oddT_ev R (by omega) n hn hn2
    have st : ∀ {r : List ByteArray} {q : Int}, Ev (fun k => (if t = true then ((spec_l20Rd_pick.f k b (p + 1) 3).bind fun bt310 => (if bt310.1 = 0 then (if 1 ≤ (l.length : Int) then (some ((l.drop (1 : Int).toNat), bt310.2)) else (none)) else (if bt310.1 = 1 then ((spec_l20Rd_pick.f k b bt310.2 15).bind fun bt315 => ((spec_l20SecretOr.f k b bt315.2 2).bind fun bt317 => (if 0 ≤ bt315.1 then (if bt315.1 < (l.length : Int) then (some ((l.set (bt315.1 : Int).toNat bt317.1), bt317.2)) else (none)) else (none)))) else (if l.length < 8796093022208 then (some ((l ++ [(⟨#[]⟩ : ByteArray)]), bt310.2)) else (none))))) else (some (l, p + 1)))) (r, q) → Ev (fun k => spec_l20Tree.l0 k n ((0 : Nat) : Int) b p l) (r, q) :=
      fun h => Ev.step (fun k => by rw [spec_l20Tree.l0, if_neg (by omega)]) (Ev.bind eo h)
    cases t with
    | false => exact ⟨l, p + 1, st (Ev.of_eq fun k => if_neg Bool.false_ne_true), by omega, R.next.weak (by omega)⟩
    | true =>
      obtain ⟨x, ⟨x0, x1⟩, ex⟩ := pick_ev R.next (by omega) 3 (by omega) (by omega)
      by_cases hx0 : x = 0
      · refine ⟨l.drop 1, p + 1 + 1, st (Ev.congr (fun k => if_pos rfl) (Ev.bind ex (Ev.of_eq fun k => ?_))), by rw [List.length_drop]; omega, R.next.next.weak (by omega)⟩
        rw [if_pos hx0, if_pos (by omega)]
        rfl
      · by_cases hx1 : x = 1
        · obtain ⟨y, ⟨y0, y1⟩, ey⟩ := pick_ev R.next.next (by omega) 15 (by omega) (by omega)
          obtain ⟨s, q, es, hs, Rq⟩ := secretOr_ev R.next.next.next (by omega) 2 (by omega) (by omega)
          refine ⟨l.set y.toNat s, q, st (Ev.congr (fun k => if_pos rfl) (Ev.bind ex (Ev.congr (fun k => by rw [if_neg hx0, if_pos hx1]) (Ev.bind ey (Ev.bind es (Ev.of_eq fun k => ?_)))))), by rw [List.length_set]; omega, Rq.weak (by omega)⟩
          rw [if_pos y0, if_pos (by omega)]
        · refine ⟨l ++ [⟨#[]⟩], p + 1 + 1, st (Ev.congr (fun k => if_pos rfl) (Ev.bind ex (Ev.of_eq fun k => ?_))), by rw [List.length_append, List.length_singleton]; omega, R.next.next.weak (by omega)⟩
          rw [if_neg hx0, if_neg hx1, if_pos (by omega)]
  | succ c ih =>
    intro p m l hc R hm hl
    have w1 : wrap64 (((c + 1 : Nat) : Int) - 1) = (c : Int) := by rw [wz (by omega) (by omega)]; omega
    obtain ⟨x, ⟨x0, x1⟩, ex⟩ := pick_ev R (by omega) 4 (by omega) (by omega)
    obtain ⟨y, ⟨y0, y1⟩, ey⟩ := pick_ev R.next (by omega) 8 (by omega) (by omega)
    obtain ⟨y, rfl⟩ := Int.eq_ofNat_of_zero_le y0
    by_cases hx : x = 0
    · obtain ⟨r, er, hr⟩ := treClear_ev (w := y) (by omega) hl
      obtain ⟨z, q, ez, hz, Rz⟩ := ih (p + 1 + 1) (m + 1 + 1) r (by omega) R.next.next (by omega) hr
      exact ⟨z, q, Ev.step (fun k => by rw [spec_l20Tree.l0, if_pos (by omega), w1]) (Ev.bind ex (Ev.congr (fun k => if_pos hx) (Ev.bind ey (Ev.bind er ez)))), hz, Rz.weak (by omega)⟩
    · obtain ⟨u, ⟨u0, u1⟩, eu⟩ := pick_ev R.next.next (by omega) 8 (by omega) (by omega)
      obtain ⟨v, ⟨v0, v1⟩, ev⟩ := pick_ev R.next.next.next (by omega) 99 (by omega) (by omega)
      obtain ⟨u, rfl⟩ := Int.eq_ofNat_of_zero_le u0
      obtain ⟨v, rfl⟩ := Int.eq_ofNat_of_zero_le v0
      obtain ⟨en, on, zn⟩ := new_nm (w := u) (n := 1 + v) (by omega) (by omega) (by omega)
      have en' : Ev (fun k => spec_MakNew.f k (u : Int) (wrap64 (1 + (v : Int)))) (T (Nm.new u (1 + v)).enc) := by
        rw [wz (x := 1 + (v : Int)) (by omega) (by omega), show (1 : Int) + (v : Int) = ((1 + v : Nat) : Int) by omega]
        exact en
      obtain ⟨r, er, hr⟩ := treSet_ev (w := y) (by omega) on (by omega) hl
      obtain ⟨z, q, ez, hz, Rz⟩ := ih (p + 1 + 1 + 1 + 1) (m + 1 + 1 + 1 + 1) r (by omega) R.next.next.next.next (by omega) hr
      exact ⟨z, q, Ev.step (fun k => by rw [spec_l20Tree.l0, if_pos (by omega), w1]) (Ev.bind ex (Ev.congr (fun k => if_neg hx) (Ev.bind ey (Ev.bind eu (Ev.bind ev (Ev.bind en' (Ev.bind er ez))))))), hz, Rz.weak (by omega)⟩
theorem new_treB : treB (List.replicate 15 (⟨#[]⟩ : ByteArray)) = true := by
  unfold treB
  rw [List.length_replicate, decide_eq_true rfl, Bool.true_and, List.all_eq_true]
  intro x hx
  rw [List.eq_of_mem_replicate hx]
  exact slot_none
theorem tree_ev {b : List Int} {p m : Int} (R : Rd b p m) (hm : m ≤ 10000) (n : Int) (hn : 1 ≤ n) (hn2 : n < 9000) : ∃ l q, Ev (fun k => spec_l20Tree.f k b p n) (l, q) ∧ l.length ≤ 16 ∧ Rd b q (m + 200) := by
  obtain ⟨r, ⟨g, h⟩, e⟩ := pick_ev R (by omega) 8 (by omega) (by omega)
  obtain ⟨c, rfl⟩ := Int.eq_ofNat_of_zero_le g
  obtain ⟨l, q, el, hl, Rq⟩ := tree_l0 n hn hn2 c (p + 1) (m + 1) _ (by omega) R.next (by omega) new_treB
  refine ⟨l, q, ?_, hl, Rq.weak (by omega)⟩
  unfold spec_l20Tree.f spec_TreNew.f
  exact Ev.congr (fun k => by rw [if_pos (by decide), Option.bind_some]) (Ev.bind e el)
end
end Go.Proofs.YtdcaipomjimplaaDoor.Pure
namespace Go.Proofs.YtdcaipomjimplaaDoor.Pure
section
open Go.RowKit Go.Proofs.YtdcaipomjimplaaDoor Go.Proofs.YtdcaipomjimplaaDoor.Wc Go.Proofs.YtdcaipomjimplaaDoorW.PrintWords Go.Proofs.YtdcaipomjimplaaDoorW.PrintLast
open Go.Proofs.YtdcaipomjimplaaDoor.Th (T B Nm nm dec hd prsNum whole)
open Go.Proofs.YtdcaipomjimplaaDoor.Tp (meet anc cov meet_comm cov_each cov_once cov_length)

theorem drawCover_ev {l : List Int} (h : Bytes l) : ∃ t x, Ev (fun k => spec_DrawTreCover.f k l) (t, x) ∧ t.length ≤ 16 ∧ (-1 ≤ x ∧ x ≤ 15) := by
  obtain ⟨b, eo, R⟩ := open_any l h
  obtain ⟨t, q, e1, h1, R1⟩ := tree_ev R (by omega) 9 (by omega) (by omega)
  obtain ⟨x, hx, e2, _⟩ := node_ev R1 (by omega)
  refine ⟨t, x, ?_, h1, hx⟩
  unfold spec_DrawTreCover.f
  exact Ev.congr (fun k => by rw [eo, Option.bind_some]) (Ev.bind e1 (Ev.bind (f := fun _ (v : Int × Int) => some (t, v.1)) e2 (Ev.of_eq fun k => rfl)))
def ints (l : List Nat) : List Int := l.map fun w : Nat => (w : Int)
theorem cover_both (l : List ByteArray) (hl : l.length = 15) : ∀ (d i : Nat), 15 - i ≤ d → i < 15 → d ≤ 20 → Ev (fun k => spec_l3Cover.f k l (i : Int)) (ints (cov (K l) d i)) ∧ Ev (fun k => impl_TreTree_cover.f k l (i : Int)) (ints (cov (K l) d i)) := by
  intro d
  induction d with
  | zero => intro i h0 h1; omega
  | succ d ih =>
    intro i h0 h1 hd
    unfold cov
    cases hk : K l i with
    | false =>
      have hk' : (rdOf ByteArray.empty l (i : Int)).toList = ([] : List UInt8) := by
        unfold K at hk
        rwa [bne_eq_false_iff_eq] at hk
      rw [if_neg Bool.false_ne_true]
      by_cases h7 : 7 ≤ i
      · rw [if_pos h7]
        refine ⟨Ev.step (f := fun _ => some []) (fun k => ?_) (Ev.now _), Ev.step (f := fun _ => some []) (fun k => ?_) (Ev.now _)⟩
        · rw [spec_l3Cover.f, if_pos (by omega), if_pos (by omega), if_pos hk', if_pos (by omega)]
        · rw [impl_TreTree_cover.f, if_pos (by omega), if_pos (by omega), if_pos hk', if_pos (by omega)]
      · rw [if_neg h7]
        obtain ⟨a1, b1⟩ := ih (2 * i + 1) (by omega) (by omega) (by omega)
        obtain ⟨a2, b2⟩ := ih (2 * i + 2) (by omega) (by omega) (by omega)
        have hb : 2 ^ d ≤ 2 ^ 20 := Nat.pow_le_pow_right (by omega) (by omega)
        have n1 := cov_length (K l) d (2 * i + 1)
        have n2 := cov_length (K l) d (2 * i + 2)
        have m1 : (ints (cov (K l) d (2 * i + 1))).length ≤ 2 ^ d := by unfold ints; rw [List.length_map]; exact n1
        have m2 : (ints (cov (K l) d (2 * i + 2))).length ≤ 2 ^ d := by unfold ints; rw [List.length_map]; exact n2
        have e1 : wrap64 (wrap64 (2 * (i : Int)) + 1) = ((2 * i + 1 : Nat) : Int) := by rw [wz (x := 2 * (i : Int)) (by omega) (by omega), wz (by omega) (by omega)]; omega
        have e2 : wrap64 (wrap64 (2 * (i : Int)) + 2) = ((2 * i + 2 : Nat) : Int) := by rw [wz (x := 2 * (i : Int)) (by omega) (by omega), wz (by omega) (by omega)]; omega
        have ea : ints (cov (K l) d (2 * i + 1) ++ cov (K l) d (2 * i + 2)) = ints (cov (K l) d (2 * i + 1)) ++ ints (cov (K l) d (2 * i + 2)) := by unfold ints; rw [List.map_append]
        rw [ea]
        exact ⟨Ev.step (fun k => by rw [spec_l3Cover.f, if_pos (by omega), if_pos (by omega), if_pos hk', if_neg (by omega), e1, e2]) (Ev.bind a1 (Ev.bind a2 (Ev.of_eq fun k => if_pos (show (ints (cov (K l) d (2 * i + 1))).length + (ints (cov (K l) d (2 * i + 2))).length < 17592186044416 by omega)))), Ev.step (fun k => by rw [impl_TreTree_cover.f, if_pos (by omega), if_pos (by omega), if_pos hk', if_neg (by omega), e1, e2]) (Ev.bind b1 (Ev.bind b2 (Ev.of_eq fun k => if_pos (show (ints (cov (K l) d (2 * i + 1))).length + (ints (cov (K l) d (2 * i + 2))).length < 17592186044416 by omega))))⟩
    | true =>
      have hk' : ¬ (rdOf ByteArray.empty l (i : Int)).toList = ([] : List UInt8) := by
        unfold K at hk
        rwa [bne_iff_ne] at hk
      rw [if_pos rfl]
      refine ⟨Ev.step (f := fun _ => some [(i : Int)]) (fun k => ?_) (Ev.now _), Ev.step (f := fun _ => some [(i : Int)]) (fun k => ?_) (Ev.now _)⟩
      · rw [spec_l3Cover.f, if_pos (by omega), if_pos (by omega), if_neg hk']
      · rw [impl_TreTree_cover.f, if_pos (by omega), if_pos (by omega), if_neg hk']
theorem cover_no (l : List ByteArray) (x : Int) (h : treB l = false ∨ ¬ (0 ≤ x ∧ x ≤ 14)) : Ev (fun k => spec_TreCover.f k l x) [] ∧ Ev (fun k => impl_TreCover.f k l x) [] := by
  unfold spec_TreCover.f impl_TreCover.f impl_TreOk.f impl_isNode.f
  have e := specTreOk_ev l
  cases ht : treB l with
  | false =>
    rw [ht] at e
    exact ⟨Ev.bind e (Ev.of_eq fun k => if_neg (by decide)), Ev.congr (fun k => by rw [Option.bind_some, if_neg (by decide)]) (Ev.step (f := fun _ => some []) (fun k => by rw [impl_TreCover.j0, if_pos rfl]) (Ev.now _))⟩
  | true =>
    rw [ht] at e
    have hx : ¬ (0 ≤ x ∧ x ≤ 14) := h.resolve_left (by rw [ht]; decide)
    exact ⟨Ev.bind e (Ev.of_eq fun k => by rw [if_pos rfl, in_spec, decide_eq_false hx, Option.bind_some, if_neg (by decide)]), Ev.congr (f := fun k => impl_TreCover.j0 k x true l) (fun k => by rw [Option.bind_some, if_pos rfl, in_impl, decide_eq_false hx, Option.bind_some, Option.bind_some]; rfl) (Ev.step (f := fun _ => some []) (fun k => by rw [impl_TreCover.j0, if_pos rfl]) (Ev.now _))⟩
theorem cover_yes (l : List ByteArray) (i : Nat) (ht : treB l = true) (hi : i < 15) : Ev (fun k => spec_TreCover.f k l (i : Int)) (ints (cov (K l) 15 i)) ∧ Ev (fun k => impl_TreCover.f k l (i : Int)) (ints (cov (K l) 15 i)) := by
  unfold spec_TreCover.f impl_TreCover.f impl_TreOk.f impl_isNode.f
  have e := specTreOk_ev l
  rw [ht] at e
  obtain ⟨a1, b1⟩ := cover_both l (tre_len ht) 15 i (by omega) hi (by omega)
  have n1 := cov_length (K l) 15 i
  have m1 : (ints (cov (K l) 15 i)).length ≤ 2 ^ 15 := by unfold ints; rw [List.length_map]; exact n1
  have hx : 0 ≤ (i : Int) ∧ (i : Int) ≤ 14 := by omega
  refine ⟨Ev.bind e (Ev.congr (fun k => by rw [if_pos rfl, in_spec, decide_eq_true hx, Option.bind_some, if_pos rfl]) (Ev.bind a1 (Ev.now _))), Ev.congr (f := fun k => impl_TreCover.j0 k (i : Int) false l) (fun k => by rw [ht, Option.bind_some, if_pos rfl, in_impl, decide_eq_true hx, Option.bind_some, Option.bind_some]; rfl) (Ev.step (fun k => by rw [impl_TreCover.j0, if_neg (by decide)]) (Ev.bind b1 (Ev.of_eq fun k => ?_)))⟩
  unfold impl_clone_int.f slices_Clone_int_int.f
  rw [if_pos (by omega)]
  rfl
theorem meet_ev {a b : Nat} (ha : a < 15) (hb : b < 15) : Ev (fun k => impl_TreMeet.f k (a : Int) (b : Int)) ((meet a b : Nat) : Int) := by
  have : ∀ x y : Fin 15, impl_TreMeet.f 30 ((x.1 : Nat) : Int) ((y.1 : Nat) : Int) = some ((meet x.1 y.1 : Nat) : Int) := by decide +kernel
  exact Ev.of (fun k => impl_TreMeet.mono _ _ k) (this ⟨a, ha⟩ ⟨b, hb⟩)
theorem ints_at {c : List Nat} {j : Nat} (h : j < c.length) : rd (ints c) (j : Int) = ((c[j] : Nat) : Int) := by
  rw [rdV_at (show j < (ints c).length by unfold ints; rw [List.length_map]; exact h)]
  unfold ints
  rw [List.getElem_map]
theorem l2_step {i : Nat} {c : List Nat} {m : List Int} {q w n j : Nat} (h : j < c.length) (hz : c.length ≤ 32768) (k : Nat) :
    laws_FnTreCover.l2 (k + 1) (i : Int) (ints c) m (q : Int) ((7 + w : Nat) : Int) (n : Int) (j : Int) = (impl_TreMeet.f k ((c[j] : Nat) : Int) ((7 + w : Nat) : Int)).bind fun t => (if t = ((c[j] : Nat) : Int) then (laws_FnTreCover.l2 k (i : Int) (ints c) m (q : Int) ((7 + w : Nat) : Int) (wrap64 ((n : Int) + 1)) ((j + 1 : Nat) : Int)) else (laws_FnTreCover.l2 k (i : Int) (ints c) m (q : Int) ((7 + w : Nat) : Int) (n : Int) ((j + 1 : Nat) : Int))) := by
  have f1 : (j : Int) < ((ints c).length : Int) := by unfold ints; rw [List.length_map]; omega
  rw [laws_FnTreCover.l2, if_pos f1, if_pos (Int.natCast_nonneg j), ints_at h, wz (x := (j : Int) + 1) (by omega) (by omega)]
  rfl
theorem law_l2 {t : List ByteArray} {i : Nat} {c : List Nat} (hi : i < 15) (hc : c = cov (K t) 15 i) {m : List Int} {q w : Nat} (hq : q < 100) (hw : w < 8) (nx : Ev (fun k => laws_FnTreCover.l1 k (i : Int) (ints c) m ((q + 1 : Nat) : Int)) true) : ∀ (d j n : Nat), c.length - j ≤ d → j ≤ c.length → n ≤ j → n + ((c.drop j).filter fun x => anc x (7 + w)).length = (if anc i (7 + w) = true then 1 else 0) →
    Ev (fun k => laws_FnTreCover.l2 k (i : Int) (ints c) m (q : Int) ((7 + w : Nat) : Int) (n : Int) (j : Int)) true := by
  have hlen : c.length ≤ 32768 := by
    have h0 := cov_length (K t) 15 i
    rw [← hc] at h0
    omega
  have hil : (ints c).length = c.length := by unfold ints; rw [List.length_map]
  have w1 : wrap64 ((q : Int) + 1) = ((q + 1 : Nat) : Int) := wz (x := (q : Int) + 1) (by omega) (by omega)
  have j4 : Ev (fun k => laws_FnTreCover.j4 k (i : Int) (ints c) m (q : Int) false) true := Ev.step (fun k => by rw [laws_FnTreCover.j4, if_neg Bool.false_ne_true, w1]) nx
  have em := meet_ev (a := 7 + w) (b := i) (by omega) hi
  have hcm : meet (7 + w) i = meet i (7 + w) := meet_comm (by omega) hi
  have fin : ∀ j n : Nat, c.length ≤ j → n + ((c.drop j).filter fun x => anc x (7 + w)).length = (if anc i (7 + w) = true then 1 else 0) → Ev (fun k => laws_FnTreCover.l2 k (i : Int) (ints c) m (q : Int) ((7 + w : Nat) : Int) (n : Int) (j : Int)) true := by
    intro j n hj hn
    rw [List.drop_eq_nil_of_le hj] at hn
    simp only [List.filter_nil, List.length_nil, Nat.add_zero] at hn
    refine Ev.step (fun k => by rw [laws_FnTreCover.l2, if_neg (by omega)]) (Ev.bind em ?_)
    by_cases ha : anc i (7 + w) = true
    · rw [if_pos ha] at hn
      have he : (((meet (7 + w) i : Nat) : Int)) = (i : Int) := by
        rw [hcm]
        unfold anc at ha
        rw [beq_iff_eq] at ha
        rw [ha]
      exact Ev.congr (fun k => by rw [if_pos he, if_pos (show (n : Int) = 1 by omega)]) (Ev.bind em (Ev.congr (fun k => if_pos he) j4))
    · rw [if_neg ha] at hn
      have he : ¬ (((meet (7 + w) i : Nat) : Int)) = (i : Int) := by
        rw [hcm]
        intro h
        apply ha
        unfold anc
        rw [beq_iff_eq]
        omega
      refine Ev.congr (fun k => if_neg he) (Ev.bind em (Ev.congr (f := fun k => laws_FnTreCover.j4 k (i : Int) (ints c) m (q : Int) false) (fun k => ?_) j4))
      rw [if_neg he, hn]
      rfl
  intro d
  induction d with
  | zero => intro j n h0 h1 _ hn; exact fin j n (by omega) hn
  | succ d ih =>
    intro j n h0 h1 h2 hn
    by_cases h : j < c.length
    · rw [List.drop_eq_getElem_cons h, List.filter_cons] at hn
      obtain ⟨g1, g2, g3⟩ := cov_each (K t) 15 i hi c[j] (by rw [← hc]; exact List.getElem_mem h)
      have ej := meet_ev (a := c[j]) (b := 7 + w) g1 (by omega)
      have e1 : c.length - (j + 1) ≤ d := by clear hn nx em j4 fin ih ej; omega
      have e2 : n + 1 ≤ j + 1 := Nat.succ_le_succ h2
      refine Ev.step (fun k => l2_step h hlen k) (Ev.bind ej ?_)
      by_cases ha : anc c[j] (7 + w) = true
      · rw [if_pos ha, List.length_cons] at hn
        have he : ((meet c[j] (7 + w) : Nat) : Int) = ((c[j] : Nat) : Int) := by
          unfold anc at ha
          rw [beq_iff_eq] at ha
          rw [ha]
        have w3 : wrap64 ((n : Int) + 1) = ((n + 1 : Nat) : Int) := by
          clear hn nx em j4 fin ih ej he ha
          exact wz (x := (n : Int) + 1) (by omega) (by omega)
        have e3 : n + 1 + ((c.drop (j + 1)).filter fun x => anc x (7 + w)).length = (if anc i (7 + w) = true then 1 else 0) := by
          rw [Nat.add_assoc, Nat.add_comm 1]
          exact hn
        exact Ev.congr (fun k => by rw [if_pos he, w3]) (ih (j + 1) (n + 1) e1 h e2 e3)
      · rw [if_neg ha] at hn
        have he : ¬ ((meet c[j] (7 + w) : Nat) : Int) = ((c[j] : Nat) : Int) := by
          intro h
          apply ha
          unfold anc
          rw [beq_iff_eq]
          exact Int.ofNat.inj h
        exact Ev.congr (fun k => if_neg he) (ih (j + 1) n e1 h (Nat.le_succ_of_le h2) hn)
    · exact fin j n (by omega) hn
theorem law_l1 {t : List ByteArray} {i : Nat} {c : List Nat} (hi : i < 15) (hc : c = cov (K t) 15 i) : ∀ (d q : Nat), (insI t).length - q ≤ d → q ≤ (insI t).length → Ev (fun k => laws_FnTreCover.l1 k (i : Int) (ints c) (insI t) (q : Int)) true := by
  have hz := insI_length t
  have fin : ∀ q : Nat, (insI t).length ≤ q → Ev (fun k => laws_FnTreCover.l1 k (i : Int) (ints c) (insI t) (q : Int)) true := by
    intro q hq
    exact Ev.step (f := fun _ => some true) (fun k => by rw [laws_FnTreCover.l1, if_neg (by omega), keOk_is]; rfl) (Ev.now _)
  intro d
  induction d with
  | zero => intro q h0 h1; exact fin q (by omega)
  | succ d ih =>
    intro q h0 h1
    by_cases h : q < (insI t).length
    · obtain ⟨w, he, hw, hk⟩ := insI_mem.1 (List.getElem_mem h)
      refine Ev.step (f := fun k => laws_FnTreCover.l2 k (i : Int) (ints c) (insI t) (q : Int) ((7 + w : Nat) : Int) 0 0) (fun k => ?_) (law_l2 hi hc (by omega) hw (ih (q + 1) (by omega) (by omega)) c.length 0 0 (by omega) (by omega) (by omega) ?_)
      · rw [laws_FnTreCover.l1, if_pos (by omega), if_pos (by omega), rdV_at h, he, implLeaf hw, Option.bind_some]
      · rw [List.drop_zero, Nat.zero_add, hc]
        exact cov_once (K t) hw hk 15 i (by omega) hi
    · exact fin q (by omega)
theorem law_l0 {t : List ByteArray} {i : Nat} {c : List Nat} (ht : treB t = true) (hi : i < 15) (hc : c = cov (K t) 15 i) : ∀ (d j : Nat), c.length - j ≤ d → j ≤ c.length → Ev (fun k => laws_FnTreCover.l0 k (i : Int) (ints c) (j : Int) t) true := by
  have hlen : c.length ≤ 32768 := by
    have h0 := cov_length (K t) 15 i
    rw [← hc] at h0
    omega
  have hil : (ints c).length = c.length := by unfold ints; rw [List.length_map]
  have htl := tre_len ht
  have fin : ∀ j : Nat, c.length ≤ j → Ev (fun k => laws_FnTreCover.l0 k (i : Int) (ints c) (j : Int) t) true := by
    intro j hj
    exact Ev.step (fun k => by rw [laws_FnTreCover.l0, if_neg (by omega)]) (Ev.bind (treIn_impl ht) (law_l1 hi hc _ 0 (Nat.le_refl _) (Nat.zero_le _)))
  intro d
  induction d with
  | zero => intro j h0 h1; exact fin j (by omega)
  | succ d ih =>
    intro j h0 h1
    by_cases h : j < c.length
    · obtain ⟨g1, g2, g3⟩ := cov_each (K t) 15 i hi c[j] (by rw [← hc]; exact List.getElem_mem h)
      have ej := meet_ev (a := c[j]) (b := i) g1 hi
      have he : ((meet c[j] i : Nat) : Int) = (i : Int) := by
        rw [meet_comm g1 hi]
        unfold anc at g3
        rw [beq_iff_eq] at g3
        rw [g3]
      have hk' : ¬ (rdOf ByteArray.empty t ((c[j] : Nat) : Int)).toList = ([] : List UInt8) := by
        unfold K at g2
        rwa [bne_iff_ne] at g2
      exact Ev.step (fun k => by rw [laws_FnTreCover.l0, if_pos (by omega), if_pos (by omega), ints_at h, if_pos (by omega), if_pos (by omega), if_neg hk', wz (x := (j : Int) + 1) (by omega) (by omega)]) (Ev.bind ej (Ev.congr (fun k => if_pos he) (ih (j + 1) (by omega) (by omega))))
    · exact fin j (by omega)
theorem FnTreCover : laws_FnTreCover.Pure := by
  intro l _ _ hw
  refine Ev.rounds ?_
  unfold laws_FnTreCover.f
  by_cases hb : (l.length : Int) > 1048576
  · exact Ev.of_eq fun k => if_pos hb
  refine Ev.congr (fun k => if_neg hb) ?_
  obtain ⟨t, x, e, _, hx⟩ := drawCover_ev (Bytes.of_wf hw)
  have et := specTreOk_ev t
  have out : Ev (fun k => laws_FnTreCover.j0 k x ([] : List Int) true t) true := Ev.step (f := fun _ => some true) (fun k => by rw [laws_FnTreCover.j0, if_pos rfl, if_pos (by decide), keOk_is]; rfl) (Ev.now _)
  by_cases h : treB t = true ∧ (0 ≤ x ∧ x ≤ 14)
  · obtain ⟨ht, hx0, hx1⟩ := h
    obtain ⟨i, rfl⟩ := Int.eq_ofNat_of_zero_le hx0
    have hi : i < 15 := by omega
    obtain ⟨a, b⟩ := cover_yes t i ht hi
    have n1 := cov_length (K t) 15 i
    have m1 : (ints (cov (K t) 15 i)).length ≤ 2 ^ 15 := by unfold ints; rw [List.length_map]; exact n1
    rw [ht] at et
    refine Ev.bind e (Ev.bind b (Ev.bind a (Ev.bind (keInts_ev _ (by omega)) (Ev.congr (fun k => if_pos rfl) (Ev.bind et ?_)))))
    refine Ev.congr (f := fun k => laws_FnTreCover.j0 k (i : Int) (ints (cov (K t) 15 i)) false t) (fun k => by rw [if_pos rfl, if_neg (by omega), decide_eq_false (by omega)]) ?_
    exact Ev.step (fun k => by rw [laws_FnTreCover.j0, if_neg Bool.false_ne_true]; rfl) (law_l0 ht hi rfl _ 0 (Nat.le_refl _) (Nat.zero_le _))
  · have hno : treB t = false ∨ ¬ (0 ≤ x ∧ x ≤ 14) := by
      cases ht : treB t with
      | false => exact .inl rfl
      | true => exact .inr fun h2 => h ⟨ht, h2⟩
    obtain ⟨a, b⟩ := cover_no t x hno
    refine Ev.bind e (Ev.bind b (Ev.bind a (Ev.bind (keInts_ev [] (by simp)) (Ev.congr (fun k => if_pos rfl) (Ev.bind et ?_)))))
    cases ht : treB t with
    | false => exact Ev.congr (fun k => if_neg Bool.false_ne_true) out
    | true =>
      refine Ev.congr (fun k => if_pos rfl) ?_
      by_cases h0 : x < 0
      · exact Ev.congr (fun k => if_pos h0) out
      · refine Ev.congr (f := fun k => laws_FnTreCover.j0 k x ([] : List Int) true t) (fun k => ?_) out
        rw [if_neg h0, decide_eq_true (by have := hno.resolve_left (by rw [ht]; decide); omega)]
end
end Go.Proofs.YtdcaipomjimplaaDoor.Pure
