/- What the reference reads of a name: sizes, whether it is one, and how it was made. Plain Lean. The reference's reading of a name's size, and whether a text is a name. Plain Lean. How a name was made, as the reference reads it. Plain Lean. What the reference makes of secrets: has, make, ok. Plain Lean. What the reference opens: boxes that are ok, and all that is known behind them. Plain Lean. KnwOpen, the program's and the reference's; texts compared, a text looked for. Plain Lean. Box by box all is opened: the law's plain statement. -/
import Derived.Test.YtjbnfcljkmapeaaDoorYcx4
import Derived.Test.YtjbnfcljkmapeaaDoorYcx6
import Derived.Test.YtjbnfcljkmapeaaDoorYcx8
import Derived.Test.YtjbnfcljkmapeaaDoorKnwN
import Derived.Test.YtjbnfcljkmapeaaDoorYcx6
import Derived.Test.YtjbnfcljkmapeaaDoorYcx9
import Derived.Test.YtjbnfcljkmapeaaDoorYcGivK
import Derived.Test.YtjbnfcljkmapeaaDoorYcx7
import Derived.Test.YtjbnfcljkmapeaaDoorYcx10
import Derived.Test.YtjbnfcljkmapeaaDoorYcx11
import Derived.Test.YtjbnfcljkmapeaaDoorYcx2
import Derived.Test.YtjbnfcljkmapeaaDoorYcx1
import Derived.Test.YtjbnfcljkmapeaaDoorYcx1
import Derived.Test.YtjbnfcljkmapeaaDoorYcx2
import Derived.Test.YtjbnfcljkmapeaaDoorYcx12
namespace Go.Proofs.YtjbnfcljkmapeaaDoor.Pure
section
open Go.RowKit Go.Proofs.YtjbnfcljkmapeaaDoor Go.Proofs.YtjbnfcljkmapeaaDoor.Yc Go.Proofs.YtjbnfcljkmapeaaDoorW.PrintWords Go.Proofs.YtjbnfcljkmapeaaDoorW.PrintLast
open Go.Proofs.YtjbnfcljkmapeaaDoor.Th (T B Nm nm dec hd prsNum whole)

theorem wz {x : Int} (h0 : -1000000000000000 ≤ x) (h1 : x ≤ 1000000000000000) : wrap64 x = x := by
  unfold wrap64
  omega
theorem T_app (a b : List Nat) : T (a ++ b) = T a ++ T b := by
  apply Th.B_inj
  rw [Th.B_append]
  simp [T, B]
theorem spec_in (x a b : Int) : spec_l1In.f x a b = some (decide (a ≤ x ∧ x ≤ b)) := by
  unfold spec_l1In.f
  by_cases h : x ≥ a
  · rw [if_pos h]; simp [show a ≤ x from h]
  · rw [if_neg h]; simp [show ¬ a ≤ x from h]
theorem spec_letter (w : Nat) (h : w < 8) : spec_l1Who.f (w : Int) = some (T [65 + w]) := by
  have : ∀ n : Fin 8, spec_l1Who.f ((n.1 : Nat) : Int) = some (T [65 + n.1]) := by decide +kernel
  exact this ⟨w, h⟩
theorem spec_plain (n : Nat) (h : n < 100) (k : Nat) (hk : 3 ≤ k) : spec_l1Plain.f k (n : Int) = some (T (dec n)) := by
  have : ∀ n : Fin 100, spec_l1Plain.f 3 ((n.1 : Nat) : Int) = some (T (dec n.1)) := by decide +kernel
  exact at_rounds (fun k => spec_l1Plain.mono _ k) hk (this ⟨n, h⟩)
theorem dec_two (n : Nat) : (dec n).length ≤ 2 := by unfold dec; split <;> simp
/-- What makNew of one and a number is. -/
def mkN (w n : Nat) : ByteArray := if w < 8 ∧ 1 ≤ n ∧ n ≤ 99 then T (Nm.new w n).enc else ⟨#[]⟩
theorem spec_mkN (w n : Nat) (k : Nat) (hk : 4 ≤ k) : spec_MakNew.f k (w : Int) (n : Int) = some (mkN w n) := by
  obtain ⟨k, rfl⟩ : ∃ j, k = j + 1 := ⟨k - 1, by omega⟩
  unfold spec_MakNew.f mkN
  rw [spec_in, spec_in]
  simp only [Option.bind_some]
  by_cases h0 : w < 8
  · by_cases h1 : 1 ≤ n ∧ n ≤ 99
    · rw [decide_eq_true (by omega), decide_eq_true (by omega), if_pos rfl, if_pos ⟨h0, h1⟩]
      simp only [Bool.not_true, spec_MakNew.j0]
      rw [if_neg (by decide), spec_letter w h0, spec_plain n (by omega) k (by omega)]
      simp only [Option.bind_some]
      have := dec_two n
      rw [if_pos (by rw [Th.T_size, Th.T_size, List.length_singleton]; omega), if_pos (by rw [ByteArray.size_append, Th.T_size, Th.T_size, List.length_singleton]; omega)]
      rw [show (⟨#[59]⟩ : ByteArray) = T [59] from rfl, ← T_app, ← T_app]
      rfl
    · rw [decide_eq_true (by omega), decide_eq_false (by omega), if_pos rfl, if_neg (fun h => h1 h.2)]
      simp [spec_MakNew.j0]
  · rw [decide_eq_false (by omega), if_neg (by decide), if_neg (fun h => h0 h.1)]
    simp [spec_MakNew.j0]

/-! ### a new secret's name, read -/
theorem bt_pre {s : ByteArray} {pre t : List Nat} (h : B s = pre ++ t) (i : Nat) : bt s ((pre.length + i : Nat) : Int) = ((t.getD i 0 : Nat) : Int) := by
  rw [Th.bt_B, h, Int.toNat_natCast, List.getD_eq_getElem?_getD, List.getElem?_append_right (by omega), show pre.length + i - pre.length = i by omega, List.getD_eq_getElem?_getD]
theorem size_pre {s : ByteArray} {pre t : List Nat} (h : B s = pre ++ t) : s.size = pre.length + t.length := by
  rw [← Th.B_length, h, List.length_append]
theorem cut_pre {s : ByteArray} {pre t : List Nat} (h : B s = pre ++ t) (j : Nat) : s.extract pre.length (pre.length + j) = T (t.take j) := by
  apply Th.B_inj
  rw [Th.B_extract, h, Th.B_T (fun x hx => Th.B_lt s x (by rw [h]; exact List.mem_append_right _ (List.mem_of_mem_take hx)))]
  rw [List.take_append, List.take_of_length_le (by omega), show pre.length + j - pre.length = j by omega, List.drop_left]
theorem take_snoc {t : List Nat} {i : Nat} (h : i < t.length) : t.take (i + 1) = t.take i ++ [t.getD i 0] := by
  rw [List.take_add_one, List.getElem?_eq_getElem h, List.getD_eq_getElem?_getD, List.getElem?_eq_getElem h]
  rfl
section
variable {s : ByteArray} {pre t : List Nat} {c : Nat}
theorem fresh_tail (h : B s = pre ++ c :: t) (hs : s.size ≤ 1000000000000) (hc : 65 ≤ c ∧ c ≤ 72) (i n k : Nat) (hi : i ≤ t.length) (hk : 6 ≤ k) :
    spec_l1Fresh.j2 k s pre.length n ((pre.length + (1 + i) : Nat) : Int) false = some (if t.getD i 0 = 59 ∧ mkN (c - 65) n = T (c :: (t.take i ++ [59])) then ((i + 2 : Nat) : Int) else 0) := by
  obtain ⟨k, rfl⟩ : ∃ j, k = j + 2 := ⟨k - 2, by omega⟩
  have hz := size_pre h
  rw [List.length_cons] at hz
  have b0 : bt s ((pre.length : Nat) : Int) = (c : Int) := bt_pre h 0
  have b1 : bt s ((pre.length + (1 + i) : Nat) : Int) = ((t.getD i 0 : Nat) : Int) := by
    rw [bt_pre h (1 + i), show 1 + i = i + 1 by omega]
    rfl
  simp only [spec_l1Fresh.j2]
  rw [if_neg (by decide)]
  by_cases h0 : i < t.length
  · rw [if_neg (by omega), if_pos (by omega), if_pos (by omega), b1]
    by_cases h1 : t.getD i 0 = 59
    · rw [if_pos (by omega), if_pos (by omega), if_pos (by omega), b0, show ((c : Int) - 65) % 256 = ((c - 65 : Nat) : Int) by omega, spec_mkN _ _ _ (by omega), Option.bind_some]
      have e0 : wrap64 (((pre.length + (1 + i) : Nat) : Int) + 1) = ((pre.length + (i + 2) : Nat) : Int) := by rw [wz (by omega) (by omega)]; omega
      rw [e0, if_pos (by omega), if_pos (by omega), Int.toNat_natCast, Int.toNat_natCast, cut_pre h, show (c :: t).take (i + 2) = c :: t.take (i + 1) from rfl, take_snoc h0, h1]
      by_cases h2 : mkN (c - 65) n = T (c :: (t.take i ++ [59]))
      · rw [if_pos ⟨rfl, h2⟩, h2, bne_self_eq_false]
        simp only [spec_l1Fresh.j3]
        rw [if_neg (by decide), e0, wz (by omega) (by omega)]
        congr 1
        omega
      · have e2 : ((mkN (c - 65) n).toList != (T (c :: (t.take i ++ [59]))).toList) = true := bne_iff_ne.2 (fun e => h2 (Th.toList_eq.1 e))
        rw [if_neg (fun h => h2 h.2), e2]
        simp only [spec_l1Fresh.j3]
        rw [if_pos trivial]
    · rw [if_neg (by omega), if_neg (fun h => h1 h.1)]
      simp only [spec_l1Fresh.j3]
      rw [if_pos trivial]
  · have e1 : t.getD i 0 = 0 := by rw [List.getD_eq_getElem?_getD, List.getElem?_eq_none (by omega)]; rfl
    rw [if_pos (by omega), e1, if_neg (fun h => by omega)]
    simp only [spec_l1Fresh.j3]
    rw [if_pos trivial]
theorem fresh_more (h : B s = pre ++ c :: t) (hs : s.size ≤ 1000000000000) (i n k : Nat) (hi : i < 3) (hn : n ≤ 1000) (hd : 48 ≤ t.getD i 0 ∧ t.getD i 0 ≤ 57) :
    spec_l1Fresh.l0 (k + 2) s pre.length n ((pre.length + (1 + i) : Nat) : Int) = spec_l1Fresh.l0 k s pre.length ((10 * n + (t.getD i 0 - 48) : Nat) : Int) ((pre.length + (1 + (i + 1)) : Nat) : Int) := by
  have hz := size_pre h
  rw [List.length_cons] at hz
  have hl : i < t.length := Th.lt_of_getD (by omega)
  have b1 : bt s ((pre.length + (1 + i) : Nat) : Int) = ((t.getD i 0 : Nat) : Int) := by
    rw [bt_pre h (1 + i), show 1 + i = i + 1 by omega]
    rfl
  conv => lhs; rw [spec_l1Fresh.l0]
  rw [if_pos (by omega), if_pos (by omega), b1, if_pos (by omega), if_pos (by omega), wz (x := (pre.length : Int) + 4) (by omega) (by omega), decide_eq_true (by omega)]
  conv => lhs; rw [spec_l1Fresh.j2]
  rw [if_pos rfl, if_pos (by omega), if_pos (by omega), b1, wz (x := (n : Int) * 10) (by omega) (by omega), wz (x := (n : Int) * 10 + _) (by omega) (by omega), wz (x := ((pre.length + (1 + i) : Nat) : Int) + 1) (by omega) (by omega)]
  congr 1 <;> omega
theorem fresh_stop (h : B s = pre ++ c :: t) (hs : s.size ≤ 1000000000000) (hc : 65 ≤ c ∧ c ≤ 72) (i n k : Nat) (hi : i ≤ t.length) (hk : 6 ≤ k) (hd : ¬ (48 ≤ t.getD i 0 ∧ t.getD i 0 ≤ 57) ∨ i = 3) :
    spec_l1Fresh.l0 (k + 1) s pre.length n ((pre.length + (1 + i) : Nat) : Int) = some (if t.getD i 0 = 59 ∧ mkN (c - 65) n = T (c :: (t.take i ++ [59])) then ((i + 2 : Nat) : Int) else 0) := by
  have hz := size_pre h
  rw [List.length_cons] at hz
  have b1 : bt s ((pre.length + (1 + i) : Nat) : Int) = ((t.getD i 0 : Nat) : Int) := by
    rw [bt_pre h (1 + i), show 1 + i = i + 1 by omega]
    rfl
  rw [← fresh_tail h hs hc i n k hi hk]
  conv => lhs; rw [spec_l1Fresh.l0]
  by_cases h0 : i < t.length
  · rw [if_pos (by omega), if_pos (by omega), b1]
    by_cases h1 : (t.getD i 0 : Int) ≥ 48
    · rw [if_pos h1]
      by_cases h2 : (t.getD i 0 : Int) ≤ 57
      · rw [if_pos h2, wz (by omega) (by omega), decide_eq_false (by omega)]
      · rw [if_neg h2]
    · rw [if_neg h1]
  · rw [if_neg (by omega)]
theorem T_eq {a b : List Nat} (ha : ∀ x ∈ a, x < 256) (hb : ∀ x ∈ b, x < 256) (h : T a = T b) : a = b := by
  have := congrArg B h
  rwa [Th.B_T ha, Th.B_T hb] at this
theorem T_len {a b : List Nat} (h : T a = T b) : a.length = b.length := by
  have := congrArg ByteArray.size h
  rwa [Th.T_size, Th.T_size] at this
/-- The size of the new secret's name that stands first. -/
def freshSz (c : Nat) (t : List Nat) : Int := if 65 ≤ c ∧ c ≤ 72 then (match prsNum t with | some p => ((1 + t.length - p.2.length : Nat) : Int) | none => 0) else 0
theorem fresh_20 (h : B s = pre ++ c :: t) (hs : s.size ≤ 1000000000000) : spec_l1Fresh.f 20 s pre.length = some (freshSz c t) := by
  have hz := size_pre h
  rw [List.length_cons] at hz
  have b0 : bt s ((pre.length : Nat) : Int) = (c : Int) := bt_pre h 0
  unfold spec_l1Fresh.f freshSz
  rw [if_pos (by omega), if_pos (by omega), b0]
  by_cases hc : 65 ≤ c ∧ c ≤ 72
  · rw [if_neg (by omega), decide_eq_false (by omega), if_pos hc]
    simp only [spec_l1Fresh.j0]
    rw [if_neg (by decide), wz (x := (pre.length : Int) + 1) (by omega) (by omega), show (pre.length : Int) + 1 = ((pre.length + (1 + 0) : Nat) : Int) by omega, show (0 : Int) = ((0 : Nat) : Int) from rfl]
    have empty : ∀ (n : Nat) (l : List Nat), (n < 1 ∨ 99 < n) → mkN (c - 65) n ≠ T (c :: l) := by
      intro n l hn e
      rw [mkN, if_neg (by omega)] at e
      have z : (0 : Nat) = (c :: l).length := (congrArg ByteArray.size e).trans (Th.T_size _)
      exact absurd z (by simp)
    have some_ : ∀ (n : Nat), 1 ≤ n → n ≤ 99 → mkN (c - 65) n = T (c :: (dec n ++ [59])) := by
      intro n h1 h2
      rw [mkN, if_pos (by omega)]
      simp only [Nm.enc]
      rw [show 65 + (c - 65) = c by omega]
    by_cases d0 : 48 ≤ t.getD 0 0 ∧ t.getD 0 0 ≤ 57
    · have l0 : 0 < t.length := Th.lt_of_getD (by omega)
      have k1 : t.take 1 = [t.getD 0 0] := by rw [take_snoc l0]; rfl
      rw [fresh_more h hs 0 0 17 (by omega) (by omega) d0]
      by_cases d1 : 48 ≤ t.getD 1 0 ∧ t.getD 1 0 ≤ 57
      · have l1 : 1 < t.length := Th.lt_of_getD (by omega)
        have k2 : t.take 2 = [t.getD 0 0, t.getD 1 0] := by rw [take_snoc l1, k1]; rfl
        rw [fresh_more h hs 1 _ 15 (by omega) (by omega) d1]
        by_cases d2 : 48 ≤ t.getD 2 0 ∧ t.getD 2 0 ≤ 57
        · have l2 : 2 < t.length := Th.lt_of_getD (by omega)
          rw [fresh_more h hs 2 _ 13 (by omega) (by omega) d2, fresh_stop h hs hc 3 _ 12 (by omega) (by omega) (.inr rfl)]
          have no : prsNum t = none := by
            unfold prsNum
            by_cases z : 49 ≤ t.getD 0 0 ∧ t.getD 0 0 ≤ 57
            · rw [if_pos z, if_pos d1, if_neg (by omega)]
            · rw [if_neg z]
          rw [no, if_neg]
          · rfl
          rintro ⟨_, e⟩
          by_cases hv : 1 ≤ 10 * (10 * (10 * 0 + (t.getD 0 0 - 48)) + (t.getD 1 0 - 48)) + (t.getD 2 0 - 48) ∧ 10 * (10 * (10 * 0 + (t.getD 0 0 - 48)) + (t.getD 1 0 - 48)) + (t.getD 2 0 - 48) ≤ 99
          · rw [some_ _ hv.1 hv.2] at e
            have := T_len e
            have := dec_two (10 * (10 * (10 * 0 + (t.getD 0 0 - 48)) + (t.getD 1 0 - 48)) + (t.getD 2 0 - 48))
            simp only [List.length_cons, List.length_append, List.length_nil, List.length_take] at *
            omega
          · exact empty _ _ (by omega) e
        · rw [fresh_stop h hs hc 2 _ 14 (by omega) (by omega) (.inl d2), k2]
          by_cases z : t.getD 0 0 = 48
          · have no : prsNum t = none := by unfold prsNum; rw [if_neg (by omega)]
            rw [no, if_neg]
            · rfl
            rintro ⟨_, e⟩
            by_cases hv : 1 ≤ 10 * (10 * 0 + (t.getD 0 0 - 48)) + (t.getD 1 0 - 48)
            · rw [some_ _ hv (by omega)] at e
              have := T_len e
              unfold dec at this
              rw [if_pos (by omega)] at this
              simp at this
            · exact empty _ _ (by omega) e
          · by_cases q : t.getD 2 0 = 59
            · have yes : prsNum t = some (10 * (t.getD 0 0 - 48) + (t.getD 1 0 - 48), t.drop 3) := by
                unfold prsNum; rw [if_pos (by omega), if_pos d1, if_pos q]
              have l2 : 2 < t.length := Th.lt_of_getD (by omega)
              rw [yes, if_pos]
              · simp only [List.length_drop]
                congr 1
                omega
              · refine ⟨q, ?_⟩
                rw [some_ _ (by omega) (by omega)]
                unfold dec
                rw [if_neg (by omega)]
                rw [show 48 + (10 * (10 * 0 + (t.getD 0 0 - 48)) + (t.getD 1 0 - 48)) / 10 = t.getD 0 0 by omega, show 48 + (10 * (10 * 0 + (t.getD 0 0 - 48)) + (t.getD 1 0 - 48)) % 10 = t.getD 1 0 by omega]
            · have no : prsNum t = none := by unfold prsNum; rw [if_pos (by omega), if_pos d1, if_neg q]
              rw [no, if_neg (fun h => q h.1)]; rfl
      · rw [fresh_stop h hs hc 1 _ 16 (by omega) (by omega) (.inl d1), k1]
        by_cases z : t.getD 0 0 = 48
        · have no : prsNum t = none := by unfold prsNum; rw [if_neg (by omega)]
          rw [no, if_neg]
          · rfl
          rintro ⟨_, e⟩
          exact empty _ _ (by omega) e
        · by_cases q : t.getD 1 0 = 59
          · have yes : prsNum t = some (t.getD 0 0 - 48, t.drop 2) := by
              unfold prsNum; rw [if_pos (by omega), if_neg d1, if_pos q]
            have l1 : 1 < t.length := Th.lt_of_getD (by omega)
            rw [yes, if_pos]
            · simp only [List.length_drop]
              congr 1
              omega
            · refine ⟨q, ?_⟩
              rw [some_ _ (by omega) (by omega)]
              unfold dec
              rw [if_pos (by omega), show 48 + (10 * 0 + (t.getD 0 0 - 48)) = t.getD 0 0 by omega]
          · have no : prsNum t = none := by unfold prsNum; rw [if_pos (by omega), if_neg d1, if_neg q]
            rw [no, if_neg (fun h => q h.1)]; rfl
    · rw [fresh_stop h hs hc 0 0 18 (by omega) (by omega) (.inl d0)]
      have no : prsNum t = none := by unfold prsNum; rw [if_neg (by omega)]
      rw [no, if_neg]
      · rfl
      rintro ⟨_, e⟩
      exact empty _ _ (by omega) e
  · rw [if_neg hc]
    have key : spec_l1Fresh.j0 20 s pre.length true = some 0 := by
      simp only [spec_l1Fresh.j0]
      rw [if_pos trivial]
    by_cases g : (c : Int) < 65
    · rw [if_pos g]; exact key
    · rw [if_neg g, decide_eq_true (by omega)]; exact key
end
end
end Go.Proofs.YtjbnfcljkmapeaaDoor.Pure
namespace Go.Proofs.YtjbnfcljkmapeaaDoor.Pure
section
open Go.RowKit Go.Proofs.YtjbnfcljkmapeaaDoor Go.Proofs.YtjbnfcljkmapeaaDoor.Yc Go.Proofs.YtjbnfcljkmapeaaDoorW.PrintWords Go.Proofs.YtjbnfcljkmapeaaDoorW.PrintLast
open Go.Proofs.YtjbnfcljkmapeaaDoor.Th (T B Nm nm dec hd prsNum whole)

/-- The size of the name that stands first; 0 if none does. -/
def sz (t : List Nat) : Int := match hd t with | some p => ((t.length - p.2.length : Nat) : Int) | none => 0
def more (a n : Int) : Int := if n = 0 then 0 else a + n
theorem hd_short {t : List Nat} {a : Nm} {r : List Nat} (h : hd t = some (a, r)) : r.length < t.length := by
  obtain ⟨_, e⟩ := Th.hd_sound h
  have := Th.enc_pos a
  rw [e, List.length_append]
  omega
theorem sz_range (t : List Nat) : 0 ≤ sz t ∧ sz t ≤ t.length := by
  unfold sz
  split
  · omega
  · omega
theorem sz_some {t : List Nat} {a : Nm} {r : List Nat} (h : hd t = some (a, r)) : sz t = ((t.length - r.length : Nat) : Int) := by unfold sz; rw [h]
theorem sz_none {t : List Nat} (h : hd t = none) : sz t = 0 := by unfold sz; rw [h]
theorem sz_zero {t : List Nat} : sz t = 0 ↔ hd t = none := by
  constructor
  · intro h
    cases e : hd t with
    | none => rfl
    | some p =>
      obtain ⟨a, r⟩ := p
      rw [sz_some e] at h
      have := hd_short e
      omega
  · exact sz_none
theorem sz_nil : sz [] = 0 := rfl
theorem sz_map {c : Nat} {t u : List Nat} {d : Nat} (hu : u.length + d = t.length + 1) (f : Nm → Nm) (e : hd (c :: t) = (hd u).map fun p => (f p.1, p.2)) : sz (c :: t) = more d (sz u) := by
  unfold more
  cases g : hd u with
  | none =>
    rw [sz_none g, if_pos rfl]
    exact sz_none (by rw [e, g]; rfl)
  | some p =>
    obtain ⟨a, r⟩ := p
    have hs := hd_short g
    rw [sz_some g, if_neg (by omega), sz_some (a := f a) (r := r) (by rw [e, g]; rfl), List.length_cons]
    omega
theorem sz_next (t : List Nat) : sz (110 :: t) = more 1 (sz t) := sz_map (d := 1) (by omega) Nm.next (by rw [Th.hd_cons, if_neg (by decide), if_pos rfl])
theorem sz_key (t : List Nat) : sz (107 :: t) = more 1 (sz t) := sz_map (d := 1) (by omega) Nm.key (by rw [Th.hd_cons, if_neg (by decide), if_neg (by decide), if_pos rfl])
theorem sz_say {t : List Nat} (h : 65 ≤ t.getD 0 0 ∧ t.getD 0 0 ≤ 72) : sz (109 :: t) = more 2 (sz (t.drop 1)) :=
  sz_map (d := 2) (by have := Th.lt_of_getD (l := t) (i := 0) (by omega); rw [List.length_drop]; omega) (Nm.say (t.getD 0 0 - 65)) (by rw [Th.hd_cons, if_neg (by decide), if_neg (by decide), if_neg (by decide), if_neg (by decide), if_pos rfl, if_pos h])
theorem sz_say_no {t : List Nat} (h : ¬ (65 ≤ t.getD 0 0 ∧ t.getD 0 0 ≤ 72)) : sz (109 :: t) = 0 := sz_none (by rw [Th.hd_cons, if_neg (by decide), if_neg (by decide), if_neg (by decide), if_neg (by decide), if_pos rfl, if_neg h])
theorem sz_room {t : List Nat} (h : 49 ≤ t.getD 0 0 ∧ t.getD 0 0 ≤ 57) : sz (114 :: t) = more 2 (sz (t.drop 1)) :=
  sz_map (d := 2) (by have := Th.lt_of_getD (l := t) (i := 0) (by omega); rw [List.length_drop]; omega) (Nm.room (t.getD 0 0 - 48)) (by rw [Th.hd_cons, if_neg (by decide), if_neg (by decide), if_neg (by decide), if_neg (by decide), if_neg (by decide), if_pos rfl, if_pos h])
theorem sz_room_no {t : List Nat} (h : ¬ (49 ≤ t.getD 0 0 ∧ t.getD 0 0 ≤ 57)) : sz (114 :: t) = 0 := sz_none (by rw [Th.hd_cons, if_neg (by decide), if_neg (by decide), if_neg (by decide), if_neg (by decide), if_neg (by decide), if_pos rfl, if_neg h])
theorem hd_epoch (t : List Nat) : hd (101 :: t) = (hd t).bind fun p => (hd p.2).map fun q => (Nm.epoch p.1 q.1, q.2) := by
  rw [Th.hd_cons, if_neg (by decide), if_neg (by decide), if_neg (by decide), if_pos rfl]
theorem drop_sz {t : List Nat} {a : Nm} {r : List Nat} (h : hd t = some (a, r)) : t.drop (sz t).toNat = r := by
  rw [sz_some h, Int.toNat_natCast]
  obtain ⟨_, e⟩ := Th.hd_sound h
  rw [e, List.length_append, show a.enc.length + r.length - r.length = a.enc.length by omega, List.drop_left]
theorem sz_epoch_no {t : List Nat} (h : sz t = 0) : sz (101 :: t) = 0 := sz_none (by rw [hd_epoch, sz_zero.1 h]; rfl)
theorem sz_epoch {t : List Nat} (h : sz t ≠ 0) : sz (101 :: t) = more (1 + sz t) (sz (t.drop (sz t).toNat)) := by
  unfold more
  cases g : hd t with
  | none => exact absurd (sz_none g) h
  | some p =>
    obtain ⟨a, r⟩ := p
    have hs := hd_short g
    rw [drop_sz g, sz_some g]
    cases g2 : hd r with
    | none => rw [sz_none g2, if_pos rfl]; exact sz_none (by rw [hd_epoch, g]; simp [g2])
    | some q =>
      obtain ⟨b, r2⟩ := q
      have hs2 := hd_short g2
      rw [sz_some g2, if_neg (by omega), sz_some (a := .epoch a b) (r := r2) (by rw [hd_epoch, g]; simp [g2]), List.length_cons]
      omega
theorem sz_fresh {c : Nat} (t : List Nat) (h0 : c ≠ 110) (h1 : c ≠ 107) (h2 : c ≠ 109) (h3 : c ≠ 114) (h4 : c ≠ 101) : sz (c :: t) = freshSz c t := by
  unfold sz freshSz
  rw [Th.hd_cons]
  by_cases hc : 65 ≤ c ∧ c ≤ 72
  · rw [if_pos hc, if_pos hc]
    cases prsNum t with
    | none => rfl
    | some p =>
      simp only [Option.map_some, List.length_cons]
      rw [show t.length + 1 = 1 + t.length by omega]
  · rw [if_neg hc, if_neg h0, if_neg h1, if_neg h4, if_neg h2, if_neg h3, if_neg hc]
theorem more_any {a n : Int} (h0 : 0 ≤ a) (h1 : a ≤ 100000000000000) (h2 : 0 ≤ n) (h3 : n ≤ 100000000000000) : spec_l1More.f a n = some (more a n) := by
  unfold spec_l1More.f more
  by_cases h : n = 0
  · rw [if_pos h, if_pos h]
  · rw [if_neg h, if_neg h, wz (by omega) (by omega)]
theorem Ev.of_eq {α : Type} {g : Nat → Option α} {r : α} (h : ∀ k, g k = some r) : Ev g r := ⟨0, fun k _ => h k⟩

theorem size_ev {s : ByteArray} (hs : s.size ≤ 1000000000000) : ∀ (m : Nat) (pre t : List Nat), B s = pre ++ t → t.length ≤ m → Ev (fun k => spec_l1Size.f k s pre.length) (sz t) := by
  intro m
  induction m with
  | zero =>
    intro pre t h hm
    obtain rfl : t = [] := List.length_eq_zero_iff.1 (by omega)
    have hz := size_pre h
    rw [List.length_nil] at hz
    refine Ev.step (f := fun _ => some 0) (fun k => ?_) (Ev.now 0)
    rw [spec_l1Size.f, if_pos (by omega)]
  | succ m ih =>
    intro pre t h hm
    have hz := size_pre h
    cases t with
    | nil =>
      rw [List.length_nil] at hz
      refine Ev.step (f := fun _ => some 0) (fun k => ?_) (Ev.now 0)
      rw [spec_l1Size.f, if_pos (by omega)]
    | cons c t =>
      rw [List.length_cons] at hz hm
      have b0 : bt s ((pre.length : Nat) : Int) = (c : Int) := bt_pre h 0
      have b1 : bt s ((pre.length + 1 : Nat) : Int) = ((t.getD 0 0 : Nat) : Int) := bt_pre h 1
      have next : ∀ j, j ≤ t.length → Ev (fun k => spec_l1Size.f k s ((pre.length + (1 + j) : Nat) : Int)) (sz (t.drop j)) := by
        intro j hj
        have e : (pre ++ c :: t.take j).length = pre.length + (1 + j) := by
          rw [List.length_append, List.length_cons, List.length_take]
          omega
        rw [← e]
        exact ih _ _ (by rw [h]; simp) (by rw [List.length_drop]; omega)
      have p1 : wrap64 ((pre.length : Int) + 1) = ((pre.length + (1 + 0) : Nat) : Int) := by rw [wz (by omega) (by omega)]; omega
      have p2 : wrap64 ((pre.length : Int) + 2) = ((pre.length + (1 + 1) : Nat) : Int) := by rw [wz (by omega) (by omega)]; omega
      have z0 := sz_range t
      have one : ∀ k, spec_l1Size.f (k + 1) s (pre.length : Int) = if (c : Int) = 110 then spec_l1Size.j0 k s pre.length c true else spec_l1Size.j0 k s pre.length c ((c : Int) == 107) := by
        intro k
        rw [spec_l1Size.f, if_neg (by omega), if_pos (by omega), if_pos (by omega), b0]
      have lead : ∀ d : Nat, Ev (fun k => spec_l1Size.j0 k s pre.length d true) (more 1 (sz t)) := by
        intro d
        refine Ev.step (f := fun k => (spec_l1Size.f k s ((pre.length + (1 + 0) : Nat) : Int)).bind fun u => (spec_l1More.f 1 u).bind fun v => some v) (fun k => ?_) ?_
        · rw [spec_l1Size.j0, if_pos rfl, p1]
        · refine Ev.bind (next 0 (by omega)) (Ev.of_eq fun k => ?_)
          rw [List.drop_zero, more_any (by omega) (by omega) (by omega) (by omega), Option.bind_some]
      by_cases c0 : c = 110
      · subst c0
        rw [sz_next]
        refine Ev.step (f := fun k => spec_l1Size.j0 k s pre.length ((110 : Nat) : Int) true) (fun k => ?_) (lead 110)
        rw [one, if_pos (by omega)]
      by_cases c1 : c = 107
      · subst c1
        rw [sz_key]
        refine Ev.step (f := fun k => spec_l1Size.j0 k s pre.length ((107 : Nat) : Int) true) (fun k => ?_) (lead 107)
        rw [one, if_neg (by omega)]
        rfl
      have f1 : ((c : Int) == 107) = false := beq_eq_false_iff_ne.2 (by omega)
      refine Ev.step (f := fun k => spec_l1Size.j0 k s pre.length c false) (fun k => by rw [one, if_neg (by omega), f1]) ?_
      by_cases c2 : c = 109
      · subst c2
        by_cases g : 65 ≤ t.getD 0 0 ∧ t.getD 0 0 ≤ 72
        · have hl := Th.lt_of_getD (l := t) (i := 0) (by omega)
          have z1 := sz_range (t.drop 1)
          rw [List.length_drop] at z1
          rw [sz_say g]
          refine Ev.step (f := fun k => spec_l1Size.j1 k s pre.length false) (fun k => ?_) ?_
          · rw [spec_l1Size.j0, if_neg (by decide), if_pos (by omega), p1, if_neg (by omega), if_pos (by omega), if_pos (by omega), show pre.length + (1 + 0) = pre.length + 1 by omega, b1, if_neg (by omega), decide_eq_false (by omega)]
          · refine Ev.step (f := fun k => (spec_l1Size.f k s ((pre.length + (1 + 1) : Nat) : Int)).bind fun u => (spec_l1More.f 2 u).bind fun v => some v) (fun k => ?_) ?_
            · rw [spec_l1Size.j1, if_neg (by decide), p2]
            · refine Ev.bind (next 1 (by omega)) (Ev.of_eq fun k => ?_)
              rw [more_any (by omega) (by omega) (by omega) (by omega), Option.bind_some]
        · rw [sz_say_no g]
          have stop : ∀ k, spec_l1Size.j1 (k + 1) s pre.length true = some 0 := fun k => by rw [spec_l1Size.j1, if_pos rfl]
          refine Ev.step (f := fun k => spec_l1Size.j1 k s pre.length true) (fun k => ?_) (Ev.step (f := fun _ => some 0) stop (Ev.now 0))
          rw [spec_l1Size.j0, if_neg (by decide), if_pos (by omega), p1, show pre.length + (1 + 0) = pre.length + 1 by omega]
          by_cases q : ((pre.length + 1 : Nat) : Int) ≥ (s.size : Int)
          · rw [if_pos q]
          · rw [if_neg q, if_pos (by omega), if_pos (by omega), b1]
            by_cases q2 : ((t.getD 0 0 : Nat) : Int) < 65
            · rw [if_pos q2]
            · rw [if_neg q2, decide_eq_true (by omega)]
      by_cases c3 : c = 114
      · subst c3
        by_cases g : 49 ≤ t.getD 0 0 ∧ t.getD 0 0 ≤ 57
        · have hl := Th.lt_of_getD (l := t) (i := 0) (by omega)
          have z1 := sz_range (t.drop 1)
          rw [List.length_drop] at z1
          rw [sz_room g]
          refine Ev.step (f := fun k => spec_l1Size.j2 k s pre.length false) (fun k => ?_) ?_
          · rw [spec_l1Size.j0, if_neg (by decide), if_neg (by omega), if_pos (by omega), p1, if_neg (by omega), if_pos (by omega), if_pos (by omega), show pre.length + (1 + 0) = pre.length + 1 by omega, b1, if_neg (by omega), decide_eq_false (by omega)]
          · refine Ev.step (f := fun k => (spec_l1Size.f k s ((pre.length + (1 + 1) : Nat) : Int)).bind fun u => (spec_l1More.f 2 u).bind fun v => some v) (fun k => ?_) ?_
            · rw [spec_l1Size.j2, if_neg (by decide), p2]
            · refine Ev.bind (next 1 (by omega)) (Ev.of_eq fun k => ?_)
              rw [more_any (by omega) (by omega) (by omega) (by omega), Option.bind_some]
        · rw [sz_room_no g]
          have stop : ∀ k, spec_l1Size.j2 (k + 1) s pre.length true = some 0 := fun k => by rw [spec_l1Size.j2, if_pos rfl]
          refine Ev.step (f := fun k => spec_l1Size.j2 k s pre.length true) (fun k => ?_) (Ev.step (f := fun _ => some 0) stop (Ev.now 0))
          rw [spec_l1Size.j0, if_neg (by decide), if_neg (by omega), if_pos (by omega), p1, show pre.length + (1 + 0) = pre.length + 1 by omega]
          by_cases q : ((pre.length + 1 : Nat) : Int) ≥ (s.size : Int)
          · rw [if_pos q]
          · rw [if_neg q, if_pos (by omega), if_pos (by omega), b1]
            by_cases q2 : ((t.getD 0 0 : Nat) : Int) < 49
            · rw [if_pos q2]
            · rw [if_neg q2, decide_eq_true (by omega)]
      by_cases c4 : c = 101
      · subst c4
        refine Ev.step (f := fun k => (spec_l1Size.f k s ((pre.length + (1 + 0) : Nat) : Int)).bind fun u => if u = 0 then some 0 else (spec_l1Size.f k s (wrap64 (((pre.length + (1 + 0) : Nat) : Int) + u))).bind fun v => (spec_l1More.f (wrap64 (1 + u)) v).bind fun y => some y) (fun k => ?_) ?_
        · rw [spec_l1Size.j0, if_neg (by decide), if_neg (by omega), if_neg (by omega), if_pos (by omega), p1]
        · refine Ev.bind (next 0 (by omega)) ?_
          rw [List.drop_zero]
          by_cases g : sz t = 0
          · rw [sz_epoch_no g]
            exact Ev.of_eq fun k => by rw [if_pos g]
          · rw [sz_epoch g]
            obtain ⟨n, hn⟩ := Int.eq_ofNat_of_zero_le z0.1
            have z1 := sz_range (t.drop (sz t).toNat)
            rw [List.length_drop] at z1
            refine Ev.congr (f := fun k => (spec_l1Size.f k s ((pre.length + (1 + (sz t).toNat) : Nat) : Int)).bind fun v => (spec_l1More.f (1 + sz t) v).bind fun y => some y) (fun k => ?_) ?_
            · rw [if_neg g, wz (x := ((pre.length + (1 + 0) : Nat) : Int) + sz t) (by omega) (by omega), wz (x := 1 + sz t) (by omega) (by omega), show ((pre.length + (1 + 0) : Nat) : Int) + sz t = ((pre.length + (1 + (sz t).toNat) : Nat) : Int) by omega]
            · refine Ev.bind (next (sz t).toNat (by omega)) (Ev.of_eq fun k => ?_)
              rw [more_any (by omega) (by omega) (by omega) (by omega), Option.bind_some]
      rw [sz_fresh t c0 c1 c2 c3 c4]
      refine Ev.step (f := fun k => (spec_l1Fresh.f k s pre.length).bind fun u => some u) (fun k => ?_) ?_
      · rw [spec_l1Size.j0, if_neg (by decide), if_neg (by omega), if_neg (by omega), if_neg (by omega)]
      · exact Ev.bind (Ev.of (fun k => spec_l1Fresh.mono _ _ k) (fresh_20 h hs)) (Ev.now _)
theorem size_0 {s : ByteArray} (hs : s.size ≤ 1000000000000) : Ev (fun k => spec_l1Size.f k s 0) (sz (B s)) := size_ev hs (B s).length [] (B s) rfl (Nat.le_refl _)
theorem whole_sz {l : List Nat} (h : l ≠ []) : ((sz l == (l.length : Int)) : Bool) = (whole l).isSome := by
  have hp : 0 < l.length := List.length_pos_iff.2 h
  unfold whole
  cases g : hd l with
  | none =>
    rw [sz_none g]
    exact beq_eq_false_iff_ne.2 (by omega)
  | some p =>
    obtain ⟨a, r⟩ := p
    have hs := hd_short g
    rw [sz_some g]
    cases r with
    | nil => exact beq_iff_eq.2 (by rw [List.length_nil]; omega)
    | cons x y =>
      rw [List.length_cons] at hs ⊢
      exact beq_eq_false_iff_ne.2 (by omega)
/-- The reference says of a text that it is a name just if it is one. -/
theorem secOk_ev (s : ByteArray) : Ev (fun k => spec_SecOk.f k s) (nm s).isSome := by
  unfold spec_SecOk.f
  by_cases h0 : s = ⟨#[]⟩
  · subst h0
    refine Ev.of_eq fun k => ?_
    rw [if_pos (Th.toList_nil.2 rfl)]
    rfl
  · have hn : ¬ s.toList = ([] : List UInt8) := fun e => h0 (Th.toList_nil.1 e)
    by_cases h1 : s.size ≤ 300
    · refine Ev.congr (f := fun k => (spec_l1Size.f k s 0).bind fun u => some (u == (s.size : Int))) (fun k => ?_) ?_
      · rw [if_neg hn, if_pos (by omega)]
      · refine Ev.bind (size_0 (by omega)) (Ev.of_eq fun k => ?_)
        unfold nm
        rw [if_pos h1, ← Th.B_length, whole_sz (fun e => h0 (Th.B_eq_nil.1 e))]
    · refine Ev.of_eq fun k => ?_
      rw [if_neg hn, if_neg (by omega)]
      unfold nm
      rw [if_neg h1]
      rfl
end
end Go.Proofs.YtjbnfcljkmapeaaDoor.Pure
namespace Go.Proofs.YtjbnfcljkmapeaaDoor.Pure
section
open Go.RowKit Go.Proofs.YtjbnfcljkmapeaaDoor Go.Proofs.YtjbnfcljkmapeaaDoor.Yc Go.Proofs.YtjbnfcljkmapeaaDoorW.PrintWords Go.Proofs.YtjbnfcljkmapeaaDoorW.PrintLast
open Go.Proofs.YtjbnfcljkmapeaaDoor.Th (T B Nm nm dec hd prsNum whole)

theorem cut_ {s : ByteArray} {pre u v : List Nat} (h : B s = pre ++ (u ++ v)) (i j : Nat) (hi : i = pre.length) (hj : j = pre.length + u.length) : s.extract i j = T u := by
  subst hi hj
  rw [cut_pre h, List.take_left]
theorem cut_end {s : ByteArray} {pre u : List Nat} (h : B s = pre ++ u) (i : Nat) (hi : i = pre.length) : s.extract i s.size = T u :=
  cut_ (v := []) (by rw [List.append_nil]; exact h) i _ hi (by rw [← Th.B_length, h, List.length_append])
/-- What the fields tell of a name. -/
def tells (a : Nm) : Int × Int × Int × ByteArray × ByteArray := (a.op, a.who, a.num, T a.fst, T a.snd)
theorem how_new (w n : Nat) (hw : w < 8) (h1 : 1 ≤ n) (h2 : n ≤ 99) : spec_l1How.f 6 (T (Nm.new w n).enc) = some (tells (.new w n)) := by
  have : ∀ w : Fin 8, ∀ n : Fin 100, 1 ≤ n.1 → spec_l1How.f 6 (T (Nm.new w.1 n.1).enc) = some (tells (.new w.1 n.1)) := by decide +kernel
  exact this ⟨w, hw⟩ ⟨n, by omega⟩ h1
theorem how_ev {s : ByteArray} {a : Nm} (ha : a.ok = true) (hl : s.size ≤ 300) (h : B s = a.enc) : Ev (fun k => spec_l1How.f k s) (tells a) := by
  have hz : s.size = a.enc.length := by rw [← Th.B_length, h]
  have hp := Th.enc_pos a
  cases a with
  | new w n =>
    simp only [Nm.ok, Bool.and_eq_true, decide_eq_true_eq] at ha
    have e : s = T (Nm.new w n).enc := by rw [← h, Th.T_B]
    rw [e]
    exact Ev.of (fun k => spec_l1How.mono _ k) (how_new w n ha.1.1 ha.1.2 ha.2)
  | next a =>
    have b0 : bt s 0 = 110 := bt_pre (pre := []) h 0
    have hs : s.size = a.enc.length + 1 := hz
    refine Ev.of_eq fun k => ?_
    unfold spec_l1How.f
    rw [if_pos (by omega), b0, if_pos rfl, if_pos (by omega), cut_end (pre := [110]) h 1 rfl]
    rfl
  | key a =>
    have b0 : bt s 0 = 107 := bt_pre (pre := []) h 0
    have hs : s.size = a.enc.length + 1 := hz
    refine Ev.of_eq fun k => ?_
    unfold spec_l1How.f
    rw [if_pos (by omega), b0, if_neg (by decide), if_pos rfl, if_pos (by omega), cut_end (pre := [107]) h 1 rfl]
    rfl
  | say w a =>
    simp only [Nm.ok, Bool.and_eq_true, decide_eq_true_eq] at ha
    have b0 : bt s 0 = 109 := bt_pre (pre := []) h 0
    have b1 : bt s 1 = ((65 + w : Nat) : Int) := bt_pre (pre := []) h 1
    have hs : s.size = a.enc.length + 2 := hz
    have hw : (((65 + w : Nat) : Int) - 65) % 256 = (w : Int) := by omega
    refine Ev.of_eq fun k => ?_
    unfold spec_l1How.f
    rw [if_pos (by omega), b0, if_neg (by decide), if_neg (by decide), if_pos rfl, if_pos (by omega), if_pos (by omega), b1, hw, cut_end (pre := [109, 65 + w]) h 2 rfl]
    rfl
  | room r a =>
    simp only [Nm.ok, Bool.and_eq_true, decide_eq_true_eq] at ha
    have b0 : bt s 0 = 114 := bt_pre (pre := []) h 0
    have b1 : bt s 1 = ((48 + r : Nat) : Int) := bt_pre (pre := []) h 1
    have hs : s.size = a.enc.length + 2 := hz
    have hw : (((48 + r : Nat) : Int) - 48) % 256 = (r : Int) := by omega
    refine Ev.of_eq fun k => ?_
    unfold spec_l1How.f
    rw [if_pos (by omega), b0, if_neg (by decide), if_neg (by decide), if_neg (by decide), if_pos rfl, if_pos (by omega), if_pos (by omega), b1, hw, cut_end (pre := [114, 48 + r]) h 2 rfl]
    rfl
  | epoch a b =>
    simp only [Nm.ok, Bool.and_eq_true] at ha
    have b0 : bt s 0 = 101 := bt_pre (pre := []) h 0
    have hs : s.size = a.enc.length + b.enc.length + 1 := by rw [hz]; simp [Nm.enc]
    have hsz : sz (a.enc ++ b.enc) = (a.enc.length : Int) := by
      rw [sz_some (Th.hd_enc ha.1 b.enc), List.length_append]
      omega
    refine Ev.congr (f := fun k => (spec_l1Size.f k s (([101] : List Nat).length : Int)).bind fun u => if 1 ≤ wrap64 (1 + u) then if wrap64 (1 + u) ≤ (s.size : Int) then if 0 ≤ wrap64 (1 + u) then some ((4 : Int), (0 : Int), (0 : Int), s.extract 1 (wrap64 (1 + u)).toNat, s.extract (wrap64 (1 + u)).toNat s.size) else none else none else none) (fun k => ?_) ?_
    · unfold spec_l1How.f
      rw [if_pos (by omega), b0, if_neg (by decide), if_neg (by decide), if_neg (by decide), if_neg (by decide), if_pos rfl]
      rfl
    · refine Ev.bind (size_ev (by omega) _ [101] (a.enc ++ b.enc) h (Nat.le_refl _)) (Ev.of_eq fun k => ?_)
      rw [hsz, wz (by omega) (by omega), if_pos (by omega), if_pos (by omega), if_pos (by omega), show (1 + (a.enc.length : Int)).toNat = 1 + a.enc.length by omega]
      rw [cut_ (pre := [101]) (u := a.enc) (v := b.enc) h 1 (1 + a.enc.length) rfl rfl, cut_end (pre := 101 :: a.enc) (u := b.enc) h (1 + a.enc.length) (by rw [List.length_cons]; omega)]
      rfl
/-- What the reference tells of a text. -/
theorem implMade (s : ByteArray) : impl_SecMade.f s = some (match nm s with | some a => tells a | none => (0, 0, 0, ⟨#[]⟩, ⟨#[]⟩)) := by
  unfold impl_SecMade.f
  cases nm s <;> rfl
end
end Go.Proofs.YtjbnfcljkmapeaaDoor.Pure
namespace Go.Proofs.YtjbnfcljkmapeaaDoor.Pure
section
open Go.RowKit Go.Proofs.YtjbnfcljkmapeaaDoor Go.Proofs.YtjbnfcljkmapeaaDoor.Yc Go.Proofs.YtjbnfcljkmapeaaDoorW.PrintWords Go.Proofs.YtjbnfcljkmapeaaDoorW.PrintLast
open Go.Proofs.YtjbnfcljkmapeaaDoor.Th (T B Nm nm dec hd prsNum whole hasB)

theorem rdK_at {l : List ByteArray} {i : Nat} (h : i < l.length) : rdOf ByteArray.empty l (i : Int) = l[i] := by
  unfold rdOf
  rw [Int.toNat_natCast, List.getD_eq_getElem?_getD, List.getElem?_eq_getElem h]
  rfl
theorem has_l0 (l : List ByteArray) (s : ByteArray) (hl : l.length ≤ 1000000) : ∀ (d i : Nat), l.length - i ≤ d → i ≤ l.length → Ev (fun k => spec_l2Has.l0 k l s (i : Int)) (hasB (l.drop i) s) := by
  intro d
  induction d with
  | zero =>
    intro i h0 h1
    rw [List.drop_eq_nil_of_le (by omega)]
    exact Ev.step (f := fun _ => some false) (fun k => by rw [spec_l2Has.l0, if_neg (by omega)]) (Ev.now _)
  | succ d ih =>
    intro i h0 h1
    by_cases h : i < l.length
    · rw [List.drop_eq_getElem_cons h]
      by_cases he : l[i].toList = s.toList
      · have e : hasB (l[i] :: l.drop (i + 1)) s = true := by
          unfold hasB
          rw [List.any_cons, beq_iff_eq.2 (by rw [← Th.toList_data, ← Th.toList_data]; exact he), Bool.true_or]
        rw [e]
        exact Ev.step (f := fun _ => some true) (fun k => by rw [spec_l2Has.l0, if_pos (by omega), if_pos (by omega), rdK_at h, if_pos he]) (Ev.now _)
      · have e : hasB (l[i] :: l.drop (i + 1)) s = hasB (l.drop (i + 1)) s := by
          unfold hasB
          rw [List.any_cons, beq_eq_false_iff_ne.2 (by rw [← Th.toList_data, ← Th.toList_data]; exact he), Bool.false_or]
        rw [e]
        exact Ev.step (f := fun k => spec_l2Has.l0 k l s ((i + 1 : Nat) : Int)) (fun k => by rw [spec_l2Has.l0, if_pos (by omega), if_pos (by omega), rdK_at h, if_neg he, wz (x := (i : Int) + 1) (by omega) (by omega)]; rfl) (ih (i + 1) (by omega) (by omega))
    · rw [List.drop_eq_nil_of_le (by omega)]
      exact Ev.step (f := fun _ => some false) (fun k => by rw [spec_l2Has.l0, if_neg (by omega)]) (Ev.now _)
theorem has_ev (l : List ByteArray) (s : ByteArray) (hl : l.length ≤ 1000000) : Ev (fun k => spec_l2Has.f k l s) (hasB l s) := has_l0 l s hl l.length 0 (by omega) (by omega)
theorem j_yes {l : List ByteArray} {y : ByteArray} {r : Bool} (h : Ev (fun k => spec_l2Make.f k l y) r) (o a b c : Int) (z : ByteArray) : Ev (fun k => spec_l2Make.j0 k l o true a b c y z) r :=
  Ev.step (f := fun k => (spec_l2Make.f k l y).bind fun t => some t) (fun k => by rw [spec_l2Make.j0, if_pos rfl]) (Ev.bind h (Ev.now _))
theorem make_ev (l : List ByteArray) (hl : l.length ≤ 1000000) : ∀ a : Nm, a.ok = true → a.enc.length ≤ 300 → Ev (fun k => spec_l2Make.f k l (T a.enc)) (Go.Proofs.YtjbnfcljkmapeaaDoor.mkN l a) := by
  have start : ∀ (a : Nm) (r : Bool), a.ok = true → a.enc.length ≤ 300 → (hasB l (T a.enc) = false → Ev (fun k => (fun bt133 : Int × Int × Int × ByteArray × ByteArray => (if bt133.1 = 2 then (spec_l2Make.j0 k l bt133.1 (bt133.1 == 2) bt133.1 bt133.2.1 bt133.2.2.1 bt133.2.2.2.1 bt133.2.2.2.2) else (if bt133.1 = 3 then (spec_l2Make.j0 k l bt133.1 (bt133.1 == 3) bt133.1 bt133.2.1 bt133.2.2.1 bt133.2.2.2.1 bt133.2.2.2.2) else (if bt133.1 = 5 then (spec_l2Make.j0 k l bt133.1 (bt133.1 == 5) bt133.1 bt133.2.1 bt133.2.2.1 bt133.2.2.2.1 bt133.2.2.2.2) else (spec_l2Make.j0 k l bt133.1 (bt133.1 == 6) bt133.1 bt133.2.1 bt133.2.2.1 bt133.2.2.2.1 bt133.2.2.2.2))))) (tells a)) r) → Ev (fun k => spec_l2Make.f k l (T a.enc)) (hasB l (T a.enc) || r) := by
    intro a r ho hz h
    have eh : Ev (fun k => spec_l1How.f k (T a.enc)) (tells a) := how_ev ho (by rw [Th.T_size]; exact hz) (Th.B_T (Th.enc_lt a ho))
    have e1 := has_ev l (T a.enc) hl
    cases hh : hasB l (T a.enc) with
    | true =>
      rw [hh] at e1
      rw [Bool.true_or]
      exact Ev.step (fun k => by rw [spec_l2Make.f]) (Ev.bind e1 (Ev.of_eq fun k => if_pos rfl))
    | false =>
      rw [hh] at e1
      rw [Bool.false_or]
      exact Ev.step (fun k => by rw [spec_l2Make.f]) (Ev.bind e1 (Ev.congr (fun k => if_neg Bool.false_ne_true) (Ev.bind eh (h hh))))
  intro a
  induction a with
  | new w n =>
    intro ho hz
    have h := start (.new w n) false ho hz (fun _ => by
      refine Ev.congr (fun k => (if_neg (show ¬ ((1 : Int) = 2) by decide)).trans ((if_neg (show ¬ ((1 : Int) = 3) by decide)).trans (if_neg (show ¬ ((1 : Int) = 5) by decide)))) ?_
      exact Ev.step (f := fun _ => some false) (fun k => by rw [spec_l2Make.j0, if_neg (show ¬ (((tells (.new w n)).1 == 6) = true) from Bool.false_ne_true), if_neg (show ¬ ((tells (.new w n)).1 = 4) from (by decide : ¬ ((1 : Int) = 4)))]) (Ev.now _))
    rw [Bool.or_false] at h
    exact h
  | next a ih => intro ho hz; exact start (.next a) _ ho hz (fun _ => Ev.congr (fun k => if_pos rfl) (j_yes (ih ho (by simp only [Nm.enc, List.length_cons] at hz; omega)) _ _ _ _ _))
  | key a ih => intro ho hz; exact start (.key a) _ ho hz (fun _ => Ev.congr (fun k => (if_neg (show ¬ ((3 : Int) = 2) by decide)).trans (if_pos rfl)) (j_yes (ih ho (by simp only [Nm.enc, List.length_cons] at hz; omega)) _ _ _ _ _))
  | say w a ih => intro ho hz; exact start (.say w a) _ ho hz (fun _ => Ev.congr (fun k => (if_neg (show ¬ ((5 : Int) = 2) by decide)).trans ((if_neg (show ¬ ((5 : Int) = 3) by decide)).trans (if_pos rfl))) (j_yes (ih (by simp only [Nm.ok, Bool.and_eq_true] at ho; exact ho.2) (by simp only [Nm.enc, List.length_cons] at hz; omega)) _ _ _ _ _))
  | room w a ih => intro ho hz; exact start (.room w a) _ ho hz (fun _ => Ev.congr (fun k => (if_neg (show ¬ ((6 : Int) = 2) by decide)).trans ((if_neg (show ¬ ((6 : Int) = 3) by decide)).trans (if_neg (show ¬ ((6 : Int) = 5) by decide)))) (j_yes (ih (by simp only [Nm.ok, Bool.and_eq_true] at ho; exact ho.2) (by simp only [Nm.enc, List.length_cons] at hz; omega)) _ _ _ _ _))
  | epoch a b iha ihb =>
    intro ho hz
    have ho' := ho
    simp only [Nm.ok, Bool.and_eq_true] at ho'
    have hz' := hz
    simp only [Nm.enc, List.length_cons, List.length_append] at hz'
    have ea := iha ho'.1 (by omega)
    have eb := ihb ho'.2 (by omega)
    refine start (.epoch a b) (Go.Proofs.YtjbnfcljkmapeaaDoor.mkN l a && Go.Proofs.YtjbnfcljkmapeaaDoor.mkN l b) ho hz (fun _ => ?_)
    refine Ev.congr (fun k => (if_neg (show ¬ ((4 : Int) = 2) by decide)).trans ((if_neg (show ¬ ((4 : Int) = 3) by decide)).trans (if_neg (show ¬ ((4 : Int) = 5) by decide)))) ?_
    refine Ev.step (f := fun k => (spec_l2Make.f k l (T a.enc)).bind fun t140 => (if t140 = true then ((spec_l2Make.f k l (T b.enc)).bind fun t141 => (some t141)) else (some false))) (fun k => by rw [spec_l2Make.j0, if_neg (show ¬ (((tells (.epoch a b)).1 == 6) = true) from Bool.false_ne_true), if_pos (show (tells (.epoch a b)).1 = 4 from rfl)]; rfl) ?_
    refine Ev.bind ea ?_
    cases hx : Go.Proofs.YtjbnfcljkmapeaaDoor.mkN l a with
    | true => rw [Bool.true_and]; exact Ev.congr (fun k => if_pos rfl) (Ev.bind eb (Ev.now _))
    | false => rw [Bool.false_and]; exact Ev.of_eq fun k => if_neg Bool.false_ne_true
theorem makeS_ev (l : List ByteArray) (hl : l.length ≤ 1000000) {s : ByteArray} (hs : (nm s).isSome = true) : Ev (fun k => spec_l2Make.f k l s) (mkS l s) := by
  unfold mkS
  cases hn : nm s with
  | none => rw [hn] at hs; exact absurd hs (by decide)
  | some a =>
    obtain ⟨h1, h2, h3⟩ := Th.nm_some.1 hn
    subst h3
    exact make_ev l hl a h1 (by rw [Th.T_size] at h2; exact h2)
def okS (s : ByteArray) : Bool := (nm s).isSome
theorem ok_l0 (l : List ByteArray) (hl : l.length ≤ 1000000) : ∀ (d i : Nat), l.length - i ≤ d → i ≤ l.length → Ev (fun k => spec_l2Ok.l0 k l (i : Int)) ((l.drop i).all okS) := by
  intro d
  induction d with
  | zero =>
    intro i h0 h1
    rw [List.drop_eq_nil_of_le (by omega)]
    exact Ev.step (f := fun _ => some true) (fun k => by rw [spec_l2Ok.l0, if_neg (by omega)]) (Ev.now _)
  | succ d ih =>
    intro i h0 h1
    by_cases h : i < l.length
    · rw [List.drop_eq_getElem_cons h, List.all_cons]
      have es := secOk_ev l[i]
      refine Ev.step (f := fun k => (spec_SecOk.f k l[i]).bind fun t128 => (if t128 = true then (spec_l2Ok.l0 k l ((i + 1 : Nat) : Int)) else (some false))) (fun k => by rw [spec_l2Ok.l0, if_pos (by omega), if_pos (by omega), rdK_at h, wz (x := (i : Int) + 1) (by omega) (by omega)]; rfl) (Ev.bind es ?_)
      show Ev _ (okS l[i] && _)
      unfold okS
      cases hx : (nm l[i]).isSome with
      | true => rw [Bool.true_and]; exact Ev.congr (fun k => if_pos rfl) (ih (i + 1) (by omega) (by omega))
      | false => rw [Bool.false_and]; exact Ev.of_eq fun k => if_neg Bool.false_ne_true
    · rw [List.drop_eq_nil_of_le (by omega)]
      exact Ev.step (f := fun _ => some true) (fun k => by rw [spec_l2Ok.l0, if_neg (by omega)]) (Ev.now _)
theorem l2Ok_ev (l : List ByteArray) : Ev (fun k => spec_l2Ok.f k l) (decide (l.length ≤ 400) && l.all okS) := by
  by_cases h : l.length ≤ 400
  · rw [decide_eq_true h, Bool.true_and]
    exact Ev.congr (fun k => by unfold spec_l2Ok.f; rw [if_neg (by omega)]; rfl) (ok_l0 l (by omega) l.length 0 (by omega) (by omega))
  · rw [decide_eq_false h, Bool.false_and]
    exact Ev.of_eq fun k => by unfold spec_l2Ok.f; rw [if_pos (by omega)]
end
end Go.Proofs.YtjbnfcljkmapeaaDoor.Pure
namespace Go.Proofs.YtjbnfcljkmapeaaDoor.Pure
section
open Go.RowKit Go.Proofs.YtjbnfcljkmapeaaDoor Go.Proofs.YtjbnfcljkmapeaaDoor.Yc Go.Proofs.YtjbnfcljkmapeaaDoorW.PrintWords Go.Proofs.YtjbnfcljkmapeaaDoorW.PrintLast
open Go.Proofs.YtjbnfcljkmapeaaDoor.Th (T B Nm nm dec hd prsNum whole hasB putB boxB roundB opnB openB left dedup round_left round_same fold_box_pre left_le dedup_length_le)

theorem rdB_at {l : List Bx} {i : Nat} (h : i < l.length) : rd_T45 l (i : Int) = l[i] := by
  unfold rd_T45
  rw [Int.toNat_natCast, List.getD_eq_getElem?_getD, List.getElem?_eq_getElem h]
  rfl
theorem boxes_l0 (l : List Bx) (hl : l.length ≤ 1000000) : ∀ (d i : Nat), l.length - i ≤ d → i ≤ l.length → Ev (fun k => spec_l2Boxes.l0 k l (i : Int)) ((l.drop i).all okBx) := by
  intro d
  induction d with
  | zero =>
    intro i h0 h1
    rw [List.drop_eq_nil_of_le (by omega)]
    exact Ev.step (f := fun _ => some true) (fun k => by rw [spec_l2Boxes.l0, if_neg (by omega)]) (Ev.now _)
  | succ d ih =>
    intro i h0 h1
    by_cases h : i < l.length
    · rw [List.drop_eq_getElem_cons h, List.all_cons]
      have es := secOk_ev l[i].f0
      have et := secOk_ev l[i].f1
      refine Ev.step (f := fun k => (spec_SecOk.f k l[i].f0).bind fun t => (if t = true then ((spec_SecOk.f k l[i].f1).bind fun t => (if t = true then (spec_l2Boxes.l0 k l ((i + 1 : Nat) : Int)) else (some false))) else (some false))) (fun k => by rw [spec_l2Boxes.l0, if_pos (by omega), if_pos (by omega), rdB_at h, wz (x := (i : Int) + 1) (by omega) (by omega)]; rfl) (Ev.bind es ?_)
      show Ev _ ((nm l[i].f0).isSome && (nm l[i].f1).isSome && _)
      cases hx : (nm l[i].f0).isSome with
      | false => rw [Bool.false_and, Bool.false_and]; exact Ev.of_eq fun k => if_neg Bool.false_ne_true
      | true =>
        rw [Bool.true_and]
        refine Ev.congr (fun k => if_pos rfl) (Ev.bind et ?_)
        cases hy : (nm l[i].f1).isSome with
        | true => rw [Bool.true_and]; exact Ev.congr (fun k => if_pos rfl) (ih (i + 1) (by omega) (by omega))
        | false => rw [Bool.false_and]; exact Ev.of_eq fun k => if_neg Bool.false_ne_true
    · rw [List.drop_eq_nil_of_le (by omega)]
      exact Ev.step (f := fun _ => some true) (fun k => by rw [spec_l2Boxes.l0, if_neg (by omega)]) (Ev.now _)
theorem l2Boxes_ev (l : List Bx) : Ev (fun k => spec_l2Boxes.f k l) (decide (l.length ≤ 400) && l.all okBx) := by
  by_cases h : l.length ≤ 400
  · rw [decide_eq_true h, Bool.true_and]
    exact Ev.congr (fun k => by unfold spec_l2Boxes.f; rw [if_neg (by omega)]; rfl) (boxes_l0 l (by omega) l.length 0 (by omega) (by omega))
  · rw [decide_eq_false h, Bool.false_and]
    exact Ev.of_eq fun k => by unfold spec_l2Boxes.f; rw [if_pos (by omega)]
theorem pairs_drop {bs : List Bx} {i : Nat} (h : i < bs.length) : (pairs bs).drop i = (bs[i].f0, bs[i].f1) :: (pairs bs).drop (i + 1) := by
  rw [List.drop_eq_getElem_cons (by rw [pairs_len]; exact h)]
  simp [pairs]
theorem l2_ev (bs : List Bx) (hb : bs.all okBx = true) (hn : bs.length ≤ 400) : ∀ (d i : Nat) (o : List ByteArray) (m : Bool) (R : List ByteArray), bs.length - i ≤ d → i ≤ bs.length → o.length + (bs.length - i) ≤ 2000 →
    Ev (fun k => spec_l2Open.l1 k bs (((pairs bs).drop i).foldl (boxB mkS) o) (m || decide (o.length < (((pairs bs).drop i).foldl (boxB mkS) o).length))) R → Ev (fun k => spec_l2Open.l2 k bs o m (i : Int)) R := by
  have fin : ∀ (i : Nat) (o : List ByteArray) (m : Bool) (R : List ByteArray), bs.length ≤ i → Ev (fun k => spec_l2Open.l1 k bs (((pairs bs).drop i).foldl (boxB mkS) o) (m || decide (o.length < (((pairs bs).drop i).foldl (boxB mkS) o).length))) R → Ev (fun k => spec_l2Open.l2 k bs o m (i : Int)) R := by
    intro i o m R hi h
    rw [List.drop_eq_nil_of_le (by rw [pairs_len]; exact hi)] at h
    simp only [List.foldl_nil, Nat.lt_irrefl, decide_false, Bool.or_false] at h
    exact Ev.step (f := fun k => spec_l2Open.l1 k bs o m) (fun k => by rw [spec_l2Open.l2, if_neg (by omega)]) h
  intro d
  induction d with
  | zero => intro i o m R h0 h1 h2 h; exact fin i o m R (by omega) h
  | succ d ih =>
    intro i o m R h0 h1 h2 h
    by_cases hlt : i < bs.length
    · have hk : okBx bs[i] = true := List.all_eq_true.1 hb _ (List.getElem_mem hlt)
      unfold okBx at hk
      rw [Bool.and_eq_true] at hk
      rw [pairs_drop hlt, List.foldl_cons] at h
      have eh := has_ev o bs[i].f1 (by omega)
      have em := makeS_ev o (by omega) (s := bs[i].f0) hk.1
      have w1 : wrap64 ((i : Int) + 1) = ((i + 1 : Nat) : Int) := wz (x := (i : Int) + 1) (by omega) (by omega)
      refine Ev.step (f := fun k => (spec_l2Has.f k o bs[i].f1).bind fun t => (if t = true then (spec_l2Open.l2 k bs o m ((i + 1 : Nat) : Int)) else ((spec_l2Make.f k o bs[i].f0).bind fun t => (if t = true then (if o.length < 8796093022208 then (spec_l2Open.l2 k bs (o ++ [bs[i].f1]) true ((i + 1 : Nat) : Int)) else (none)) else (spec_l2Open.l2 k bs o m ((i + 1 : Nat) : Int)))))) (fun k => by rw [spec_l2Open.l2, if_pos (by omega), if_pos (by omega), rdB_at hlt, w1]) (Ev.bind eh ?_)
      cases hh : hasB o bs[i].f1 with
      | true =>
        have e : boxB mkS o (bs[i].f0, bs[i].f1) = o := by unfold boxB; rw [if_neg (by simp [hh])]
        rw [e] at h
        exact Ev.congr (fun k => if_pos rfl) (ih (i + 1) o m R (by omega) (by omega) (by omega) h)
      | false =>
        refine Ev.congr (fun k => if_neg Bool.false_ne_true) (Ev.bind em ?_)
        cases hm : mkS o bs[i].f0 with
        | false =>
          have e : boxB mkS o (bs[i].f0, bs[i].f1) = o := by unfold boxB; rw [if_neg (by simp [hm])]
          rw [e] at h
          exact Ev.congr (fun k => if_neg Bool.false_ne_true) (ih (i + 1) o m R (by omega) (by omega) (by omega) h)
        | true =>
          have e : boxB mkS o (bs[i].f0, bs[i].f1) = o ++ [bs[i].f1] := by unfold boxB; rw [if_pos (by simp [hh, hm])]
          rw [e] at h
          have hg : decide (o.length < (((pairs bs).drop (i + 1)).foldl (boxB mkS) (o ++ [bs[i].f1])).length) = true := by
            obtain ⟨r, er⟩ := fold_box_pre (mk := mkS) ((pairs bs).drop (i + 1)) (o ++ [bs[i].f1])
            rw [er]
            apply decide_eq_true
            simp only [List.length_append, List.length_singleton]
            omega
          rw [hg, Bool.or_true] at h
          refine Ev.congr (fun k => (if_pos rfl).trans (if_pos (by omega))) (ih (i + 1) (o ++ [bs[i].f1]) true R (by omega) (by omega) (by simp only [List.length_append, List.length_singleton]; omega) ?_)
          rw [Bool.true_or]
          exact h
    · exact fin i o m R (by omega) h
theorem l1_ev (bs : List Bx) (hb : bs.all okBx = true) (hn : bs.length ≤ 400) : ∀ (n : Nat) (o : List ByteArray), left (pairs bs) o < n → o.length + left (pairs bs) o ≤ 800 → Ev (fun k => spec_l2Open.l1 k bs o true) (opnB mkS (pairs bs) n o) := by
  intro n
  induction n with
  | zero => intro o h; omega
  | succ n ih =>
    intro o h h8
    refine Ev.step (f := fun k => spec_l2Open.l2 k bs o false 0) (fun k => by rw [spec_l2Open.l1, if_pos rfl]) (l2_ev bs hb hn bs.length 0 o false _ (by omega) (by omega) (by omega) ?_)
    rw [List.drop_zero, Bool.false_or]
    show Ev (fun k => spec_l2Open.l1 k bs (roundB mkS (pairs bs) o) (decide (o.length < (roundB mkS (pairs bs) o).length))) _
    unfold opnB
    by_cases hc : o.length < (roundB mkS (pairs bs) o).length
    · rw [decide_eq_true hc, if_pos hc]
      have h1 := round_left hc
      have h2 := fold_bound (mk := mkS) (pairs bs) (pairs bs) o (fun _ h => h)
      exact ih _ (by omega) (Nat.le_trans h2 h8)
    · rw [decide_eq_false hc, if_neg hc, round_same hc]
      exact Ev.step (f := fun _ => some o) (fun k => by rw [spec_l2Open.l1, if_neg Bool.false_ne_true]) (Ev.now _)
theorem l0_ev (l : List ByteArray) (bs : List Bx) (hl : l.length ≤ 400) : ∀ (d i : Nat) (o : List ByteArray) (R : List ByteArray), l.length - i ≤ d → i ≤ l.length → o.length + (l.length - i) ≤ 2000 →
    Ev (fun k => spec_l2Open.l1 k bs ((l.drop i).foldl putB o) true) R → Ev (fun k => spec_l2Open.l0 k l bs o (i : Int)) R := by
  have fin : ∀ (i : Nat) (o : List ByteArray) (R : List ByteArray), l.length ≤ i → Ev (fun k => spec_l2Open.l1 k bs ((l.drop i).foldl putB o) true) R → Ev (fun k => spec_l2Open.l0 k l bs o (i : Int)) R := by
    intro i o R hi h
    rw [List.drop_eq_nil_of_le hi] at h
    exact Ev.step (f := fun k => spec_l2Open.l1 k bs o true) (fun k => by rw [spec_l2Open.l0, if_neg (by omega)]) h
  intro d
  induction d with
  | zero => intro i o R h0 h1 h2 h; exact fin i o R (by omega) h
  | succ d ih =>
    intro i o R h0 h1 h2 h
    by_cases hlt : i < l.length
    · rw [List.drop_eq_getElem_cons hlt, List.foldl_cons] at h
      have eh := has_ev o l[i] (by omega)
      have w1 : wrap64 ((i : Int) + 1) = ((i + 1 : Nat) : Int) := wz (x := (i : Int) + 1) (by omega) (by omega)
      refine Ev.step (f := fun k => (spec_l2Has.f k o l[i]).bind fun t => (if t = true then (spec_l2Open.l0 k l bs o ((i + 1 : Nat) : Int)) else (if o.length < 8796093022208 then (spec_l2Open.l0 k l bs (o ++ [l[i]]) ((i + 1 : Nat) : Int)) else (none)))) (fun k => by rw [spec_l2Open.l0, if_pos (by omega), if_pos (by omega), rdK_at hlt, w1]) (Ev.bind eh ?_)
      unfold putB at h
      cases hh : hasB o l[i] with
      | true =>
        rw [hh, if_pos rfl] at h
        exact Ev.congr (fun k => if_pos rfl) (ih (i + 1) o R (by omega) (by omega) (by omega) h)
      | false =>
        rw [hh, if_neg Bool.false_ne_true] at h
        exact Ev.congr (fun k => (if_neg Bool.false_ne_true).trans (if_pos (by omega))) (ih (i + 1) (o ++ [l[i]]) R (by omega) (by omega) (by simp only [List.length_append, List.length_singleton]; omega) h)
    · exact fin i o R (by omega) h
theorem l2Open_ev (l : List ByteArray) (bs : List Bx) (hl : l.length ≤ 400) (hn : bs.length ≤ 400) (hb : bs.all okBx = true) : Ev (fun k => spec_l2Open.f k l bs) (openB mkS l (pairs bs)) := by
  unfold spec_l2Open.f
  have q1 := left_le (pairs bs) (dedup l)
  have q2 : (dedup l).length ≤ l.length := by have := dedup_length_le l []; simpa [dedup] using this
  have q3 := pairs_len bs
  refine l0_ev l bs hl l.length 0 [] _ (by omega) (by omega) (by simp; omega) ?_
  rw [List.drop_zero]
  exact l1_ev bs hb hn ((pairs bs).length + 1) (dedup l) (by omega) (by omega)
end
end Go.Proofs.YtjbnfcljkmapeaaDoor.Pure
namespace Go.Proofs.YtjbnfcljkmapeaaDoor.Pure
section
open Go.RowKit Go.Proofs.YtjbnfcljkmapeaaDoor Go.Proofs.YtjbnfcljkmapeaaDoor.Yc Go.Proofs.YtjbnfcljkmapeaaDoorW.PrintWords Go.Proofs.YtjbnfcljkmapeaaDoorW.PrintLast
open Go.Proofs.YtjbnfcljkmapeaaDoor.Th (T B Nm nm dec hd prsNum whole hasB hasB_iff hasB_no openB open_length open_known open_mono open_told open_done open_again open_twice open_nodup)

/-- What the program's KnwOpen gives. -/
def opn (l : List ByteArray) (bs : List Bx) : List ByteArray := if namedB l bs then openB mkS l (pairs bs) else []
theorem opn_len (l : List ByteArray) (bs : List Bx) : (opn l bs).length ≤ l.length + bs.length := by
  unfold opn
  have h := open_length (mk := mkS) l (pairs bs)
  rw [pairs_len] at h
  split
  · exact h
  · exact Nat.zero_le _
theorem implOpen (l : List ByteArray) (bs : List Bx) : impl_KnwOpen.f l bs = some (opn l bs) := rfl
theorem knwOpen_ev (l : List ByteArray) (bs : List Bx) : Ev (fun k => spec_KnwOpen.f k l bs) (opn l bs) := by
  unfold opn
  have eo := l2Ok_ev l
  have eb := l2Boxes_ev bs
  have e1 : (if namedB l bs then openB mkS l (pairs bs) else []) = (if (decide (l.length ≤ 400) && l.all okS) = true then (if (decide (bs.length ≤ 400) && bs.all okBx) = true then openB mkS l (pairs bs) else []) else []) := by
    unfold namedB
    show (if (_ && (_ && (l.all okS && _))) = true then _ else _) = _
    cases decide (l.length ≤ 400) <;> cases decide (bs.length ≤ 400) <;> cases l.all okS <;> cases bs.all okBx <;> rfl
  rw [e1]
  unfold spec_KnwOpen.f
  refine Ev.bind eo ?_
  cases h1 : (decide (l.length ≤ 400) && l.all okS) with
  | false => exact Ev.of_eq fun k => if_neg Bool.false_ne_true
  | true =>
    have hl : l.length ≤ 400 := by rw [Bool.and_eq_true, decide_eq_true_eq] at h1; exact h1.1
    rw [if_pos rfl]
    refine Ev.congr (fun k => if_pos rfl) (Ev.bind eb ?_)
    cases h3 : (decide (bs.length ≤ 400) && bs.all okBx) with
    | false => exact Ev.of_eq fun k => if_neg Bool.false_ne_true
    | true =>
      rw [Bool.and_eq_true, decide_eq_true_eq] at h3
      rw [if_pos rfl]
      exact Ev.congr (fun k => if_pos rfl) (Ev.bind (l2Open_ev l bs hl h3.1 h3.2) (Ev.now _))
theorem keTexts_l0 (l : List ByteArray) (hl : l.length ≤ 1000000) : ∀ (d i : Nat), l.length - i ≤ d → i ≤ l.length → Ev (fun k => laws_keTexts.l0 k l l (i : Int)) true := by
  have fin : ∀ i : Nat, l.length ≤ i → Ev (fun k => laws_keTexts.l0 k l l (i : Int)) true := by
    intro i hi
    exact Ev.step (f := fun _ => some true) (fun k => by rw [laws_keTexts.l0, if_neg (by omega)]) (Ev.now _)
  intro d
  induction d with
  | zero => intro i h0 h1; exact fin i (by omega)
  | succ d ih =>
    intro i h0 h1
    by_cases h : i < l.length
    · exact Ev.step (f := fun k => laws_keTexts.l0 k l l ((i + 1 : Nat) : Int)) (fun k => by rw [laws_keTexts.l0, if_pos (by omega), if_pos (by omega), if_pos (by omega), if_pos rfl, wz (x := (i : Int) + 1) (by omega) (by omega)]; rfl) (ih (i + 1) (by omega) (by omega))
    · exact fin i (by omega)
theorem keTexts_ev (l : List ByteArray) (hl : l.length ≤ 1000000) : Ev (fun k => laws_keTexts.f k l l) true :=
  Ev.congr (fun k => by unfold laws_keTexts.f; rw [if_pos rfl]; rfl) (keTexts_l0 l hl l.length 0 (by omega) (by omega))
theorem keHas_l0 (l : List ByteArray) (s : ByteArray) (hl : l.length ≤ 1000000) : ∀ (d i : Nat), l.length - i ≤ d → i ≤ l.length → Ev (fun k => laws_keHas.l0 k l s (i : Int)) (hasB (l.drop i) s) := by
  have fin : ∀ i : Nat, l.length ≤ i → Ev (fun k => laws_keHas.l0 k l s (i : Int)) (hasB (l.drop i) s) := by
    intro i hi
    rw [List.drop_eq_nil_of_le hi]
    exact Ev.step (f := fun _ => some false) (fun k => by rw [laws_keHas.l0, if_neg (by omega)]) (Ev.now _)
  intro d
  induction d with
  | zero => intro i h0 h1; exact fin i (by omega)
  | succ d ih =>
    intro i h0 h1
    by_cases h : i < l.length
    · rw [List.drop_eq_getElem_cons h]
      by_cases he : l[i].toList = s.toList
      · have e : hasB (l[i] :: l.drop (i + 1)) s = true := by
          unfold hasB
          rw [List.any_cons, beq_iff_eq.2 (by rw [← Th.toList_data, ← Th.toList_data]; exact he), Bool.true_or]
        rw [e]
        exact Ev.step (f := fun _ => some true) (fun k => by rw [laws_keHas.l0, if_pos (by omega), if_pos (by omega), rdK_at h, if_pos he]) (Ev.now _)
      · have e : hasB (l[i] :: l.drop (i + 1)) s = hasB (l.drop (i + 1)) s := by
          unfold hasB
          rw [List.any_cons, beq_eq_false_iff_ne.2 (by rw [← Th.toList_data, ← Th.toList_data]; exact he), Bool.false_or]
        rw [e]
        exact Ev.step (f := fun k => laws_keHas.l0 k l s ((i + 1 : Nat) : Int)) (fun k => by rw [laws_keHas.l0, if_pos (by omega), if_pos (by omega), rdK_at h, if_neg he, wz (x := (i : Int) + 1) (by omega) (by omega)]; rfl) (ih (i + 1) (by omega) (by omega))
    · exact fin i (by omega)
theorem keHas_ev (l : List ByteArray) (s : ByteArray) (hl : l.length ≤ 1000000) : Ev (fun k => laws_keHas.f k l s) (hasB l s) := keHas_l0 l s hl l.length 0 (by omega) (by omega)
theorem up_ : ∀ o o' : List ByteArray, (∀ x ∈ o, x ∈ o') → ∀ s, mkS o s = true → mkS o' s = true := fun _ _ h s => mkS_mono h s
theorem named_of {l : List ByteArray} {bs : List Bx} (h1 : l.length ≤ 400) (h2 : bs.length ≤ 400) (h3 : ∀ x ∈ l, okB x = true) (h4 : bs.all okBx = true) : namedB l bs = true := by
  unfold namedB
  rw [decide_eq_true h1, decide_eq_true h2, List.all_eq_true.2 h3, h4]
  rfl
end
end Go.Proofs.YtjbnfcljkmapeaaDoor.Pure
namespace Go.Proofs.YtjbnfcljkmapeaaDoor.Pure
section
open Go.RowKit Go.Proofs.YtjbnfcljkmapeaaDoor Go.Proofs.YtjbnfcljkmapeaaDoor.Yc Go.Proofs.YtjbnfcljkmapeaaDoorW.PrintWords Go.Proofs.YtjbnfcljkmapeaaDoorW.PrintLast
open Go.Proofs.YtjbnfcljkmapeaaDoor.Th (T B Nm nm dec hd prsNum whole hasB hasB_iff hasB_no openB)

theorem join1 (s : ByteArray) (h : s.size ≤ 300) : strings_Join.f [s] ⟨#[]⟩ = some s := by
  unfold strings_Join.f
  have e : Lib.join ([s].map (·.data.toList)) (⟨#[]⟩ : ByteArray).data.toList = s.data.toList := by simp [Lib.join, List.intercalate]
  rw [e, if_pos ⟨by simp, by rw [Array.length_toList]; exact Nat.le_trans h (by decide)⟩, Array.toArray_toList]
theorem in_any' (x a b : Int) : impl_in.f x a b = some (decide (a ≤ x ∧ x ≤ b)) := by
  unfold impl_in.f
  by_cases h : x ≥ a
  · rw [if_pos h]; simp [show a ≤ x from h]
  · rw [if_neg h]; simp [show ¬ a ≤ x from h]
theorem isOne_any (x : Int) : impl_isOne.f x = some (decide (0 ≤ x ∧ x ≤ 7)) := by
  unfold impl_isOne.f
  rw [in_any']
  rfl
theorem letter_T (n : Nat) (h : n < 8) : impl_letter.f (n : Int) = some (T [65 + n]) := by
  unfold impl_letter.f
  rw [if_pos (by omega)]
  rfl
theorem impl_new {w n : Nat} (h : (Nm.new w n).ok = true) (k : Nat) : impl_MakNew.f (k + 1) (w : Int) (n : Int) = some (T (Nm.new w n).enc) := by
  simp only [Nm.ok, Bool.and_eq_true, decide_eq_true_eq] at h
  have hi : strconv_Itoa.f (n : Int) = some (T (dec n)) := by
    have : ∀ n : Fin 100, strconv_Itoa.f ((n.1 : Nat) : Int) = some (T (dec n.1)) := by decide +kernel
    exact this ⟨n, by omega⟩
  have := dec_two n
  unfold impl_MakNew.f
  rw [isOne_any, Option.bind_some, decide_eq_true (by omega), if_pos rfl, in_any', Option.bind_some, decide_eq_true (by omega), impl_MakNew.j0, if_neg (by decide), letter_T w h.1.1, Option.bind_some, hi, Option.bind_some]
  rw [if_pos (by rw [Th.T_size, Th.T_size, List.length_singleton]; omega), if_pos (by rw [ByteArray.size_append, Th.T_size, Th.T_size, List.length_singleton]; omega), show (⟨#[59]⟩ : ByteArray) = T [59] from rfl, ← T_app, ← T_app]
  rfl
/-- The secrets of the chain. -/
def nw (m : Nat) : ByteArray := T (Nm.new 0 m).enc
def bxm (m : Nat) : Bx := ⟨T (Nm.key (.new 0 (1 + m))).enc, nw (2 + m)⟩
def at_ (n : Nat) (p : Bool) (i : Nat) : Nat := if p then n - 1 - i else i
def chainB (n : Nat) (p : Bool) (i : Nat) : List Bx := (List.range i).map fun j => bxm (at_ n p j)
/-- What the law says of the chain. -/
def chk (n : Nat) (p : Bool) : Bool :=
  namedB [nw 1] (chainB n p n) && (namedB [nw (1 + n)] (chainB n p n) && (((openB mkS [nw 1] (pairs (chainB n p n))).length == n + 1) &&
    ((List.range (n + 1)).all (fun k => hasB (openB mkS [nw 1] (pairs (chainB n p n))) (nw (1 + k))) &&
      (((openB mkS [nw (1 + n)] (pairs (chainB n p n))).length == 1) && hasB (openB mkS [nw (1 + n)] (pairs (chainB n p n))) (nw (1 + n))))))
theorem chk_all : ∀ n : Fin 12, ∀ p : Bool, chk (n.1 + 1) p = true := by decide +kernel
theorem new_ev (m : Nat) (h1 : 1 ≤ m) (h2 : m ≤ 99) : Ev (fun k => impl_MakNew.f k 0 (m : Int)) (nw m) :=
  Ev.of (fun k => impl_MakNew.mono _ _ k) (impl_new (w := 0) (n := m) (by simp [Nm.ok, h1, h2]) 0)
theorem key_ev (m : Nat) (h1 : 1 ≤ m) (h2 : m ≤ 99) : Ev (fun k => impl_MakKey.f k (nw m)) (T (Nm.key (.new 0 m)).enc) := by
  have ok : (Nm.new 0 m).ok = true := by simp [Nm.ok, h1, h2]
  have hz : (Nm.new 0 m).enc.length ≤ 5 := by have := dec_two m; simp only [Nm.enc, List.length_cons, List.length_append, List.length_nil]; omega
  have hn : nm (nw m) = some (.new 0 m) := Th.nm_T ok (by omega)
  have hs : (nw m).size ≤ 5 := by unfold nw; rw [Th.T_size]; exact hz
  refine Ev.of (fun k => impl_MakKey.mono _ k) (k := 2) ?_
  unfold impl_MakKey.f impl_made.f
  rw [impl_made.l0, if_pos (by simp), if_pos (by omega), if_pos (by simp), show rdOf ByteArray.empty [nw m] 0 = nw m from rfl, impl_SecOk.f, Option.bind_some, hn, Option.isSome_some, if_pos rfl, show wrap64 (0 + 1) = 1 by rw [wz (by omega) (by omega)]; rfl, impl_made.l0, if_neg (by simp), join1 (nw m) (by omega), Option.bind_some]
  have e : (⟨#[107]⟩ : ByteArray) ++ nw m = T (Nm.key (.new 0 m)).enc := (T_app [107] (Nm.new 0 m).enc).symm
  rw [e]
  have he : ((T (Nm.key (.new 0 m)).enc).size : Int) ≤ 300 := by rw [Th.T_size]; simp only [Nm.enc, List.length_cons] at hz ⊢; omega
  first
    | (rw [if_pos (by show (1 : Nat) + (nw m).size ≤ _; omega), if_pos he]; rfl)
    | (rw [if_pos he]; rfl)
    | (simp only [he, if_true]; rfl)
theorem chain_l1 {n : Nat} {o u : List ByteArray} (hn : 1 ≤ n) (hn2 : n ≤ 12) (ho : o.length = n + 1) (ha : ∀ k, k ≤ n → hasB o (nw (1 + k)) = true) (hu : u = [nw (1 + n)]) : ∀ (d i : Nat), n + 1 - i ≤ d → i ≤ n + 1 → Ev (fun k => laws_FnKnwChain.l1 k (n : Int) o u (i : Int)) true := by
  have fin : ∀ i : Nat, n < i → Ev (fun k => laws_FnKnwChain.l1 k (n : Int) o u (i : Int)) true := by
    intro i hi
    have en := new_ev (1 + n) (by omega) (by omega)
    refine Ev.step (fun k => by rw [laws_FnKnwChain.l1, if_neg (by omega), wz (x := 1 + (n : Int)) (by omega) (by omega), show (1 : Int) + (n : Int) = ((1 + n : Nat) : Int) by omega]) (Ev.bind en ?_)
    rw [hu]
    exact Ev.bind (keTexts_ev [nw (1 + n)] (by simp)) (Ev.now _)
  intro d
  induction d with
  | zero => intro i h0 h1; exact fin i (by omega)
  | succ d ih =>
    intro i h0 h1
    by_cases h : i ≤ n
    · have en := new_ev (1 + i) (by omega) (by omega)
      have eh := keHas_ev o (nw (1 + i)) (by omega)
      rw [ha i h] at eh
      exact Ev.step (fun k => by rw [laws_FnKnwChain.l1, if_pos (by omega), wz (x := 1 + (i : Int)) (by omega) (by omega), show (1 : Int) + (i : Int) = ((1 + i : Nat) : Int) by omega, wz (x := (i : Int) + 1) (by omega) (by omega)]) (Ev.bind en (Ev.bind eh (Ev.congr (fun k => if_pos rfl) (ih (i + 1) (by omega) (by omega)))))
    · exact fin i (by omega)
theorem chain_end (l : List Int) {n : Nat} (p : Bool) (hn : 1 ≤ n) (hn2 : n ≤ 12) : Ev (fun k => laws_FnKnwChain.l0 k l (n : Int) (chainB n p n) (n : Int)) true := by
  have hc := chk_all ⟨n - 1, by omega⟩ p
  rw [show (⟨n - 1, by omega⟩ : Fin 12).1 + 1 = n from by show n - 1 + 1 = n; omega] at hc
  unfold chk at hc
  simp only [Bool.and_eq_true, beq_iff_eq] at hc
  obtain ⟨c1, c2, c3, c4, c5, c6⟩ := hc
  have e1 : opn [nw 1] (chainB n p n) = openB mkS [nw 1] (pairs (chainB n p n)) := by unfold opn; rw [c1]; rfl
  have e2 : opn [nw (1 + n)] (chainB n p n) = openB mkS [nw (1 + n)] (pairs (chainB n p n)) := by unfold opn; rw [c2]; rfl
  have hu : openB mkS [nw (1 + n)] (pairs (chainB n p n)) = [nw (1 + n)] := by
    have hm := hasB_iff.1 c6
    generalize openB mkS [nw (1 + n)] (pairs (chainB n p n)) = q at *
    match q, c5 with
    | [x], _ => rw [List.mem_singleton] at hm; rw [hm]
  have en1 : Ev (fun k => impl_MakNew.f k 0 1) (nw 1) := new_ev 1 (by omega) (by omega)
  have en2 := new_ev (1 + n) (by omega) (by omega)
  have es := knwOpen_ev [nw 1] (chainB n p n)
  have et := keTexts_ev (opn [nw 1] (chainB n p n)) (by rw [e1, c3]; omega)
  refine Ev.step (fun k => by rw [laws_FnKnwChain.l0, if_neg (by omega), wz (x := 1 + (n : Int)) (by omega) (by omega), show (1 : Int) + (n : Int) = ((1 + n : Nat) : Int) by omega, wz (x := (n : Int) + 1) (by omega) (by omega)]) (Ev.bind en1 (Ev.congr (fun k => by rw [implOpen, Option.bind_some]) (Ev.bind en2 (Ev.congr (fun k => by rw [implOpen, Option.bind_some]) ?_))))
  refine Ev.congr (fun k => if_pos (by rw [e1, c3]; omega)) (Ev.bind en1 (Ev.bind es (Ev.bind et ?_)))
  refine Ev.step (fun k => by rw [laws_FnKnwChain.j2, if_neg (by decide)]) ?_
  rw [e1, e2]
  exact chain_l1 hn hn2 c3 (fun k hk => List.all_eq_true.1 c4 k (List.mem_range.2 (by omega))) hu (n + 1) 0 (by omega) (by omega)
theorem chain_l0 (l : List Int) {n : Nat} (p : Bool) (hn : 1 ≤ n) (hn2 : n ≤ 12) (hp : p = true ↔ ((l.length : Int) % 2) = 0) : ∀ (d i : Nat), n - i ≤ d → i ≤ n → Ev (fun k => laws_FnKnwChain.l0 k l (n : Int) (chainB n p i) (i : Int)) true := by
  have fin : ∀ i : Nat, i = n → Ev (fun k => laws_FnKnwChain.l0 k l (n : Int) (chainB n p i) (i : Int)) true := by
    intro i hi
    subst hi
    exact chain_end l p hn hn2
  intro d
  induction d with
  | zero => intro i h0 h1; exact fin i (by omega)
  | succ d ih =>
    intro i h0 h1
    by_cases h : i < n
    · have hm : at_ n p i ≤ 11 := by unfold at_; split <;> omega
      have st : Ev (fun k => laws_FnKnwChain.j1 k l (n : Int) (chainB n p i) (i : Int) ((at_ n p i : Nat) : Int)) true := by
        have en1 := new_ev (1 + at_ n p i) (by omega) (by omega)
        have en2 := new_ev (2 + at_ n p i) (by omega) (by omega)
        have ek := key_ev (1 + at_ n p i) (by omega) (by omega)
        have e3 : chainB n p i ++ [bxm (at_ n p i)] = chainB n p (i + 1) := by unfold chainB; rw [List.range_succ, List.map_append]; rfl
        have hl : (chainB n p i).length = i := by unfold chainB; rw [List.length_map, List.length_range]
        refine Ev.step (fun k => by rw [laws_FnKnwChain.j1, wz (x := 1 + ((at_ n p i : Nat) : Int)) (by omega) (by omega), wz (x := 2 + ((at_ n p i : Nat) : Int)) (by omega) (by omega), show (1 : Int) + ((at_ n p i : Nat) : Int) = ((1 + at_ n p i : Nat) : Int) by omega, show (2 : Int) + ((at_ n p i : Nat) : Int) = ((2 + at_ n p i : Nat) : Int) by omega, wz (x := (i : Int) + 1) (by omega) (by omega)]) (Ev.bind en1 (Ev.bind ek (Ev.bind en2 (Ev.congr (fun k => if_pos (show (chainB n p i).length < 4398046511104 by omega)) ?_))))
        show Ev (fun k => laws_FnKnwChain.l0 k l (n : Int) (chainB n p i ++ [bxm (at_ n p i)]) ((i : Int) + 1)) true
        rw [e3]
        exact ih (i + 1) (by omega) (by omega)
      by_cases hz : ((l.length : Int) % 2) = 0
      · have hpt := hp.2 hz
        refine Ev.step (f := fun k => laws_FnKnwChain.j1 k l (n : Int) (chainB n p i) (i : Int) ((at_ n p i : Nat) : Int)) (fun k => ?_) st
        rw [laws_FnKnwChain.l0, if_pos (by omega), if_pos hz, wz (x := (n : Int) - 1) (by omega) (by omega), wz (by omega) (by omega), show (n : Int) - 1 - (i : Int) = ((at_ n p i : Nat) : Int) by unfold at_; rw [if_pos hpt]; omega]
      · have hpf : ¬ p = true := fun h => hz (hp.1 h)
        refine Ev.step (f := fun k => laws_FnKnwChain.j1 k l (n : Int) (chainB n p i) (i : Int) ((at_ n p i : Nat) : Int)) (fun k => ?_) st
        rw [laws_FnKnwChain.l0, if_pos (by omega), if_neg hz, show ((at_ n p i : Nat) : Int) = (i : Int) by unfold at_; rw [if_neg hpf]]
    · exact fin i (by omega)
theorem FnKnwChain : laws_FnKnwChain.Pure := by
  intro l _ _ hw
  refine Ev.rounds ?_
  unfold laws_FnKnwChain.f
  by_cases hb : (l.length : Int) > 1048576
  · exact Ev.of_eq fun k => if_pos hb
  refine Ev.congr (fun k => if_neg hb) ?_
  have e : (1 : Int) + ((l.length : Int) % 12) = ((1 + l.length % 12 : Nat) : Int) := by omega
  rw [e]
  have h := chain_l0 l (n := 1 + l.length % 12) (decide (((l.length : Int) % 2) = 0)) (by omega) (by omega) (by rw [decide_eq_true_eq]) (1 + l.length % 12) 0 (by omega) (by omega)
  exact h
end
end Go.Proofs.YtjbnfcljkmapeaaDoor.Pure
