/- What the reference reads of a name: sizes, whether it is one, and how it was made. Plain Lean. -/
import Derived.Test.YtnemchmiplbopaaDoorXcx3
import Derived.Test.YtnemchmiplbopaaDoorXcx5
namespace Go.Proofs.YtnemchmiplbopaaDoor.Pure
open Go.RowKit Go.Proofs.YtnemchmiplbopaaDoor Go.Proofs.YtnemchmiplbopaaDoor.Xc Go.Proofs.YtnemchmiplbopaaDoorW.PrintWords Go.Proofs.YtnemchmiplbopaaDoorW.PrintLast
open Go.Proofs.YtnemchmiplbopaaDoor.Th (T B Nm nm dec hd prsNum whole)

theorem wz {x : Int} (h0 : -1000000000000000 ≤ x) (h1 : x ≤ 1000000000000000) : wrap64 x = x := by
  unfold wrap64
  omega
theorem T_app (a b : List Nat) : T (a ++ b) = T a ++ T b := by
  apply Th.B_inj
  rw [Th.B_append]
  simp [T, B]
theorem spec_in (x a b : Int) : spec_l1In.f x a b = some (decide (a ≤ x ∧ x ≤ b)) := by
  unfold spec_l1In.f
  by_cases h : x ≥ a
  · rw [if_pos h]; simp [show a ≤ x from h]
  · rw [if_neg h]; simp [show ¬ a ≤ x from h]
theorem spec_letter (w : Nat) (h : w < 8) : spec_l1Who.f (w : Int) = some (T [65 + w]) := by
  have : ∀ n : Fin 8, spec_l1Who.f ((n.1 : Nat) : Int) = some (T [65 + n.1]) := by decide +kernel
  exact this ⟨w, h⟩
theorem spec_plain (n : Nat) (h : n < 100) (k : Nat) (hk : 3 ≤ k) : spec_l1Plain.f k (n : Int) = some (T (dec n)) := by
  have : ∀ n : Fin 100, spec_l1Plain.f 3 ((n.1 : Nat) : Int) = some (T (dec n.1)) := by decide +kernel
  exact at_rounds (fun k => spec_l1Plain.mono _ k) hk (this ⟨n, h⟩)
theorem dec_two (n : Nat) : (dec n).length ≤ 2 := by unfold dec; split <;> simp
/-- What makNew of one and a number is. -/
def mkN (w n : Nat) : ByteArray := if w < 8 ∧ 1 ≤ n ∧ n ≤ 99 then T (Nm.new w n).enc else ⟨#[]⟩
theorem spec_mkN (w n : Nat) (k : Nat) (hk : 4 ≤ k) : spec_MakNew.f k (w : Int) (n : Int) = some (mkN w n) := by
  obtain ⟨k, rfl⟩ : ∃ j, k = j + 1 := ⟨k - 1, by omega⟩
  unfold spec_MakNew.f mkN
  rw [spec_in, spec_in]
  simp only [Option.bind_some]
  by_cases h0 : w < 8
  · by_cases h1 : 1 ≤ n ∧ n ≤ 99
    · rw [decide_eq_true (by omega), decide_eq_true (by omega), if_pos rfl, if_pos ⟨h0, h1⟩]
      simp only [Bool.not_true, spec_MakNew.j0]
      rw [if_neg (by decide), spec_letter w h0, spec_plain n (by omega) k (by omega)]
      simp only [Option.bind_some]
      have := dec_two n
      rw [if_pos (by rw [Th.T_size, Th.T_size, List.length_singleton]; omega), if_pos (by rw [ByteArray.size_append, Th.T_size, Th.T_size, List.length_singleton]; omega)]
      rw [show (⟨#[59]⟩ : ByteArray) = T [59] from rfl, ← T_app, ← T_app]
      rfl
    · rw [decide_eq_true (by omega), decide_eq_false (by omega), if_pos rfl, if_neg (fun h => h1 h.2)]
      simp [spec_MakNew.j0]
  · rw [decide_eq_false (by omega), if_neg (by decide), if_neg (fun h => h0 h.1)]
    simp [spec_MakNew.j0]

/-! ### a new secret's name, read -/
theorem bt_pre {s : ByteArray} {pre t : List Nat} (h : B s = pre ++ t) (i : Nat) : bt s ((pre.length + i : Nat) : Int) = ((t.getD i 0 : Nat) : Int) := by
  rw [Th.bt_B, h, Int.toNat_natCast, List.getD_eq_getElem?_getD, List.getElem?_append_right (by omega), show pre.length + i - pre.length = i by omega, List.getD_eq_getElem?_getD]
theorem size_pre {s : ByteArray} {pre t : List Nat} (h : B s = pre ++ t) : s.size = pre.length + t.length := by
  rw [← Th.B_length, h, List.length_append]
theorem cut_pre {s : ByteArray} {pre t : List Nat} (h : B s = pre ++ t) (j : Nat) : s.extract pre.length (pre.length + j) = T (t.take j) := by
  apply Th.B_inj
  rw [Th.B_extract, h, Th.B_T (fun x hx => Th.B_lt s x (by rw [h]; exact List.mem_append_right _ (List.mem_of_mem_take hx)))]
  rw [List.take_append, List.take_of_length_le (by omega), show pre.length + j - pre.length = j by omega, List.drop_left]
theorem take_snoc {t : List Nat} {i : Nat} (h : i < t.length) : t.take (i + 1) = t.take i ++ [t.getD i 0] := by
  rw [List.take_add_one, List.getElem?_eq_getElem h, List.getD_eq_getElem?_getD, List.getElem?_eq_getElem h]
  rfl
section
variable {s : ByteArray} {pre t : List Nat} {c : Nat}
theorem fresh_tail (h : B s = pre ++ c :: t) (hs : s.size ≤ 1000000000000) (hc : 65 ≤ c ∧ c ≤ 72) (i n k : Nat) (hi : i ≤ t.length) (hk : 6 ≤ k) :
    spec_l1Fresh.j2 k s pre.length n ((pre.length + (1 + i) : Nat) : Int) false = some (if t.getD i 0 = 59 ∧ mkN (c - 65) n = T (c :: (t.take i ++ [59])) then ((i + 2 : Nat) : Int) else 0) := by
  obtain ⟨k, rfl⟩ : ∃ j, k = j + 2 := ⟨k - 2, by omega⟩
  have hz := size_pre h
  rw [List.length_cons] at hz
  have b0 : bt s ((pre.length : Nat) : Int) = (c : Int) := bt_pre h 0
  have b1 : bt s ((pre.length + (1 + i) : Nat) : Int) = ((t.getD i 0 : Nat) : Int) := by
    rw [bt_pre h (1 + i), show 1 + i = i + 1 by omega]
    rfl
  simp only [spec_l1Fresh.j2]
  rw [if_neg (by decide)]
  by_cases h0 : i < t.length
  · rw [if_neg (by omega), if_pos (by omega), if_pos (by omega), b1]
    by_cases h1 : t.getD i 0 = 59
    · rw [if_pos (by omega), if_pos (by omega), if_pos (by omega), b0, show ((c : Int) - 65) % 256 = ((c - 65 : Nat) : Int) by omega, spec_mkN _ _ _ (by omega), Option.bind_some]
      have e0 : wrap64 (((pre.length + (1 + i) : Nat) : Int) + 1) = ((pre.length + (i + 2) : Nat) : Int) := by rw [wz (by omega) (by omega)]; omega
      rw [e0, if_pos (by omega), if_pos (by omega), Int.toNat_natCast, Int.toNat_natCast, cut_pre h, show (c :: t).take (i + 2) = c :: t.take (i + 1) from rfl, take_snoc h0, h1]
      by_cases h2 : mkN (c - 65) n = T (c :: (t.take i ++ [59]))
      · rw [if_pos ⟨rfl, h2⟩, h2, bne_self_eq_false]
        simp only [spec_l1Fresh.j3]
        rw [if_neg (by decide), e0, wz (by omega) (by omega)]
        congr 1
        omega
      · have e2 : ((mkN (c - 65) n).toList != (T (c :: (t.take i ++ [59]))).toList) = true := bne_iff_ne.2 (fun e => h2 (Th.toList_eq.1 e))
        rw [if_neg (fun h => h2 h.2), e2]
        simp only [spec_l1Fresh.j3]
        rw [if_pos trivial]
    · rw [if_neg (by omega), if_neg (fun h => h1 h.1)]
      simp only [spec_l1Fresh.j3]
      rw [if_pos trivial]
  · have e1 : t.getD i 0 = 0 := by rw [List.getD_eq_getElem?_getD, List.getElem?_eq_none (by omega)]; rfl
    rw [if_pos (by omega), e1, if_neg (fun h => by omega)]
    simp only [spec_l1Fresh.j3]
    rw [if_pos trivial]
theorem fresh_more (h : B s = pre ++ c :: t) (hs : s.size ≤ 1000000000000) (i n k : Nat) (hi : i < 3) (hn : n ≤ 1000) (hd : 48 ≤ t.getD i 0 ∧ t.getD i 0 ≤ 57) :
    spec_l1Fresh.l0 (k + 2) s pre.length n ((pre.length + (1 + i) : Nat) : Int) = spec_l1Fresh.l0 k s pre.length ((10 * n + (t.getD i 0 - 48) : Nat) : Int) ((pre.length + (1 + (i + 1)) : Nat) : Int) := by
  have hz := size_pre h
  rw [List.length_cons] at hz
  have hl : i < t.length := Th.lt_of_getD (by omega)
  have b1 : bt s ((pre.length + (1 + i) : Nat) : Int) = ((t.getD i 0 : Nat) : Int) := by
    rw [bt_pre h (1 + i), show 1 + i = i + 1 by omega]
    rfl
  conv => lhs; rw [spec_l1Fresh.l0]
  rw [if_pos (by omega), if_pos (by omega), b1, if_pos (by omega), if_pos (by omega), wz (x := (pre.length : Int) + 4) (by omega) (by omega), decide_eq_true (by omega)]
  conv => lhs; rw [spec_l1Fresh.j2]
  rw [if_pos rfl, if_pos (by omega), if_pos (by omega), b1, wz (x := (n : Int) * 10) (by omega) (by omega), wz (x := (n : Int) * 10 + _) (by omega) (by omega), wz (x := ((pre.length + (1 + i) : Nat) : Int) + 1) (by omega) (by omega)]
  congr 1 <;> omega
theorem fresh_stop (h : B s = pre ++ c :: t) (hs : s.size ≤ 1000000000000) (hc : 65 ≤ c ∧ c ≤ 72) (i n k : Nat) (hi : i ≤ t.length) (hk : 6 ≤ k) (hd : ¬ (48 ≤ t.getD i 0 ∧ t.getD i 0 ≤ 57) ∨ i = 3) :
    spec_l1Fresh.l0 (k + 1) s pre.length n ((pre.length + (1 + i) : Nat) : Int) = some (if t.getD i 0 = 59 ∧ mkN (c - 65) n = T (c :: (t.take i ++ [59])) then ((i + 2 : Nat) : Int) else 0) := by
  have hz := size_pre h
  rw [List.length_cons] at hz
  have b1 : bt s ((pre.length + (1 + i) : Nat) : Int) = ((t.getD i 0 : Nat) : Int) := by
    rw [bt_pre h (1 + i), show 1 + i = i + 1 by omega]
    rfl
  rw [← fresh_tail h hs hc i n k hi hk]
  conv => lhs; rw [spec_l1Fresh.l0]
  by_cases h0 : i < t.length
  · rw [if_pos (by omega), if_pos (by omega), b1]
    by_cases h1 : (t.getD i 0 : Int) ≥ 48
    · rw [if_pos h1]
      by_cases h2 : (t.getD i 0 : Int) ≤ 57
      · rw [if_pos h2, wz (by omega) (by omega), decide_eq_false (by omega)]
      · rw [if_neg h2]
    · rw [if_neg h1]
  · rw [if_neg (by omega)]
theorem T_eq {a b : List Nat} (ha : ∀ x ∈ a, x < 256) (hb : ∀ x ∈ b, x < 256) (h : T a = T b) : a = b := by
  have := congrArg B h
  rwa [Th.B_T ha, Th.B_T hb] at this
theorem T_len {a b : List Nat} (h : T a = T b) : a.length = b.length := by
  have := congrArg ByteArray.size h
  rwa [Th.T_size, Th.T_size] at this
/-- The size of the new secret's name that stands first. -/
def freshSz (c : Nat) (t : List Nat) : Int := if 65 ≤ c ∧ c ≤ 72 then (match prsNum t with | some p => ((1 + t.length - p.2.length : Nat) : Int) | none => 0) else 0
theorem fresh_20 (h : B s = pre ++ c :: t) (hs : s.size ≤ 1000000000000) : spec_l1Fresh.f 20 s pre.length = some (freshSz c t) := by
  have hz := size_pre h
  rw [List.length_cons] at hz
  have b0 : bt s ((pre.length : Nat) : Int) = (c : Int) := bt_pre h 0
  unfold spec_l1Fresh.f freshSz
  rw [if_pos (by omega), if_pos (by omega), b0]
  by_cases hc : 65 ≤ c ∧ c ≤ 72
  · rw [if_neg (by omega), decide_eq_false (by omega), if_pos hc]
    simp only [spec_l1Fresh.j0]
    rw [if_neg (by decide), wz (x := (pre.length : Int) + 1) (by omega) (by omega), show (pre.length : Int) + 1 = ((pre.length + (1 + 0) : Nat) : Int) by omega, show (0 : Int) = ((0 : Nat) : Int) from rfl]
    have empty : ∀ (n : Nat) (l : List Nat), (n < 1 ∨ 99 < n) → mkN (c - 65) n ≠ T (c :: l) := by
      intro n l hn e
      rw [mkN, if_neg (by omega)] at e
      have z : (0 : Nat) = (c :: l).length := (congrArg ByteArray.size e).trans (Th.T_size _)
      exact absurd z (by simp)
    have some_ : ∀ (n : Nat), 1 ≤ n → n ≤ 99 → mkN (c - 65) n = T (c :: (dec n ++ [59])) := by
      intro n h1 h2
      rw [mkN, if_pos (by omega)]
      simp only [Nm.enc]
      rw [show 65 + (c - 65) = c by omega]
    by_cases d0 : 48 ≤ t.getD 0 0 ∧ t.getD 0 0 ≤ 57
    · have l0 : 0 < t.length := Th.lt_of_getD (by omega)
      have k1 : t.take 1 = [t.getD 0 0] := by rw [take_snoc l0]; rfl
      rw [fresh_more h hs 0 0 17 (by omega) (by omega) d0]
      by_cases d1 : 48 ≤ t.getD 1 0 ∧ t.getD 1 0 ≤ 57
      · have l1 : 1 < t.length := Th.lt_of_getD (by omega)
        have k2 : t.take 2 = [t.getD 0 0, t.getD 1 0] := by rw [take_snoc l1, k1]; rfl
        rw [fresh_more h hs 1 _ 15 (by omega) (by omega) d1]
        by_cases d2 : 48 ≤ t.getD 2 0 ∧ t.getD 2 0 ≤ 57
        · have l2 : 2 < t.length := Th.lt_of_getD (by omega)
          rw [fresh_more h hs 2 _ 13 (by omega) (by omega) d2, fresh_stop h hs hc 3 _ 12 (by omega) (by omega) (.inr rfl)]
          have no : prsNum t = none := by
            unfold prsNum
            by_cases z : 49 ≤ t.getD 0 0 ∧ t.getD 0 0 ≤ 57
            · rw [if_pos z, if_pos d1, if_neg (by omega)]
            · rw [if_neg z]
          rw [no, if_neg]
          · rfl
          rintro ⟨_, e⟩
          by_cases hv : 1 ≤ 10 * (10 * (10 * 0 + (t.getD 0 0 - 48)) + (t.getD 1 0 - 48)) + (t.getD 2 0 - 48) ∧ 10 * (10 * (10 * 0 + (t.getD 0 0 - 48)) + (t.getD 1 0 - 48)) + (t.getD 2 0 - 48) ≤ 99
          · rw [some_ _ hv.1 hv.2] at e
            have := T_len e
            have := dec_two (10 * (10 * (10 * 0 + (t.getD 0 0 - 48)) + (t.getD 1 0 - 48)) + (t.getD 2 0 - 48))
            simp only [List.length_cons, List.length_append, List.length_nil, List.length_take] at *
            omega
          · exact empty _ _ (by omega) e
        · rw [fresh_stop h hs hc 2 _ 14 (by omega) (by omega) (.inl d2), k2]
          by_cases z : t.getD 0 0 = 48
          · have no : prsNum t = none := by unfold prsNum; rw [if_neg (by omega)]
            rw [no, if_neg]
            · rfl
            rintro ⟨_, e⟩
            by_cases hv : 1 ≤ 10 * (10 * 0 + (t.getD 0 0 - 48)) + (t.getD 1 0 - 48)
            · rw [some_ _ hv (by omega)] at e
              have := T_len e
              unfold dec at this
              rw [if_pos (by omega)] at this
              simp at this
            · exact empty _ _ (by omega) e
          · by_cases q : t.getD 2 0 = 59
            · have yes : prsNum t = some (10 * (t.getD 0 0 - 48) + (t.getD 1 0 - 48), t.drop 3) := by
                unfold prsNum; rw [if_pos (by omega), if_pos d1, if_pos q]
              have l2 : 2 < t.length := Th.lt_of_getD (by omega)
              rw [yes, if_pos]
              · simp only [List.length_drop]
                congr 1
                omega
              · refine ⟨q, ?_⟩
                rw [some_ _ (by omega) (by omega)]
                unfold dec
                rw [if_neg (by omega)]
                rw [show 48 + (10 * (10 * 0 + (t.getD 0 0 - 48)) + (t.getD 1 0 - 48)) / 10 = t.getD 0 0 by omega, show 48 + (10 * (10 * 0 + (t.getD 0 0 - 48)) + (t.getD 1 0 - 48)) % 10 = t.getD 1 0 by omega]
            · have no : prsNum t = none := by unfold prsNum; rw [if_pos (by omega), if_pos d1, if_neg q]
              rw [no, if_neg (fun h => q h.1)]; rfl
      · rw [fresh_stop h hs hc 1 _ 16 (by omega) (by omega) (.inl d1), k1]
        by_cases z : t.getD 0 0 = 48
        · have no : prsNum t = none := by unfold prsNum; rw [if_neg (by omega)]
          rw [no, if_neg]
          · rfl
          rintro ⟨_, e⟩
          exact empty _ _ (by omega) e
        · by_cases q : t.getD 1 0 = 59
          · have yes : prsNum t = some (t.getD 0 0 - 48, t.drop 2) := by
              unfold prsNum; rw [if_pos (by omega), if_neg d1, if_pos q]
            have l1 : 1 < t.length := Th.lt_of_getD (by omega)
            rw [yes, if_pos]
            · simp only [List.length_drop]
              congr 1
              omega
            · refine ⟨q, ?_⟩
              rw [some_ _ (by omega) (by omega)]
              unfold dec
              rw [if_pos (by omega), show 48 + (10 * 0 + (t.getD 0 0 - 48)) = t.getD 0 0 by omega]
          · have no : prsNum t = none := by unfold prsNum; rw [if_pos (by omega), if_neg d1, if_neg q]
            rw [no, if_neg (fun h => q h.1)]; rfl
    · rw [fresh_stop h hs hc 0 0 18 (by omega) (by omega) (.inl d0)]
      have no : prsNum t = none := by unfold prsNum; rw [if_neg (by omega)]
      rw [no, if_neg]
      · rfl
      rintro ⟨_, e⟩
      exact empty _ _ (by omega) e
  · rw [if_neg hc]
    have key : spec_l1Fresh.j0 20 s pre.length true = some 0 := by
      simp only [spec_l1Fresh.j0]
      rw [if_pos trivial]
    by_cases g : (c : Int) < 65
    · rw [if_pos g]; exact key
    · rw [if_neg g, decide_eq_true (by omega)]; exact key
end
end Go.Proofs.YtnemchmiplbopaaDoor.Pure
