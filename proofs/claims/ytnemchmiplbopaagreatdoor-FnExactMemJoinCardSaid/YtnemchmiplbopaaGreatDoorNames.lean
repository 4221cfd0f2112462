/- Names of secrets as lists of bytes: how a name is written, that it is read back in one way, and what the printed functions on texts come to over such lists. Plain Lean; no program in sight. -/
import Derived.Test.YtnemchmiplbopaaGreatDoorWWords
namespace Go.Proofs.YtnemchmiplbopaaGreatDoor.Th
open Go.RowKit Go.Proofs.YtnemchmiplbopaaGreatDoorW.PrintWords

/-! ### bytes -/
/-- A text's bytes as numbers. -/
def B (s : ByteArray) : List Nat := s.data.toList.map (·.toNat)
/-- The text of bytes. -/
def T (l : List Nat) : ByteArray := ⟨(l.map UInt8.ofNat).toArray⟩

theorem B_length (s : ByteArray) : (B s).length = s.size := by
  unfold B
  rw [List.length_map]
  rfl
theorem B_lt (s : ByteArray) : ∀ x ∈ B s, x < 256 := by
  intro x hx
  simp only [B, List.mem_map] at hx
  obtain ⟨a, _, rfl⟩ := hx
  exact a.toNat_lt
theorem B_inj {a b : ByteArray} (h : B a = B b) : a = b := by
  have h1 : a.data.toList = b.data.toList := by
    exact (List.map_inj_right (fun _ _ h => UInt8.toNat_inj.1 h)).1 h
  cases a; cases b
  simp only [ByteArray.mk.injEq]
  exact Array.toList_inj.1 h1
theorem B_T {l : List Nat} (h : ∀ x ∈ l, x < 256) : B (T l) = l := by
  unfold B T
  simp only [List.map_map]
  conv => rhs; rw [← List.map_id l]
  apply List.map_congr_left
  intro x hx
  simp [Nat.mod_eq_of_lt (h x hx)]
theorem T_B (s : ByteArray) : T (B s) = s := by
  apply B_inj
  exact B_T (B_lt s)
theorem B_append (a b : ByteArray) : B (a ++ b) = B a ++ B b := by
  simp [B]
theorem B_nil : B (⟨#[]⟩ : ByteArray) = [] := rfl
theorem B_eq_nil {s : ByteArray} : B s = [] ↔ s = ⟨#[]⟩ := ⟨fun h => B_inj (h.trans B_nil.symm), fun h => by rw [h]; rfl⟩
theorem toList_data (s : ByteArray) : s.toList = s.data.toList := ByteArray.toList_eq s
theorem toList_eq {a b : ByteArray} : a.toList = b.toList ↔ a = b :=
  ⟨fun h => by
    rw [toList_data, toList_data] at h
    exact B_inj (by unfold B; rw [h]), fun h => by rw [h]⟩
theorem toList_nil {a : ByteArray} : a.toList = ([] : List UInt8) ↔ a = ⟨#[]⟩ := by
  have e : (⟨#[]⟩ : ByteArray).toList = [] := by rw [toList_data]
  constructor
  · intro h
    exact toList_eq.1 (h.trans e.symm)
  · intro h
    rw [h]; exact e
theorem B_extract (s : ByteArray) (i j : Nat) : B (s.extract i j) = ((B s).take j).drop i := by
  unfold B
  simp [List.map_drop, List.map_take, Array.toList_extract, List.extract_eq_drop_take']
theorem bt_B (s : ByteArray) (i : Int) : bt s i = ((B s).getD i.toNat 0 : Nat) := by
  unfold bt B
  split
  · rename_i h
    have h' : i.toNat < s.data.toList.length := h
    rw [List.getD_eq_getElem?_getD, List.getElem?_map, List.getElem?_eq_getElem h']
    rfl
  · rename_i h
    have h' : s.data.toList.length ≤ i.toNat := Nat.le_of_not_lt h
    rw [List.getD_eq_getElem?_getD, List.getElem?_map, List.getElem?_eq_none h']
    rfl

/-! ### names -/
inductive Nm where
  | new (w n : Nat)
  | next (a : Nm)
  | key (a : Nm)
  | epoch (a b : Nm)
  | say (w : Nat) (a : Nm)
  | room (r : Nat) (a : Nm)

def dec (n : Nat) : List Nat := if n < 10 then [48 + n] else [48 + n / 10, 48 + n % 10]
def Nm.enc : Nm → List Nat
  | .new w n => (65 + w) :: (dec n ++ [59])
  | .next a => 110 :: a.enc
  | .key a => 107 :: a.enc
  | .epoch a b => 101 :: (a.enc ++ b.enc)
  | .say w a => 109 :: (65 + w) :: a.enc
  | .room r a => 114 :: (48 + r) :: a.enc
def Nm.ok : Nm → Bool
  | .new w n => decide (w < 8) && decide (1 ≤ n) && decide (n ≤ 99)
  | .next a => a.ok
  | .key a => a.ok
  | .epoch a b => a.ok && b.ok
  | .say w a => decide (w < 8) && a.ok
  | .room r a => decide (1 ≤ r) && decide (r ≤ 9) && a.ok

/-- The number of a new secret, and what is behind its sign. -/
def prsNum (l : List Nat) : Option (Nat × List Nat) :=
  if 49 ≤ l.getD 0 0 ∧ l.getD 0 0 ≤ 57 then
    if 48 ≤ l.getD 1 0 ∧ l.getD 1 0 ≤ 57 then
      if l.getD 2 0 = 59 then some (10 * (l.getD 0 0 - 48) + (l.getD 1 0 - 48), l.drop 3) else none
    else if l.getD 1 0 = 59 then some (l.getD 0 0 - 48, l.drop 2) else none
  else none

/-- A name, and what is behind it. -/
def prs : Nat → List Nat → Option (Nm × List Nat)
  | 0, _ => none
  | _ + 1, [] => none
  | k + 1, c :: t =>
    if 65 ≤ c ∧ c ≤ 72 then (prsNum t).map fun p => (.new (c - 65) p.1, p.2)
    else if c = 110 then (prs k t).map fun p => (.next p.1, p.2)
    else if c = 107 then (prs k t).map fun p => (.key p.1, p.2)
    else if c = 101 then (prs k t).bind fun p => (prs k p.2).map fun q => (.epoch p.1 q.1, q.2)
    else if c = 109 then (if 65 ≤ t.getD 0 0 ∧ t.getD 0 0 ≤ 72 then (prs k (t.drop 1)).map fun p => (.say (t.getD 0 0 - 65) p.1, p.2) else none)
    else if c = 114 then (if 49 ≤ t.getD 0 0 ∧ t.getD 0 0 ≤ 57 then (prs k (t.drop 1)).map fun p => (.room (t.getD 0 0 - 48) p.1, p.2) else none)
    else none

theorem getD_cons_drop {l : List Nat} (i : Nat) (h : i < l.length) : l.drop i = l.getD i 0 :: l.drop (i + 1) := by
  rw [List.drop_eq_getElem_cons h, List.getD_eq_getElem?_getD, List.getElem?_eq_getElem h]
  rfl
theorem lt_of_getD {l : List Nat} {i : Nat} (h : 0 < l.getD i 0) : i < l.length := by
  rcases Nat.lt_or_ge i l.length with h1 | h1
  · exact h1
  · rw [List.getD_eq_getElem?_getD, List.getElem?_eq_none h1] at h
    simp at h

theorem dec_pos (n : Nat) : 0 < (dec n).length := by unfold dec; split <;> simp
theorem enc_pos (a : Nm) : 0 < a.enc.length := by cases a <;> simp [Nm.enc]
theorem enc_ne (a : Nm) : a.enc ≠ [] := fun h => by have := enc_pos a; rw [h] at this; simp at this

theorem prsNum_sound {l : List Nat} {n : Nat} {r : List Nat} (h : prsNum l = some (n, r)) : 1 ≤ n ∧ n ≤ 99 ∧ l = dec n ++ 59 :: r := by
  unfold prsNum at h
  split at h
  · rename_i h0
    split at h
    · rename_i h1
      split at h
      · rename_i h2
        simp only [Option.some.injEq, Prod.mk.injEq] at h
        obtain ⟨hn, hr⟩ := h
        have l2 : 2 < l.length := lt_of_getD (by omega)
        refine ⟨by omega, by omega, ?_⟩
        have e : l = l.getD 0 0 :: l.getD 1 0 :: l.getD 2 0 :: l.drop 3 := by
          rw [← getD_cons_drop 2 l2, ← getD_cons_drop 1 (by omega), ← getD_cons_drop 0 (by omega)]; rfl
        rw [e, ← hr, h2]
        unfold dec
        rw [if_neg (by omega)]
        simp only [List.cons_append, List.nil_append, List.cons.injEq, and_true]
        constructor <;> omega
      · exact absurd h (by simp)
    · split at h
      · rename_i h1
        simp only [Option.some.injEq, Prod.mk.injEq] at h
        obtain ⟨hn, hr⟩ := h
        have l2 : 1 < l.length := lt_of_getD (by omega)
        refine ⟨by omega, by omega, ?_⟩
        have e : l = l.getD 0 0 :: l.getD 1 0 :: l.drop 2 := by
          rw [← getD_cons_drop 1 l2, ← getD_cons_drop 0 (by omega)]; rfl
        rw [e, ← hr, h1]
        unfold dec
        rw [if_pos (by omega)]
        simp only [List.cons_append, List.nil_append, List.cons.injEq, and_true]
        omega
      · exact absurd h (by simp)
  · exact absurd h (by simp)

theorem prsNum_dec {n : Nat} (h1 : 1 ≤ n) (h2 : n ≤ 99) (r : List Nat) : prsNum (dec n ++ 59 :: r) = some (n, r) := by
  unfold prsNum dec
  by_cases h : n < 10
  · rw [if_pos h]
    simp
    omega
  · rw [if_neg h]
    simp only [List.cons_append, List.nil_append, List.getD_cons_zero, List.getD_cons_succ, List.drop_succ_cons, List.drop_zero]
    rw [if_pos (by omega), if_pos (by omega), if_pos trivial]
    simp only [Option.some.injEq, Prod.mk.injEq, and_true]
    omega

theorem prs_sound : ∀ (k : Nat) (l : List Nat) (a : Nm) (r : List Nat), prs k l = some (a, r) → a.ok = true ∧ l = a.enc ++ r := by
  intro k
  induction k with
  | zero => intro l a r h; simp [prs] at h
  | succ k ih =>
    intro l a r h
    cases l with
    | nil => simp [prs] at h
    | cons c t =>
      unfold prs at h
      split at h
      · rename_i h0
        obtain ⟨p, hp, he⟩ := Option.map_eq_some_iff.1 h
        obtain ⟨n, r'⟩ := p
        simp only [Prod.mk.injEq] at he
        obtain ⟨rfl, rfl⟩ := he
        obtain ⟨a1, a2, a3⟩ := prsNum_sound hp
        refine ⟨by simp [Nm.ok]; omega, ?_⟩
        rw [a3]
        simp only [Nm.enc, List.cons_append, List.append_assoc, List.nil_append, List.cons.injEq, and_true]
        omega
      split at h
      · obtain ⟨⟨p, r'⟩, hp, he⟩ := Option.map_eq_some_iff.1 h
        simp only [Prod.mk.injEq] at he
        obtain ⟨rfl, rfl⟩ := he
        obtain ⟨b1, b2⟩ := ih _ _ _ hp
        refine ⟨by simpa [Nm.ok] using b1, by subst_vars; simp [Nm.enc]⟩
      split at h
      · obtain ⟨⟨p, r'⟩, hp, he⟩ := Option.map_eq_some_iff.1 h
        simp only [Prod.mk.injEq] at he
        obtain ⟨rfl, rfl⟩ := he
        obtain ⟨b1, b2⟩ := ih _ _ _ hp
        refine ⟨by simpa [Nm.ok] using b1, by subst_vars; simp [Nm.enc]⟩
      split at h
      · obtain ⟨⟨p, r'⟩, hp, hq⟩ := Option.bind_eq_some_iff.1 h
        obtain ⟨⟨q, r''⟩, hq', he⟩ := Option.map_eq_some_iff.1 hq
        have hq' : prs k r' = some (q, r'') := hq'
        simp only [Prod.mk.injEq] at he
        obtain ⟨rfl, rfl⟩ := he
        obtain ⟨b1, b2⟩ := ih _ _ _ hp
        obtain ⟨c1, c2⟩ := ih _ _ _ hq'
        refine ⟨by simp [Nm.ok, b1, c1], ?_⟩
        rw [b2, c2]
        subst_vars
        simp [Nm.enc]
      split at h
      · split at h
        · rename_i h0
          obtain ⟨⟨p, r'⟩, hp, he⟩ := Option.map_eq_some_iff.1 h
          simp only [Prod.mk.injEq] at he
          obtain ⟨rfl, rfl⟩ := he
          obtain ⟨b1, b2⟩ := ih _ _ _ hp
          have l0 : 0 < t.length := lt_of_getD (by omega)
          have e : t = t.getD 0 0 :: t.drop 1 := (getD_cons_drop 0 l0)
          refine ⟨by simp only [Nm.ok, b1, Bool.and_true, decide_eq_true_eq]; omega, ?_⟩
          subst_vars
          rw [Nm.enc]
          conv => lhs; rw [e, b2]
          simp only [List.cons_append, List.cons.injEq, and_true, true_and]
          omega
        · exact absurd h (by simp)
      split at h
      · split at h
        · rename_i h0
          obtain ⟨⟨p, r'⟩, hp, he⟩ := Option.map_eq_some_iff.1 h
          simp only [Prod.mk.injEq] at he
          obtain ⟨rfl, rfl⟩ := he
          obtain ⟨b1, b2⟩ := ih _ _ _ hp
          have l0 : 0 < t.length := lt_of_getD (by omega)
          have e : t = t.getD 0 0 :: t.drop 1 := (getD_cons_drop 0 l0)
          refine ⟨by simp only [Nm.ok, b1, Bool.and_true, Bool.and_eq_true, decide_eq_true_eq]; omega, ?_⟩
          subst_vars
          rw [Nm.enc]
          conv => lhs; rw [e, b2]
          simp only [List.cons_append, List.cons.injEq, and_true, true_and]
          omega
        · exact absurd h (by simp)
      · exact absurd h (by simp)

theorem prs_enc : ∀ (a : Nm) (k : Nat) (r : List Nat), a.ok = true → a.enc.length ≤ k → prs k (a.enc ++ r) = some (a, r) := by
  intro a
  induction a with
  | new w n =>
    intro k r h hk
    simp only [Nm.ok, Bool.and_eq_true, decide_eq_true_eq] at h
    obtain ⟨k, rfl⟩ : ∃ m, k = m + 1 := ⟨k - 1, by simp [Nm.enc] at hk; omega⟩
    simp only [Nm.enc, List.cons_append, List.append_assoc, List.nil_append, prs]
    rw [if_pos (by omega), prsNum_dec h.1.2 h.2]
    simp
  | next a ih =>
    intro k r h hk
    simp only [Nm.enc, List.length_cons] at hk
    obtain ⟨k, rfl⟩ : ∃ m, k = m + 1 := ⟨k - 1, by omega⟩
    simp only [Nm.enc, List.cons_append, prs]
    rw [if_neg (by omega), if_pos trivial, ih k r h (by omega)]
    rfl
  | key a ih =>
    intro k r h hk
    simp only [Nm.enc, List.length_cons] at hk
    obtain ⟨k, rfl⟩ : ∃ m, k = m + 1 := ⟨k - 1, by omega⟩
    simp only [Nm.enc, List.cons_append, prs]
    rw [if_neg (by omega), if_neg (by omega), if_pos trivial, ih k r h (by omega)]
    rfl
  | epoch a b iha ihb =>
    intro k r h hk
    simp only [Nm.ok, Bool.and_eq_true] at h
    simp only [Nm.enc, List.length_cons, List.length_append] at hk
    obtain ⟨k, rfl⟩ : ∃ m, k = m + 1 := ⟨k - 1, by omega⟩
    simp only [Nm.enc, List.cons_append, prs, List.append_assoc]
    rw [if_neg (by omega), if_neg (by omega), if_neg (by omega), if_pos trivial, iha k _ h.1 (by omega)]
    simp only [Option.bind_some]
    rw [ihb k r h.2 (by omega)]
    rfl
  | say w a ih =>
    intro k r h hk
    simp only [Nm.ok, Bool.and_eq_true, decide_eq_true_eq] at h
    simp only [Nm.enc, List.length_cons] at hk
    obtain ⟨k, rfl⟩ : ∃ m, k = m + 1 := ⟨k - 1, by omega⟩
    simp only [Nm.enc, List.cons_append, prs, List.getD_cons_zero, List.drop_succ_cons, List.drop_zero]
    rw [if_neg (by omega), if_neg (by omega), if_neg (by omega), if_neg (by omega), if_pos trivial, if_pos (by omega), ih k r h.2 (by omega)]
    simp
  | room w a ih =>
    intro k r h hk
    simp only [Nm.ok, Bool.and_eq_true, decide_eq_true_eq] at h
    simp only [Nm.enc, List.length_cons] at hk
    obtain ⟨k, rfl⟩ : ∃ m, k = m + 1 := ⟨k - 1, by omega⟩
    simp only [Nm.enc, List.cons_append, prs, List.getD_cons_zero, List.drop_succ_cons, List.drop_zero]
    rw [if_neg (by omega), if_neg (by omega), if_neg (by omega), if_neg (by omega), if_neg (by omega), if_pos trivial, if_pos (by omega), ih k r h.2 (by omega)]
    simp

/-- A name is read in one way. -/
theorem enc_inj {a b : Nm} {x y : List Nat} (ha : a.ok = true) (hb : b.ok = true) (h : a.enc ++ x = b.enc ++ y) : a = b ∧ x = y := by
  have h1 := prs_enc a (a.enc.length + b.enc.length) x ha (by omega)
  have h2 := prs_enc b (a.enc.length + b.enc.length) y hb (by omega)
  rw [h, h2] at h1
  simp only [Option.some.injEq, Prod.mk.injEq] at h1
  exact ⟨h1.1.symm, h1.2.symm⟩
/-- Enough rounds: no name is longer than its text. -/
theorem prs_more {k k' : Nat} {l : List Nat} (h : l.length ≤ k) (h' : l.length ≤ k') : prs k l = prs k' l := by
  cases e : prs k l with
  | some p =>
    obtain ⟨a, r⟩ := p
    obtain ⟨h1, h2⟩ := prs_sound _ _ _ _ e
    rw [h2, prs_enc a k' r h1 (by rw [h2] at h'; simp at h'; omega)]
  | none =>
    cases e' : prs k' l with
    | none => rfl
    | some p =>
      obtain ⟨a, r⟩ := p
      obtain ⟨h1, h2⟩ := prs_sound _ _ _ _ e'
      rw [h2, prs_enc a k r h1 (by rw [h2] at h; simp at h; omega)] at e
      exact absurd e (by simp)
/-- What is read at a text's head. -/
def hd (l : List Nat) : Option (Nm × List Nat) := prs l.length l
theorem hd_prs {k : Nat} {l : List Nat} (h : l.length ≤ k) : prs k l = hd l := prs_more h (Nat.le_refl _)
theorem hd_sound {l : List Nat} {a : Nm} {r : List Nat} (h : hd l = some (a, r)) : a.ok = true ∧ l = a.enc ++ r := prs_sound _ _ _ _ h
theorem hd_enc {a : Nm} (h : a.ok = true) (r : List Nat) : hd (a.enc ++ r) = some (a, r) := prs_enc a _ r h (by simp)
theorem hd_nil : hd [] = none := rfl
theorem hd_none {l : List Nat} (h : hd l = none) : ∀ (a : Nm) (r : List Nat), a.ok = true → l ≠ a.enc ++ r := by
  intro a r ha e
  rw [e, hd_enc ha] at h
  exact absurd h (by simp)
theorem hd_cons (c : Nat) (t : List Nat) : hd (c :: t) =
    if 65 ≤ c ∧ c ≤ 72 then (prsNum t).map fun p => (.new (c - 65) p.1, p.2)
    else if c = 110 then (hd t).map fun p => (.next p.1, p.2)
    else if c = 107 then (hd t).map fun p => (.key p.1, p.2)
    else if c = 101 then (hd t).bind fun p => (hd p.2).map fun q => (.epoch p.1 q.1, q.2)
    else if c = 109 then (if 65 ≤ t.getD 0 0 ∧ t.getD 0 0 ≤ 72 then (hd (t.drop 1)).map fun p => (.say (t.getD 0 0 - 65) p.1, p.2) else none)
    else if c = 114 then (if 49 ≤ t.getD 0 0 ∧ t.getD 0 0 ≤ 57 then (hd (t.drop 1)).map fun p => (.room (t.getD 0 0 - 48) p.1, p.2) else none)
    else none := by
  unfold hd
  rw [show (c :: t).length = t.length + 1 from rfl]
  simp only [prs]
  rw [prs_more (k := t.length) (k' := (t.drop 1).length) (l := t.drop 1) (by simp) (Nat.le_refl _)]
  congr 1
  congr 1
  congr 1
  congr 1
  cases e : prs t.length t with
  | none => rfl
  | some p =>
    obtain ⟨a, r⟩ := p
    simp only [Option.bind_some]
    obtain ⟨h1, h2⟩ := prs_sound _ _ _ _ e
    rw [prs_more (k := t.length) (k' := r.length) (l := r) (by rw [h2]; simp) (Nat.le_refl _)]

/-- The name that a whole text is. -/
def whole (l : List Nat) : Option Nm := match hd l with
  | some (a, []) => some a
  | _ => none
theorem whole_some {l : List Nat} {a : Nm} : whole l = some a ↔ a.ok = true ∧ l = a.enc := by
  unfold whole
  constructor
  · intro h
    split at h
    · rename_i b e
      obtain rfl := Option.some.inj h
      obtain ⟨h1, h2⟩ := hd_sound e
      exact ⟨h1, by simpa using h2⟩
    · exact absurd h (by simp)
  · rintro ⟨h1, rfl⟩
    have := hd_enc h1 []
    rw [List.append_nil] at this
    rw [this]
theorem enc_lt : ∀ (a : Nm), a.ok = true → ∀ x ∈ a.enc, x < 256 := by
  intro a
  induction a with
  | new w n =>
    intro h x hx
    simp only [Nm.ok, Bool.and_eq_true, decide_eq_true_eq] at h
    simp only [Nm.enc, dec, List.mem_cons, List.mem_append, List.not_mem_nil, or_false] at hx
    split at hx <;> simp at hx <;> omega
  | next a ih =>
    intro h x hx
    simp only [Nm.enc, List.mem_cons] at hx
    rcases hx with rfl | hx
    · omega
    · exact ih h x hx
  | key a ih =>
    intro h x hx
    simp only [Nm.enc, List.mem_cons] at hx
    rcases hx with rfl | hx
    · omega
    · exact ih h x hx
  | epoch a b iha ihb =>
    intro h x hx
    simp only [Nm.ok, Bool.and_eq_true] at h
    simp only [Nm.enc, List.mem_cons, List.mem_append] at hx
    rcases hx with rfl | hx | hx
    · omega
    · exact iha h.1 x hx
    · exact ihb h.2 x hx
  | say w a ih =>
    intro h x hx
    simp only [Nm.ok, Bool.and_eq_true, decide_eq_true_eq] at h
    simp only [Nm.enc, List.mem_cons] at hx
    rcases hx with rfl | rfl | hx
    · omega
    · omega
    · exact ih h.2 x hx
  | room w a ih =>
    intro h x hx
    simp only [Nm.ok, Bool.and_eq_true, decide_eq_true_eq] at h
    simp only [Nm.enc, List.mem_cons] at hx
    rcases hx with rfl | rfl | hx
    · omega
    · omega
    · exact ih h.2 x hx

/-! ### what a text tells -/
/-- How a secret was made: its number, who, the number told, and the names that it was made from. -/
def Nm.op : Nm → Int
  | .new _ _ => 1
  | .next _ => 2
  | .key _ => 3
  | .epoch _ _ => 4
  | .say _ _ => 5
  | .room _ _ => 6
def Nm.who : Nm → Int
  | .new w _ => w
  | .say w _ => w
  | _ => 0
def Nm.num : Nm → Int
  | .new _ n => n
  | .room r _ => r
  | _ => 0
def Nm.fst : Nm → List Nat
  | .new _ _ => []
  | .next a => a.enc
  | .key a => a.enc
  | .epoch a _ => a.enc
  | .say _ a => a.enc
  | .room _ a => a.enc
def Nm.snd : Nm → List Nat
  | .epoch _ b => b.enc
  | _ => []
/-- The name that a text is, if it is one that is not too long. -/
def nm (s : ByteArray) : Option Nm := if s.size ≤ 300 then whole (B s) else none
theorem nm_some {s : ByteArray} {a : Nm} : nm s = some a ↔ a.ok = true ∧ s.size ≤ 300 ∧ s = T a.enc := by
  unfold nm
  constructor
  · intro h
    split at h
    · rename_i hs
      obtain ⟨h1, h2⟩ := whole_some.1 h
      exact ⟨h1, hs, B_inj (by rw [B_T (enc_lt a h1)]; exact h2)⟩
    · exact absurd h (by simp)
  · rintro ⟨h1, h2, rfl⟩
    rw [if_pos h2]
    exact whole_some.2 ⟨h1, B_T (enc_lt a h1)⟩
theorem T_size (l : List Nat) : (T l).size = l.length := by simp [T, ByteArray.size]
theorem nm_T {a : Nm} (h : a.ok = true) (hl : a.enc.length ≤ 300) : nm (T a.enc) = some a := nm_some.2 ⟨h, by rw [T_size]; exact hl, rfl⟩
theorem T_inj {a b : Nm} (ha : a.ok = true) (hb : b.ok = true) (h : T a.enc = T b.enc) : a = b := by
  have := congrArg B h
  rw [B_T (enc_lt a ha), B_T (enc_lt b hb)] at this
  exact (enc_inj ha hb (x := []) (y := []) (by simpa using this)).1
end Go.Proofs.YtnemchmiplbopaaGreatDoor.Th
