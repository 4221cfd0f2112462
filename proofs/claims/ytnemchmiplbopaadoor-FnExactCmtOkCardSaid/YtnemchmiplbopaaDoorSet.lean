/- What can be known, behind all boxes that can be opened: lists of texts, boxes as pairs of a key and what is in it. Plain Lean. A set of texts (map[string]bool) in a block: what it holds is a list; it is asked, and put into, at the operation. -/
import Derived.Test.YtnemchmiplbopaaDoorNames
import Derived.Maps.OwnSet
import Derived.Below
import Derived.Deep.Draws
import Derived.StringKeys
import Derived.Maps.Views
namespace Go.Proofs.YtnemchmiplbopaaDoor.Th
section
def hasB (l : List ByteArray) (s : ByteArray) : Bool := l.any fun x => x.data.toList == s.data.toList
theorem data_eq {a b : ByteArray} (h : a.data.toList = b.data.toList) : a = b := by
  cases a; cases b
  simp only [ByteArray.mk.injEq]
  exact Array.toList_inj.1 h
theorem hasB_iff {l : List ByteArray} {s : ByteArray} : hasB l s = true ↔ s ∈ l := by
  unfold hasB
  rw [List.any_eq_true]
  constructor
  · rintro ⟨x, hx, he⟩
    rw [beq_iff_eq] at he
    rw [← data_eq he]; exact hx
  · intro h
    exact ⟨s, h, by simp⟩
theorem hasB_no {l : List ByteArray} {s : ByteArray} : hasB l s = false ↔ s ∉ l := by
  rw [← hasB_iff, Bool.not_eq_true]
theorem hasB_congr {l l' : List ByteArray} (h : ∀ x, x ∈ l ↔ x ∈ l') (s : ByteArray) : hasB l s = hasB l' s := by
  rw [Bool.eq_iff_iff, hasB_iff, hasB_iff, h]
def putB (o : List ByteArray) (s : ByteArray) : List ByteArray := if hasB o s then o else o ++ [s]
def dedup (l : List ByteArray) : List ByteArray := l.foldl putB []
theorem putB_mem {o : List ByteArray} {s x : ByteArray} : x ∈ putB o s ↔ x ∈ o ∨ x = s := by
  unfold putB
  split
  · rename_i h
    have := hasB_iff.1 h
    constructor
    · exact .inl
    · rintro (h1 | rfl) <;> assumption
  · simp
theorem putB_nodup {o : List ByteArray} {s : ByteArray} (h : o.Nodup) : (putB o s).Nodup := by
  unfold putB
  split
  · exact h
  · rename_i hn
    have := hasB_no.1 (Bool.eq_false_iff.2 hn)
    rw [List.nodup_append]
    refine ⟨h, by simp, ?_⟩
    intro a ha b hb
    rw [List.mem_singleton] at hb
    subst hb
    rintro rfl
    exact this ha
theorem putB_length {o : List ByteArray} {s : ByteArray} : o.length ≤ (putB o s).length := by
  unfold putB; split <;> simp
theorem fold_put_mem : ∀ (l o : List ByteArray) (x : ByteArray), x ∈ l.foldl putB o ↔ x ∈ o ∨ x ∈ l := by
  intro l
  induction l with
  | nil => intro o x; simp
  | cons a l ih =>
    intro o x
    rw [List.foldl_cons, ih, putB_mem, List.mem_cons, or_assoc]
theorem fold_put_nodup : ∀ (l o : List ByteArray), o.Nodup → (l.foldl putB o).Nodup := by
  intro l
  induction l with
  | nil => intro o h; exact h
  | cons a l ih => intro o h; exact ih _ (putB_nodup h)
theorem dedup_mem {l : List ByteArray} {x : ByteArray} : x ∈ dedup l ↔ x ∈ l := by
  unfold dedup; rw [fold_put_mem]; simp
theorem dedup_nodup (l : List ByteArray) : (dedup l).Nodup := fold_put_nodup l [] List.nodup_nil
theorem fold_put_known : ∀ (l o : List ByteArray), (∀ x ∈ l, x ∈ o) → l.foldl putB o = o := by
  intro l
  induction l with
  | nil => intro o h; rfl
  | cons a l ih =>
    intro o h
    have e : putB o a = o := if_pos (hasB_iff.2 (h a (by simp)))
    rw [List.foldl_cons, e]
    exact ih o fun x hx => h x (by simp [hx])
theorem dedup_twice (l : List ByteArray) : dedup (l ++ l) = dedup l := by
  unfold dedup
  rw [List.foldl_append]
  exact fold_put_known l _ fun x hx => (fold_put_mem l [] x).2 (.inr hx)
theorem fold_put_new : ∀ (l o : List ByteArray), (o ++ l).Nodup → l.foldl putB o = o ++ l := by
  intro l
  induction l with
  | nil => intro o h; simp
  | cons a l ih =>
    intro o h
    have hn : a ∉ o := by
      intro hm
      rw [List.nodup_append] at h
      exact h.2.2 a hm a (by simp) rfl
    have e : putB o a = o ++ [a] := if_neg (by rw [hasB_no.2 hn]; decide)
    rw [List.foldl_cons, e, ih _ (by simpa using h)]
    simp
theorem dedup_self {l : List ByteArray} (h : l.Nodup) : dedup l = l := by
  unfold dedup
  rw [fold_put_new l [] (by simpa using h)]
  rfl
theorem dedup_length_le : ∀ (l o : List ByteArray), (l.foldl putB o).length ≤ o.length + l.length := by
  intro l
  induction l with
  | nil => intro o; simp
  | cons a l ih =>
    intro o
    have := ih (putB o a)
    have h2 : (putB o a).length ≤ o.length + 1 := by unfold putB; split <;> simp
    simp only [List.foldl_cons, List.length_cons]
    omega

section
variable (mk : List ByteArray → ByteArray → Bool)
def boxB (o : List ByteArray) (b : ByteArray × ByteArray) : List ByteArray := if !hasB o b.2 && mk o b.1 then o ++ [b.2] else o
def roundB (boxes : List (ByteArray × ByteArray)) (o : List ByteArray) : List ByteArray := boxes.foldl (boxB mk) o
def opnB (boxes : List (ByteArray × ByteArray)) : Nat → List ByteArray → List ByteArray
  | 0, o => o
  | n + 1, o => if o.length < (roundB mk boxes o).length then opnB boxes n (roundB mk boxes o) else o
def openB (known : List ByteArray) (boxes : List (ByteArray × ByteArray)) : List ByteArray := opnB mk boxes (boxes.length + 1) (dedup known)
/-- Nothing more can be opened. -/
def Done (boxes : List (ByteArray × ByteArray)) (o : List ByteArray) : Prop := ∀ b ∈ boxes, mk o b.1 = true → b.2 ∈ o
variable {mk}
theorem boxB_pre (o : List ByteArray) (b : ByteArray × ByteArray) : ∃ r, boxB mk o b = o ++ r := by
  unfold boxB
  split
  · exact ⟨_, rfl⟩
  · exact ⟨[], by simp⟩
theorem fold_box_pre : ∀ (bs : List (ByteArray × ByteArray)) (o : List ByteArray), ∃ r, bs.foldl (boxB mk) o = o ++ r := by
  intro bs
  induction bs with
  | nil => intro o; exact ⟨[], by simp⟩
  | cons b bs ih =>
    intro o
    obtain ⟨r, e⟩ := boxB_pre (mk := mk) o b
    obtain ⟨r2, e2⟩ := ih (boxB mk o b)
    exact ⟨r ++ r2, by rw [List.foldl_cons, e2, e, List.append_assoc]⟩
theorem round_pre (bs : List (ByteArray × ByteArray)) (o : List ByteArray) : ∃ r, roundB mk bs o = o ++ r := fold_box_pre bs o
theorem round_same {bs : List (ByteArray × ByteArray)} {o : List ByteArray} (h : ¬ o.length < (roundB mk bs o).length) : roundB mk bs o = o := by
  obtain ⟨r, e⟩ := round_pre (mk := mk) bs o
  rw [e] at h ⊢
  simp only [List.length_append] at h
  have : r = [] := List.eq_nil_of_length_eq_zero (by omega)
  rw [this, List.append_nil]
theorem boxB_nodup {o : List ByteArray} {b : ByteArray × ByteArray} (h : o.Nodup) : (boxB mk o b).Nodup := by
  unfold boxB
  split
  · rename_i hc
    simp only [Bool.and_eq_true, Bool.not_eq_true'] at hc
    have := putB_nodup (s := b.2) h
    unfold putB at this
    rwa [if_neg (by rw [hc.1]; decide)] at this
  · exact h
theorem fold_box_nodup : ∀ (bs : List (ByteArray × ByteArray)) (o : List ByteArray), o.Nodup → (bs.foldl (boxB mk) o).Nodup := by
  intro bs
  induction bs with
  | nil => intro o h; exact h
  | cons b bs ih => intro o h; exact ih _ (boxB_nodup h)
/-- How many boxes hold what is not known. -/
def left (bs : List (ByteArray × ByteArray)) (o : List ByteArray) : Nat := (bs.filter fun b => !hasB o b.2).length
theorem left_le (bs : List (ByteArray × ByteArray)) (o : List ByteArray) : left bs o ≤ bs.length := List.length_filter_le _ _
theorem filter_len_le {α : Type} (p q : α → Bool) (h : ∀ x, q x = true → p x = true) : ∀ l : List α, (l.filter q).length ≤ (l.filter p).length := by
  intro l
  induction l with
  | nil => simp
  | cons a l ih =>
    rw [List.filter_cons, List.filter_cons]
    by_cases hq : q a = true
    · rw [if_pos hq, if_pos (h a hq)]; simpa using ih
    · rw [if_neg hq]
      split
      · simp; omega
      · exact ih
theorem filter_len_lt {α : Type} (p q : α → Bool) (h : ∀ x, q x = true → p x = true) : ∀ (l : List α) (a : α), a ∈ l → p a = true → q a = false → (l.filter q).length < (l.filter p).length := by
  intro l
  induction l with
  | nil => intro a ha; simp at ha
  | cons b l ih =>
    intro a ha hp hq
    rw [List.filter_cons, List.filter_cons]
    rcases List.mem_cons.1 ha with rfl | ha
    · rw [if_pos hp, if_neg (by rw [hq]; decide)]
      have := filter_len_le p q h l
      simp; omega
    · have := ih a ha hp hq
      by_cases hb : q b = true
      · rw [if_pos hb, if_pos (h b hb)]; simpa using this
      · rw [if_neg hb]
        split
        · simp; omega
        · exact this
theorem left_grow {bs : List (ByteArray × ByteArray)} {o o' : List ByteArray} (h : ∀ x ∈ o, x ∈ o') : left bs o' ≤ left bs o := by
  refine filter_len_le _ _ (fun b hb => ?_) bs
  rw [Bool.not_eq_true', hasB_no] at hb ⊢
  exact fun hc => hb (h _ hc)
/-- Behind a round that found more there is one at least less. -/
theorem fold_left (all : List (ByteArray × ByteArray)) : ∀ (bs : List (ByteArray × ByteArray)) (o : List ByteArray), (∀ b ∈ bs, b ∈ all) → o.length < (bs.foldl (boxB mk) o).length → left all (bs.foldl (boxB mk) o) < left all o := by
  intro bs
  induction bs with
  | nil => intro o _ h; simp at h
  | cons b bs ih =>
    intro o ha h
    rw [List.foldl_cons] at h ⊢
    by_cases hc : (!hasB o b.2 && mk o b.1) = true
    · have e : boxB mk o b = o ++ [b.2] := if_pos hc
      simp only [Bool.and_eq_true, Bool.not_eq_true'] at hc
      obtain ⟨r, er⟩ := fold_box_pre (mk := mk) bs (boxB mk o b)
      refine Nat.lt_of_le_of_lt (left_grow (o := boxB mk o b) (fun x hx => by rw [er]; exact List.mem_append_left _ hx)) ?_
      refine filter_len_lt _ _ (fun x hx => ?_) all b (ha b (by simp)) (by rw [hc.1]; rfl) (by rw [e, hasB_iff.2 (by simp)]; rfl)
      rw [Bool.not_eq_true', hasB_no] at hx ⊢
      exact fun hm => hx (by rw [e]; exact List.mem_append_left _ hm)
    · have e : boxB mk o b = o := if_neg hc
      rw [e] at h ⊢
      exact ih o (fun x hx => ha x (by simp [hx])) h
theorem round_left {bs : List (ByteArray × ByteArray)} {o : List ByteArray} (h : o.length < (roundB mk bs o).length) : left bs (roundB mk bs o) < left bs o := fold_left bs bs o (fun _ h => h) h
theorem opn_fix (bs : List (ByteArray × ByteArray)) : ∀ (n : Nat) (o : List ByteArray), left bs o < n → roundB mk bs (opnB mk bs n o) = opnB mk bs n o := by
  intro n
  induction n with
  | zero => intro o h; omega
  | succ n ih =>
    intro o h
    unfold opnB
    split
    · rename_i hc
      exact ih _ (by have := round_left hc; omega)
    · rename_i hc
      exact round_same hc
/-- Enough rounds: more make no difference. -/
theorem opn_more (bs : List (ByteArray × ByteArray)) : ∀ (n m : Nat) (o : List ByteArray), left bs o < n → left bs o < m → opnB mk bs n o = opnB mk bs m o := by
  intro n
  induction n with
  | zero => intro m o h; omega
  | succ n ih =>
    intro m o h h'
    obtain ⟨m, rfl⟩ : ∃ k, m = k + 1 := ⟨m - 1, by omega⟩
    unfold opnB
    split
    · rename_i hc
      have := round_left hc
      exact ih m _ (by omega) (by omega)
    · rfl
theorem opn_inv (bs : List (ByteArray × ByteArray)) (I : List ByteArray → Prop) (hI : ∀ o, I o → I (roundB mk bs o)) : ∀ (n : Nat) (o : List ByteArray), I o → I (opnB mk bs n o) := by
  intro n
  induction n with
  | zero => intro o h; exact h
  | succ n ih =>
    intro o h
    unfold opnB
    split
    · exact ih _ (hI _ h)
    · exact h
theorem fold_inv (I : List ByteArray → Prop) : ∀ (bs : List (ByteArray × ByteArray)), (∀ o, ∀ b ∈ bs, I o → I (boxB mk o b)) → ∀ o, I o → I (bs.foldl (boxB mk) o) := by
  intro bs
  induction bs with
  | nil => intro _ o h; exact h
  | cons b bs ih => intro hb o h; exact ih (fun o c hc => hb o c (by simp [hc])) _ (hb o b (by simp) h)
theorem open_inv {known : List ByteArray} {bs : List (ByteArray × ByteArray)} (I : List ByteArray → Prop) (h0 : I (dedup known)) (hb : ∀ o, ∀ b ∈ bs, I o → I (boxB mk o b)) : I (openB mk known bs) :=
  opn_inv bs I (fun o h => fold_inv I bs hb o h) _ _ h0
theorem open_nodup (known : List ByteArray) (bs : List (ByteArray × ByteArray)) : (openB mk known bs).Nodup :=
  open_inv _ (dedup_nodup known) fun _ _ _ h => boxB_nodup h
theorem open_known {known : List ByteArray} {bs : List (ByteArray × ByteArray)} {x : ByteArray} (h : x ∈ known) : x ∈ openB mk known bs :=
  open_inv (fun o => x ∈ o) (dedup_mem.2 h) fun o b _ hx => by obtain ⟨r, e⟩ := boxB_pre (mk := mk) o b; rw [e]; exact List.mem_append_left _ hx
theorem round_eq_done {bs : List (ByteArray × ByteArray)} : ∀ {o : List ByteArray}, roundB mk bs o = o → ∀ b ∈ bs, mk o b.1 = true → b.2 ∈ o := by
  unfold roundB
  induction bs with
  | nil => intro o _ b hb; simp at hb
  | cons c bs ih =>
    intro o h b hb hk
    rw [List.foldl_cons] at h
    obtain ⟨r, e⟩ := boxB_pre (mk := mk) o c
    obtain ⟨r2, e2⟩ := fold_box_pre (mk := mk) bs (boxB mk o c)
    have hl : (o ++ r ++ r2).length = o.length := by rw [← e, ← e2, h]
    simp only [List.length_append] at hl
    have : r = [] := List.eq_nil_of_length_eq_zero (by omega)
    rw [this, List.append_nil] at e
    rw [e] at h
    rcases List.mem_cons.1 hb with rfl | hb
    · by_cases hh : hasB o b.2 = true
      · exact hasB_iff.1 hh
      · exfalso
        have e3 : boxB mk o b = o ++ [b.2] := if_pos (by rw [Bool.eq_false_iff.2 hh, hk]; rfl)
        rw [e3] at e
        have := congrArg List.length e
        simp at this
    · exact ih h b hb hk
theorem open_fix (known : List ByteArray) (bs : List (ByteArray × ByteArray)) : roundB mk bs (openB mk known bs) = openB mk known bs := opn_fix bs _ _ (by have := left_le bs (dedup known); omega)
theorem open_done (known : List ByteArray) (bs : List (ByteArray × ByteArray)) : Done mk bs (openB mk known bs) := round_eq_done (open_fix known bs)
/-- Opened once more nothing more is known. -/
theorem open_again (known : List ByteArray) (bs : List (ByteArray × ByteArray)) : openB mk (openB mk known bs) bs = openB mk known bs := by
  have hf := open_fix (mk := mk) known bs
  have hd := dedup_self (open_nodup (mk := mk) known bs)
  generalize openB mk known bs = o at *
  unfold openB
  rw [hd]
  unfold opnB
  rw [hf, if_neg (Nat.lt_irrefl _)]
theorem open_twice (known : List ByteArray) (bs : List (ByteArray × ByteArray)) : openB mk (known ++ known) bs = openB mk known bs := by
  unfold openB
  rw [dedup_twice]
/-- Whatever holds what is known, and of which no box opens more, holds all that is opened. -/
theorem open_least {known : List ByteArray} {bs : List (ByteArray × ByteArray)} (hm : ∀ o o' : List ByteArray, (∀ x ∈ o, x ∈ o') → ∀ s, mk o s = true → mk o' s = true) {S : List ByteArray} (hk : ∀ x ∈ known, x ∈ S) (hd : Done mk bs S) : ∀ x ∈ openB mk known bs, x ∈ S := by
  refine open_inv (fun o => ∀ x ∈ o, x ∈ S) (fun x hx => hk x (dedup_mem.1 hx)) fun o b hb h x hx => ?_
  unfold boxB at hx
  split at hx
  · rename_i hc
    simp only [Bool.and_eq_true, Bool.not_eq_true'] at hc
    rcases List.mem_append.1 hx with hx | hx
    · exact h x hx
    · rw [List.mem_singleton] at hx
      subst hx
      exact hd b hb (hm o S h _ hc.2)
  · exact h x hx
theorem open_mono {known known' : List ByteArray} {bs bs' : List (ByteArray × ByteArray)} (hm : ∀ o o' : List ByteArray, (∀ x ∈ o, x ∈ o') → ∀ s, mk o s = true → mk o' s = true) (hk : ∀ x ∈ known, x ∈ known') (hb : ∀ b ∈ bs, b ∈ bs') : ∀ x ∈ openB mk known bs, x ∈ openB mk known' bs' :=
  open_least hm (fun x hx => open_known (hk x hx)) fun b hb' => open_done known' bs' b (hb b hb')
/-- What is opened was known, or lay in a box whose key can be made of what is opened. -/
theorem open_told {known : List ByteArray} {bs : List (ByteArray × ByteArray)} (hm : ∀ o o' : List ByteArray, (∀ x ∈ o, x ∈ o') → ∀ s, mk o s = true → mk o' s = true) : ∀ x ∈ openB mk known bs, x ∈ known ∨ ∃ b ∈ bs, b.2 = x ∧ mk (openB mk known bs) b.1 = true := by
  have key : ∀ n o, (∀ x ∈ o, x ∈ known ∨ ∃ b ∈ bs, b.2 = x ∧ mk o b.1 = true) → ∀ x ∈ opnB mk bs n o, x ∈ known ∨ ∃ b ∈ bs, b.2 = x ∧ mk (opnB mk bs n o) b.1 = true := by
    intro n o h
    refine opn_inv bs (fun o => ∀ x ∈ o, x ∈ known ∨ ∃ b ∈ bs, b.2 = x ∧ mk o b.1 = true) (fun o h => ?_) n o h
    refine fold_inv (fun o => ∀ x ∈ o, x ∈ known ∨ ∃ b ∈ bs, b.2 = x ∧ mk o b.1 = true) bs (fun o b hb h x hx => ?_) o h
    obtain ⟨r, e⟩ := boxB_pre (mk := mk) o b
    have up : ∀ s, mk o s = true → mk (boxB mk o b) s = true := hm _ _ (fun x hx => by rw [e]; exact List.mem_append_left _ hx)
    have old : x ∈ o → x ∈ known ∨ ∃ c ∈ bs, c.2 = x ∧ mk (boxB mk o b) c.1 = true := fun hx => by
      rcases h x hx with h1 | ⟨c, h1, h2, h3⟩
      · exact .inl h1
      · exact .inr ⟨c, h1, h2, up _ h3⟩
    by_cases hc : (!hasB o b.2 && mk o b.1) = true
    · have e3 : boxB mk o b = o ++ [b.2] := if_pos hc
      simp only [Bool.and_eq_true, Bool.not_eq_true'] at hc
      have hx' := hx
      rw [e3] at hx'
      rcases List.mem_append.1 hx' with hx' | hx'
      · exact old hx'
      · rw [List.mem_singleton] at hx'
        exact .inr ⟨b, hb, hx'.symm, up _ hc.2⟩
    · have e3 : boxB mk o b = o := if_neg hc
      exact old (by rw [e3] at hx; exact hx)
  exact key _ _ fun x hx => .inl (dedup_mem.1 hx)
theorem open_congr {known known' : List ByteArray} {bs bs' : List (ByteArray × ByteArray)} (hm : ∀ o o' : List ByteArray, (∀ x ∈ o, x ∈ o') → ∀ s, mk o s = true → mk o' s = true) (hk : ∀ x, x ∈ known ↔ x ∈ known') (hb : ∀ b, b ∈ bs ↔ b ∈ bs') (x : ByteArray) : x ∈ openB mk known bs ↔ x ∈ openB mk known' bs' :=
  ⟨open_mono hm (fun x h => (hk x).1 h) (fun b h => (hb b).1 h) x, open_mono hm (fun x h => (hk x).2 h) (fun b h => (hb b).2 h) x⟩
theorem open_length (known : List ByteArray) (bs : List (ByteArray × ByteArray)) : (openB mk known bs).length ≤ known.length + bs.length := by
  have key : ∀ n o, (opnB mk bs n o).length + left bs (opnB mk bs n o) ≤ o.length + left bs o := by
    intro n
    induction n with
    | zero => intro o; exact Nat.le_refl _
    | succ n ih =>
      intro o
      unfold opnB
      split
      · refine Nat.le_trans (ih _) ?_
        have : ∀ (cs : List (ByteArray × ByteArray)) (o : List ByteArray), (∀ b ∈ cs, b ∈ bs) → (cs.foldl (boxB mk) o).length + left bs (cs.foldl (boxB mk) o) ≤ o.length + left bs o := by
          intro cs
          induction cs with
          | nil => intro o _; exact Nat.le_refl _
          | cons c cs ic =>
            intro o ha
            rw [List.foldl_cons]
            refine Nat.le_trans (ic _ (fun b hb => ha b (by simp [hb]))) ?_
            by_cases hc : (!hasB o c.2 && mk o c.1) = true
            · have e : boxB mk o c = o ++ [c.2] := if_pos hc
              have := fold_left (mk := mk) bs [c] o (fun b hb => by rw [List.mem_singleton] at hb; subst hb; exact ha _ (by simp)) (by rw [List.foldl_cons, List.foldl_nil, e]; simp)
              rw [List.foldl_cons, List.foldl_nil] at this
              rw [e] at this ⊢
              simp only [List.length_append, List.length_singleton]
              omega
            · have e : boxB mk o c = o := if_neg hc
              rw [e]; exact Nat.le_refl _
        exact this bs o (fun _ h => h)
      · exact Nat.le_refl _
  have h1 := key (bs.length + 1) (dedup known)
  have h2 := left_le bs (dedup known)
  have h3 : (dedup known).length ≤ known.length := by have := dedup_length_le known []; simpa [dedup] using this
  unfold openB
  omega
end
end
end Go.Proofs.YtnemchmiplbopaaDoor.Th
namespace Go.Proofs.YtnemchmiplbopaaDoor.SetW
section
open Go.Maps (Keyed IsMap) 
open Go.Proofs.YtnemchmiplbopaaDoor.Th (hasB)
open Go.RowKit
set_option linter.unusedVariables false

/-- Block b of w is a set of texts: just those of l; n bounds its entries. -/
def IsSet (P : Program) (k e : TypeId) (w : World) (b n : Nat) (l : List ByteArray) : Prop :=
  ∃ D : DataW Unit, w.ownsMap P k (plainElem P e) b n D ∧ IsMap D ∧ ∀ s : ByteArray, D.atKey (.string s.data.toList) (.lit (.bool false)) = .lit (.bool (hasB l s))
variable {P : Program} {k e t : TypeId} {w w' : World} {b n : Nat} {l : List ByteArray}
theorem IsSet.made (P : Program) (k e : TypeId) (w : World) : IsSet P k e (w.alloc (.map #[] 0)) w.heap.size 0 [] :=
  ⟨.map [], World.ownsMap_made w P k _, Go.Maps.isMap_empty, fun s => rfl⟩
theorem IsSet.lt (h : IsSet P k e w b n l) : b < w.heap.size := by
  obtain ⟨D, h1, _⟩ := h
  exact h1.lt
theorem IsSet.mono (h : IsSet P k e w b n l) {m : Nat} (hm : n ≤ m) : IsSet P k e w b m l := by
  obtain ⟨D, h1, h2⟩ := h
  exact ⟨D, h1.mono hm, h2⟩
theorem IsSet.kept {row : Option Nat} (h : IsSet P k e w b n l) (hg : w.grownBy w' row) (hne : some b ≠ row) : IsSet P k e w' b n l := by
  obtain ⟨D, h1, h2⟩ := h
  exact ⟨D, h1.kept hg hne, h2⟩
theorem IsSet.setCell (h : IsSet P k e w b n l) {a : Addr} (ha : b ≠ a.block) (u : Value) : IsSet P k e (w.setCell a u) b n l := by
  obtain ⟨D, h1, h2⟩ := h
  exact ⟨D, h1.setCell ha u, h2⟩
theorem IsSet.alloc (h : IsSet P k e w b n l) (o : Obj) : IsSet P k e (w.alloc o) b n l := by
  obtain ⟨D, h1, h2⟩ := h
  exact ⟨D, h1.alloc o, h2⟩
theorem IsSet.drew (h : IsSet P k e w b n l) : IsSet P k e w.drew b n l := by
  obtain ⟨D, h1, h2⟩ := h
  exact ⟨D, h1.drew, h2⟩
theorem IsSet.block (h : IsSet P k e w b n l) (hb : w'.heap[b]? = w.heap[b]?) : IsSet P k e w' b n l := by
  obtain ⟨D, ⟨es, clock, h1, h2⟩, h3⟩ := h
  exact ⟨D, ⟨es, clock, hb.trans h1, h2⟩, h3⟩
theorem IsSet.below (h : IsSet P k e w b n l) (hb : Below w.heap.size w w') : IsSet P k e w' b n l := h.block (hb.block b h.lt)
theorem IsSet.drewN (h : IsSet P k e w b n l) (m : Nat) : IsSet P k e (w.drewN m) b n l := h.block rfl
theorem bool_inv {v : Value} {z : DataW Unit × List MemPlace} (he : P.underlying e = some .bool) (h : plainElem P e v = some z) : ∃ x, v = .bool x ∧ z = (.lit (.bool x), []) := by
  unfold plainElem at h
  rw [he] at h
  split at h
  · rename_i x _ _
    cases h
    exact ⟨_, rfl, rfl⟩
  · rename_i h1
    exact absurd h1 (by simp)
  · rename_i h1
    exact absurd h1 (by simp)
  · cases h
/-- 's[x]' -/
theorem IsSet.look (h : IsSet P k e w b n l) (hk : P.underlying k = some .string) (he : P.underlying e = some .bool) (ht : P.underlying t = some (.map k e)) (hz : (zeroValue e).run P w = .ok (.bool false) w) {s : ByteArray} (hs : s.size ≤ maxLen) :
    (Instr.lookup t (.map (some b)) (.string s) false).run P w = .ok (.bool (hasB l s)) w := by
  obtain ⟨D, h1, h2, h3⟩ := h
  obtain ⟨v, ps, hrun, hv⟩ := h1.lookup (Go.Maps.string_keyed hk) ht hz (plainElem_bool he false) (Go.WideMaps.keyOf_string_mk hk hs)
  obtain ⟨x, rfl, hx⟩ := bool_inv he hv
  rw [h3 s] at hx
  simp only [Prod.mk.injEq, DataW.lit.injEq, Lit.bool.injEq] at hx
  rw [hrun, hx.1]
theorem wpList_look_set (w : World) {ops : Array Oper} {rest : List Oper} {o : Oper} {a : Act} {Q : Exit → Act → World → Prop}
    (hg : o.guard = none) (m x : Operand) (hop : o.op = Op.lookup t m x false) (hk : P.underlying k = some .string) (he : P.underlying e = some .bool) (ht : P.underlying t = some (.map k e)) (hz : (zeroValue e).run P w = .ok (.bool false) w)
    (hm : a.eval m = .map (some b)) (h : IsSet P k e w b n l) (s : ByteArray) (hx : a.eval x = .string s) (hs : s.size ≤ maxLen)
    (hK : wpList P ops Q rest (a.put o.dst (.bool (hasB l s))) w) : wpList P ops Q (o :: rest) a w := by
  refine wpList_plain hg fun K' hK' => ?_
  have hrun := h.look hk he ht hz hs
  unfold Oper.wp
  simp [execOp, hop, hm, hx, hrun, Result.andThen]
  exact hK' _ _ hK
/-- 's[x] = true' -/
theorem wpList_put_set (w : World) {ops : Array Oper} {rest : List Oper} {o : Oper} {a : Act} {Q : Exit → Act → World → Prop}
    (hg : o.guard = none) (m x v : Operand) (hop : o.op = Op.mapUpdate t m x v) (hk : P.underlying k = some .string) (he : P.underlying e = some .bool) (ht : P.underlying t = some (.map k e))
    (hm : a.eval m = .map (some b)) (h : IsSet P k e w b n l) (hn : n < maxLen) (s : ByteArray) (hx : a.eval x = .string s) (hs : s.size ≤ maxLen) (hv : a.eval v = .bool true)
    (hK : ∀ w', IsSet P k e w' b (n + 1) (l ++ [s]) → w.grownBy w' (some b) → wpList P ops Q rest (a.put o.dst undef) w') : wpList P ops Q (o :: rest) a w := by
  obtain ⟨D, h1, h2, h3⟩ := h
  refine wpList_mapUpdate_own w hg m x v t hop k e (Go.Maps.string_keyed hk) ht _ b n D hm h1 hn (.string s) (.bool true) (.string s.data.toList) hx hv (Go.WideMaps.keyOf_string_mk hk hs) (.lit (.bool true)) [] (plainElem_bool he true) fun w' h4 h5 => hK w' ⟨_, h4, h2.put _ _, fun u => ?_⟩ h5
  by_cases hu : u.data.toList = s.data.toList
  · have := Th.data_eq hu
    subst this
    rw [Go.Maps.atKey_put_same h2 (by simp [WideAt.IsKeyLit]), Th.hasB_iff.2 (by simp)]
  · rw [Go.Maps.atKey_put_other (fun h => hu (Lit.string.inj h)), h3]
    congr 2
    rw [Bool.eq_iff_iff, Th.hasB_iff, Th.hasB_iff, List.mem_append, List.mem_singleton]
    constructor
    · exact .inl
    · rintro (h | rfl)
      · exact h
      · exact absurd rfl hu
end
end Go.Proofs.YtnemchmiplbopaaDoor.SetW
