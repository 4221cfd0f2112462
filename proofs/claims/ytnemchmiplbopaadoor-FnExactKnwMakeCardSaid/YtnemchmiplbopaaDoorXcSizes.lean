/- The reference's reading of a name's size, and whether a text is a name. Plain Lean. -/
import Derived.Test.YtnemchmiplbopaaDoorXcSpec
namespace Go.Proofs.YtnemchmiplbopaaDoor.Pure
open Go.RowKit Go.Proofs.YtnemchmiplbopaaDoor Go.Proofs.YtnemchmiplbopaaDoor.Xc Go.Proofs.YtnemchmiplbopaaDoorW.PrintWords Go.Proofs.YtnemchmiplbopaaDoorW.PrintLast
open Go.Proofs.YtnemchmiplbopaaDoor.Th (T B Nm nm dec hd prsNum whole)

/-- The size of the name that stands first; 0 if none does. -/
def sz (t : List Nat) : Int := match hd t with | some p => ((t.length - p.2.length : Nat) : Int) | none => 0
def more (a n : Int) : Int := if n = 0 then 0 else a + n
theorem hd_short {t : List Nat} {a : Nm} {r : List Nat} (h : hd t = some (a, r)) : r.length < t.length := by
  obtain ⟨_, e⟩ := Th.hd_sound h
  have := Th.enc_pos a
  rw [e, List.length_append]
  omega
theorem sz_range (t : List Nat) : 0 ≤ sz t ∧ sz t ≤ t.length := by
  unfold sz
  split
  · omega
  · omega
theorem sz_some {t : List Nat} {a : Nm} {r : List Nat} (h : hd t = some (a, r)) : sz t = ((t.length - r.length : Nat) : Int) := by unfold sz; rw [h]
theorem sz_none {t : List Nat} (h : hd t = none) : sz t = 0 := by unfold sz; rw [h]
theorem sz_zero {t : List Nat} : sz t = 0 ↔ hd t = none := by
  constructor
  · intro h
    cases e : hd t with
    | none => rfl
    | some p =>
      obtain ⟨a, r⟩ := p
      rw [sz_some e] at h
      have := hd_short e
      omega
  · exact sz_none
theorem sz_nil : sz [] = 0 := rfl
theorem sz_map {c : Nat} {t u : List Nat} {d : Nat} (hu : u.length + d = t.length + 1) (f : Nm → Nm) (e : hd (c :: t) = (hd u).map fun p => (f p.1, p.2)) : sz (c :: t) = more d (sz u) := by
  unfold more
  cases g : hd u with
  | none =>
    rw [sz_none g, if_pos rfl]
    exact sz_none (by rw [e, g]; rfl)
  | some p =>
    obtain ⟨a, r⟩ := p
    have hs := hd_short g
    rw [sz_some g, if_neg (by omega), sz_some (a := f a) (r := r) (by rw [e, g]; rfl), List.length_cons]
    omega
theorem sz_next (t : List Nat) : sz (110 :: t) = more 1 (sz t) := sz_map (d := 1) (by omega) Nm.next (by rw [Th.hd_cons, if_neg (by decide), if_pos rfl])
theorem sz_key (t : List Nat) : sz (107 :: t) = more 1 (sz t) := sz_map (d := 1) (by omega) Nm.key (by rw [Th.hd_cons, if_neg (by decide), if_neg (by decide), if_pos rfl])
theorem sz_say {t : List Nat} (h : 65 ≤ t.getD 0 0 ∧ t.getD 0 0 ≤ 72) : sz (109 :: t) = more 2 (sz (t.drop 1)) :=
  sz_map (d := 2) (by have := Th.lt_of_getD (l := t) (i := 0) (by omega); rw [List.length_drop]; omega) (Nm.say (t.getD 0 0 - 65)) (by rw [Th.hd_cons, if_neg (by decide), if_neg (by decide), if_neg (by decide), if_neg (by decide), if_pos rfl, if_pos h])
theorem sz_say_no {t : List Nat} (h : ¬ (65 ≤ t.getD 0 0 ∧ t.getD 0 0 ≤ 72)) : sz (109 :: t) = 0 := sz_none (by rw [Th.hd_cons, if_neg (by decide), if_neg (by decide), if_neg (by decide), if_neg (by decide), if_pos rfl, if_neg h])
theorem sz_room {t : List Nat} (h : 49 ≤ t.getD 0 0 ∧ t.getD 0 0 ≤ 57) : sz (114 :: t) = more 2 (sz (t.drop 1)) :=
  sz_map (d := 2) (by have := Th.lt_of_getD (l := t) (i := 0) (by omega); rw [List.length_drop]; omega) (Nm.room (t.getD 0 0 - 48)) (by rw [Th.hd_cons, if_neg (by decide), if_neg (by decide), if_neg (by decide), if_neg (by decide), if_neg (by decide), if_pos rfl, if_pos h])
theorem sz_room_no {t : List Nat} (h : ¬ (49 ≤ t.getD 0 0 ∧ t.getD 0 0 ≤ 57)) : sz (114 :: t) = 0 := sz_none (by rw [Th.hd_cons, if_neg (by decide), if_neg (by decide), if_neg (by decide), if_neg (by decide), if_neg (by decide), if_pos rfl, if_neg h])
theorem hd_epoch (t : List Nat) : hd (101 :: t) = (hd t).bind fun p => (hd p.2).map fun q => (Nm.epoch p.1 q.1, q.2) := by
  rw [Th.hd_cons, if_neg (by decide), if_neg (by decide), if_neg (by decide), if_pos rfl]
theorem drop_sz {t : List Nat} {a : Nm} {r : List Nat} (h : hd t = some (a, r)) : t.drop (sz t).toNat = r := by
  rw [sz_some h, Int.toNat_natCast]
  obtain ⟨_, e⟩ := Th.hd_sound h
  rw [e, List.length_append, show a.enc.length + r.length - r.length = a.enc.length by omega, List.drop_left]
theorem sz_epoch_no {t : List Nat} (h : sz t = 0) : sz (101 :: t) = 0 := sz_none (by rw [hd_epoch, sz_zero.1 h]; rfl)
theorem sz_epoch {t : List Nat} (h : sz t ≠ 0) : sz (101 :: t) = more (1 + sz t) (sz (t.drop (sz t).toNat)) := by
  unfold more
  cases g : hd t with
  | none => exact absurd (sz_none g) h
  | some p =>
    obtain ⟨a, r⟩ := p
    have hs := hd_short g
    rw [drop_sz g, sz_some g]
    cases g2 : hd r with
    | none => rw [sz_none g2, if_pos rfl]; exact sz_none (by rw [hd_epoch, g]; simp [g2])
    | some q =>
      obtain ⟨b, r2⟩ := q
      have hs2 := hd_short g2
      rw [sz_some g2, if_neg (by omega), sz_some (a := .epoch a b) (r := r2) (by rw [hd_epoch, g]; simp [g2]), List.length_cons]
      omega
theorem sz_fresh {c : Nat} (t : List Nat) (h0 : c ≠ 110) (h1 : c ≠ 107) (h2 : c ≠ 109) (h3 : c ≠ 114) (h4 : c ≠ 101) : sz (c :: t) = freshSz c t := by
  unfold sz freshSz
  rw [Th.hd_cons]
  by_cases hc : 65 ≤ c ∧ c ≤ 72
  · rw [if_pos hc, if_pos hc]
    cases prsNum t with
    | none => rfl
    | some p =>
      simp only [Option.map_some, List.length_cons]
      rw [show t.length + 1 = 1 + t.length by omega]
  · rw [if_neg hc, if_neg h0, if_neg h1, if_neg h4, if_neg h2, if_neg h3, if_neg hc]
theorem more_any {a n : Int} (h0 : 0 ≤ a) (h1 : a ≤ 100000000000000) (h2 : 0 ≤ n) (h3 : n ≤ 100000000000000) : spec_l1More.f a n = some (more a n) := by
  unfold spec_l1More.f more
  by_cases h : n = 0
  · rw [if_pos h, if_pos h]
  · rw [if_neg h, if_neg h, wz (by omega) (by omega)]
theorem Ev.of_eq {α : Type} {g : Nat → Option α} {r : α} (h : ∀ k, g k = some r) : Ev g r := ⟨0, fun k _ => h k⟩

theorem size_ev {s : ByteArray} (hs : s.size ≤ 1000000000000) : ∀ (m : Nat) (pre t : List Nat), B s = pre ++ t → t.length ≤ m → Ev (fun k => spec_l1Size.f k s pre.length) (sz t) := by
  intro m
  induction m with
  | zero =>
    intro pre t h hm
    obtain rfl : t = [] := List.length_eq_zero_iff.1 (by omega)
    have hz := size_pre h
    rw [List.length_nil] at hz
    refine Ev.step (f := fun _ => some 0) (fun k => ?_) (Ev.now 0)
    rw [spec_l1Size.f, if_pos (by omega)]
  | succ m ih =>
    intro pre t h hm
    have hz := size_pre h
    cases t with
    | nil =>
      rw [List.length_nil] at hz
      refine Ev.step (f := fun _ => some 0) (fun k => ?_) (Ev.now 0)
      rw [spec_l1Size.f, if_pos (by omega)]
    | cons c t =>
      rw [List.length_cons] at hz hm
      have b0 : bt s ((pre.length : Nat) : Int) = (c : Int) := bt_pre h 0
      have b1 : bt s ((pre.length + 1 : Nat) : Int) = ((t.getD 0 0 : Nat) : Int) := bt_pre h 1
      have next : ∀ j, j ≤ t.length → Ev (fun k => spec_l1Size.f k s ((pre.length + (1 + j) : Nat) : Int)) (sz (t.drop j)) := by
        intro j hj
        have e : (pre ++ c :: t.take j).length = pre.length + (1 + j) := by
          rw [List.length_append, List.length_cons, List.length_take]
          omega
        rw [← e]
        exact ih _ _ (by rw [h]; simp) (by rw [List.length_drop]; omega)
      have p1 : wrap64 ((pre.length : Int) + 1) = ((pre.length + (1 + 0) : Nat) : Int) := by rw [wz (by omega) (by omega)]; omega
      have p2 : wrap64 ((pre.length : Int) + 2) = ((pre.length + (1 + 1) : Nat) : Int) := by rw [wz (by omega) (by omega)]; omega
      have z0 := sz_range t
      have one : ∀ k, spec_l1Size.f (k + 1) s (pre.length : Int) = if (c : Int) = 110 then spec_l1Size.j0 k s pre.length c true else spec_l1Size.j0 k s pre.length c ((c : Int) == 107) := by
        intro k
        rw [spec_l1Size.f, if_neg (by omega), if_pos (by omega), if_pos (by omega), b0]
      have lead : ∀ d : Nat, Ev (fun k => spec_l1Size.j0 k s pre.length d true) (more 1 (sz t)) := by
        intro d
        refine Ev.step (f := fun k => (spec_l1Size.f k s ((pre.length + (1 + 0) : Nat) : Int)).bind fun u => (spec_l1More.f 1 u).bind fun v => some v) (fun k => ?_) ?_
        · rw [spec_l1Size.j0, if_pos rfl, p1]
        · refine Ev.bind (next 0 (by omega)) (Ev.of_eq fun k => ?_)
          rw [List.drop_zero, more_any (by omega) (by omega) (by omega) (by omega), Option.bind_some]
      by_cases c0 : c = 110
      · subst c0
        rw [sz_next]
        refine Ev.step (f := fun k => spec_l1Size.j0 k s pre.length ((110 : Nat) : Int) true) (fun k => ?_) (lead 110)
        rw [one, if_pos (by omega)]
      by_cases c1 : c = 107
      · subst c1
        rw [sz_key]
        refine Ev.step (f := fun k => spec_l1Size.j0 k s pre.length ((107 : Nat) : Int) true) (fun k => ?_) (lead 107)
        rw [one, if_neg (by omega)]
        rfl
      have f1 : ((c : Int) == 107) = false := beq_eq_false_iff_ne.2 (by omega)
      refine Ev.step (f := fun k => spec_l1Size.j0 k s pre.length c false) (fun k => by rw [one, if_neg (by omega), f1]) ?_
      by_cases c2 : c = 109
      · subst c2
        by_cases g : 65 ≤ t.getD 0 0 ∧ t.getD 0 0 ≤ 72
        · have hl := Th.lt_of_getD (l := t) (i := 0) (by omega)
          have z1 := sz_range (t.drop 1)
          rw [List.length_drop] at z1
          rw [sz_say g]
          refine Ev.step (f := fun k => spec_l1Size.j1 k s pre.length false) (fun k => ?_) ?_
          · rw [spec_l1Size.j0, if_neg (by decide), if_pos (by omega), p1, if_neg (by omega), if_pos (by omega), if_pos (by omega), show pre.length + (1 + 0) = pre.length + 1 by omega, b1, if_neg (by omega), decide_eq_false (by omega)]
          · refine Ev.step (f := fun k => (spec_l1Size.f k s ((pre.length + (1 + 1) : Nat) : Int)).bind fun u => (spec_l1More.f 2 u).bind fun v => some v) (fun k => ?_) ?_
            · rw [spec_l1Size.j1, if_neg (by decide), p2]
            · refine Ev.bind (next 1 (by omega)) (Ev.of_eq fun k => ?_)
              rw [more_any (by omega) (by omega) (by omega) (by omega), Option.bind_some]
        · rw [sz_say_no g]
          have stop : ∀ k, spec_l1Size.j1 (k + 1) s pre.length true = some 0 := fun k => by rw [spec_l1Size.j1, if_pos rfl]
          refine Ev.step (f := fun k => spec_l1Size.j1 k s pre.length true) (fun k => ?_) (Ev.step (f := fun _ => some 0) stop (Ev.now 0))
          rw [spec_l1Size.j0, if_neg (by decide), if_pos (by omega), p1, show pre.length + (1 + 0) = pre.length + 1 by omega]
          by_cases q : ((pre.length + 1 : Nat) : Int) ≥ (s.size : Int)
          · rw [if_pos q]
          · rw [if_neg q, if_pos (by omega), if_pos (by omega), b1]
            by_cases q2 : ((t.getD 0 0 : Nat) : Int) < 65
            · rw [if_pos q2]
            · rw [if_neg q2, decide_eq_true (by omega)]
      by_cases c3 : c = 114
      · subst c3
        by_cases g : 49 ≤ t.getD 0 0 ∧ t.getD 0 0 ≤ 57
        · have hl := Th.lt_of_getD (l := t) (i := 0) (by omega)
          have z1 := sz_range (t.drop 1)
          rw [List.length_drop] at z1
          rw [sz_room g]
          refine Ev.step (f := fun k => spec_l1Size.j2 k s pre.length false) (fun k => ?_) ?_
          · rw [spec_l1Size.j0, if_neg (by decide), if_neg (by omega), if_pos (by omega), p1, if_neg (by omega), if_pos (by omega), if_pos (by omega), show pre.length + (1 + 0) = pre.length + 1 by omega, b1, if_neg (by omega), decide_eq_false (by omega)]
          · refine Ev.step (f := fun k => (spec_l1Size.f k s ((pre.length + (1 + 1) : Nat) : Int)).bind fun u => (spec_l1More.f 2 u).bind fun v => some v) (fun k => ?_) ?_
            · rw [spec_l1Size.j2, if_neg (by decide), p2]
            · refine Ev.bind (next 1 (by omega)) (Ev.of_eq fun k => ?_)
              rw [more_any (by omega) (by omega) (by omega) (by omega), Option.bind_some]
        · rw [sz_room_no g]
          have stop : ∀ k, spec_l1Size.j2 (k + 1) s pre.length true = some 0 := fun k => by rw [spec_l1Size.j2, if_pos rfl]
          refine Ev.step (f := fun k => spec_l1Size.j2 k s pre.length true) (fun k => ?_) (Ev.step (f := fun _ => some 0) stop (Ev.now 0))
          rw [spec_l1Size.j0, if_neg (by decide), if_neg (by omega), if_pos (by omega), p1, show pre.length + (1 + 0) = pre.length + 1 by omega]
          by_cases q : ((pre.length + 1 : Nat) : Int) ≥ (s.size : Int)
          · rw [if_pos q]
          · rw [if_neg q, if_pos (by omega), if_pos (by omega), b1]
            by_cases q2 : ((t.getD 0 0 : Nat) : Int) < 49
            · rw [if_pos q2]
            · rw [if_neg q2, decide_eq_true (by omega)]
      by_cases c4 : c = 101
      · subst c4
        refine Ev.step (f := fun k => (spec_l1Size.f k s ((pre.length + (1 + 0) : Nat) : Int)).bind fun u => if u = 0 then some 0 else (spec_l1Size.f k s (wrap64 (((pre.length + (1 + 0) : Nat) : Int) + u))).bind fun v => (spec_l1More.f (wrap64 (1 + u)) v).bind fun y => some y) (fun k => ?_) ?_
        · rw [spec_l1Size.j0, if_neg (by decide), if_neg (by omega), if_neg (by omega), if_pos (by omega), p1]
        · refine Ev.bind (next 0 (by omega)) ?_
          rw [List.drop_zero]
          by_cases g : sz t = 0
          · rw [sz_epoch_no g]
            exact Ev.of_eq fun k => by rw [if_pos g]
          · rw [sz_epoch g]
            obtain ⟨n, hn⟩ := Int.eq_ofNat_of_zero_le z0.1
            have z1 := sz_range (t.drop (sz t).toNat)
            rw [List.length_drop] at z1
            refine Ev.congr (f := fun k => (spec_l1Size.f k s ((pre.length + (1 + (sz t).toNat) : Nat) : Int)).bind fun v => (spec_l1More.f (1 + sz t) v).bind fun y => some y) (fun k => ?_) ?_
            · rw [if_neg g, wz (x := ((pre.length + (1 + 0) : Nat) : Int) + sz t) (by omega) (by omega), wz (x := 1 + sz t) (by omega) (by omega), show ((pre.length + (1 + 0) : Nat) : Int) + sz t = ((pre.length + (1 + (sz t).toNat) : Nat) : Int) by omega]
            · refine Ev.bind (next (sz t).toNat (by omega)) (Ev.of_eq fun k => ?_)
              rw [more_any (by omega) (by omega) (by omega) (by omega), Option.bind_some]
      rw [sz_fresh t c0 c1 c2 c3 c4]
      refine Ev.step (f := fun k => (spec_l1Fresh.f k s pre.length).bind fun u => some u) (fun k => ?_) ?_
      · rw [spec_l1Size.j0, if_neg (by decide), if_neg (by omega), if_neg (by omega), if_neg (by omega)]
      · exact Ev.bind (Ev.of (fun k => spec_l1Fresh.mono _ _ k) (fresh_20 h hs)) (Ev.now _)
theorem size_0 {s : ByteArray} (hs : s.size ≤ 1000000000000) : Ev (fun k => spec_l1Size.f k s 0) (sz (B s)) := size_ev hs (B s).length [] (B s) rfl (Nat.le_refl _)
theorem whole_sz {l : List Nat} (h : l ≠ []) : ((sz l == (l.length : Int)) : Bool) = (whole l).isSome := by
  have hp : 0 < l.length := List.length_pos_iff.2 h
  unfold whole
  cases g : hd l with
  | none =>
    rw [sz_none g]
    exact beq_eq_false_iff_ne.2 (by omega)
  | some p =>
    obtain ⟨a, r⟩ := p
    have hs := hd_short g
    rw [sz_some g]
    cases r with
    | nil => exact beq_iff_eq.2 (by rw [List.length_nil]; omega)
    | cons x y =>
      rw [List.length_cons] at hs ⊢
      exact beq_eq_false_iff_ne.2 (by omega)
/-- The reference says of a text that it is a name just if it is one. -/
theorem secOk_ev (s : ByteArray) : Ev (fun k => spec_SecOk.f k s) (nm s).isSome := by
  unfold spec_SecOk.f
  by_cases h0 : s = ⟨#[]⟩
  · subst h0
    refine Ev.of_eq fun k => ?_
    rw [if_pos (Th.toList_nil.2 rfl)]
    rfl
  · have hn : ¬ s.toList = ([] : List UInt8) := fun e => h0 (Th.toList_nil.1 e)
    by_cases h1 : s.size ≤ 300
    · refine Ev.congr (f := fun k => (spec_l1Size.f k s 0).bind fun u => some (u == (s.size : Int))) (fun k => ?_) ?_
      · rw [if_neg hn, if_pos (by omega)]
      · refine Ev.bind (size_0 (by omega)) (Ev.of_eq fun k => ?_)
        unfold nm
        rw [if_pos h1, ← Th.B_length, whole_sz (fun e => h0 (Th.B_eq_nil.1 e))]
    · refine Ev.of_eq fun k => ?_
      rw [if_neg hn, if_neg (by omega)]
      unfold nm
      rw [if_neg h1]
      rfl
end Go.Proofs.YtnemchmiplbopaaDoor.Pure
