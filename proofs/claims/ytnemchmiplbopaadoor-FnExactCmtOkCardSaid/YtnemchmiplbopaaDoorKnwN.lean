/- impl.knows.make, impl.knowsOf: their contracts. impl.knows.make whatever the name; impl.knowsOf; what puts into the set and the list. -/
import Derived.Test.YtnemchmiplbopaaDoorGivC
import Derived.Test.YtnemchmiplbopaaDoorSet
import Derived.WalkKit
import Derived.LoopTactic
import Derived.Test.YtnemchmiplbopaaDoorWMore
namespace Go.Proofs.YtnemchmiplbopaaDoor
section
set_option linter.unusedSimpArgs false
set_option linter.unusedVariables false
set_option maxRecDepth 100000
open Go.RowKit Go.Maps Go.Proofs.YtnemchmiplbopaaDoorW.PrintWords Go.Proofs.YtnemchmiplbopaaDoorW.PrintLast Go.Proofs.YtnemchmiplbopaaDoorW.PrintMore Go.Proofs.YtnemchmiplbopaaDoor.Th Go.Proofs.YtnemchmiplbopaaDoor.SetW

/-- Can a name be made from some? -/
def mkN (o : List ByteArray) : Nm → Bool
  | .new w n => hasB o (T (Nm.new w n).enc)
  | .next a => hasB o (T (Nm.next a).enc) || mkN o a
  | .key a => hasB o (T (Nm.key a).enc) || mkN o a
  | .epoch a b => hasB o (T (Nm.epoch a b).enc) || (mkN o a && mkN o b)
  | .say w a => hasB o (T (Nm.say w a).enc) || mkN o a
  | .room r a => hasB o (T (Nm.room r a).enc) || mkN o a
def mkS (o : List ByteArray) (s : ByteArray) : Bool := match nm s with
  | some a => mkN o a
  | none => false
theorem mkN_mono {o o' : List ByteArray} (h : ∀ x ∈ o, x ∈ o') : ∀ a : Nm, mkN o a = true → mkN o' a = true := by
  have hh : ∀ s, hasB o s = true → hasB o' s = true := fun s hs => hasB_iff.2 (h _ (hasB_iff.1 hs))
  intro a
  induction a with
  | new w n => exact hh _
  | next a ih => intro h; simp only [mkN, Bool.or_eq_true] at h ⊢; exact h.imp (hh _) ih
  | key a ih => intro h; simp only [mkN, Bool.or_eq_true] at h ⊢; exact h.imp (hh _) ih
  | epoch a b iha ihb => intro h; simp only [mkN, Bool.or_eq_true, Bool.and_eq_true] at h ⊢; exact h.imp (hh _) (And.imp iha ihb)
  | say w a ih => intro h; simp only [mkN, Bool.or_eq_true] at h ⊢; exact h.imp (hh _) ih
  | room w a ih => intro h; simp only [mkN, Bool.or_eq_true] at h ⊢; exact h.imp (hh _) ih
theorem mkS_mono {o o' : List ByteArray} (h : ∀ x ∈ o, x ∈ o') (s : ByteArray) (hs : mkS o s = true) : mkS o' s = true := by
  unfold mkS at hs ⊢
  split at hs
  · exact mkN_mono h _ hs
  · exact absurd hs (by decide)
theorem mkS_congr {o o' : List ByteArray} (h : ∀ x, x ∈ o ↔ x ∈ o') (s : ByteArray) : mkS o s = mkS o' s := by
  rw [Bool.eq_iff_iff]
  exact ⟨mkS_mono (fun x hx => (h x).1 hx) s, mkS_mono (fun x hx => (h x).2 hx) s⟩

abbrev KSet (w : World) (b n : Nat) (o : List ByteArray) : Prop := IsSet Tryd.prog 9 4 w b n o
theorem zeroBool (w : World) : (zeroValue 4).run Tryd.prog w = .ok (.bool false) w := by kernel_rfl

theorem blk_self (w : World) (o : Obj) : (w.alloc o).heap[w.heap.size]? = some o := by show (w.heap.push o)[w.heap.size]? = some o; simp
section
variable {o : List ByteArray} {b n : Nat} {s : ByteArray} {w : World}
theorem make_has (hS : KSet w b n o) (hs : s.size ≤ 300) (h : hasB o s = true) :
    Calls Tryd.prog 33 #[.map (some b), .string s] w fun e w' => e = .returned (.bool true) ∧ Below w.heap.size w w' := by
  have HS := Lib.hid hS
  have HZ := Lib.hid hs
  clear hS hs
  go_enter Tryd.func33, Tryd.ntmps33
  go_wp2_with (at_lookup; refine wpList_look_set _ rfl _ _ rfl Tryd.underlying9 Tryd.underlying4 Tryd.underlying57 (zeroBool _) rfl HS.out s rfl (by have := HZ.out; unfold maxLen; omega) ?_; rw [h])
  go_ret
  exact ⟨rfl, Below.refl _ _⟩
theorem make_new (hS : KSet w b n o) (hs : s.size ≤ 300) (hG : GlobOk w) (h : hasB o s = false) (op who num : Int) (x y : ByteArray) (hf : impl_SecMade.f s = some (op, who, num, x, y)) (hop : ¬ 1 < op) :
    Calls Tryd.prog 33 #[.map (some b), .string s] w fun e w' => e = .returned (.bool false) ∧ Below w.heap.size w w' := by
  have HS := Lib.hid hS
  have HZ := Lib.hid hs
  have HM := Lib.hid (impl_SecMade.calls s op who num x y w hG hf)
  have g0 : decide (1 < op) = false := decide_eq_false hop
  clear hS hs hG hf hop
  go_enter Tryd.func33, Tryd.ntmps33
  go_wp2_with (first
    | (at_lookup; refine wpList_look_set _ rfl _ _ rfl Tryd.underlying9 Tryd.underlying4 Tryd.underlying57 (zeroBool _) rfl HS.out s rfl (by have := HZ.out; unfold maxLen; omega) ?_; rw [h])
    | (go_at_call 48; refine HM.out.mono ?_; rintro e w1 ⟨rfl, hb⟩; have HB := Lib.hid hb; clear hb))
  go_ret
  exact ⟨rfl, Below.alloc HB.out HB.out.size _⟩
set_option maxHeartbeats 1600000 in
theorem make_no (hS : KSet w b n o) (hs : s.size ≤ 300) (hG : GlobOk w) (h : hasB o s = false) (op who num : Int) (x y : ByteArray) (hf : impl_SecMade.f s = some (op, who, num, x, y)) (hop : 1 < op) (HC : ∀ W, KSet W b n o → GlobOk W → Calls Tryd.prog 33 #[.map (some b), .string x] W fun e w' => e = .returned (.bool false) ∧ Below W.heap.size W w') :
    Calls Tryd.prog 33 #[.map (some b), .string s] w fun e w' => e = .returned (.bool false) ∧ Below w.heap.size w w' := by
  have HS := Lib.hid hS
  have HZ := Lib.hid hs
  have HG := Lib.hid hG
  have HM := Lib.hid (impl_SecMade.calls s op who num x y w hG hf)
  have g0 : decide (1 < op) = true := decide_eq_true hop
  clear hS hs hG hf hop
  go_enter Tryd.func33, Tryd.ntmps33
  go_wp2_with (first
    | (at_lookup; refine wpList_look_set _ rfl _ _ rfl Tryd.underlying9 Tryd.underlying4 Tryd.underlying57 (zeroBool _) rfl HS.out s rfl (by have := HZ.out; unfold maxLen; omega) ?_; rw [h])
    | (go_at_call 48; refine HM.out.mono ?_; rintro e w1 ⟨rfl, hb⟩; have HB := Lib.hid (Below.alloc hb hb.size (.cells #[.int .i64 op, .int .i64 who, .int .i64 num, .string x, .string y] 67)); clear hb)
    | (go_at_call 33; with_reducible refine (HC _ (HS.out.below HB.out) (HG.out.below HB.out)).mono ?_; rintro e w3 ⟨rfl, hb3⟩; have c4 : w3.cell? ⟨w1.heap.size, 4, none⟩ = some (.string y) := ((bcell hb3).1 _ _ (by simp)).trans ((blk_cell (blk_self _ _) 4).trans rfl); have HB3 := Lib.hid (HB.out.trans (hb3.mono HB.out.size)); clear hb3))
  go_ret
  exact ⟨rfl, HB3.out⟩
set_option maxHeartbeats 1600000 in
theorem make_yes (hS : KSet w b n o) (hs : s.size ≤ 300) (hG : GlobOk w) (h : hasB o s = false) (op who num : Int) (x y : ByteArray) (hf : impl_SecMade.f s = some (op, who, num, x, y)) (hop : 1 < op) (HC : ∀ W, KSet W b n o → GlobOk W → Calls Tryd.prog 33 #[.map (some b), .string x] W fun e w' => e = .returned (.bool true) ∧ Below W.heap.size W w') (hy : y = ⟨#[]⟩) :
    Calls Tryd.prog 33 #[.map (some b), .string s] w fun e w' => e = .returned (.bool true) ∧ Below w.heap.size w w' := by
  have HS := Lib.hid hS
  have HZ := Lib.hid hs
  have HG := Lib.hid hG
  have HM := Lib.hid (impl_SecMade.calls s op who num x ⟨#[]⟩ w hG (hy ▸ hf))
  have g0 : decide (1 < op) = true := decide_eq_true hop
  subst hy
  clear hS hs hG hf hop
  go_enter Tryd.func33, Tryd.ntmps33
  go_wp2_with (first
    | (at_lookup; refine wpList_look_set _ rfl _ _ rfl Tryd.underlying9 Tryd.underlying4 Tryd.underlying57 (zeroBool _) rfl HS.out s rfl (by have := HZ.out; unfold maxLen; omega) ?_; rw [h])
    | (go_at_call 48; refine HM.out.mono ?_; rintro e w1 ⟨rfl, hb⟩; have HB := Lib.hid (Below.alloc hb hb.size (.cells #[.int .i64 op, .int .i64 who, .int .i64 num, .string x, .string ⟨#[]⟩] 67)); clear hb)
    | (go_at_call 33; with_reducible refine (HC _ (HS.out.below HB.out) (HG.out.below HB.out)).mono ?_; rintro e w3 ⟨rfl, hb3⟩; have c4 : w3.cell? ⟨w1.heap.size, 4, none⟩ = some (.string ⟨#[]⟩) := ((bcell hb3).1 _ _ (by simp)).trans ((blk_cell (blk_self _ _) 4).trans rfl); have HB3 := Lib.hid (HB.out.trans (hb3.mono HB.out.size)); clear hb3))
  go_ret
  exact ⟨rfl, HB3.out⟩
set_option maxHeartbeats 1600000 in
theorem make_both_t (hS : KSet w b n o) (hs : s.size ≤ 300) (hG : GlobOk w) (h : hasB o s = false) (op who num : Int) (x y : ByteArray) (hf : impl_SecMade.f s = some (op, who, num, x, y)) (hop : 1 < op) (HC : ∀ W, KSet W b n o → GlobOk W → Calls Tryd.prog 33 #[.map (some b), .string x] W fun e w' => e = .returned (.bool true) ∧ Below W.heap.size W w') (hy : y ≠ ⟨#[]⟩) (HD : ∀ W, KSet W b n o → GlobOk W → Calls Tryd.prog 33 #[.map (some b), .string y] W fun e w' => e = .returned (.bool true) ∧ Below W.heap.size W w') :
    Calls Tryd.prog 33 #[.map (some b), .string s] w fun e w' => e = .returned (.bool true) ∧ Below w.heap.size w w' := by
  have HS := Lib.hid hS
  have HZ := Lib.hid hs
  have HG := Lib.hid hG
  have HM := Lib.hid (impl_SecMade.calls s op who num x y w hG hf)
  have g0 : decide (1 < op) = true := decide_eq_true hop
  have n1 : (y.toList == []) = false := by rw [beq_eq_false_iff_ne]; exact fun e => hy (toList_nil.1 e)
  have n2 : (y.toList != []) = true := by rw [bne, n1]; rfl
  have n3 : y.toList.isEmpty = false := by cases e : y.toList with
    | nil => exact absurd (toList_nil.1 e) hy
    | cons _ _ => rfl
  clear hy
  clear hS hs hG hf hop
  go_enter Tryd.func33, Tryd.ntmps33
  go_wp2_with (first
    | (at_lookup; refine wpList_look_set _ rfl _ _ rfl Tryd.underlying9 Tryd.underlying4 Tryd.underlying57 (zeroBool _) rfl HS.out s rfl (by have := HZ.out; unfold maxLen; omega) ?_; rw [h])
    | (go_at_call 48; refine HM.out.mono ?_; rintro e w1 ⟨rfl, hb⟩; have HB := Lib.hid (Below.alloc hb hb.size (.cells #[.int .i64 op, .int .i64 who, .int .i64 num, .string x, .string y] 67)); clear hb)
    | (go_at_call 33; with_reducible refine (HC _ (HS.out.below HB.out) (HG.out.below HB.out)).mono ?_; rintro e w3 ⟨rfl, hb3⟩; have c4 : w3.cell? ⟨w1.heap.size, 4, none⟩ = some (.string y) := ((bcell hb3).1 _ _ (by simp)).trans ((blk_cell (blk_self _ _) 4).trans rfl); have HB3 := Lib.hid (HB.out.trans (hb3.mono HB.out.size)); clear hb3)
    | (go_at_call 33; with_reducible refine (HD _ (HS.out.below HB3.out) (HG.out.below HB3.out)).mono ?_; rintro e w4 ⟨rfl, hb4⟩; have HB4 := Lib.hid (HB3.out.trans (hb4.mono HB3.out.size)); clear hb4))
  go_ret
  exact ⟨by rfl, HB4.out⟩
set_option maxHeartbeats 1600000 in
theorem make_both_f (hS : KSet w b n o) (hs : s.size ≤ 300) (hG : GlobOk w) (h : hasB o s = false) (op who num : Int) (x y : ByteArray) (hf : impl_SecMade.f s = some (op, who, num, x, y)) (hop : 1 < op) (HC : ∀ W, KSet W b n o → GlobOk W → Calls Tryd.prog 33 #[.map (some b), .string x] W fun e w' => e = .returned (.bool true) ∧ Below W.heap.size W w') (hy : y ≠ ⟨#[]⟩) (HD : ∀ W, KSet W b n o → GlobOk W → Calls Tryd.prog 33 #[.map (some b), .string y] W fun e w' => e = .returned (.bool false) ∧ Below W.heap.size W w') :
    Calls Tryd.prog 33 #[.map (some b), .string s] w fun e w' => e = .returned (.bool false) ∧ Below w.heap.size w w' := by
  have HS := Lib.hid hS
  have HZ := Lib.hid hs
  have HG := Lib.hid hG
  have HM := Lib.hid (impl_SecMade.calls s op who num x y w hG hf)
  have g0 : decide (1 < op) = true := decide_eq_true hop
  have n1 : (y.toList == []) = false := by rw [beq_eq_false_iff_ne]; exact fun e => hy (toList_nil.1 e)
  have n2 : (y.toList != []) = true := by rw [bne, n1]; rfl
  have n3 : y.toList.isEmpty = false := by cases e : y.toList with
    | nil => exact absurd (toList_nil.1 e) hy
    | cons _ _ => rfl
  clear hy
  clear hS hs hG hf hop
  go_enter Tryd.func33, Tryd.ntmps33
  go_wp2_with (first
    | (at_lookup; refine wpList_look_set _ rfl _ _ rfl Tryd.underlying9 Tryd.underlying4 Tryd.underlying57 (zeroBool _) rfl HS.out s rfl (by have := HZ.out; unfold maxLen; omega) ?_; rw [h])
    | (go_at_call 48; refine HM.out.mono ?_; rintro e w1 ⟨rfl, hb⟩; have HB := Lib.hid (Below.alloc hb hb.size (.cells #[.int .i64 op, .int .i64 who, .int .i64 num, .string x, .string y] 67)); clear hb)
    | (go_at_call 33; with_reducible refine (HC _ (HS.out.below HB.out) (HG.out.below HB.out)).mono ?_; rintro e w3 ⟨rfl, hb3⟩; have c4 : w3.cell? ⟨w1.heap.size, 4, none⟩ = some (.string y) := ((bcell hb3).1 _ _ (by simp)).trans ((blk_cell (blk_self _ _) 4).trans rfl); have HB3 := Lib.hid (HB.out.trans (hb3.mono HB.out.size)); clear hb3)
    | (go_at_call 33; with_reducible refine (HD _ (HS.out.below HB3.out) (HG.out.below HB3.out)).mono ?_; rintro e w4 ⟨rfl, hb4⟩; have HB4 := Lib.hid (HB3.out.trans (hb4.mono HB3.out.size)); clear hb4))
  go_ret
  exact ⟨by rfl, HB4.out⟩
end
end
end Go.Proofs.YtnemchmiplbopaaDoor
namespace Go.Proofs.YtnemchmiplbopaaDoor
section
set_option linter.unusedSimpArgs false
set_option linter.unusedVariables false
set_option maxRecDepth 100000
open Go.RowKit Go.Maps Go.Proofs.YtnemchmiplbopaaDoorW.PrintWords Go.Proofs.YtnemchmiplbopaaDoorW.PrintLast Go.Proofs.YtnemchmiplbopaaDoorW.PrintMore Go.Proofs.YtnemchmiplbopaaDoor.Th Go.Proofs.YtnemchmiplbopaaDoor.SetW

theorem make_calls {o : List ByteArray} {b n : Nat} : ∀ (a : Nm), a.ok = true → a.enc.length ≤ 300 → ∀ W, KSet W b n o → GlobOk W →
    Calls Tryd.prog 33 #[.map (some b), .string (T a.enc)] W fun e w' => e = .returned (.bool (mkN o a)) ∧ Below W.heap.size W w' := by
  have start : ∀ a : Nm, a.ok = true → a.enc.length ≤ 300 → (T a.enc).size ≤ 300 ∧ impl_SecMade.f (T a.enc) = some (a.op, a.who, a.num, T a.fst, T a.snd) := fun a ho hl =>
    ⟨by rw [T_size]; exact hl, by unfold impl_SecMade.f; rw [nm_T ho hl]⟩
  have one : ∀ (a x : Nm), a.ok = true → a.enc.length ≤ 300 → 1 < a.op → a.fst = x.enc → a.snd = [] → mkN o a = (hasB o (T a.enc) || mkN o x) →
      (∀ W, KSet W b n o → GlobOk W → Calls Tryd.prog 33 #[.map (some b), .string (T x.enc)] W fun e w' => e = .returned (.bool (mkN o x)) ∧ Below W.heap.size W w') →
      ∀ W, KSet W b n o → GlobOk W → Calls Tryd.prog 33 #[.map (some b), .string (T a.enc)] W fun e w' => e = .returned (.bool (mkN o a)) ∧ Below W.heap.size W w' := by
    intro a x ho hl hop hf hs hm ih W hS hG
    obtain ⟨s1, s2⟩ := start a ho hl
    rw [hm]
    rw [hf, hs] at s2
    cases hh : hasB o (T a.enc) with
    | true => rw [Bool.true_or]; exact make_has hS s1 hh
    | false =>
      rw [Bool.false_or]
      cases hx : mkN o x with
      | false => rw [hx] at ih; exact make_no hS s1 hG hh _ _ _ _ _ s2 hop ih
      | true => rw [hx] at ih; exact make_yes hS s1 hG hh _ _ _ _ _ s2 hop ih rfl
  intro a
  induction a with
  | new w m =>
    intro ho hl W hS hG
    obtain ⟨s1, s2⟩ := start _ ho hl
    show Calls _ _ _ _ fun e w' => e = .returned (.bool (hasB o (T (Nm.new w m).enc))) ∧ _
    cases hh : hasB o (T (Nm.new w m).enc) with
    | true => exact make_has hS s1 hh
    | false => exact make_new hS s1 hG hh _ _ _ _ _ s2 (by simp [Nm.op])
  | next a ih => intro ho hl; exact one (.next a) a ho hl (by simp [Nm.op]) rfl rfl rfl (ih ho (by simp only [Nm.enc, List.length_cons] at hl; omega))
  | key a ih => intro ho hl; exact one (.key a) a ho hl (by simp [Nm.op]) rfl rfl rfl (ih ho (by simp only [Nm.enc, List.length_cons] at hl; omega))
  | say w a ih => intro ho hl; exact one (.say w a) a ho hl (by simp [Nm.op]) rfl rfl rfl (ih (by simp only [Nm.ok, Bool.and_eq_true] at ho; exact ho.2) (by simp only [Nm.enc, List.length_cons] at hl; omega))
  | room w a ih => intro ho hl; exact one (.room w a) a ho hl (by simp [Nm.op]) rfl rfl rfl (ih (by simp only [Nm.ok, Bool.and_eq_true] at ho; exact ho.2) (by simp only [Nm.enc, List.length_cons] at hl; omega))
  | epoch a c iha ihc =>
    intro ho hl W hS hG
    obtain ⟨s1, s2⟩ := start _ ho hl
    have ho' := ho
    simp only [Nm.ok, Bool.and_eq_true] at ho'
    have hl' := hl
    simp only [Nm.enc, List.length_cons, List.length_append] at hl'
    have h1 := iha ho'.1 (by omega)
    have h2 := ihc ho'.2 (by omega)
    have hy : T c.enc ≠ ⟨#[]⟩ := fun h => by
      have := congrArg ByteArray.size h
      rw [T_size] at this
      have hp := enc_pos c
      simp [ByteArray.size] at this
      rw [this] at hp
      simp at hp
    show Calls _ _ _ _ fun e w' => e = .returned (.bool (hasB o (T (Nm.epoch a c).enc) || (mkN o a && mkN o c))) ∧ _
    cases hh : hasB o (T (Nm.epoch a c).enc) with
    | true => rw [Bool.true_or]; exact make_has hS s1 hh
    | false =>
      rw [Bool.false_or]
      cases hx : mkN o a with
      | false => rw [hx] at h1; rw [Bool.false_and]; exact make_no hS s1 hG hh _ _ _ _ _ s2 (by simp [Nm.op]) h1
      | true =>
        rw [hx] at h1
        rw [Bool.true_and]
        cases hz : mkN o c with
        | true => rw [hz] at h2; exact make_both_t hS s1 hG hh _ _ _ _ _ s2 (by simp [Nm.op]) h1 hy h2
        | false => rw [hz] at h2; exact make_both_f hS s1 hG hh _ _ _ _ _ s2 (by simp [Nm.op]) h1 hy h2
/-- A name's text, whatever its name. -/
theorem makeS_calls {o : List ByteArray} {b n : Nat} {s : ByteArray} (hs : (nm s).isSome = true) (W : World) (hS : KSet W b n o) (hG : GlobOk W) :
    Calls Tryd.prog 33 #[.map (some b), .string s] W fun e w' => e = .returned (.bool (mkS o s)) ∧ Below W.heap.size W w' := by
  unfold mkS
  cases hn : nm s with
  | none => rw [hn] at hs; exact absurd hs (by decide)
  | some a =>
    obtain ⟨h1, h2, h3⟩ := nm_some.1 hn
    subst h3
    exact make_calls a h1 (by rw [T_size] at h2; exact h2) W hS hG

/-! ### knowsOf -/
theorem knowsOf_calls (A : Option Addr) (c : Nat) (l : List ByteArray) (w : World) (hr : Kd.C Kd.string w A l.length l) (hl : l.length ≤ 1000) (hs : ∀ s ∈ l, s.size ≤ 300) :
    Calls Tryd.prog 32 #[.slice A l.length c] w fun e w' => ∃ b, e = .returned (.map (some b)) ∧ KSet w' b l.length l ∧ Below w.heap.size w w' := by
  have hmm := @run_makeMap Tryd.prog
  go_enter Tryd.func32, Tryd.ntmps32
  go_wp2
  have HR := Aside0.mk hr
  have HL := Aside0.mk hl
  have HS := Aside0.mk hs
  clear hr hl hs
  go_loopw [9] (fun i wr => ∃ k : Nat, k ≤ l.length ∧ i = .int .i64 k ∧ Hid (KSet wr w.heap.size k (l.take k)) ∧ Aside0 (Below w.heap.size w wr))
    (fun i _ => l.length - (intOf i).toNat)
  case atStart => exact ⟨0, Nat.zero_le _, rfl, Lib.hid (IsSet.made _ _ _ _), ⟨(Below.refl _ _).alloc (Nat.le_refl _) _⟩⟩
  case round =>
    obtain ⟨k, hk, rfl, HK, HB⟩ := hrel
    by_cases hlt : k < l.length
    · obtain ⟨ad, rfl, hc⟩ := Kd.at_string (Kd.C_below HR.out HB.out) (k : Int) (by omega) (by omega)
      rw [Int.toNat_natCast] at hc
      have hx : l.take (k + 1) = l.take k ++ [rdOf ByteArray.empty l k] := by
        rw [List.take_succ_eq_append_getElem hlt]
        unfold rdOf
        rw [Int.toNat_natCast, List.getD_eq_getElem?_getD, List.getElem?_eq_getElem hlt]
        rfl
      have hz : (rdOf ByteArray.empty l k).size ≤ 300 := HS.out _ (List.mem_of_mem_take (i := k + 1) (by rw [hx]; simp))
      have HX := Lib.hid hx
      have HZ := Lib.hid hz
      clear hx hz
      go_wp2_with (at_mapUpdate; refine wpList_put_set _ rfl _ _ _ rfl Tryd.underlying9 Tryd.underlying4 Tryd.underlying57 rfl HK.out (by have := HL.out; unfold maxLen; omega) (rdOf ByteArray.empty l k) rfl (by have := HZ.out; unfold maxLen; omega) rfl ?_; intro w1 hs1 hg1; have HK1 := Lib.hid hs1; have HG1 := Lib.hid hg1; clear hs1 hg1)
      have hw_ : wrap64 ((k : Int) + 1) = (k : Int) + 1 := by have := HL.out; exact (show wrap64 ((k : Int) + 1) = (k : Int) + 1 by unfold wrap64; omega)
      go_roundw
      case rel => exact ⟨k + 1, by omega, by rw [hw_]; rfl, Lib.hid (by rw [HX.out]; exact HK1.out), ⟨HB.out.grown HG1.out HB.out.size (fun j hj => by cases hj; exact Nat.le_refl _)⟩⟩
      case measure => rw [hw_]; simp [intOf]; omega
    · have he : k = l.length := by omega
      subst he
      have hp := HK.out
      rw [List.take_length] at hp
      have HP := Lib.hid hp
      clear hp
      go_wp2
      go_ret
      exact ⟨_, rfl, HP.out, HB.out⟩

/-! ### opened: what puts -/
/-- What is opened, as it stands: the list's variable at g1, the set's at g2, the set at bm. -/
def Opn (w0 w : World) (g1 g2 bm : Nat) (o : List ByteArray) : Prop :=
  ∃ v, w.heap[g1]? = some (.cells #[v] 22 (0, 0)) ∧ w.heap[g2]? = some (.cells #[.map (some bm)] 57 (0, 0)) ∧ KSet w bm o.length o ∧
    Kd.R Kd.string 9 w w0.heap.size (fun k => k ≠ g1 ∧ k ≠ g2 ∧ k ≠ bm) v o ∧ Below w0.heap.size w0 w ∧ w0.heap.size ≤ g1 ∧ w0.heap.size ≤ g2 ∧ w0.heap.size ≤ bm ∧ g1 ≠ g2 ∧ g1 ≠ bm ∧ g2 ≠ bm
theorem Opn.below {w0 w w' : World} {g1 g2 bm : Nat} {o : List ByteArray} (h : Opn w0 w g1 g2 bm o) (hb : Below w.heap.size w w') : Opn w0 w' g1 g2 bm o := by
  obtain ⟨v, h1, h2, h3, h4, h5, h6⟩ := h
  exact ⟨v, (hb.block g1 (blk_lt h1)).trans h1, (hb.block g2 (blk_lt h2)).trans h2, h3.below hb, Kd.R_below h4 hb, h5.trans (hb.mono h5.size), h6⟩
theorem infoStr : (Tryd.prog.info? 9).map (fun i => (i.zero, i.size, i.bytes)) = some (some (.string ⟨#[]⟩), 1, 16) := by kernel_rfl
theorem put_old {w0 w : World} {g1 g2 bm : Nat} {o : List ByteArray} {s : ByteArray} (h : Opn w0 w g1 g2 bm o) (hs : s.size ≤ 300) (hh : hasB o s = true) :
    Calls Tryd.prog 59 #[.string s, .pointer (some ⟨g2, 0, none⟩), .pointer (some ⟨g1, 0, none⟩)] w fun e w' => e = .returned (.tuple #[]) ∧ w' = w := by
  obtain ⟨v, h1, h2, h3, _⟩ := h
  have c2 : w.cell? ⟨g2, 0, none⟩ = some (.map (some bm)) := blk_cell h2 0
  have HS := Lib.hid h3
  have HZ := Lib.hid hs
  clear h1 h2 h3 hs
  go_enter Tryd.func59, Tryd.ntmps59
  go_wp2_with (at_lookup; refine wpList_look_set _ rfl _ _ rfl Tryd.underlying9 Tryd.underlying4 Tryd.underlying57 (zeroBool _) rfl HS.out s rfl (by have := HZ.out; unfold maxLen; omega) ?_; rw [hh])
  refine bodyPost_end (v := .tuple #[]) (by simp [results, Tryd.results59, go_sem]) rfl ?_
  exact ⟨rfl, rfl⟩
theorem put_new {w0 w : World} {g1 g2 bm : Nat} {o : List ByteArray} {s : ByteArray} (h : Opn w0 w g1 g2 bm o) (hs : s.size ≤ 300) (hh : hasB o s = false) (ho : o.length ≤ 1000) :
    Calls Tryd.prog 59 #[.string s, .pointer (some ⟨g2, 0, none⟩), .pointer (some ⟨g1, 0, none⟩)] w fun e w' => e = .returned (.tuple #[]) ∧ Opn w0 w' g1 g2 bm (o ++ [s]) := by
  obtain ⟨v, h1, h2, h3, h4, h5, h6, h7, h8, h9, h10, h11⟩ := h
  have c2 : w.cell? ⟨g2, 0, none⟩ = some (.map (some bm)) := blk_cell h2 0
  have HS := Lib.hid h3
  have HZ := Lib.hid hs
  have H1 := Lib.hid h1
  have H2 := Lib.hid h2
  have H4 := Lib.hid h4
  have H5 := Lib.hid h5
  have HO := Lib.hid ho
  have P1 := Lib.hid h6
  have P2 := Lib.hid h7
  have P3 := Lib.hid h8
  have N1 := Lib.hid h9
  have N2 := Lib.hid h10
  have N3 := Lib.hid h11
  clear h1 h2 h3 hs h4 h5 ho h6 h7 h8 h9 h10 h11
  go_enter Tryd.func59, Tryd.ntmps59
  go_wp2_with (first
    | (at_lookup; refine wpList_look_set _ rfl _ _ rfl Tryd.underlying9 Tryd.underlying4 Tryd.underlying57 (zeroBool _) rfl HS.out s rfl (by have := HZ.out; unfold maxLen; omega) ?_; rw [hh])
    | (at_mapUpdate; refine wpList_put_set _ rfl _ _ _ rfl Tryd.underlying9 Tryd.underlying4 Tryd.underlying57 rfl HS.out (by have := HO.out; unfold maxLen; omega) s rfl (by have := HZ.out; unfold maxLen; omega) rfl ?_; intro w1 hs1 hg1; have HK1 := Lib.hid hs1; have G1 := Lib.hid (blk_grown H1.out hg1 (fun h => N2.out (Option.some.inj h))); have G2 := Lib.hid (blk_grown H2.out hg1 (fun h => N3.out (Option.some.inj h))); have R1 := Lib.hid (Kd.R_grown H4.out hg1 (fun k hk h => hk.2.2 (Option.some.inj h))); have B1 := Lib.hid (H5.out.grown hg1 H5.out.size (fun j hj => by cases hj; exact P3.out)); have c1 : w1.cell? ⟨g1, 0, none⟩ = some v := blk_cell G1.out 0; clear hs1 hg1)
    | (at_builtin; refine Kd.R_append Kd.string (w0 := w0) w0.heap.size rfl _ _ 22 9 (.string ⟨#[]⟩) 16 rfl Tryd.underlying22 infoStr rfl (by decide) (by omega) v o s [.string s] (fun k => k ≠ g1 ∧ k ≠ g2 ∧ k ≠ bm) (fun _ => False) rfl rfl rfl (fun _ hk => hk.elim) (fun k hk => ⟨fun h => by have := blk_lt G1.out; omega, fun h => by have := blk_lt G2.out; omega, fun h => by have := HK1.out.lt; omega⟩) R1.out B1.out B1.out.size (by have := HO.out; omega) ?_; intro v2 w2 ho2 hb2 hg2 hat2; obtain ⟨A2_, k2_, e2_, _, _⟩ := Kd.R_reads ho2; subst e2_; have R2 := Lib.hid ho2; have B2 := Lib.hid hb2; have G12 := Lib.hid (blk_grown G1.out hg2 (fun h => (R1.out.1 g1 h.symm).1 rfl)); have G22 := Lib.hid (blk_grown G2.out hg2 (fun h => (R1.out.1 g2 h.symm).2.1 rfl)); have K2 := Lib.hid (HK1.out.kept hg2 (fun h => (R1.out.1 bm h.symm).2.2 rfl)); have c12 : w2.cell? ⟨g1, 0, none⟩ = some v := blk_cell G12.out 0; have f12 := blk_frozen G12.out 0; clear ho2 hb2 hg2 hat2))
  refine bodyPost_end (v := .tuple #[]) (by simp [results, Tryd.results59, go_sem]) rfl ?_
  have HF := Kd.R_far R2.out (p := ⟨g1, 0, none⟩) (fun k hk => hk.1) (.slice A2_ (o ++ [s]).length k2_)
  have e_ : (o ++ [s]).length = o.length + 1 := by simp
  rw [e_] at HF
  refine ⟨rfl, _, (blk_set G12.out 0 _).trans rfl, blk_far G22.out (fun h => N1.out h.symm) _, ?_, HF, below_set B2.out P1.out, P1.out, P2.out, P3.out, N1.out, N2.out, N3.out⟩
  rw [List.length_append]
  exact K2.out.setCell (fun h => N2.out h.symm) _
end
end Go.Proofs.YtnemchmiplbopaaDoor
