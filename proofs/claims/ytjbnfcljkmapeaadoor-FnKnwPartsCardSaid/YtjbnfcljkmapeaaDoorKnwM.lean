/- impl.knows.make, impl.knowsOf: their contracts. -/
import Derived.Test.YtjbnfcljkmapeaaDoorGivC
import Derived.Test.YtjbnfcljkmapeaaDoorSet
import Derived.WalkKit
import Derived.LoopTactic
namespace Go.Proofs.YtjbnfcljkmapeaaDoor
set_option linter.unusedSimpArgs false
set_option linter.unusedVariables false
set_option maxRecDepth 100000
open Go.RowKit Go.Maps Go.Proofs.YtjbnfcljkmapeaaDoorW.PrintWords Go.Proofs.YtjbnfcljkmapeaaDoorW.PrintLast Go.Proofs.YtjbnfcljkmapeaaDoorW.PrintMore Go.Proofs.YtjbnfcljkmapeaaDoor.Th Go.Proofs.YtjbnfcljkmapeaaDoor.SetW

/-- Can a name be made from some? -/
def mkN (o : List ByteArray) : Nm → Bool
  | .new w n => hasB o (T (Nm.new w n).enc)
  | .next a => hasB o (T (Nm.next a).enc) || mkN o a
  | .key a => hasB o (T (Nm.key a).enc) || mkN o a
  | .epoch a b => hasB o (T (Nm.epoch a b).enc) || (mkN o a && mkN o b)
  | .say w a => hasB o (T (Nm.say w a).enc) || mkN o a
  | .room r a => hasB o (T (Nm.room r a).enc) || mkN o a
def mkS (o : List ByteArray) (s : ByteArray) : Bool := match nm s with
  | some a => mkN o a
  | none => false
theorem mkN_mono {o o' : List ByteArray} (h : ∀ x ∈ o, x ∈ o') : ∀ a : Nm, mkN o a = true → mkN o' a = true := by
  have hh : ∀ s, hasB o s = true → hasB o' s = true := fun s hs => hasB_iff.2 (h _ (hasB_iff.1 hs))
  intro a
  induction a with
  | new w n => exact hh _
  | next a ih => intro h; simp only [mkN, Bool.or_eq_true] at h ⊢; exact h.imp (hh _) ih
  | key a ih => intro h; simp only [mkN, Bool.or_eq_true] at h ⊢; exact h.imp (hh _) ih
  | epoch a b iha ihb => intro h; simp only [mkN, Bool.or_eq_true, Bool.and_eq_true] at h ⊢; exact h.imp (hh _) (And.imp iha ihb)
  | say w a ih => intro h; simp only [mkN, Bool.or_eq_true] at h ⊢; exact h.imp (hh _) ih
  | room w a ih => intro h; simp only [mkN, Bool.or_eq_true] at h ⊢; exact h.imp (hh _) ih
theorem mkS_mono {o o' : List ByteArray} (h : ∀ x ∈ o, x ∈ o') (s : ByteArray) (hs : mkS o s = true) : mkS o' s = true := by
  unfold mkS at hs ⊢
  split at hs
  · exact mkN_mono h _ hs
  · exact absurd hs (by decide)
theorem mkS_congr {o o' : List ByteArray} (h : ∀ x, x ∈ o ↔ x ∈ o') (s : ByteArray) : mkS o s = mkS o' s := by
  rw [Bool.eq_iff_iff]
  exact ⟨mkS_mono (fun x hx => (h x).1 hx) s, mkS_mono (fun x hx => (h x).2 hx) s⟩

abbrev KSet (w : World) (b n : Nat) (o : List ByteArray) : Prop := IsSet Tryd.prog 9 4 w b n o
theorem zeroBool (w : World) : (zeroValue 4).run Tryd.prog w = .ok (.bool false) w := by kernel_rfl

theorem blk_self (w : World) (o : Obj) : (w.alloc o).heap[w.heap.size]? = some o := by show (w.heap.push o)[w.heap.size]? = some o; simp
section
variable {o : List ByteArray} {b n : Nat} {s : ByteArray} {w : World}
theorem make_has (hS : KSet w b n o) (hs : s.size ≤ 300) (h : hasB o s = true) :
    Calls Tryd.prog 40 #[.map (some b), .string s] w fun e w' => e = .returned (.bool true) ∧ Below w.heap.size w w' := by
  have HS := Lib.hid hS
  have HZ := Lib.hid hs
  clear hS hs
  go_enter Tryd.func40, Tryd.ntmps40
  go_wp2_with (at_lookup; refine wpList_look_set _ rfl _ _ rfl Tryd.underlying9 Tryd.underlying4 Tryd.underlying57 (zeroBool _) rfl HS.out s rfl (by have := HZ.out; unfold maxLen; omega) ?_; rw [h])
  go_ret
  exact ⟨rfl, Below.refl _ _⟩
theorem make_new (hS : KSet w b n o) (hs : s.size ≤ 300) (hG : GlobOk w) (h : hasB o s = false) (op who num : Int) (x y : ByteArray) (hf : impl_SecMade.f s = some (op, who, num, x, y)) (hop : ¬ 1 < op) :
    Calls Tryd.prog 40 #[.map (some b), .string s] w fun e w' => e = .returned (.bool false) ∧ Below w.heap.size w w' := by
  have HS := Lib.hid hS
  have HZ := Lib.hid hs
  have HM := Lib.hid (impl_SecMade.calls s op who num x y w hG hf)
  have g0 : decide (1 < op) = false := decide_eq_false hop
  clear hS hs hG hf hop
  go_enter Tryd.func40, Tryd.ntmps40
  go_wp2_with (first
    | (at_lookup; refine wpList_look_set _ rfl _ _ rfl Tryd.underlying9 Tryd.underlying4 Tryd.underlying57 (zeroBool _) rfl HS.out s rfl (by have := HZ.out; unfold maxLen; omega) ?_; rw [h])
    | (go_at_call 19; refine HM.out.mono ?_; rintro e w1 ⟨rfl, hb⟩; have HB := Lib.hid hb; clear hb))
  go_ret
  exact ⟨rfl, Below.alloc HB.out HB.out.size _⟩
set_option maxHeartbeats 1600000 in
theorem make_no (hS : KSet w b n o) (hs : s.size ≤ 300) (hG : GlobOk w) (h : hasB o s = false) (op who num : Int) (x y : ByteArray) (hf : impl_SecMade.f s = some (op, who, num, x, y)) (hop : 1 < op) (HC : ∀ W, KSet W b n o → GlobOk W → Calls Tryd.prog 40 #[.map (some b), .string x] W fun e w' => e = .returned (.bool false) ∧ Below W.heap.size W w') :
    Calls Tryd.prog 40 #[.map (some b), .string s] w fun e w' => e = .returned (.bool false) ∧ Below w.heap.size w w' := by
  have HS := Lib.hid hS
  have HZ := Lib.hid hs
  have HG := Lib.hid hG
  have HM := Lib.hid (impl_SecMade.calls s op who num x y w hG hf)
  have g0 : decide (1 < op) = true := decide_eq_true hop
  clear hS hs hG hf hop
  go_enter Tryd.func40, Tryd.ntmps40
  go_wp2_with (first
    | (at_lookup; refine wpList_look_set _ rfl _ _ rfl Tryd.underlying9 Tryd.underlying4 Tryd.underlying57 (zeroBool _) rfl HS.out s rfl (by have := HZ.out; unfold maxLen; omega) ?_; rw [h])
    | (go_at_call 19; refine HM.out.mono ?_; rintro e w1 ⟨rfl, hb⟩; have HB := Lib.hid (Below.alloc hb hb.size (.cells #[.int .i64 op, .int .i64 who, .int .i64 num, .string x, .string y] 35)); clear hb)
    | (go_at_call 40; with_reducible refine (HC _ (HS.out.below HB.out) (HG.out.below HB.out)).mono ?_; rintro e w3 ⟨rfl, hb3⟩; have c4 : w3.cell? ⟨w1.heap.size, 4, none⟩ = some (.string y) := ((bcell hb3).1 _ _ (by simp)).trans ((blk_cell (blk_self _ _) 4).trans rfl); have HB3 := Lib.hid (HB.out.trans (hb3.mono HB.out.size)); clear hb3))
  go_ret
  exact ⟨rfl, HB3.out⟩
set_option maxHeartbeats 1600000 in
theorem make_yes (hS : KSet w b n o) (hs : s.size ≤ 300) (hG : GlobOk w) (h : hasB o s = false) (op who num : Int) (x y : ByteArray) (hf : impl_SecMade.f s = some (op, who, num, x, y)) (hop : 1 < op) (HC : ∀ W, KSet W b n o → GlobOk W → Calls Tryd.prog 40 #[.map (some b), .string x] W fun e w' => e = .returned (.bool true) ∧ Below W.heap.size W w') (hy : y = ⟨#[]⟩) :
    Calls Tryd.prog 40 #[.map (some b), .string s] w fun e w' => e = .returned (.bool true) ∧ Below w.heap.size w w' := by
  have HS := Lib.hid hS
  have HZ := Lib.hid hs
  have HG := Lib.hid hG
  have HM := Lib.hid (impl_SecMade.calls s op who num x ⟨#[]⟩ w hG (hy ▸ hf))
  have g0 : decide (1 < op) = true := decide_eq_true hop
  subst hy
  clear hS hs hG hf hop
  go_enter Tryd.func40, Tryd.ntmps40
  go_wp2_with (first
    | (at_lookup; refine wpList_look_set _ rfl _ _ rfl Tryd.underlying9 Tryd.underlying4 Tryd.underlying57 (zeroBool _) rfl HS.out s rfl (by have := HZ.out; unfold maxLen; omega) ?_; rw [h])
    | (go_at_call 19; refine HM.out.mono ?_; rintro e w1 ⟨rfl, hb⟩; have HB := Lib.hid (Below.alloc hb hb.size (.cells #[.int .i64 op, .int .i64 who, .int .i64 num, .string x, .string ⟨#[]⟩] 35)); clear hb)
    | (go_at_call 40; with_reducible refine (HC _ (HS.out.below HB.out) (HG.out.below HB.out)).mono ?_; rintro e w3 ⟨rfl, hb3⟩; have c4 : w3.cell? ⟨w1.heap.size, 4, none⟩ = some (.string ⟨#[]⟩) := ((bcell hb3).1 _ _ (by simp)).trans ((blk_cell (blk_self _ _) 4).trans rfl); have HB3 := Lib.hid (HB.out.trans (hb3.mono HB.out.size)); clear hb3))
  go_ret
  exact ⟨rfl, HB3.out⟩
set_option maxHeartbeats 1600000 in
theorem make_both_t (hS : KSet w b n o) (hs : s.size ≤ 300) (hG : GlobOk w) (h : hasB o s = false) (op who num : Int) (x y : ByteArray) (hf : impl_SecMade.f s = some (op, who, num, x, y)) (hop : 1 < op) (HC : ∀ W, KSet W b n o → GlobOk W → Calls Tryd.prog 40 #[.map (some b), .string x] W fun e w' => e = .returned (.bool true) ∧ Below W.heap.size W w') (hy : y ≠ ⟨#[]⟩) (HD : ∀ W, KSet W b n o → GlobOk W → Calls Tryd.prog 40 #[.map (some b), .string y] W fun e w' => e = .returned (.bool true) ∧ Below W.heap.size W w') :
    Calls Tryd.prog 40 #[.map (some b), .string s] w fun e w' => e = .returned (.bool true) ∧ Below w.heap.size w w' := by
  have HS := Lib.hid hS
  have HZ := Lib.hid hs
  have HG := Lib.hid hG
  have HM := Lib.hid (impl_SecMade.calls s op who num x y w hG hf)
  have g0 : decide (1 < op) = true := decide_eq_true hop
  have n1 : (y.toList == []) = false := by rw [beq_eq_false_iff_ne]; exact fun e => hy (toList_nil.1 e)
  have n2 : (y.toList != []) = true := by rw [bne, n1]; rfl
  have n3 : y.toList.isEmpty = false := by cases e : y.toList with
    | nil => exact absurd (toList_nil.1 e) hy
    | cons _ _ => rfl
  clear hy
  clear hS hs hG hf hop
  go_enter Tryd.func40, Tryd.ntmps40
  go_wp2_with (first
    | (at_lookup; refine wpList_look_set _ rfl _ _ rfl Tryd.underlying9 Tryd.underlying4 Tryd.underlying57 (zeroBool _) rfl HS.out s rfl (by have := HZ.out; unfold maxLen; omega) ?_; rw [h])
    | (go_at_call 19; refine HM.out.mono ?_; rintro e w1 ⟨rfl, hb⟩; have HB := Lib.hid (Below.alloc hb hb.size (.cells #[.int .i64 op, .int .i64 who, .int .i64 num, .string x, .string y] 35)); clear hb)
    | (go_at_call 40; with_reducible refine (HC _ (HS.out.below HB.out) (HG.out.below HB.out)).mono ?_; rintro e w3 ⟨rfl, hb3⟩; have c4 : w3.cell? ⟨w1.heap.size, 4, none⟩ = some (.string y) := ((bcell hb3).1 _ _ (by simp)).trans ((blk_cell (blk_self _ _) 4).trans rfl); have HB3 := Lib.hid (HB.out.trans (hb3.mono HB.out.size)); clear hb3)
    | (go_at_call 40; with_reducible refine (HD _ (HS.out.below HB3.out) (HG.out.below HB3.out)).mono ?_; rintro e w4 ⟨rfl, hb4⟩; have HB4 := Lib.hid (HB3.out.trans (hb4.mono HB3.out.size)); clear hb4))
  go_ret
  exact ⟨by rfl, HB4.out⟩
set_option maxHeartbeats 1600000 in
theorem make_both_f (hS : KSet w b n o) (hs : s.size ≤ 300) (hG : GlobOk w) (h : hasB o s = false) (op who num : Int) (x y : ByteArray) (hf : impl_SecMade.f s = some (op, who, num, x, y)) (hop : 1 < op) (HC : ∀ W, KSet W b n o → GlobOk W → Calls Tryd.prog 40 #[.map (some b), .string x] W fun e w' => e = .returned (.bool true) ∧ Below W.heap.size W w') (hy : y ≠ ⟨#[]⟩) (HD : ∀ W, KSet W b n o → GlobOk W → Calls Tryd.prog 40 #[.map (some b), .string y] W fun e w' => e = .returned (.bool false) ∧ Below W.heap.size W w') :
    Calls Tryd.prog 40 #[.map (some b), .string s] w fun e w' => e = .returned (.bool false) ∧ Below w.heap.size w w' := by
  have HS := Lib.hid hS
  have HZ := Lib.hid hs
  have HG := Lib.hid hG
  have HM := Lib.hid (impl_SecMade.calls s op who num x y w hG hf)
  have g0 : decide (1 < op) = true := decide_eq_true hop
  have n1 : (y.toList == []) = false := by rw [beq_eq_false_iff_ne]; exact fun e => hy (toList_nil.1 e)
  have n2 : (y.toList != []) = true := by rw [bne, n1]; rfl
  have n3 : y.toList.isEmpty = false := by cases e : y.toList with
    | nil => exact absurd (toList_nil.1 e) hy
    | cons _ _ => rfl
  clear hy
  clear hS hs hG hf hop
  go_enter Tryd.func40, Tryd.ntmps40
  go_wp2_with (first
    | (at_lookup; refine wpList_look_set _ rfl _ _ rfl Tryd.underlying9 Tryd.underlying4 Tryd.underlying57 (zeroBool _) rfl HS.out s rfl (by have := HZ.out; unfold maxLen; omega) ?_; rw [h])
    | (go_at_call 19; refine HM.out.mono ?_; rintro e w1 ⟨rfl, hb⟩; have HB := Lib.hid (Below.alloc hb hb.size (.cells #[.int .i64 op, .int .i64 who, .int .i64 num, .string x, .string y] 35)); clear hb)
    | (go_at_call 40; with_reducible refine (HC _ (HS.out.below HB.out) (HG.out.below HB.out)).mono ?_; rintro e w3 ⟨rfl, hb3⟩; have c4 : w3.cell? ⟨w1.heap.size, 4, none⟩ = some (.string y) := ((bcell hb3).1 _ _ (by simp)).trans ((blk_cell (blk_self _ _) 4).trans rfl); have HB3 := Lib.hid (HB.out.trans (hb3.mono HB.out.size)); clear hb3)
    | (go_at_call 40; with_reducible refine (HD _ (HS.out.below HB3.out) (HG.out.below HB3.out)).mono ?_; rintro e w4 ⟨rfl, hb4⟩; have HB4 := Lib.hid (HB3.out.trans (hb4.mono HB3.out.size)); clear hb4))
  go_ret
  exact ⟨by rfl, HB4.out⟩
end
end Go.Proofs.YtjbnfcljkmapeaaDoor
