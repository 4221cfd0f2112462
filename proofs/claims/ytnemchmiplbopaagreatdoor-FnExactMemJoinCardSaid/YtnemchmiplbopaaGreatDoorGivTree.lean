/- impl.isKey and impl.TreOk: their contracts. slices.Clip at []int: a row of one's own, cut to its length, may end inside its block. -/
import Derived.Test.YtnemchmiplbopaaGreatDoorSho
import Derived.LoopTactic
import Derived.Test.YtnemchmiplbopaaGreatDoorWWords
import Derived.Test.YtnemchmiplbopaaGreatDoorProg
import Derived.WalkSpells
namespace Go.Proofs.YtnemchmiplbopaaGreatDoor
section
set_option linter.unusedSimpArgs false
set_option linter.unusedVariables false
set_option maxRecDepth 100000
open Go.RowKit Go.Proofs.YtnemchmiplbopaaGreatDoorW.PrintWords Go.Proofs.YtnemchmiplbopaaGreatDoorW.PrintLast Go.Proofs.YtnemchmiplbopaaGreatDoorW.PrintMore Go.Proofs.YtnemchmiplbopaaGreatDoor.Th

/-- Is a text a key's name? -/
def keyB (s : ByteArray) : Bool := match nm s with
  | some a => a.op == 3
  | none => false
def impl_isKey.f (s : ByteArray) : Option Bool := some (keyB s)
theorem impl_isKey.calls (a0 : ByteArray) (r : Bool) (w : World) (hG : GlobOk w) (h : impl_isKey.f a0 = some r) :
    Calls Tryz.prog 81 #[.string a0] w fun e w' => e = .returned (.bool r) ∧ Below w.heap.size w w' := by
  have hfl : ∀ (v0 v1 v2 v3 v4 : Value) (W : World), (Instr.field 98 (.agg #[v0, v1, v2, v3, v4]) 0).run Tryz.prog W = .ok v0 W := fun _ _ _ _ _ _ => by kernel_rfl
  unfold impl_isKey.f keyB at h
  obtain rfl := Option.some.inj h
  clear h
  cases hn : nm a0 with
  | none =>
    have HM := Lib.hid (impl_SecMade.calls a0 0 0 0 ⟨#[]⟩ ⟨#[]⟩ w hG (by unfold impl_SecMade.f; rw [hn]))
    clear hn hG
    go_enter Tryz.func81, Tryz.ntmps81
    go_wp2_with (go_at_call 82; refine HM.out.mono ?_; rintro e w1 ⟨rfl, hb⟩)
    go_ret
    exact ⟨rfl, hb⟩
  | some a =>
    have HM := Lib.hid (impl_SecMade.calls a0 a.op a.who a.num (T a.fst) (T a.snd) w hG (by unfold impl_SecMade.f; rw [hn]))
    clear hn hG
    go_enter Tryz.func81, Tryz.ntmps81
    go_wp2_with (go_at_call 82; refine HM.out.mono ?_; rintro e w1 ⟨rfl, hb⟩)
    go_ret
    exact ⟨rfl, hb⟩

/-! ### TreOk -/
/-- What may stand at a place: nothing, or a key. -/
def slotB (s : ByteArray) : Bool := if s = ⟨#[]⟩ then true else keyB s
theorem tre_bad (s : ByteArray) (w : World) (hG : GlobOk w) :
    Calls Tryz.prog 80 #[.string s] w fun e w' => e = .returned (.bool (!slotB s)) ∧ Below w.heap.size w w' := by
  unfold slotB
  by_cases h : s = ⟨#[]⟩
  · subst h
    rw [if_pos rfl]
    clear hG
    go_enter Tryz.func80, Tryz.ntmps80
    go_wp2
    go_ret
    exact ⟨rfl, Below.refl _ _⟩
  · rw [if_neg h]
    have n1 : (s.toList == []) = false := by rw [beq_eq_false_iff_ne]; exact fun e => h (toList_nil.1 e)
    have n2 : (s.toList != []) = true := by rw [bne, n1]; rfl
    have n3 : s.toList.isEmpty = false := by cases e : s.toList with
      | nil => exact absurd (toList_nil.1 e) h
      | cons _ _ => rfl
    have HM := Lib.hid (impl_isKey.calls s _ w hG rfl)
    clear h hG
    go_enter Tryz.func80, Tryz.ntmps80
    go_wp2_with (go_at_call 81; refine HM.out.mono ?_; rintro e w1 ⟨rfl, hb⟩)
    go_ret
    exact ⟨rfl, hb⟩
/-- Where the first is that may not stand. -/
theorem tre_index (A : Option Addr) (c : Nat) (l : List ByteArray) (w : World) (hr : Kd.C Kd.string w A l.length l) (hG : GlobOk w) :
    Calls Tryz.prog 109 #[.slice A l.length c, .func (.func 80) #[] #[]] w fun e w' => (∃ i : Int, e = .returned (.int .i64 i) ∧ decide (0 ≤ i) = !l.all slotB) ∧ Below w.heap.size w w' := by
  have hmx : l.length ≤ 9223372036854775807 := hr.2.1
  go_enter Tryz.func109, Tryz.ntmps109
  go_wp2
  have HR := Aside0.mk hr
  have HG := Aside0.mk hG
  clear hr hG
  go_loopw [8] (fun i wr => ∃ k : Nat, k ≤ l.length ∧ i = .int .i64 k ∧ Hid ((l.take k).all slotB = true) ∧ Aside0 (Below w.heap.size w wr)) (fun i _ => l.length - (intOf i).toNat)
  case atStart => exact ⟨0, Nat.zero_le _, rfl, Lib.hid (by simp), ⟨Below.refl _ _⟩⟩
  case round =>
    obtain ⟨k, hk, rfl, HP, HB⟩ := hrel
    by_cases hlt : k < l.length
    · obtain ⟨ad, rfl, hc⟩ := Kd.at_string (Kd.C_below HR.out HB.out) (k : Int) (by omega) (by omega)
      rw [Int.toNat_natCast] at hc
      have hx : l.take (k + 1) = l.take k ++ [rdOf ByteArray.empty l k] := by
        rw [List.take_succ_eq_append_getElem hlt]
        unfold rdOf
        rw [Int.toNat_natCast, List.getD_eq_getElem?_getD, List.getElem?_eq_getElem hlt]
        rfl
      have hall : l.all slotB = true → slotB (rdOf ByteArray.empty l k) = true := by
        intro h
        rw [List.all_eq_true] at h
        exact h _ (List.mem_of_mem_take (i := k + 1) (by rw [hx]; simp))
      have hnext : (l.take k).all slotB = true → slotB (rdOf ByteArray.empty l k) = true → (l.take (k + 1)).all slotB = true := by
        intro h1 h2
        rw [hx, List.all_append, h1, List.all_cons, h2]
        rfl
      have HC := Lib.hid (tre_bad (rdOf ByteArray.empty l k) wr (GlobOk.below HG.out HB.out))
      have HA := Lib.hid hall
      have HN := Lib.hid hnext
      clear hx hall hnext
      cases hs : slotB (rdOf ByteArray.empty l k) with
      | true =>
        rw [hs] at HC
        have HS := Lib.hid hs
        clear hs
        go_wp2_with (go_at_call 80; refine HC.out.mono ?_; rintro e w1 ⟨rfl, hb⟩)
        go_roundw
        case rel => exact ⟨k + 1, by omega, by go_num, Lib.hid (HN.out HP.out HS.out), ⟨HB.out.trans (hb.mono HB.out.size)⟩⟩
        case measure => simp [intOf]; omega
      | false =>
        rw [hs] at HC HA
        clear hs
        go_wp2_with (go_at_call 80; refine HC.out.mono ?_; rintro e w1 ⟨rfl, hb⟩)
        go_ret
        refine ⟨⟨_, rfl, ?_⟩, HB.out.trans (hb.mono HB.out.size)⟩
        rw [decide_eq_true (by omega)]
        cases h : l.all slotB with
        | true => exact absurd (HA.out h) (by decide)
        | false => rfl
    · have he : k = l.length := by omega
      have hp := HP.out
      rw [he, List.take_length] at hp
      have HQ := Lib.hid hp
      clear he hp
      go_wp2
      go_ret
      refine ⟨⟨_, rfl, ?_⟩, HB.out⟩
      rw [HQ.out]
      rfl
theorem tre_contains (A : Option Addr) (c : Nat) (l : List ByteArray) (w : World) (hr : Kd.C Kd.string w A l.length l) (hG : GlobOk w) :
    Calls Tryz.prog 79 #[.slice A l.length c, .func (.func 80) #[] #[]] w fun e w' => e = .returned (.bool (!l.all slotB)) ∧ Below w.heap.size w w' := by
  have HC := Lib.hid (tre_index A c l w hr hG)
  clear hr hG
  go_enter Tryz.func79, Tryz.ntmps79
  go_wp2_with (go_at_call 109; refine HC.out.mono ?_; rintro e w1 ⟨⟨i, rfl, hi⟩, hb⟩; have HI := Lib.hid hi; clear hi)
  go_ret
  exact ⟨by rw [HI.out]; rfl, hb⟩
def treB (l : List ByteArray) : Bool := decide (l.length = 15) && l.all slotB
def impl_TreOk.f (l : List ByteArray) : Option Bool := some (treB l)
theorem impl_TreOk.calls (A0_0 : Option Addr) (c0_0 : Nat) (l0_0 : List ByteArray) (r : Bool) (w : World) (hr0_0 : Kd.C Kd.string w A0_0 l0_0.length l0_0) (hc0_0 : l0_0.length ≤ c0_0) (hG : GlobOk w) (h : impl_TreOk.f l0_0 = some r) :
    Calls Tryz.prog 34 #[.agg #[.slice A0_0 l0_0.length c0_0]] w fun e w' => e = .returned (.bool r) ∧ Below w.heap.size w w' := by
  unfold impl_TreOk.f treB at h
  obtain rfl := Option.some.inj h
  clear h
  have hu := Tryz.underlying30
  by_cases hl : l0_0.length = 15
  · have h1 : ((l0_0.length : Int) == 15) = true := beq_iff_eq.2 (by omega)
    have h2 : (l0_0.length == 15) = true := beq_iff_eq.2 hl
    have HC := Lib.hid (tre_contains A0_0 c0_0 l0_0 (w.alloc (.cells #[.slice A0_0 l0_0.length c0_0] 30)) (Kd.C_below hr0_0 (below_alloc (Below.refl _ _) _)) (GlobOk.below hG (below_alloc (Below.refl _ _) _)))
    rw [decide_eq_true hl]
    clear hr0_0 hc0_0 hG hl
    go_enter Tryz.func34, Tryz.ntmps34
    go_wp2_with (go_at_call 79; refine HC.out.mono ?_; rintro e w1 ⟨rfl, hb⟩)
    go_ret
    exact ⟨by simp, (below_alloc (Below.refl _ _) _).trans (hb.mono (by simp))⟩
  · have h1 : ((l0_0.length : Int) == 15) = false := beq_eq_false_iff_ne.2 (by omega)
    have h2 : (l0_0.length == 15) = false := beq_eq_false_iff_ne.2 hl
    rw [decide_eq_false hl]
    clear hr0_0 hc0_0 hG hl
    go_enter Tryz.func34, Tryz.ntmps34
    go_wp2
    go_ret
    exact ⟨rfl, below_alloc (Below.refl _ _) _⟩
end
end Go.Proofs.YtnemchmiplbopaaGreatDoor
namespace Go.Proofs.YtnemchmiplbopaaGreatDoor
section
set_option linter.unusedSimpArgs false
set_option linter.unusedVariables false
set_option maxRecDepth 100000
open Go.RowKit Go.Proofs.YtnemchmiplbopaaGreatDoorW.PrintWords

/-- A row cut to its length. -/
theorem Kd.Q_clip {α : Type} {d : Kd α} {e : Nat} {w : World} {base : Nat} {ok : Nat → Prop} {A : Option Addr} {n c : Nat} {xs : List α} (h : d.Q e w base ok (.slice A n c) xs) : d.Q e w base ok (.slice A n n) xs := by
  have hO : (Value.slice A n n).ownBlock = (Value.slice A n c).ownBlock := by cases A <;> rfl
  obtain ⟨h0, inner, ⟨h1, h2⟩, hr⟩ := h
  refine ⟨by rw [hO]; exact h0, inner, ⟨h1, ?_⟩, by rw [hO]; exact hr⟩
  rcases h2 with ⟨hz, A', he, hA⟩ | ⟨g, off, cap, cur, he, hb, hh, hnc, hcm, hcs, ht⟩
  · injection he with e1 e2 e3
    subst e1; subst e2
    exact .inl ⟨hz, A, rfl, hA⟩
  · injection he with e1 e2 e3
    subst e1; subst e2; subst e3
    exact .inr ⟨g, off, xs.length, cur, rfl, hb, hh, Nat.le_refl _, by omega, Nat.le_trans (Nat.mul_le_mul_right _ (by omega)) hcs, ht⟩
theorem clip_le {α : Type} {d : Kd α} {e : Nat} {w : World} {base : Nat} {ok : Nat → Prop} {A : Option Addr} {n c : Nat} {xs : List α} (h : d.R e w base ok (.slice A n c) xs) : n ≤ c ∧ n ≤ 9223372036854775807 := by
  obtain ⟨A', c', he, h1, h2⟩ := Kd.R_reads h
  injection he with e1 e2 e3
  subst e3
  have := h2.2.1
  omega
theorem clip_int (A : Option Addr) (n c : Nat) (w : World) (h : n ≤ c) (hm : n ≤ 9223372036854775807) :
    Calls Tryz.prog 111 #[.slice A n c] w fun e w' => e = .returned (.slice A n n) ∧ w' = w := by
  go_enter Tryz.func111, Tryz.ntmps111
  go_wp2
  go_ret
  exact ⟨rfl, rfl⟩
end
end Go.Proofs.YtnemchmiplbopaaGreatDoor
