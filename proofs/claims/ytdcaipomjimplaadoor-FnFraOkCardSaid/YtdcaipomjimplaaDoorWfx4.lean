-- Written by this session's own program (wip/tools/pp.py) out of the translation, over functions given by hand. Lean checks it.
import Derived.Test.YtdcaipomjimplaaDoorWfx0
import Derived.Test.YtdcaipomjimplaaDoorWfx1
import Derived.Test.YtdcaipomjimplaaDoorWfx3
namespace Go.Proofs.YtdcaipomjimplaaDoor.Wf
open Go.RowKit Go.Proofs.YtdcaipomjimplaaDoorW.PrintWords Go.Proofs.YtdcaipomjimplaaDoorW.PrintLast Go.Proofs.YtdcaipomjimplaaDoorW.PrintMore
attribute [local go_sem] max2_int min2_int max_two min_two max_three min_three max_four min_four   -- for this text's walks alone
set_option linter.unusedVariables false
set_option linter.unusedSimpArgs false

/-! ### spec_SecOk: function 30 -/
def spec_SecOk.f (k : Nat) (a0 : ByteArray) : Option (Bool) := if a0.toList = ([] : List UInt8) then (some false) else (if (a0.size : Int) ≤ 300 then ((spec_l1Size.f k a0 0).bind fun t129 => (some (t129 == (a0.size : Int)))) else (some false))
theorem spec_SecOk.mono : ∀ a0 k, LeO (spec_SecOk.f k a0) (spec_SecOk.f (k + 1) a0) := by
  intro a0 k; unfold spec_SecOk.f
  repeat' first
      | (with_reducible exact spec_l1Size.mono _ _ _)
      | (with_reducible exact LeO.refl _)
      | (with_reducible exact LeO.none _)
      | (with_reducible refine LeO.ite ?_ ?_)
      | (with_reducible refine LeO.bind ?_ (fun _ => ?_))
      | exact LeO.none _
      | refine LeO.ite ?_ ?_
      | refine LeO.bind ?_ (fun _ => ?_)
set_option maxHeartbeats 8000000 in
set_option maxRecDepth 100000 in
theorem spec_SecOk.calls (k : Nat) (a0 : ByteArray) (r : Bool) (w : World) (h : spec_SecOk.f k a0 = some r) :
    Calls Tryd.prog 30 #[.string a0] w fun e w' => e = .returned (.bool r) ∧ Below w.heap.size w w' := by
  have HB := am_ (Below.refl w.heap.size w); have H : (if a0.toList = ([] : List UInt8) then (some false) else (if (a0.size : Int) ≤ 300 then ((spec_l1Size.f k a0 0).bind fun t129 => (some (t129 == (a0.size : Int)))) else (some false))) = some r := h; clear h; by_cases c2 : a0.toList = ([] : List UInt8)
  · rw [if_pos c2] at H
    have c2b0 : (a0.toList == ([] : List UInt8)) = true := beq_iff_eq.mpr c2; have c2b1 : (a0.toList != ([] : List UInt8)) = false := bne_eq_false_iff_eq.mpr c2; clear c2; obtain rfl := Option.some.inj H; go_enter Tryd.func30, Tryd.ntmps30; go_wp2; go_ret; exact ⟨y6_, y7_ HB.out⟩
  rw [if_neg c2] at H; have c2b0 : (a0.toList == ([] : List UInt8)) = false := beq_eq_false_iff_ne.mpr c2; have c2b1 : (a0.toList != ([] : List UInt8)) = true := bne_iff_ne.mpr c2; by_cases c3 : (a0.size : Int) ≤ 300
  · rw [if_pos c3] at H
    have c3b0 : decide ((a0.size : Int) ≤ 300) = true := decide_eq_true c3; have c3b1 : decide (a0.size ≤ 300) = true := decide_eq_true (by omega); clear c3; replace H := Option.bind_eq_some_iff.mp H; obtain ⟨t129, A40, H⟩ := H; replace H : (some (t129 == (a0.size : Int))) = some r := H; have A4 := am_ A40; clear A40; obtain rfl := Option.some.inj H; go_enter Tryd.func30, Tryd.ntmps30; go_wp2_with (first | (go_at_call 73; (with_reducible refine (spec_l1Size.calls k a0 0 t129 _ A4.out).mono ?_); rintro e w5 ⟨rfl, hb⟩; replace HB := am_ (below_step (y7_ HB.out) hb); clear hb)); go_ret; exact ⟨y6_, y7_ HB.out⟩
  rw [if_neg c3] at H; have c3b0 : decide ((a0.size : Int) ≤ 300) = false := decide_eq_false c3; have c3b1 : decide (a0.size ≤ 300) = false := decide_eq_false (by omega); clear c3; obtain rfl := Option.some.inj H; go_enter Tryd.func30, Tryd.ntmps30; go_wp2; go_ret; exact ⟨y6_, y7_ HB.out⟩

/-! ### spec_l1Ok: function 80 -/
def spec_l1Ok.f (k : Nat) (a0 : ByteArray) : Option (ByteArray) := (spec_SecOk.f k a0).bind fun t130 => (if t130 = true then (some a0) else (some (⟨#[]⟩ : ByteArray)))
theorem spec_l1Ok.mono : ∀ a0 k, LeO (spec_l1Ok.f k a0) (spec_l1Ok.f (k + 1) a0) := by
  intro a0 k; unfold spec_l1Ok.f
  repeat' first
      | (with_reducible exact spec_SecOk.mono _ _)
      | (with_reducible exact LeO.refl _)
      | (with_reducible exact LeO.none _)
      | (with_reducible refine LeO.ite ?_ ?_)
      | (with_reducible refine LeO.bind ?_ (fun _ => ?_))
      | exact LeO.none _
      | refine LeO.ite ?_ ?_
      | refine LeO.bind ?_ (fun _ => ?_)
set_option maxHeartbeats 8000000 in
set_option maxRecDepth 100000 in
theorem spec_l1Ok.calls (k : Nat) (a0 : ByteArray) (r : ByteArray) (w : World) (h : spec_l1Ok.f k a0 = some r) :
    Calls Tryd.prog 80 #[.string a0] w fun e w' => e = .returned (.string r) ∧ Below w.heap.size w w' := by
  have HB := am_ (Below.refl w.heap.size w); have H : ((spec_SecOk.f k a0).bind fun t130 => (if t130 = true then (some a0) else (some (⟨#[]⟩ : ByteArray)))) = some r := h; clear h; replace H := Option.bind_eq_some_iff.mp H; obtain ⟨t130, A20, H⟩ := H; replace H : (if t130 = true then (some a0) else (some (⟨#[]⟩ : ByteArray))) = some r := H; have A2 := am_ A20; clear A20; by_cases c3 : t130 = true
  · subst c3
    have H1 : (some a0) = some r := by rw [if_pos rfl] at H; exact H
    clear H; have H := H1; clear H1; obtain rfl := Option.some.inj H; go_enter Tryd.func80, Tryd.ntmps80; go_wp2_with (first | ((with_reducible refine gate_callee (f := 30) rfl ?_); refine goesL_ (some 4) rfl rfl Tryd.func30 (by kernel_rfl) rfl #[.string a0] rfl y1_ ?_; (with_reducible refine (spec_SecOk.calls k a0 true _ A2.out).mono ?_); rintro e w4 ⟨rfl, hb⟩; refine ⟨_, rfl, ?_⟩; replace HB := am_ (below_step (y7_ HB.out) hb); clear hb)); go_ret; exact ⟨y6_, y7_ HB.out⟩
  replace c3 := Bool.eq_false_iff.mpr c3; subst c3
  have H1 : (some (⟨#[]⟩ : ByteArray)) = some r := by rw [if_neg (show ¬ (false = true) by decide)] at H; exact H
  clear H; have H := H1; clear H1; obtain rfl := Option.some.inj H; go_enter Tryd.func80, Tryd.ntmps80; go_wp2_with (first | ((with_reducible refine gate_callee (f := 30) rfl ?_); refine goesL_ (some 4) rfl rfl Tryd.func30 (by kernel_rfl) rfl #[.string a0] rfl y1_ ?_; (with_reducible refine (spec_SecOk.calls k a0 false _ A2.out).mono ?_); rintro e w5 ⟨rfl, hb⟩; refine ⟨_, rfl, ?_⟩; replace HB := am_ (below_step (y7_ HB.out) hb); clear hb)); go_ret; exact ⟨y6_, y7_ HB.out⟩

/-! ### spec_MakSay: function 48 -/
def spec_MakSay.j0 : Nat → ByteArray → Int → Bool → Option (ByteArray)
  | 0, _, _, _ => none
  | k + 1, x0, x1, x12 => if x12 = true then (some (⟨#[]⟩ : ByteArray)) else ((spec_l1Who.f x1).bind fun t133 => (if 1 + t133.size ≤ 9223372036854775807 then (if ((⟨#[109]⟩ : ByteArray) ++ t133).size + x0.size ≤ 9223372036854775807 then ((spec_l1Ok.f k (((⟨#[109]⟩ : ByteArray) ++ t133) ++ x0)).bind fun t134 => (some t134)) else (none)) else (none)))
def spec_MakSay.f (k : Nat) (a0 : ByteArray) (a1 : Int) : Option (ByteArray) := (spec_SecOk.f k a0).bind fun t131 => (if t131 = true then ((spec_l1In.f a1 0 7).bind fun t132 => (spec_MakSay.j0 k a0 a1 (!t132))) else (spec_MakSay.j0 k a0 a1 true))
theorem spec_MakSay.mono_l : ∀ k, (∀ y0 y1 y2, LeO (spec_MakSay.j0 k y0 y1 y2) (spec_MakSay.j0 (k + 1) y0 y1 y2))
  | 0 => fun _ _ _ r h => by simp [spec_MakSay.j0] at h
  | k + 1 => by
    have ih0 := spec_MakSay.mono_l k
    · intro y0 y1 y2
      unfold spec_MakSay.j0
      repeat' first
      | (with_reducible exact ih0 _ _ _)
      | (with_reducible exact spec_SecOk.mono _ _)
      | (with_reducible exact spec_l1Ok.mono _ _)
      | (with_reducible exact LeO.refl _)
      | (with_reducible exact LeO.none _)
      | (with_reducible refine LeO.ite ?_ ?_)
      | (with_reducible refine LeO.bind ?_ (fun _ => ?_))
      | exact LeO.none _
      | refine LeO.ite ?_ ?_
      | refine LeO.bind ?_ (fun _ => ?_)
theorem spec_MakSay.mono : ∀ a0 a1 k, LeO (spec_MakSay.f k a0 a1) (spec_MakSay.f (k + 1) a0 a1) := by
  intro a0 a1 k; have ih0 := spec_MakSay.mono_l k; unfold spec_MakSay.f
  repeat' first
      | (with_reducible exact ih0 _ _ _)
      | (with_reducible exact spec_SecOk.mono _ _)
      | (with_reducible exact spec_l1Ok.mono _ _)
      | (with_reducible exact LeO.refl _)
      | (with_reducible exact LeO.none _)
      | (with_reducible refine LeO.ite ?_ ?_)
      | (with_reducible refine LeO.bind ?_ (fun _ => ?_))
      | exact LeO.none _
      | refine LeO.ite ?_ ?_
      | refine LeO.bind ?_ (fun _ => ?_)
set_option maxHeartbeats 8000000 in
set_option maxRecDepth 100000 in
theorem spec_MakSay.calls (k : Nat) (a0 : ByteArray) (a1 : Int) (r : ByteArray) (w : World) (h : spec_MakSay.f k a0 a1 = some r) :
    Calls Tryd.prog 48 #[.string a0, .int .i64 a1] w fun e w' => e = .returned (.string r) ∧ Below w.heap.size w w' := by
  have HB := am_ (Below.refl w.heap.size w); have H : ((spec_SecOk.f k a0).bind fun t131 => (if t131 = true then ((spec_l1In.f a1 0 7).bind fun t132 => (spec_MakSay.j0 k a0 a1 (!t132))) else (spec_MakSay.j0 k a0 a1 true))) = some r := h; clear h; have HC3 := am_ H; clear H; go_enter Tryd.func48, Tryd.ntmps48
  go_upto_region 1 with (fail)
  go_cut [12] (fun v12 wc => ∃ (kq : Nat) (x12_2 : Bool), v12 = .bool x12_2 ∧ Aside0 (spec_MakSay.j0 kq a0 a1 x12_2 = some r) ∧ Aside0 (kq ≤ k) ∧ Aside0 (Below w.heap.size w wc))
  case first =>
    have H := HC3.out; clear HC3; replace H := Option.bind_eq_some_iff.mp H; obtain ⟨t131, A40, H⟩ := H; replace H : (if t131 = true then ((spec_l1In.f a1 0 7).bind fun t132 => (spec_MakSay.j0 k a0 a1 (!t132))) else (spec_MakSay.j0 k a0 a1 true)) = some r := H; have A4 := am_ A40; clear A40; by_cases c5 : t131 = true
    · subst c5
      have H1 : ((spec_l1In.f a1 0 7).bind fun t132 => (spec_MakSay.j0 k a0 a1 (!t132))) = some r := by rw [if_pos rfl] at H; exact H
      clear H; have H := H1; clear H1; replace H := Option.bind_eq_some_iff.mp H; obtain ⟨t132, A60, H⟩ := H; replace H : (spec_MakSay.j0 k a0 a1 (!t132)) = some r := H; have A6 := am_ A60; clear A60; have H' := am_ H; clear H; go_wp2_with (first | ((with_reducible refine gate_callee (f := 30) rfl ?_); refine goesL_ (some 6) rfl rfl Tryd.func30 (by kernel_rfl) rfl #[.string a0] rfl y1_ ?_; (with_reducible refine (spec_SecOk.calls k a0 true _ A4.out).mono ?_); rintro e w7 ⟨rfl, hb⟩; refine ⟨_, rfl, ?_⟩; replace HB := am_ (below_step (y7_ HB.out) hb); clear hb) | (go_at_call 68; (with_reducible refine (spec_l1In.calls a1 0 7 t132 _ A6.out).mono ?_); rintro e w' ⟨rfl, ⟨nd, rfl⟩⟩)); go_meet
      case rel => exact ⟨_, (!t132), y4_, H', ⟨by first | omega | exact Nat.le_refl _⟩, ⟨y7_ HB.out⟩⟩
    replace c5 := Bool.eq_false_iff.mpr c5; subst c5
    have H1 : (spec_MakSay.j0 k a0 a1 true) = some r := by rw [if_neg (show ¬ (false = true) by decide)] at H; exact H
    clear H; have H := H1; clear H1; have H' := am_ H; clear H; go_wp2_with (first | ((with_reducible refine gate_callee (f := 30) rfl ?_); refine goesL_ (some 6) rfl rfl Tryd.func30 (by kernel_rfl) rfl #[.string a0] rfl y1_ ?_; (with_reducible refine (spec_SecOk.calls k a0 false _ A4.out).mono ?_); rintro e w8 ⟨rfl, hb⟩; refine ⟨_, rfl, ?_⟩; replace HB := am_ (below_step (y7_ HB.out) hb); clear hb)); go_meet
    case rel => exact ⟨_, (true), y4_, H', ⟨by first | omega | exact Nat.le_refl _⟩, ⟨y7_ HB.out⟩⟩
  case rest =>
    clear HC3; (try clear p2); (try clear c3); (try clear c4); (try clear c5); obtain ⟨kq, x12_2, rfl, HA, HJ2, HB⟩ := hcut
    cases kq with
    | zero => exact absurd HA.out (by simp [spec_MakSay.j0])
    | succ kj2 =>
      have H := HA.out; clear HA; simp only [spec_MakSay.j0] at H; by_cases c9 : x12_2 = true
      · subst c9
        have H1 : (some (⟨#[]⟩ : ByteArray)) = some r := by rw [if_pos rfl] at H; exact H
        clear H; have H := H1; clear H1; obtain rfl := Option.some.inj H; go_wp2; go_ret; exact ⟨y6_, y7_ HB.out⟩
      replace c9 := Bool.eq_false_iff.mpr c9; subst c9
      have H1 : ((spec_l1Who.f a1).bind fun t133 => (if 1 + t133.size ≤ 9223372036854775807 then (if ((⟨#[109]⟩ : ByteArray) ++ t133).size + a0.size ≤ 9223372036854775807 then ((spec_l1Ok.f kj2 (((⟨#[109]⟩ : ByteArray) ++ t133) ++ a0)).bind fun t134 => (some t134)) else (none)) else (none))) = some r := by rw [if_neg (show ¬ (false = true) by decide)] at H; exact H
      clear H; have H := H1; clear H1; replace H := Option.bind_eq_some_iff.mp H; obtain ⟨t133, A100, H⟩ := H; replace H : (if 1 + t133.size ≤ 9223372036854775807 then (if ((⟨#[109]⟩ : ByteArray) ++ t133).size + a0.size ≤ 9223372036854775807 then ((spec_l1Ok.f kj2 (((⟨#[109]⟩ : ByteArray) ++ t133) ++ a0)).bind fun t134 => (some t134)) else (none)) else (none)) = some r := H; have A10 := am_ A100; clear A100; by_cases c11 : 1 + t133.size ≤ 9223372036854775807
      · rw [if_pos c11] at H
        have c11b0 := eq_true c11; have c11b1 : decide (1 + t133.size ≤ 9223372036854775807) = true := decide_eq_true c11
        try have c11b2 : (9223372036854775807 < 1 + t133.size) = False := eq_false (Nat.not_lt.2 c11)
        by_cases c12 : ((⟨#[109]⟩ : ByteArray) ++ t133).size + a0.size ≤ 9223372036854775807
        · rw [if_pos c12] at H
          have c12b0 := eq_true c12; have c12b1 : decide (((⟨#[109]⟩ : ByteArray) ++ t133).size + a0.size ≤ 9223372036854775807) = true := decide_eq_true c12
          try have c12b2 : (9223372036854775807 < ((⟨#[109]⟩ : ByteArray) ++ t133).size + a0.size) = False := eq_false (Nat.not_lt.2 c12)
          try (have c12e := c12; simp only [ByteArray.size_append] at c12e; have c12e0 := eq_true c12e; have c12e1 := decide_eq_true c12e; have c12e2 := eq_false (Nat.not_lt.2 c12e))
          replace H := Option.bind_eq_some_iff.mp H; obtain ⟨t134, A130, H⟩ := H; replace H : (some t134) = some r := H; have A13 := am_ A130; clear A130; obtain rfl := Option.some.inj H; go_wp2_with (first | ((with_reducible refine gate_callee (f := 84) rfl ?_); refine goesL_ (some 14) rfl rfl Tryd.func84 (by kernel_rfl) rfl #[.int .i64 a1] rfl y1_ ?_; (with_reducible refine (spec_l1Who.calls a1 t133 _ A10.out).mono ?_); rintro e w14 ⟨rfl, hb⟩; refine ⟨_, rfl, ?_⟩; replace HB := am_ (below_step (y7_ HB.out) hb); clear hb) | ((with_reducible refine gate_callee (f := 80) rfl ?_); refine goesL_ (some 18) rfl rfl Tryd.func80 (by kernel_rfl) rfl #[.string (((⟨#[109]⟩ : ByteArray) ++ t133) ++ a0)] rfl y1_ ?_; (with_reducible refine (spec_l1Ok.calls kj2 (((⟨#[109]⟩ : ByteArray) ++ t133) ++ a0) t134 _ A13.out).mono ?_); rintro e w15 ⟨rfl, hb⟩; refine ⟨_, rfl, ?_⟩; replace HB := am_ (below_step (y7_ HB.out) hb); clear hb)); go_ret; exact ⟨y6_, y7_ HB.out⟩
        rw [if_neg c12] at H; exact absurd H (by simp)
      rw [if_neg c11] at H; exact absurd H (by simp)

end Go.Proofs.YtdcaipomjimplaaDoor.Wf
