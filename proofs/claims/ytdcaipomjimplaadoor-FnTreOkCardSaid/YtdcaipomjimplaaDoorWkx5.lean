-- Written by this session's own program (wip/tools/pp.py) out of the translation, over functions given by hand. Lean checks it.
import Derived.Test.YtdcaipomjimplaaDoorWkx0
import Derived.Test.YtdcaipomjimplaaDoorWkx4
namespace Go.Proofs.YtdcaipomjimplaaDoor.Wk
open Go.RowKit Go.Proofs.YtdcaipomjimplaaDoorW.PrintWords Go.Proofs.YtdcaipomjimplaaDoorW.PrintLast Go.Proofs.YtdcaipomjimplaaDoorW.PrintMore
attribute [local go_sem] max2_int min2_int max_two min_two max_three min_three max_four min_four   -- for this text's walks alone
set_option linter.unusedVariables false
set_option linter.unusedSimpArgs false

/-! ### spec_SecOk: function 30 -/
def spec_SecOk.f (k : Nat) (a0 : ByteArray) : Option (Bool) := if a0.toList = ([] : List UInt8) then (some false) else (if (a0.size : Int) ≤ 300 then ((spec_l1Size.f k a0 0).bind fun t136 => (some (t136 == (a0.size : Int)))) else (some false))
theorem spec_SecOk.mono : ∀ a0 k, LeO (spec_SecOk.f k a0) (spec_SecOk.f (k + 1) a0) := by
  intro a0 k; unfold spec_SecOk.f
  repeat' first
      | (with_reducible exact spec_l1Size.mono _ _ _)
      | (with_reducible exact LeO.refl _)
      | (with_reducible exact LeO.none _)
      | (with_reducible refine LeO.ite ?_ ?_)
      | (with_reducible refine LeO.bind ?_ (fun _ => ?_))
      | exact LeO.none _
      | refine LeO.ite ?_ ?_
      | refine LeO.bind ?_ (fun _ => ?_)
set_option maxHeartbeats 8000000 in
set_option maxRecDepth 100000 in
theorem spec_SecOk.calls (k : Nat) (a0 : ByteArray) (r : Bool) (w : World) (h : spec_SecOk.f k a0 = some r) :
    Calls Tryd.prog 30 #[.string a0] w fun e w' => e = .returned (.bool r) ∧ Below w.heap.size w w' := by
  have HB := am_ (Below.refl w.heap.size w); have H : (if a0.toList = ([] : List UInt8) then (some false) else (if (a0.size : Int) ≤ 300 then ((spec_l1Size.f k a0 0).bind fun t136 => (some (t136 == (a0.size : Int)))) else (some false))) = some r := h; clear h; by_cases c2 : a0.toList = ([] : List UInt8)
  · rw [if_pos c2] at H
    have c2b0 : (a0.toList == ([] : List UInt8)) = true := beq_iff_eq.mpr c2; have c2b1 : (a0.toList != ([] : List UInt8)) = false := bne_eq_false_iff_eq.mpr c2; clear c2; obtain rfl := Option.some.inj H; go_enter Tryd.func30, Tryd.ntmps30; go_wp2; go_ret; exact ⟨y6_, y7_ HB.out⟩
  rw [if_neg c2] at H; have c2b0 : (a0.toList == ([] : List UInt8)) = false := beq_eq_false_iff_ne.mpr c2; have c2b1 : (a0.toList != ([] : List UInt8)) = true := bne_iff_ne.mpr c2; by_cases c3 : (a0.size : Int) ≤ 300
  · rw [if_pos c3] at H
    have c3b0 : decide ((a0.size : Int) ≤ 300) = true := decide_eq_true c3; have c3b1 : decide (a0.size ≤ 300) = true := decide_eq_true (by omega); clear c3; replace H := Option.bind_eq_some_iff.mp H; obtain ⟨t136, A40, H⟩ := H; replace H : (some (t136 == (a0.size : Int))) = some r := H; have A4 := am_ A40; clear A40; obtain rfl := Option.some.inj H; go_enter Tryd.func30, Tryd.ntmps30; go_wp2_with (first | (go_at_call 73; (with_reducible refine (spec_l1Size.calls k a0 0 t136 _ A4.out).mono ?_); rintro e w5 ⟨rfl, hb⟩; replace HB := am_ (below_step (y7_ HB.out) hb); clear hb)); go_ret; exact ⟨y6_, y7_ HB.out⟩
  rw [if_neg c3] at H; have c3b0 : decide ((a0.size : Int) ≤ 300) = false := decide_eq_false c3; have c3b1 : decide (a0.size ≤ 300) = false := decide_eq_false (by omega); clear c3; obtain rfl := Option.some.inj H; go_enter Tryd.func30, Tryd.ntmps30; go_wp2; go_ret; exact ⟨y6_, y7_ HB.out⟩

/-! ### spec_l1Ok: function 80 -/
def spec_l1Ok.f (k : Nat) (a0 : ByteArray) : Option (ByteArray) := (spec_SecOk.f k a0).bind fun t137 => (if t137 = true then (some a0) else (some (⟨#[]⟩ : ByteArray)))
theorem spec_l1Ok.mono : ∀ a0 k, LeO (spec_l1Ok.f k a0) (spec_l1Ok.f (k + 1) a0) := by
  intro a0 k; unfold spec_l1Ok.f
  repeat' first
      | (with_reducible exact spec_SecOk.mono _ _)
      | (with_reducible exact LeO.refl _)
      | (with_reducible exact LeO.none _)
      | (with_reducible refine LeO.ite ?_ ?_)
      | (with_reducible refine LeO.bind ?_ (fun _ => ?_))
      | exact LeO.none _
      | refine LeO.ite ?_ ?_
      | refine LeO.bind ?_ (fun _ => ?_)
set_option maxHeartbeats 8000000 in
set_option maxRecDepth 100000 in
theorem spec_l1Ok.calls (k : Nat) (a0 : ByteArray) (r : ByteArray) (w : World) (h : spec_l1Ok.f k a0 = some r) :
    Calls Tryd.prog 80 #[.string a0] w fun e w' => e = .returned (.string r) ∧ Below w.heap.size w w' := by
  have HB := am_ (Below.refl w.heap.size w); have H : ((spec_SecOk.f k a0).bind fun t137 => (if t137 = true then (some a0) else (some (⟨#[]⟩ : ByteArray)))) = some r := h; clear h; replace H := Option.bind_eq_some_iff.mp H; obtain ⟨t137, A20, H⟩ := H; replace H : (if t137 = true then (some a0) else (some (⟨#[]⟩ : ByteArray))) = some r := H; have A2 := am_ A20; clear A20; by_cases c3 : t137 = true
  · subst c3
    have H1 : (some a0) = some r := by rw [if_pos rfl] at H; exact H
    clear H; have H := H1; clear H1; obtain rfl := Option.some.inj H; go_enter Tryd.func80, Tryd.ntmps80; go_wp2_with (first | ((with_reducible refine gate_callee (f := 30) rfl ?_); refine goesL_ (some 4) rfl rfl Tryd.func30 (by kernel_rfl) rfl #[.string a0] rfl y1_ ?_; (with_reducible refine (spec_SecOk.calls k a0 true _ A2.out).mono ?_); rintro e w4 ⟨rfl, hb⟩; refine ⟨_, rfl, ?_⟩; replace HB := am_ (below_step (y7_ HB.out) hb); clear hb)); go_ret; exact ⟨y6_, y7_ HB.out⟩
  replace c3 := Bool.eq_false_iff.mpr c3; subst c3
  have H1 : (some (⟨#[]⟩ : ByteArray)) = some r := by rw [if_neg (show ¬ (false = true) by decide)] at H; exact H
  clear H; have H := H1; clear H1; obtain rfl := Option.some.inj H; go_enter Tryd.func80, Tryd.ntmps80; go_wp2_with (first | ((with_reducible refine gate_callee (f := 30) rfl ?_); refine goesL_ (some 4) rfl rfl Tryd.func30 (by kernel_rfl) rfl #[.string a0] rfl y1_ ?_; (with_reducible refine (spec_SecOk.calls k a0 false _ A2.out).mono ?_); rintro e w5 ⟨rfl, hb⟩; refine ⟨_, rfl, ?_⟩; replace HB := am_ (below_step (y7_ HB.out) hb); clear hb)); go_ret; exact ⟨y6_, y7_ HB.out⟩

/-! ### spec_MakEpoch: function 37 -/
def spec_MakEpoch.f (k : Nat) (a0 : ByteArray) (a1 : ByteArray) : Option (ByteArray) := (spec_SecOk.f k a0).bind fun t138 => (if t138 = true then ((spec_SecOk.f k a1).bind fun t139 => (if t139 = true then (if 1 + a0.size ≤ 9223372036854775807 then (if ((⟨#[101]⟩ : ByteArray) ++ a0).size + a1.size ≤ 9223372036854775807 then ((spec_l1Ok.f k (((⟨#[101]⟩ : ByteArray) ++ a0) ++ a1)).bind fun t140 => (some t140)) else (none)) else (none)) else (some (⟨#[]⟩ : ByteArray)))) else (some (⟨#[]⟩ : ByteArray)))
theorem spec_MakEpoch.mono : ∀ a0 a1 k, LeO (spec_MakEpoch.f k a0 a1) (spec_MakEpoch.f (k + 1) a0 a1) := by
  intro a0 a1 k; unfold spec_MakEpoch.f
  repeat' first
      | (with_reducible exact spec_SecOk.mono _ _)
      | (with_reducible exact spec_l1Ok.mono _ _)
      | (with_reducible exact LeO.refl _)
      | (with_reducible exact LeO.none _)
      | (with_reducible refine LeO.ite ?_ ?_)
      | (with_reducible refine LeO.bind ?_ (fun _ => ?_))
      | exact LeO.none _
      | refine LeO.ite ?_ ?_
      | refine LeO.bind ?_ (fun _ => ?_)
set_option maxHeartbeats 8000000 in
set_option maxRecDepth 100000 in
theorem spec_MakEpoch.calls (k : Nat) (a0 : ByteArray) (a1 : ByteArray) (r : ByteArray) (w : World) (h : spec_MakEpoch.f k a0 a1 = some r) :
    Calls Tryd.prog 37 #[.string a0, .string a1] w fun e w' => e = .returned (.string r) ∧ Below w.heap.size w w' := by
  have HB := am_ (Below.refl w.heap.size w); have H : ((spec_SecOk.f k a0).bind fun t138 => (if t138 = true then ((spec_SecOk.f k a1).bind fun t139 => (if t139 = true then (if 1 + a0.size ≤ 9223372036854775807 then (if ((⟨#[101]⟩ : ByteArray) ++ a0).size + a1.size ≤ 9223372036854775807 then ((spec_l1Ok.f k (((⟨#[101]⟩ : ByteArray) ++ a0) ++ a1)).bind fun t140 => (some t140)) else (none)) else (none)) else (some (⟨#[]⟩ : ByteArray)))) else (some (⟨#[]⟩ : ByteArray)))) = some r := h; clear h; replace H := Option.bind_eq_some_iff.mp H; obtain ⟨t138, A30, H⟩ := H; replace H : (if t138 = true then ((spec_SecOk.f k a1).bind fun t139 => (if t139 = true then (if 1 + a0.size ≤ 9223372036854775807 then (if ((⟨#[101]⟩ : ByteArray) ++ a0).size + a1.size ≤ 9223372036854775807 then ((spec_l1Ok.f k (((⟨#[101]⟩ : ByteArray) ++ a0) ++ a1)).bind fun t140 => (some t140)) else (none)) else (none)) else (some (⟨#[]⟩ : ByteArray)))) else (some (⟨#[]⟩ : ByteArray))) = some r := H; have A3 := am_ A30; clear A30; by_cases c4 : t138 = true
  · subst c4
    have H1 : ((spec_SecOk.f k a1).bind fun t139 => (if t139 = true then (if 1 + a0.size ≤ 9223372036854775807 then (if ((⟨#[101]⟩ : ByteArray) ++ a0).size + a1.size ≤ 9223372036854775807 then ((spec_l1Ok.f k (((⟨#[101]⟩ : ByteArray) ++ a0) ++ a1)).bind fun t140 => (some t140)) else (none)) else (none)) else (some (⟨#[]⟩ : ByteArray)))) = some r := by rw [if_pos rfl] at H; exact H
    clear H; have H := H1; clear H1; replace H := Option.bind_eq_some_iff.mp H; obtain ⟨t139, A50, H⟩ := H; replace H : (if t139 = true then (if 1 + a0.size ≤ 9223372036854775807 then (if ((⟨#[101]⟩ : ByteArray) ++ a0).size + a1.size ≤ 9223372036854775807 then ((spec_l1Ok.f k (((⟨#[101]⟩ : ByteArray) ++ a0) ++ a1)).bind fun t140 => (some t140)) else (none)) else (none)) else (some (⟨#[]⟩ : ByteArray))) = some r := H; have A5 := am_ A50; clear A50; by_cases c6 : t139 = true
    · subst c6
      have H1 : (if 1 + a0.size ≤ 9223372036854775807 then (if ((⟨#[101]⟩ : ByteArray) ++ a0).size + a1.size ≤ 9223372036854775807 then ((spec_l1Ok.f k (((⟨#[101]⟩ : ByteArray) ++ a0) ++ a1)).bind fun t140 => (some t140)) else (none)) else (none)) = some r := by rw [if_pos rfl] at H; exact H
      clear H; have H := H1; clear H1; by_cases c7 : 1 + a0.size ≤ 9223372036854775807
      · rw [if_pos c7] at H
        have c7b0 := eq_true c7; have c7b1 : decide (1 + a0.size ≤ 9223372036854775807) = true := decide_eq_true c7
        try have c7b2 : (9223372036854775807 < 1 + a0.size) = False := eq_false (Nat.not_lt.2 c7)
        by_cases c8 : ((⟨#[101]⟩ : ByteArray) ++ a0).size + a1.size ≤ 9223372036854775807
        · rw [if_pos c8] at H
          have c8b0 := eq_true c8; have c8b1 : decide (((⟨#[101]⟩ : ByteArray) ++ a0).size + a1.size ≤ 9223372036854775807) = true := decide_eq_true c8
          try have c8b2 : (9223372036854775807 < ((⟨#[101]⟩ : ByteArray) ++ a0).size + a1.size) = False := eq_false (Nat.not_lt.2 c8)
          try (have c8e := c8; simp only [ByteArray.size_append] at c8e; have c8e0 := eq_true c8e; have c8e1 := decide_eq_true c8e; have c8e2 := eq_false (Nat.not_lt.2 c8e))
          replace H := Option.bind_eq_some_iff.mp H; obtain ⟨t140, A90, H⟩ := H; replace H : (some t140) = some r := H; have A9 := am_ A90; clear A90; obtain rfl := Option.some.inj H; go_enter Tryd.func37, Tryd.ntmps37; go_wp2_with (first | ((with_reducible refine gate_callee (f := 30) rfl ?_); refine goesL_ (some 6) rfl rfl Tryd.func30 (by kernel_rfl) rfl #[.string a0] rfl y1_ ?_; (with_reducible refine (spec_SecOk.calls k a0 true _ A3.out).mono ?_); rintro e w10 ⟨rfl, hb⟩; refine ⟨_, rfl, ?_⟩; replace HB := am_ (below_step (y7_ HB.out) hb); clear hb) | (go_at_call 30; (with_reducible refine (spec_SecOk.calls k a1 true _ A5.out).mono ?_); rintro e w11 ⟨rfl, hb⟩; replace HB := am_ (below_step (y7_ HB.out) hb); clear hb) | ((with_reducible refine gate_callee (f := 80) rfl ?_); refine goesL_ (some 17) rfl rfl Tryd.func80 (by kernel_rfl) rfl #[.string (((⟨#[101]⟩ : ByteArray) ++ a0) ++ a1)] rfl y1_ ?_; (with_reducible refine (spec_l1Ok.calls k (((⟨#[101]⟩ : ByteArray) ++ a0) ++ a1) t140 _ A9.out).mono ?_); rintro e w12 ⟨rfl, hb⟩; refine ⟨_, rfl, ?_⟩; replace HB := am_ (below_step (y7_ HB.out) hb); clear hb)); go_ret; exact ⟨y6_, y7_ HB.out⟩
        rw [if_neg c8] at H; exact absurd H (by simp)
      rw [if_neg c7] at H; exact absurd H (by simp)
    replace c6 := Bool.eq_false_iff.mpr c6; subst c6
    have H1 : (some (⟨#[]⟩ : ByteArray)) = some r := by rw [if_neg (show ¬ (false = true) by decide)] at H; exact H
    clear H; have H := H1; clear H1; obtain rfl := Option.some.inj H; go_enter Tryd.func37, Tryd.ntmps37; go_wp2_with (first | ((with_reducible refine gate_callee (f := 30) rfl ?_); refine goesL_ (some 6) rfl rfl Tryd.func30 (by kernel_rfl) rfl #[.string a0] rfl y1_ ?_; (with_reducible refine (spec_SecOk.calls k a0 true _ A3.out).mono ?_); rintro e w13 ⟨rfl, hb⟩; refine ⟨_, rfl, ?_⟩; replace HB := am_ (below_step (y7_ HB.out) hb); clear hb) | (go_at_call 30; (with_reducible refine (spec_SecOk.calls k a1 false _ A5.out).mono ?_); rintro e w14 ⟨rfl, hb⟩; replace HB := am_ (below_step (y7_ HB.out) hb); clear hb)); go_ret; exact ⟨y6_, y7_ HB.out⟩
  replace c4 := Bool.eq_false_iff.mpr c4; subst c4
  have H1 : (some (⟨#[]⟩ : ByteArray)) = some r := by rw [if_neg (show ¬ (false = true) by decide)] at H; exact H
  clear H; have H := H1; clear H1; obtain rfl := Option.some.inj H; go_enter Tryd.func37, Tryd.ntmps37; go_wp2_with (first | ((with_reducible refine gate_callee (f := 30) rfl ?_); refine goesL_ (some 6) rfl rfl Tryd.func30 (by kernel_rfl) rfl #[.string a0] rfl y1_ ?_; (with_reducible refine (spec_SecOk.calls k a0 false _ A3.out).mono ?_); rintro e w15 ⟨rfl, hb⟩; refine ⟨_, rfl, ?_⟩; replace HB := am_ (below_step (y7_ HB.out) hb); clear hb)); go_ret; exact ⟨y6_, y7_ HB.out⟩

/-! ### spec_MakNext: function 42 -/
def spec_MakNext.f (k : Nat) (a0 : ByteArray) : Option (ByteArray) := (spec_SecOk.f k a0).bind fun t141 => (if t141 = true then (if 1 + a0.size ≤ 9223372036854775807 then ((spec_l1Ok.f k ((⟨#[110]⟩ : ByteArray) ++ a0)).bind fun t142 => (some t142)) else (none)) else (some (⟨#[]⟩ : ByteArray)))
theorem spec_MakNext.mono : ∀ a0 k, LeO (spec_MakNext.f k a0) (spec_MakNext.f (k + 1) a0) := by
  intro a0 k; unfold spec_MakNext.f
  repeat' first
      | (with_reducible exact spec_SecOk.mono _ _)
      | (with_reducible exact spec_l1Ok.mono _ _)
      | (with_reducible exact LeO.refl _)
      | (with_reducible exact LeO.none _)
      | (with_reducible refine LeO.ite ?_ ?_)
      | (with_reducible refine LeO.bind ?_ (fun _ => ?_))
      | exact LeO.none _
      | refine LeO.ite ?_ ?_
      | refine LeO.bind ?_ (fun _ => ?_)
set_option maxHeartbeats 8000000 in
set_option maxRecDepth 100000 in
theorem spec_MakNext.calls (k : Nat) (a0 : ByteArray) (r : ByteArray) (w : World) (h : spec_MakNext.f k a0 = some r) :
    Calls Tryd.prog 42 #[.string a0] w fun e w' => e = .returned (.string r) ∧ Below w.heap.size w w' := by
  have HB := am_ (Below.refl w.heap.size w); have H : ((spec_SecOk.f k a0).bind fun t141 => (if t141 = true then (if 1 + a0.size ≤ 9223372036854775807 then ((spec_l1Ok.f k ((⟨#[110]⟩ : ByteArray) ++ a0)).bind fun t142 => (some t142)) else (none)) else (some (⟨#[]⟩ : ByteArray)))) = some r := h; clear h; replace H := Option.bind_eq_some_iff.mp H; obtain ⟨t141, A20, H⟩ := H; replace H : (if t141 = true then (if 1 + a0.size ≤ 9223372036854775807 then ((spec_l1Ok.f k ((⟨#[110]⟩ : ByteArray) ++ a0)).bind fun t142 => (some t142)) else (none)) else (some (⟨#[]⟩ : ByteArray))) = some r := H; have A2 := am_ A20; clear A20; by_cases c3 : t141 = true
  · subst c3
    have H1 : (if 1 + a0.size ≤ 9223372036854775807 then ((spec_l1Ok.f k ((⟨#[110]⟩ : ByteArray) ++ a0)).bind fun t142 => (some t142)) else (none)) = some r := by rw [if_pos rfl] at H; exact H
    clear H; have H := H1; clear H1; by_cases c4 : 1 + a0.size ≤ 9223372036854775807
    · rw [if_pos c4] at H
      have c4b0 := eq_true c4; have c4b1 : decide (1 + a0.size ≤ 9223372036854775807) = true := decide_eq_true c4
      try have c4b2 : (9223372036854775807 < 1 + a0.size) = False := eq_false (Nat.not_lt.2 c4)
      replace H := Option.bind_eq_some_iff.mp H; obtain ⟨t142, A50, H⟩ := H; replace H : (some t142) = some r := H; have A5 := am_ A50; clear A50; obtain rfl := Option.some.inj H; go_enter Tryd.func42, Tryd.ntmps42; go_wp2_with (first | ((with_reducible refine gate_callee (f := 30) rfl ?_); refine goesL_ (some 4) rfl rfl Tryd.func30 (by kernel_rfl) rfl #[.string a0] rfl y1_ ?_; (with_reducible refine (spec_SecOk.calls k a0 true _ A2.out).mono ?_); rintro e w6 ⟨rfl, hb⟩; refine ⟨_, rfl, ?_⟩; replace HB := am_ (below_step (y7_ HB.out) hb); clear hb) | ((with_reducible refine gate_callee (f := 80) rfl ?_); refine goesL_ (some 8) rfl rfl Tryd.func80 (by kernel_rfl) rfl #[.string ((⟨#[110]⟩ : ByteArray) ++ a0)] rfl y1_ ?_; (with_reducible refine (spec_l1Ok.calls k ((⟨#[110]⟩ : ByteArray) ++ a0) t142 _ A5.out).mono ?_); rintro e w7 ⟨rfl, hb⟩; refine ⟨_, rfl, ?_⟩; replace HB := am_ (below_step (y7_ HB.out) hb); clear hb)); go_ret; exact ⟨y6_, y7_ HB.out⟩
    rw [if_neg c4] at H; exact absurd H (by simp)
  replace c3 := Bool.eq_false_iff.mpr c3; subst c3
  have H1 : (some (⟨#[]⟩ : ByteArray)) = some r := by rw [if_neg (show ¬ (false = true) by decide)] at H; exact H
  clear H; have H := H1; clear H1; obtain rfl := Option.some.inj H; go_enter Tryd.func42, Tryd.ntmps42; go_wp2_with (first | ((with_reducible refine gate_callee (f := 30) rfl ?_); refine goesL_ (some 4) rfl rfl Tryd.func30 (by kernel_rfl) rfl #[.string a0] rfl y1_ ?_; (with_reducible refine (spec_SecOk.calls k a0 false _ A2.out).mono ?_); rintro e w8 ⟨rfl, hb⟩; refine ⟨_, rfl, ?_⟩; replace HB := am_ (below_step (y7_ HB.out) hb); clear hb)); go_ret; exact ⟨y6_, y7_ HB.out⟩

/-! ### spec_MakKey: function 43 -/
def spec_MakKey.f (k : Nat) (a0 : ByteArray) : Option (ByteArray) := (spec_SecOk.f k a0).bind fun t143 => (if t143 = true then (if 1 + a0.size ≤ 9223372036854775807 then ((spec_l1Ok.f k ((⟨#[107]⟩ : ByteArray) ++ a0)).bind fun t144 => (some t144)) else (none)) else (some (⟨#[]⟩ : ByteArray)))
theorem spec_MakKey.mono : ∀ a0 k, LeO (spec_MakKey.f k a0) (spec_MakKey.f (k + 1) a0) := by
  intro a0 k; unfold spec_MakKey.f
  repeat' first
      | (with_reducible exact spec_SecOk.mono _ _)
      | (with_reducible exact spec_l1Ok.mono _ _)
      | (with_reducible exact LeO.refl _)
      | (with_reducible exact LeO.none _)
      | (with_reducible refine LeO.ite ?_ ?_)
      | (with_reducible refine LeO.bind ?_ (fun _ => ?_))
      | exact LeO.none _
      | refine LeO.ite ?_ ?_
      | refine LeO.bind ?_ (fun _ => ?_)
set_option maxHeartbeats 8000000 in
set_option maxRecDepth 100000 in
theorem spec_MakKey.calls (k : Nat) (a0 : ByteArray) (r : ByteArray) (w : World) (h : spec_MakKey.f k a0 = some r) :
    Calls Tryd.prog 43 #[.string a0] w fun e w' => e = .returned (.string r) ∧ Below w.heap.size w w' := by
  have HB := am_ (Below.refl w.heap.size w); have H : ((spec_SecOk.f k a0).bind fun t143 => (if t143 = true then (if 1 + a0.size ≤ 9223372036854775807 then ((spec_l1Ok.f k ((⟨#[107]⟩ : ByteArray) ++ a0)).bind fun t144 => (some t144)) else (none)) else (some (⟨#[]⟩ : ByteArray)))) = some r := h; clear h; replace H := Option.bind_eq_some_iff.mp H; obtain ⟨t143, A20, H⟩ := H; replace H : (if t143 = true then (if 1 + a0.size ≤ 9223372036854775807 then ((spec_l1Ok.f k ((⟨#[107]⟩ : ByteArray) ++ a0)).bind fun t144 => (some t144)) else (none)) else (some (⟨#[]⟩ : ByteArray))) = some r := H; have A2 := am_ A20; clear A20; by_cases c3 : t143 = true
  · subst c3
    have H1 : (if 1 + a0.size ≤ 9223372036854775807 then ((spec_l1Ok.f k ((⟨#[107]⟩ : ByteArray) ++ a0)).bind fun t144 => (some t144)) else (none)) = some r := by rw [if_pos rfl] at H; exact H
    clear H; have H := H1; clear H1; by_cases c4 : 1 + a0.size ≤ 9223372036854775807
    · rw [if_pos c4] at H
      have c4b0 := eq_true c4; have c4b1 : decide (1 + a0.size ≤ 9223372036854775807) = true := decide_eq_true c4
      try have c4b2 : (9223372036854775807 < 1 + a0.size) = False := eq_false (Nat.not_lt.2 c4)
      replace H := Option.bind_eq_some_iff.mp H; obtain ⟨t144, A50, H⟩ := H; replace H : (some t144) = some r := H; have A5 := am_ A50; clear A50; obtain rfl := Option.some.inj H; go_enter Tryd.func43, Tryd.ntmps43; go_wp2_with (first | ((with_reducible refine gate_callee (f := 30) rfl ?_); refine goesL_ (some 4) rfl rfl Tryd.func30 (by kernel_rfl) rfl #[.string a0] rfl y1_ ?_; (with_reducible refine (spec_SecOk.calls k a0 true _ A2.out).mono ?_); rintro e w6 ⟨rfl, hb⟩; refine ⟨_, rfl, ?_⟩; replace HB := am_ (below_step (y7_ HB.out) hb); clear hb) | ((with_reducible refine gate_callee (f := 80) rfl ?_); refine goesL_ (some 8) rfl rfl Tryd.func80 (by kernel_rfl) rfl #[.string ((⟨#[107]⟩ : ByteArray) ++ a0)] rfl y1_ ?_; (with_reducible refine (spec_l1Ok.calls k ((⟨#[107]⟩ : ByteArray) ++ a0) t144 _ A5.out).mono ?_); rintro e w7 ⟨rfl, hb⟩; refine ⟨_, rfl, ?_⟩; replace HB := am_ (below_step (y7_ HB.out) hb); clear hb)); go_ret; exact ⟨y6_, y7_ HB.out⟩
    rw [if_neg c4] at H; exact absurd H (by simp)
  replace c3 := Bool.eq_false_iff.mpr c3; subst c3
  have H1 : (some (⟨#[]⟩ : ByteArray)) = some r := by rw [if_neg (show ¬ (false = true) by decide)] at H; exact H
  clear H; have H := H1; clear H1; obtain rfl := Option.some.inj H; go_enter Tryd.func43, Tryd.ntmps43; go_wp2_with (first | ((with_reducible refine gate_callee (f := 30) rfl ?_); refine goesL_ (some 4) rfl rfl Tryd.func30 (by kernel_rfl) rfl #[.string a0] rfl y1_ ?_; (with_reducible refine (spec_SecOk.calls k a0 false _ A2.out).mono ?_); rintro e w8 ⟨rfl, hb⟩; refine ⟨_, rfl, ?_⟩; replace HB := am_ (below_step (y7_ HB.out) hb); clear hb)); go_ret; exact ⟨y6_, y7_ HB.out⟩

end Go.Proofs.YtdcaipomjimplaaDoor.Wk
