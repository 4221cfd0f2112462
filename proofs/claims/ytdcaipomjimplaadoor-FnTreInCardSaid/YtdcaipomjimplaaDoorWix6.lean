-- Written by this session's own program (wip/tools/pp.py) out of the translation, over functions given by hand. Lean checks it.
import Derived.Test.YtdcaipomjimplaaDoorWix0
import Derived.Test.YtdcaipomjimplaaDoorWix1
import Derived.Test.YtdcaipomjimplaaDoorWix3
import Derived.Test.YtdcaipomjimplaaDoorWix5
namespace Go.Proofs.YtdcaipomjimplaaDoor.Wi
open Go.RowKit Go.Proofs.YtdcaipomjimplaaDoorW.PrintWords Go.Proofs.YtdcaipomjimplaaDoorW.PrintLast Go.Proofs.YtdcaipomjimplaaDoorW.PrintMore
attribute [local go_sem] max2_int min2_int max_two min_two max_three min_three max_four min_four   -- for this text's walks alone
set_option linter.unusedVariables false
set_option linter.unusedSimpArgs false

/-! ### spec_MakEpoch: function 37 -/
def spec_MakEpoch.f (k : Nat) (a0 : ByteArray) (a1 : ByteArray) : Option (ByteArray) := (spec_SecOk.f k a0).bind fun t153 => (if t153 = true then ((spec_SecOk.f k a1).bind fun t154 => (if t154 = true then (if 1 + a0.size ≤ 9223372036854775807 then (if ((⟨#[101]⟩ : ByteArray) ++ a0).size + a1.size ≤ 9223372036854775807 then ((spec_l1Ok.f k (((⟨#[101]⟩ : ByteArray) ++ a0) ++ a1)).bind fun t155 => (some t155)) else (none)) else (none)) else (some (⟨#[]⟩ : ByteArray)))) else (some (⟨#[]⟩ : ByteArray)))
theorem spec_MakEpoch.mono : ∀ a0 a1 k, LeO (spec_MakEpoch.f k a0 a1) (spec_MakEpoch.f (k + 1) a0 a1) := by
  intro a0 a1 k; unfold spec_MakEpoch.f
  repeat' first
      | (with_reducible exact spec_SecOk.mono _ _)
      | (with_reducible exact spec_l1Ok.mono _ _)
      | (with_reducible exact LeO.refl _)
      | (with_reducible exact LeO.none _)
      | (with_reducible refine LeO.ite ?_ ?_)
      | (with_reducible refine LeO.bind ?_ (fun _ => ?_))
      | exact LeO.none _
      | refine LeO.ite ?_ ?_
      | refine LeO.bind ?_ (fun _ => ?_)
set_option maxHeartbeats 8000000 in
set_option maxRecDepth 100000 in
theorem spec_MakEpoch.calls (k : Nat) (a0 : ByteArray) (a1 : ByteArray) (r : ByteArray) (w : World) (h : spec_MakEpoch.f k a0 a1 = some r) :
    Calls Tryd.prog 37 #[.string a0, .string a1] w fun e w' => e = .returned (.string r) ∧ Below w.heap.size w w' := by
  have HB := am_ (Below.refl w.heap.size w); have H : ((spec_SecOk.f k a0).bind fun t153 => (if t153 = true then ((spec_SecOk.f k a1).bind fun t154 => (if t154 = true then (if 1 + a0.size ≤ 9223372036854775807 then (if ((⟨#[101]⟩ : ByteArray) ++ a0).size + a1.size ≤ 9223372036854775807 then ((spec_l1Ok.f k (((⟨#[101]⟩ : ByteArray) ++ a0) ++ a1)).bind fun t155 => (some t155)) else (none)) else (none)) else (some (⟨#[]⟩ : ByteArray)))) else (some (⟨#[]⟩ : ByteArray)))) = some r := h; clear h; replace H := Option.bind_eq_some_iff.mp H; obtain ⟨t153, A30, H⟩ := H; replace H : (if t153 = true then ((spec_SecOk.f k a1).bind fun t154 => (if t154 = true then (if 1 + a0.size ≤ 9223372036854775807 then (if ((⟨#[101]⟩ : ByteArray) ++ a0).size + a1.size ≤ 9223372036854775807 then ((spec_l1Ok.f k (((⟨#[101]⟩ : ByteArray) ++ a0) ++ a1)).bind fun t155 => (some t155)) else (none)) else (none)) else (some (⟨#[]⟩ : ByteArray)))) else (some (⟨#[]⟩ : ByteArray))) = some r := H; have A3 := am_ A30; clear A30; by_cases c4 : t153 = true
  · subst c4
    have H1 : ((spec_SecOk.f k a1).bind fun t154 => (if t154 = true then (if 1 + a0.size ≤ 9223372036854775807 then (if ((⟨#[101]⟩ : ByteArray) ++ a0).size + a1.size ≤ 9223372036854775807 then ((spec_l1Ok.f k (((⟨#[101]⟩ : ByteArray) ++ a0) ++ a1)).bind fun t155 => (some t155)) else (none)) else (none)) else (some (⟨#[]⟩ : ByteArray)))) = some r := by rw [if_pos rfl] at H; exact H
    clear H; have H := H1; clear H1; replace H := Option.bind_eq_some_iff.mp H; obtain ⟨t154, A50, H⟩ := H; replace H : (if t154 = true then (if 1 + a0.size ≤ 9223372036854775807 then (if ((⟨#[101]⟩ : ByteArray) ++ a0).size + a1.size ≤ 9223372036854775807 then ((spec_l1Ok.f k (((⟨#[101]⟩ : ByteArray) ++ a0) ++ a1)).bind fun t155 => (some t155)) else (none)) else (none)) else (some (⟨#[]⟩ : ByteArray))) = some r := H; have A5 := am_ A50; clear A50; by_cases c6 : t154 = true
    · subst c6
      have H1 : (if 1 + a0.size ≤ 9223372036854775807 then (if ((⟨#[101]⟩ : ByteArray) ++ a0).size + a1.size ≤ 9223372036854775807 then ((spec_l1Ok.f k (((⟨#[101]⟩ : ByteArray) ++ a0) ++ a1)).bind fun t155 => (some t155)) else (none)) else (none)) = some r := by rw [if_pos rfl] at H; exact H
      clear H; have H := H1; clear H1; by_cases c7 : 1 + a0.size ≤ 9223372036854775807
      · rw [if_pos c7] at H
        have c7b0 := eq_true c7; have c7b1 : decide (1 + a0.size ≤ 9223372036854775807) = true := decide_eq_true c7
        try have c7b2 : (9223372036854775807 < 1 + a0.size) = False := eq_false (Nat.not_lt.2 c7)
        by_cases c8 : ((⟨#[101]⟩ : ByteArray) ++ a0).size + a1.size ≤ 9223372036854775807
        · rw [if_pos c8] at H
          have c8b0 := eq_true c8; have c8b1 : decide (((⟨#[101]⟩ : ByteArray) ++ a0).size + a1.size ≤ 9223372036854775807) = true := decide_eq_true c8
          try have c8b2 : (9223372036854775807 < ((⟨#[101]⟩ : ByteArray) ++ a0).size + a1.size) = False := eq_false (Nat.not_lt.2 c8)
          try (have c8e := c8; simp only [ByteArray.size_append] at c8e; have c8e0 := eq_true c8e; have c8e1 := decide_eq_true c8e; have c8e2 := eq_false (Nat.not_lt.2 c8e))
          replace H := Option.bind_eq_some_iff.mp H; obtain ⟨t155, A90, H⟩ := H; replace H : (some t155) = some r := H; have A9 := am_ A90; clear A90; obtain rfl := Option.some.inj H; go_enter Tryd.func37, Tryd.ntmps37; go_wp2_with (first | ((with_reducible refine gate_callee (f := 30) rfl ?_); refine goesL_ (some 6) rfl rfl Tryd.func30 (by kernel_rfl) rfl #[.string a0] rfl y1_ ?_; (with_reducible refine (spec_SecOk.calls k a0 true _ A3.out).mono ?_); rintro e w10 ⟨rfl, hb⟩; refine ⟨_, rfl, ?_⟩; replace HB := am_ (below_step (y7_ HB.out) hb); clear hb) | (go_at_call 30; (with_reducible refine (spec_SecOk.calls k a1 true _ A5.out).mono ?_); rintro e w11 ⟨rfl, hb⟩; replace HB := am_ (below_step (y7_ HB.out) hb); clear hb) | ((with_reducible refine gate_callee (f := 80) rfl ?_); refine goesL_ (some 17) rfl rfl Tryd.func80 (by kernel_rfl) rfl #[.string (((⟨#[101]⟩ : ByteArray) ++ a0) ++ a1)] rfl y1_ ?_; (with_reducible refine (spec_l1Ok.calls k (((⟨#[101]⟩ : ByteArray) ++ a0) ++ a1) t155 _ A9.out).mono ?_); rintro e w12 ⟨rfl, hb⟩; refine ⟨_, rfl, ?_⟩; replace HB := am_ (below_step (y7_ HB.out) hb); clear hb)); go_ret; exact ⟨y6_, y7_ HB.out⟩
        rw [if_neg c8] at H; exact absurd H (by simp)
      rw [if_neg c7] at H; exact absurd H (by simp)
    replace c6 := Bool.eq_false_iff.mpr c6; subst c6
    have H1 : (some (⟨#[]⟩ : ByteArray)) = some r := by rw [if_neg (show ¬ (false = true) by decide)] at H; exact H
    clear H; have H := H1; clear H1; obtain rfl := Option.some.inj H; go_enter Tryd.func37, Tryd.ntmps37; go_wp2_with (first | ((with_reducible refine gate_callee (f := 30) rfl ?_); refine goesL_ (some 6) rfl rfl Tryd.func30 (by kernel_rfl) rfl #[.string a0] rfl y1_ ?_; (with_reducible refine (spec_SecOk.calls k a0 true _ A3.out).mono ?_); rintro e w13 ⟨rfl, hb⟩; refine ⟨_, rfl, ?_⟩; replace HB := am_ (below_step (y7_ HB.out) hb); clear hb) | (go_at_call 30; (with_reducible refine (spec_SecOk.calls k a1 false _ A5.out).mono ?_); rintro e w14 ⟨rfl, hb⟩; replace HB := am_ (below_step (y7_ HB.out) hb); clear hb)); go_ret; exact ⟨y6_, y7_ HB.out⟩
  replace c4 := Bool.eq_false_iff.mpr c4; subst c4
  have H1 : (some (⟨#[]⟩ : ByteArray)) = some r := by rw [if_neg (show ¬ (false = true) by decide)] at H; exact H
  clear H; have H := H1; clear H1; obtain rfl := Option.some.inj H; go_enter Tryd.func37, Tryd.ntmps37; go_wp2_with (first | ((with_reducible refine gate_callee (f := 30) rfl ?_); refine goesL_ (some 6) rfl rfl Tryd.func30 (by kernel_rfl) rfl #[.string a0] rfl y1_ ?_; (with_reducible refine (spec_SecOk.calls k a0 false _ A3.out).mono ?_); rintro e w15 ⟨rfl, hb⟩; refine ⟨_, rfl, ?_⟩; replace HB := am_ (below_step (y7_ HB.out) hb); clear hb)); go_ret; exact ⟨y6_, y7_ HB.out⟩

/-! ### spec_MakNext: function 42 -/
def spec_MakNext.f (k : Nat) (a0 : ByteArray) : Option (ByteArray) := (spec_SecOk.f k a0).bind fun t156 => (if t156 = true then (if 1 + a0.size ≤ 9223372036854775807 then ((spec_l1Ok.f k ((⟨#[110]⟩ : ByteArray) ++ a0)).bind fun t157 => (some t157)) else (none)) else (some (⟨#[]⟩ : ByteArray)))
theorem spec_MakNext.mono : ∀ a0 k, LeO (spec_MakNext.f k a0) (spec_MakNext.f (k + 1) a0) := by
  intro a0 k; unfold spec_MakNext.f
  repeat' first
      | (with_reducible exact spec_SecOk.mono _ _)
      | (with_reducible exact spec_l1Ok.mono _ _)
      | (with_reducible exact LeO.refl _)
      | (with_reducible exact LeO.none _)
      | (with_reducible refine LeO.ite ?_ ?_)
      | (with_reducible refine LeO.bind ?_ (fun _ => ?_))
      | exact LeO.none _
      | refine LeO.ite ?_ ?_
      | refine LeO.bind ?_ (fun _ => ?_)
set_option maxHeartbeats 8000000 in
set_option maxRecDepth 100000 in
theorem spec_MakNext.calls (k : Nat) (a0 : ByteArray) (r : ByteArray) (w : World) (h : spec_MakNext.f k a0 = some r) :
    Calls Tryd.prog 42 #[.string a0] w fun e w' => e = .returned (.string r) ∧ Below w.heap.size w w' := by
  have HB := am_ (Below.refl w.heap.size w); have H : ((spec_SecOk.f k a0).bind fun t156 => (if t156 = true then (if 1 + a0.size ≤ 9223372036854775807 then ((spec_l1Ok.f k ((⟨#[110]⟩ : ByteArray) ++ a0)).bind fun t157 => (some t157)) else (none)) else (some (⟨#[]⟩ : ByteArray)))) = some r := h; clear h; replace H := Option.bind_eq_some_iff.mp H; obtain ⟨t156, A20, H⟩ := H; replace H : (if t156 = true then (if 1 + a0.size ≤ 9223372036854775807 then ((spec_l1Ok.f k ((⟨#[110]⟩ : ByteArray) ++ a0)).bind fun t157 => (some t157)) else (none)) else (some (⟨#[]⟩ : ByteArray))) = some r := H; have A2 := am_ A20; clear A20; by_cases c3 : t156 = true
  · subst c3
    have H1 : (if 1 + a0.size ≤ 9223372036854775807 then ((spec_l1Ok.f k ((⟨#[110]⟩ : ByteArray) ++ a0)).bind fun t157 => (some t157)) else (none)) = some r := by rw [if_pos rfl] at H; exact H
    clear H; have H := H1; clear H1; by_cases c4 : 1 + a0.size ≤ 9223372036854775807
    · rw [if_pos c4] at H
      have c4b0 := eq_true c4; have c4b1 : decide (1 + a0.size ≤ 9223372036854775807) = true := decide_eq_true c4
      try have c4b2 : (9223372036854775807 < 1 + a0.size) = False := eq_false (Nat.not_lt.2 c4)
      replace H := Option.bind_eq_some_iff.mp H; obtain ⟨t157, A50, H⟩ := H; replace H : (some t157) = some r := H; have A5 := am_ A50; clear A50; obtain rfl := Option.some.inj H; go_enter Tryd.func42, Tryd.ntmps42; go_wp2_with (first | ((with_reducible refine gate_callee (f := 30) rfl ?_); refine goesL_ (some 4) rfl rfl Tryd.func30 (by kernel_rfl) rfl #[.string a0] rfl y1_ ?_; (with_reducible refine (spec_SecOk.calls k a0 true _ A2.out).mono ?_); rintro e w6 ⟨rfl, hb⟩; refine ⟨_, rfl, ?_⟩; replace HB := am_ (below_step (y7_ HB.out) hb); clear hb) | ((with_reducible refine gate_callee (f := 80) rfl ?_); refine goesL_ (some 8) rfl rfl Tryd.func80 (by kernel_rfl) rfl #[.string ((⟨#[110]⟩ : ByteArray) ++ a0)] rfl y1_ ?_; (with_reducible refine (spec_l1Ok.calls k ((⟨#[110]⟩ : ByteArray) ++ a0) t157 _ A5.out).mono ?_); rintro e w7 ⟨rfl, hb⟩; refine ⟨_, rfl, ?_⟩; replace HB := am_ (below_step (y7_ HB.out) hb); clear hb)); go_ret; exact ⟨y6_, y7_ HB.out⟩
    rw [if_neg c4] at H; exact absurd H (by simp)
  replace c3 := Bool.eq_false_iff.mpr c3; subst c3
  have H1 : (some (⟨#[]⟩ : ByteArray)) = some r := by rw [if_neg (show ¬ (false = true) by decide)] at H; exact H
  clear H; have H := H1; clear H1; obtain rfl := Option.some.inj H; go_enter Tryd.func42, Tryd.ntmps42; go_wp2_with (first | ((with_reducible refine gate_callee (f := 30) rfl ?_); refine goesL_ (some 4) rfl rfl Tryd.func30 (by kernel_rfl) rfl #[.string a0] rfl y1_ ?_; (with_reducible refine (spec_SecOk.calls k a0 false _ A2.out).mono ?_); rintro e w8 ⟨rfl, hb⟩; refine ⟨_, rfl, ?_⟩; replace HB := am_ (below_step (y7_ HB.out) hb); clear hb)); go_ret; exact ⟨y6_, y7_ HB.out⟩

/-! ### spec_MakKey: function 43 -/
def spec_MakKey.f (k : Nat) (a0 : ByteArray) : Option (ByteArray) := (spec_SecOk.f k a0).bind fun t158 => (if t158 = true then (if 1 + a0.size ≤ 9223372036854775807 then ((spec_l1Ok.f k ((⟨#[107]⟩ : ByteArray) ++ a0)).bind fun t159 => (some t159)) else (none)) else (some (⟨#[]⟩ : ByteArray)))
theorem spec_MakKey.mono : ∀ a0 k, LeO (spec_MakKey.f k a0) (spec_MakKey.f (k + 1) a0) := by
  intro a0 k; unfold spec_MakKey.f
  repeat' first
      | (with_reducible exact spec_SecOk.mono _ _)
      | (with_reducible exact spec_l1Ok.mono _ _)
      | (with_reducible exact LeO.refl _)
      | (with_reducible exact LeO.none _)
      | (with_reducible refine LeO.ite ?_ ?_)
      | (with_reducible refine LeO.bind ?_ (fun _ => ?_))
      | exact LeO.none _
      | refine LeO.ite ?_ ?_
      | refine LeO.bind ?_ (fun _ => ?_)
set_option maxHeartbeats 8000000 in
set_option maxRecDepth 100000 in
theorem spec_MakKey.calls (k : Nat) (a0 : ByteArray) (r : ByteArray) (w : World) (h : spec_MakKey.f k a0 = some r) :
    Calls Tryd.prog 43 #[.string a0] w fun e w' => e = .returned (.string r) ∧ Below w.heap.size w w' := by
  have HB := am_ (Below.refl w.heap.size w); have H : ((spec_SecOk.f k a0).bind fun t158 => (if t158 = true then (if 1 + a0.size ≤ 9223372036854775807 then ((spec_l1Ok.f k ((⟨#[107]⟩ : ByteArray) ++ a0)).bind fun t159 => (some t159)) else (none)) else (some (⟨#[]⟩ : ByteArray)))) = some r := h; clear h; replace H := Option.bind_eq_some_iff.mp H; obtain ⟨t158, A20, H⟩ := H; replace H : (if t158 = true then (if 1 + a0.size ≤ 9223372036854775807 then ((spec_l1Ok.f k ((⟨#[107]⟩ : ByteArray) ++ a0)).bind fun t159 => (some t159)) else (none)) else (some (⟨#[]⟩ : ByteArray))) = some r := H; have A2 := am_ A20; clear A20; by_cases c3 : t158 = true
  · subst c3
    have H1 : (if 1 + a0.size ≤ 9223372036854775807 then ((spec_l1Ok.f k ((⟨#[107]⟩ : ByteArray) ++ a0)).bind fun t159 => (some t159)) else (none)) = some r := by rw [if_pos rfl] at H; exact H
    clear H; have H := H1; clear H1; by_cases c4 : 1 + a0.size ≤ 9223372036854775807
    · rw [if_pos c4] at H
      have c4b0 := eq_true c4; have c4b1 : decide (1 + a0.size ≤ 9223372036854775807) = true := decide_eq_true c4
      try have c4b2 : (9223372036854775807 < 1 + a0.size) = False := eq_false (Nat.not_lt.2 c4)
      replace H := Option.bind_eq_some_iff.mp H; obtain ⟨t159, A50, H⟩ := H; replace H : (some t159) = some r := H; have A5 := am_ A50; clear A50; obtain rfl := Option.some.inj H; go_enter Tryd.func43, Tryd.ntmps43; go_wp2_with (first | ((with_reducible refine gate_callee (f := 30) rfl ?_); refine goesL_ (some 4) rfl rfl Tryd.func30 (by kernel_rfl) rfl #[.string a0] rfl y1_ ?_; (with_reducible refine (spec_SecOk.calls k a0 true _ A2.out).mono ?_); rintro e w6 ⟨rfl, hb⟩; refine ⟨_, rfl, ?_⟩; replace HB := am_ (below_step (y7_ HB.out) hb); clear hb) | ((with_reducible refine gate_callee (f := 80) rfl ?_); refine goesL_ (some 8) rfl rfl Tryd.func80 (by kernel_rfl) rfl #[.string ((⟨#[107]⟩ : ByteArray) ++ a0)] rfl y1_ ?_; (with_reducible refine (spec_l1Ok.calls k ((⟨#[107]⟩ : ByteArray) ++ a0) t159 _ A5.out).mono ?_); rintro e w7 ⟨rfl, hb⟩; refine ⟨_, rfl, ?_⟩; replace HB := am_ (below_step (y7_ HB.out) hb); clear hb)); go_ret; exact ⟨y6_, y7_ HB.out⟩
    rw [if_neg c4] at H; exact absurd H (by simp)
  replace c3 := Bool.eq_false_iff.mpr c3; subst c3
  have H1 : (some (⟨#[]⟩ : ByteArray)) = some r := by rw [if_neg (show ¬ (false = true) by decide)] at H; exact H
  clear H; have H := H1; clear H1; obtain rfl := Option.some.inj H; go_enter Tryd.func43, Tryd.ntmps43; go_wp2_with (first | ((with_reducible refine gate_callee (f := 30) rfl ?_); refine goesL_ (some 4) rfl rfl Tryd.func30 (by kernel_rfl) rfl #[.string a0] rfl y1_ ?_; (with_reducible refine (spec_SecOk.calls k a0 false _ A2.out).mono ?_); rintro e w8 ⟨rfl, hb⟩; refine ⟨_, rfl, ?_⟩; replace HB := am_ (below_step (y7_ HB.out) hb); clear hb)); go_ret; exact ⟨y6_, y7_ HB.out⟩

/-! ### spec_MakSay: function 48 -/
def spec_MakSay.j0 : Nat → ByteArray → Int → Bool → Option (ByteArray)
  | 0, _, _, _ => none
  | k + 1, x0, x1, x12 => if x12 = true then (some (⟨#[]⟩ : ByteArray)) else ((spec_l1Who.f x1).bind fun t162 => (if 1 + t162.size ≤ 9223372036854775807 then (if ((⟨#[109]⟩ : ByteArray) ++ t162).size + x0.size ≤ 9223372036854775807 then ((spec_l1Ok.f k (((⟨#[109]⟩ : ByteArray) ++ t162) ++ x0)).bind fun t163 => (some t163)) else (none)) else (none)))
def spec_MakSay.f (k : Nat) (a0 : ByteArray) (a1 : Int) : Option (ByteArray) := (spec_SecOk.f k a0).bind fun t160 => (if t160 = true then ((spec_l1In.f a1 0 7).bind fun t161 => (spec_MakSay.j0 k a0 a1 (!t161))) else (spec_MakSay.j0 k a0 a1 true))
theorem spec_MakSay.mono_l : ∀ k, (∀ y0 y1 y2, LeO (spec_MakSay.j0 k y0 y1 y2) (spec_MakSay.j0 (k + 1) y0 y1 y2))
  | 0 => fun _ _ _ r h => by simp [spec_MakSay.j0] at h
  | k + 1 => by
    have ih0 := spec_MakSay.mono_l k
    · intro y0 y1 y2
      unfold spec_MakSay.j0
      repeat' first
      | (with_reducible exact ih0 _ _ _)
      | (with_reducible exact spec_SecOk.mono _ _)
      | (with_reducible exact spec_l1Ok.mono _ _)
      | (with_reducible exact LeO.refl _)
      | (with_reducible exact LeO.none _)
      | (with_reducible refine LeO.ite ?_ ?_)
      | (with_reducible refine LeO.bind ?_ (fun _ => ?_))
      | exact LeO.none _
      | refine LeO.ite ?_ ?_
      | refine LeO.bind ?_ (fun _ => ?_)
theorem spec_MakSay.mono : ∀ a0 a1 k, LeO (spec_MakSay.f k a0 a1) (spec_MakSay.f (k + 1) a0 a1) := by
  intro a0 a1 k; have ih0 := spec_MakSay.mono_l k; unfold spec_MakSay.f
  repeat' first
      | (with_reducible exact ih0 _ _ _)
      | (with_reducible exact spec_SecOk.mono _ _)
      | (with_reducible exact spec_l1Ok.mono _ _)
      | (with_reducible exact LeO.refl _)
      | (with_reducible exact LeO.none _)
      | (with_reducible refine LeO.ite ?_ ?_)
      | (with_reducible refine LeO.bind ?_ (fun _ => ?_))
      | exact LeO.none _
      | refine LeO.ite ?_ ?_
      | refine LeO.bind ?_ (fun _ => ?_)
set_option maxHeartbeats 8000000 in
set_option maxRecDepth 100000 in
theorem spec_MakSay.calls (k : Nat) (a0 : ByteArray) (a1 : Int) (r : ByteArray) (w : World) (h : spec_MakSay.f k a0 a1 = some r) :
    Calls Tryd.prog 48 #[.string a0, .int .i64 a1] w fun e w' => e = .returned (.string r) ∧ Below w.heap.size w w' := by
  have HB := am_ (Below.refl w.heap.size w); have H : ((spec_SecOk.f k a0).bind fun t160 => (if t160 = true then ((spec_l1In.f a1 0 7).bind fun t161 => (spec_MakSay.j0 k a0 a1 (!t161))) else (spec_MakSay.j0 k a0 a1 true))) = some r := h; clear h; have HC3 := am_ H; clear H; go_enter Tryd.func48, Tryd.ntmps48
  go_upto_region 1 with (fail)
  go_cut [12] (fun v12 wc => ∃ (kq : Nat) (x12_2 : Bool), v12 = .bool x12_2 ∧ Aside0 (spec_MakSay.j0 kq a0 a1 x12_2 = some r) ∧ Aside0 (kq ≤ k) ∧ Aside0 (Below w.heap.size w wc))
  case first =>
    have H := HC3.out; clear HC3; replace H := Option.bind_eq_some_iff.mp H; obtain ⟨t160, A40, H⟩ := H; replace H : (if t160 = true then ((spec_l1In.f a1 0 7).bind fun t161 => (spec_MakSay.j0 k a0 a1 (!t161))) else (spec_MakSay.j0 k a0 a1 true)) = some r := H; have A4 := am_ A40; clear A40; by_cases c5 : t160 = true
    · subst c5
      have H1 : ((spec_l1In.f a1 0 7).bind fun t161 => (spec_MakSay.j0 k a0 a1 (!t161))) = some r := by rw [if_pos rfl] at H; exact H
      clear H; have H := H1; clear H1; replace H := Option.bind_eq_some_iff.mp H; obtain ⟨t161, A60, H⟩ := H; replace H : (spec_MakSay.j0 k a0 a1 (!t161)) = some r := H; have A6 := am_ A60; clear A60; have H' := am_ H; clear H; go_wp2_with (first | ((with_reducible refine gate_callee (f := 30) rfl ?_); refine goesL_ (some 6) rfl rfl Tryd.func30 (by kernel_rfl) rfl #[.string a0] rfl y1_ ?_; (with_reducible refine (spec_SecOk.calls k a0 true _ A4.out).mono ?_); rintro e w7 ⟨rfl, hb⟩; refine ⟨_, rfl, ?_⟩; replace HB := am_ (below_step (y7_ HB.out) hb); clear hb) | (go_at_call 68; (with_reducible refine (spec_l1In.calls a1 0 7 t161 _ A6.out).mono ?_); rintro e w' ⟨rfl, ⟨nd, rfl⟩⟩)); go_meet
      case rel => exact ⟨_, (!t161), y4_, H', ⟨by first | omega | exact Nat.le_refl _⟩, ⟨y7_ HB.out⟩⟩
    replace c5 := Bool.eq_false_iff.mpr c5; subst c5
    have H1 : (spec_MakSay.j0 k a0 a1 true) = some r := by rw [if_neg (show ¬ (false = true) by decide)] at H; exact H
    clear H; have H := H1; clear H1; have H' := am_ H; clear H; go_wp2_with (first | ((with_reducible refine gate_callee (f := 30) rfl ?_); refine goesL_ (some 6) rfl rfl Tryd.func30 (by kernel_rfl) rfl #[.string a0] rfl y1_ ?_; (with_reducible refine (spec_SecOk.calls k a0 false _ A4.out).mono ?_); rintro e w8 ⟨rfl, hb⟩; refine ⟨_, rfl, ?_⟩; replace HB := am_ (below_step (y7_ HB.out) hb); clear hb)); go_meet
    case rel => exact ⟨_, (true), y4_, H', ⟨by first | omega | exact Nat.le_refl _⟩, ⟨y7_ HB.out⟩⟩
  case rest =>
    clear HC3; (try clear p2); (try clear c3); (try clear c4); (try clear c5); obtain ⟨kq, x12_2, rfl, HA, HJ2, HB⟩ := hcut
    cases kq with
    | zero => exact absurd HA.out (by simp [spec_MakSay.j0])
    | succ kj2 =>
      have H := HA.out; clear HA; simp only [spec_MakSay.j0] at H; by_cases c9 : x12_2 = true
      · subst c9
        have H1 : (some (⟨#[]⟩ : ByteArray)) = some r := by rw [if_pos rfl] at H; exact H
        clear H; have H := H1; clear H1; obtain rfl := Option.some.inj H; go_wp2; go_ret; exact ⟨y6_, y7_ HB.out⟩
      replace c9 := Bool.eq_false_iff.mpr c9; subst c9
      have H1 : ((spec_l1Who.f a1).bind fun t162 => (if 1 + t162.size ≤ 9223372036854775807 then (if ((⟨#[109]⟩ : ByteArray) ++ t162).size + a0.size ≤ 9223372036854775807 then ((spec_l1Ok.f kj2 (((⟨#[109]⟩ : ByteArray) ++ t162) ++ a0)).bind fun t163 => (some t163)) else (none)) else (none))) = some r := by rw [if_neg (show ¬ (false = true) by decide)] at H; exact H
      clear H; have H := H1; clear H1; replace H := Option.bind_eq_some_iff.mp H; obtain ⟨t162, A100, H⟩ := H; replace H : (if 1 + t162.size ≤ 9223372036854775807 then (if ((⟨#[109]⟩ : ByteArray) ++ t162).size + a0.size ≤ 9223372036854775807 then ((spec_l1Ok.f kj2 (((⟨#[109]⟩ : ByteArray) ++ t162) ++ a0)).bind fun t163 => (some t163)) else (none)) else (none)) = some r := H; have A10 := am_ A100; clear A100; by_cases c11 : 1 + t162.size ≤ 9223372036854775807
      · rw [if_pos c11] at H
        have c11b0 := eq_true c11; have c11b1 : decide (1 + t162.size ≤ 9223372036854775807) = true := decide_eq_true c11
        try have c11b2 : (9223372036854775807 < 1 + t162.size) = False := eq_false (Nat.not_lt.2 c11)
        by_cases c12 : ((⟨#[109]⟩ : ByteArray) ++ t162).size + a0.size ≤ 9223372036854775807
        · rw [if_pos c12] at H
          have c12b0 := eq_true c12; have c12b1 : decide (((⟨#[109]⟩ : ByteArray) ++ t162).size + a0.size ≤ 9223372036854775807) = true := decide_eq_true c12
          try have c12b2 : (9223372036854775807 < ((⟨#[109]⟩ : ByteArray) ++ t162).size + a0.size) = False := eq_false (Nat.not_lt.2 c12)
          try (have c12e := c12; simp only [ByteArray.size_append] at c12e; have c12e0 := eq_true c12e; have c12e1 := decide_eq_true c12e; have c12e2 := eq_false (Nat.not_lt.2 c12e))
          replace H := Option.bind_eq_some_iff.mp H; obtain ⟨t163, A130, H⟩ := H; replace H : (some t163) = some r := H; have A13 := am_ A130; clear A130; obtain rfl := Option.some.inj H; go_wp2_with (first | ((with_reducible refine gate_callee (f := 84) rfl ?_); refine goesL_ (some 14) rfl rfl Tryd.func84 (by kernel_rfl) rfl #[.int .i64 a1] rfl y1_ ?_; (with_reducible refine (spec_l1Who.calls a1 t162 _ A10.out).mono ?_); rintro e w14 ⟨rfl, hb⟩; refine ⟨_, rfl, ?_⟩; replace HB := am_ (below_step (y7_ HB.out) hb); clear hb) | ((with_reducible refine gate_callee (f := 80) rfl ?_); refine goesL_ (some 18) rfl rfl Tryd.func80 (by kernel_rfl) rfl #[.string (((⟨#[109]⟩ : ByteArray) ++ t162) ++ a0)] rfl y1_ ?_; (with_reducible refine (spec_l1Ok.calls kj2 (((⟨#[109]⟩ : ByteArray) ++ t162) ++ a0) t163 _ A13.out).mono ?_); rintro e w15 ⟨rfl, hb⟩; refine ⟨_, rfl, ?_⟩; replace HB := am_ (below_step (y7_ HB.out) hb); clear hb)); go_ret; exact ⟨y6_, y7_ HB.out⟩
        rw [if_neg c12] at H; exact absurd H (by simp)
      rw [if_neg c11] at H; exact absurd H (by simp)

/-! ### spec_MakRoom: function 49 -/
def spec_MakRoom.j0 : Nat → ByteArray → Int → Bool → Option (ByteArray)
  | 0, _, _, _ => none
  | k + 1, x0, x1, x12 => if x12 = true then (some (⟨#[]⟩ : ByteArray)) else ((spec_l1Plain.f k x1).bind fun t166 => (if 1 + t166.size ≤ 9223372036854775807 then (if ((⟨#[114]⟩ : ByteArray) ++ t166).size + x0.size ≤ 9223372036854775807 then ((spec_l1Ok.f k (((⟨#[114]⟩ : ByteArray) ++ t166) ++ x0)).bind fun t167 => (some t167)) else (none)) else (none)))
def spec_MakRoom.f (k : Nat) (a0 : ByteArray) (a1 : Int) : Option (ByteArray) := (spec_SecOk.f k a0).bind fun t164 => (if t164 = true then ((spec_l1In.f a1 1 9).bind fun t165 => (spec_MakRoom.j0 k a0 a1 (!t165))) else (spec_MakRoom.j0 k a0 a1 true))
theorem spec_MakRoom.mono_l : ∀ k, (∀ y0 y1 y2, LeO (spec_MakRoom.j0 k y0 y1 y2) (spec_MakRoom.j0 (k + 1) y0 y1 y2))
  | 0 => fun _ _ _ r h => by simp [spec_MakRoom.j0] at h
  | k + 1 => by
    have ih0 := spec_MakRoom.mono_l k
    · intro y0 y1 y2
      unfold spec_MakRoom.j0
      repeat' first
      | (with_reducible exact ih0 _ _ _)
      | (with_reducible exact spec_SecOk.mono _ _)
      | (with_reducible exact spec_l1Ok.mono _ _)
      | (with_reducible exact spec_l1Plain.mono _ _)
      | (with_reducible exact LeO.refl _)
      | (with_reducible exact LeO.none _)
      | (with_reducible refine LeO.ite ?_ ?_)
      | (with_reducible refine LeO.bind ?_ (fun _ => ?_))
      | exact LeO.none _
      | refine LeO.ite ?_ ?_
      | refine LeO.bind ?_ (fun _ => ?_)
theorem spec_MakRoom.mono : ∀ a0 a1 k, LeO (spec_MakRoom.f k a0 a1) (spec_MakRoom.f (k + 1) a0 a1) := by
  intro a0 a1 k; have ih0 := spec_MakRoom.mono_l k; unfold spec_MakRoom.f
  repeat' first
      | (with_reducible exact ih0 _ _ _)
      | (with_reducible exact spec_SecOk.mono _ _)
      | (with_reducible exact spec_l1Ok.mono _ _)
      | (with_reducible exact spec_l1Plain.mono _ _)
      | (with_reducible exact LeO.refl _)
      | (with_reducible exact LeO.none _)
      | (with_reducible refine LeO.ite ?_ ?_)
      | (with_reducible refine LeO.bind ?_ (fun _ => ?_))
      | exact LeO.none _
      | refine LeO.ite ?_ ?_
      | refine LeO.bind ?_ (fun _ => ?_)
set_option maxHeartbeats 8000000 in
set_option maxRecDepth 100000 in
theorem spec_MakRoom.calls (k : Nat) (a0 : ByteArray) (a1 : Int) (r : ByteArray) (w : World) (h : spec_MakRoom.f k a0 a1 = some r) :
    Calls Tryd.prog 49 #[.string a0, .int .i64 a1] w fun e w' => e = .returned (.string r) ∧ Below w.heap.size w w' := by
  have HB := am_ (Below.refl w.heap.size w); have H : ((spec_SecOk.f k a0).bind fun t164 => (if t164 = true then ((spec_l1In.f a1 1 9).bind fun t165 => (spec_MakRoom.j0 k a0 a1 (!t165))) else (spec_MakRoom.j0 k a0 a1 true))) = some r := h; clear h; have HC3 := am_ H; clear H; go_enter Tryd.func49, Tryd.ntmps49
  go_upto_region 1 with (fail)
  go_cut [12] (fun v12 wc => ∃ (kq : Nat) (x12_2 : Bool), v12 = .bool x12_2 ∧ Aside0 (spec_MakRoom.j0 kq a0 a1 x12_2 = some r) ∧ Aside0 (kq ≤ k) ∧ Aside0 (Below w.heap.size w wc))
  case first =>
    have H := HC3.out; clear HC3; replace H := Option.bind_eq_some_iff.mp H; obtain ⟨t164, A40, H⟩ := H; replace H : (if t164 = true then ((spec_l1In.f a1 1 9).bind fun t165 => (spec_MakRoom.j0 k a0 a1 (!t165))) else (spec_MakRoom.j0 k a0 a1 true)) = some r := H; have A4 := am_ A40; clear A40; by_cases c5 : t164 = true
    · subst c5
      have H1 : ((spec_l1In.f a1 1 9).bind fun t165 => (spec_MakRoom.j0 k a0 a1 (!t165))) = some r := by rw [if_pos rfl] at H; exact H
      clear H; have H := H1; clear H1; replace H := Option.bind_eq_some_iff.mp H; obtain ⟨t165, A60, H⟩ := H; replace H : (spec_MakRoom.j0 k a0 a1 (!t165)) = some r := H; have A6 := am_ A60; clear A60; have H' := am_ H; clear H; go_wp2_with (first | ((with_reducible refine gate_callee (f := 30) rfl ?_); refine goesL_ (some 6) rfl rfl Tryd.func30 (by kernel_rfl) rfl #[.string a0] rfl y1_ ?_; (with_reducible refine (spec_SecOk.calls k a0 true _ A4.out).mono ?_); rintro e w7 ⟨rfl, hb⟩; refine ⟨_, rfl, ?_⟩; replace HB := am_ (below_step (y7_ HB.out) hb); clear hb) | (go_at_call 68; (with_reducible refine (spec_l1In.calls a1 1 9 t165 _ A6.out).mono ?_); rintro e w' ⟨rfl, ⟨nd, rfl⟩⟩)); go_meet
      case rel => exact ⟨_, (!t165), y4_, H', ⟨by first | omega | exact Nat.le_refl _⟩, ⟨y7_ HB.out⟩⟩
    replace c5 := Bool.eq_false_iff.mpr c5; subst c5
    have H1 : (spec_MakRoom.j0 k a0 a1 true) = some r := by rw [if_neg (show ¬ (false = true) by decide)] at H; exact H
    clear H; have H := H1; clear H1; have H' := am_ H; clear H; go_wp2_with (first | ((with_reducible refine gate_callee (f := 30) rfl ?_); refine goesL_ (some 6) rfl rfl Tryd.func30 (by kernel_rfl) rfl #[.string a0] rfl y1_ ?_; (with_reducible refine (spec_SecOk.calls k a0 false _ A4.out).mono ?_); rintro e w8 ⟨rfl, hb⟩; refine ⟨_, rfl, ?_⟩; replace HB := am_ (below_step (y7_ HB.out) hb); clear hb)); go_meet
    case rel => exact ⟨_, (true), y4_, H', ⟨by first | omega | exact Nat.le_refl _⟩, ⟨y7_ HB.out⟩⟩
  case rest =>
    clear HC3; (try clear p2); (try clear c3); (try clear c4); (try clear c5); obtain ⟨kq, x12_2, rfl, HA, HJ2, HB⟩ := hcut
    cases kq with
    | zero => exact absurd HA.out (by simp [spec_MakRoom.j0])
    | succ kj2 =>
      have H := HA.out; clear HA; simp only [spec_MakRoom.j0] at H; by_cases c9 : x12_2 = true
      · subst c9
        have H1 : (some (⟨#[]⟩ : ByteArray)) = some r := by rw [if_pos rfl] at H; exact H
        clear H; have H := H1; clear H1; obtain rfl := Option.some.inj H; go_wp2; go_ret; exact ⟨y6_, y7_ HB.out⟩
      replace c9 := Bool.eq_false_iff.mpr c9; subst c9
      have H1 : ((spec_l1Plain.f kj2 a1).bind fun t166 => (if 1 + t166.size ≤ 9223372036854775807 then (if ((⟨#[114]⟩ : ByteArray) ++ t166).size + a0.size ≤ 9223372036854775807 then ((spec_l1Ok.f kj2 (((⟨#[114]⟩ : ByteArray) ++ t166) ++ a0)).bind fun t167 => (some t167)) else (none)) else (none))) = some r := by rw [if_neg (show ¬ (false = true) by decide)] at H; exact H
      clear H; have H := H1; clear H1; replace H := Option.bind_eq_some_iff.mp H; obtain ⟨t166, A100, H⟩ := H; replace H : (if 1 + t166.size ≤ 9223372036854775807 then (if ((⟨#[114]⟩ : ByteArray) ++ t166).size + a0.size ≤ 9223372036854775807 then ((spec_l1Ok.f kj2 (((⟨#[114]⟩ : ByteArray) ++ t166) ++ a0)).bind fun t167 => (some t167)) else (none)) else (none)) = some r := H; have A10 := am_ A100; clear A100; by_cases c11 : 1 + t166.size ≤ 9223372036854775807
      · rw [if_pos c11] at H
        have c11b0 := eq_true c11; have c11b1 : decide (1 + t166.size ≤ 9223372036854775807) = true := decide_eq_true c11
        try have c11b2 : (9223372036854775807 < 1 + t166.size) = False := eq_false (Nat.not_lt.2 c11)
        by_cases c12 : ((⟨#[114]⟩ : ByteArray) ++ t166).size + a0.size ≤ 9223372036854775807
        · rw [if_pos c12] at H
          have c12b0 := eq_true c12; have c12b1 : decide (((⟨#[114]⟩ : ByteArray) ++ t166).size + a0.size ≤ 9223372036854775807) = true := decide_eq_true c12
          try have c12b2 : (9223372036854775807 < ((⟨#[114]⟩ : ByteArray) ++ t166).size + a0.size) = False := eq_false (Nat.not_lt.2 c12)
          try (have c12e := c12; simp only [ByteArray.size_append] at c12e; have c12e0 := eq_true c12e; have c12e1 := decide_eq_true c12e; have c12e2 := eq_false (Nat.not_lt.2 c12e))
          replace H := Option.bind_eq_some_iff.mp H; obtain ⟨t167, A130, H⟩ := H; replace H : (some t167) = some r := H; have A13 := am_ A130; clear A130; obtain rfl := Option.some.inj H; go_wp2_with (first | ((with_reducible refine gate_callee (f := 85) rfl ?_); refine goesL_ (some 14) rfl rfl Tryd.func85 (by kernel_rfl) rfl #[.int .i64 a1] rfl y1_ ?_; (with_reducible refine (spec_l1Plain.calls kj2 a1 t166 _ A10.out).mono ?_); rintro e w14 ⟨rfl, hb⟩; refine ⟨_, rfl, ?_⟩; replace HB := am_ (below_step (y7_ HB.out) hb); clear hb) | ((with_reducible refine gate_callee (f := 80) rfl ?_); refine goesL_ (some 18) rfl rfl Tryd.func80 (by kernel_rfl) rfl #[.string (((⟨#[114]⟩ : ByteArray) ++ t166) ++ a0)] rfl y1_ ?_; (with_reducible refine (spec_l1Ok.calls kj2 (((⟨#[114]⟩ : ByteArray) ++ t166) ++ a0) t167 _ A13.out).mono ?_); rintro e w15 ⟨rfl, hb⟩; refine ⟨_, rfl, ?_⟩; replace HB := am_ (below_step (y7_ HB.out) hb); clear hb)); go_ret; exact ⟨y6_, y7_ HB.out⟩
        rw [if_neg c12] at H; exact absurd H (by simp)
      rw [if_neg c11] at H; exact absurd H (by simp)

end Go.Proofs.YtdcaipomjimplaaDoor.Wi
