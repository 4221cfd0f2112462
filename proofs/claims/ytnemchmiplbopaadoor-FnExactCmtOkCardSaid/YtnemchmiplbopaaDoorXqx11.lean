-- Written by this session's own program (wip/tools/pp.py) out of the translation, over functions given by hand. Lean checks it.
import Derived.Test.YtnemchmiplbopaaDoorXqx0
import Derived.Test.YtnemchmiplbopaaDoorXqx10
namespace Go.Proofs.YtnemchmiplbopaaDoor.Xq
open Go.RowKit Go.Proofs.YtnemchmiplbopaaDoorW.PrintWords Go.Proofs.YtnemchmiplbopaaDoorW.PrintLast Go.Proofs.YtnemchmiplbopaaDoorW.PrintMore
attribute [local go_sem] max2_int min2_int max_two min_two max_three min_three max_four min_four   -- for this text's walks alone
set_option linter.unusedVariables false
set_option linter.unusedSimpArgs false

/-! ### impl_someone: function 49 -/
def impl_someone.f (a0 : Int) (a1 : Int) : Option (Bool) := if a0 = (-1) then (some true) else ((impl_isOne.f a0).bind fun t213 => (if t213 = true then (some (a0 != a1)) else (some false)))
set_option maxHeartbeats 8000000 in
set_option maxRecDepth 100000 in
theorem impl_someone.calls (a0 : Int) (a1 : Int) (r : Bool) (w : World) (h : impl_someone.f a0 a1 = some r) :
    Calls Tryd.prog 49 #[.int .i64 a0, .int .i64 a1] w fun e w' => e = .returned (.bool r) ∧ Drawn0 w w' := by
  have H : (if a0 = (-1) then (some true) else ((impl_isOne.f a0).bind fun t213 => (if t213 = true then (some (a0 != a1)) else (some false)))) = some r := h; clear h; by_cases c3 : a0 = (-1)
  · rw [if_pos c3] at H; have c3b0 : (a0 == (-1)) = true := beq_iff_eq.mpr c3; have c3b1 : (a0 != (-1)) = false := bne_eq_false_iff_eq.mpr c3; clear c3; obtain rfl := Option.some.inj H; go_enter Tryd.func49, Tryd.ntmps49; go_wp2; go_ret; exact ⟨by first | rfl | (simp; done) | (simp [*]; done), by repeat (first | exact Drawn0.refl _ | apply Drawn0.step)⟩
  rw [if_neg c3] at H; have c3b0 : (a0 == (-1)) = false := beq_eq_false_iff_ne.mpr c3; have c3b1 : (a0 != (-1)) = true := bne_iff_ne.mpr c3; replace H := Option.bind_eq_some_iff.mp H; obtain ⟨t213, A40, H⟩ := H; replace H : (if t213 = true then (some (a0 != a1)) else (some false)) = some r := H; have A4 := am_ A40; clear A40; by_cases c5 : t213 = true
  · subst c5
    have H1 : (some (a0 != a1)) = some r := by rw [if_pos rfl] at H; exact H
    clear H; have H := H1; clear H1; obtain rfl := Option.some.inj H; go_enter Tryd.func49, Tryd.ntmps49; go_wp2_with (first | (go_at_call 47; (with_reducible refine (impl_isOne.calls a0 true _ A4.out).mono ?_); rintro e w' ⟨rfl, ⟨nd, rfl⟩⟩)); go_ret; exact ⟨by first | rfl | (simp; done) | (simp [*]; done), by repeat (first | exact Drawn0.refl _ | apply Drawn0.step)⟩
  replace c5 := Bool.eq_false_iff.mpr c5; subst c5
  have H1 : (some false) = some r := by rw [if_neg (show ¬ (false = true) by decide)] at H; exact H
  clear H; have H := H1; clear H1; obtain rfl := Option.some.inj H; go_enter Tryd.func49, Tryd.ntmps49; go_wp2_with (first | (go_at_call 47; (with_reducible refine (impl_isOne.calls a0 false _ A4.out).mono ?_); rintro e w' ⟨rfl, ⟨nd, rfl⟩⟩)); go_ret; exact ⟨by first | rfl | (simp; done) | (simp [*]; done), by repeat (first | exact Drawn0.refl _ | apply Drawn0.step)⟩

-- GIVEN: function 50 (impl_TreOk)

/-! ### impl_isKey: function 64 -/
def impl_isKey.f (a0 : ByteArray) : Option (Bool) := (impl_SecMade.f a0).bind fun bt214 => (some (bt214.1 == 3))
set_option maxHeartbeats 8000000 in
set_option maxRecDepth 100000 in
theorem impl_isKey.calls (a0 : ByteArray) (r : Bool) (w : World) (hG : GlobOk w) (h : impl_isKey.f a0 = some r) :
    Calls Tryd.prog 64 #[.string a0] w fun e w' => e = .returned (.bool r) ∧ Below w.heap.size w w' := by
  have hfl67_0 : ∀ (fv0 fv1 fv2 fv3 fv4 : Value) (W : World), (Instr.field 67 (.agg #[fv0, fv1, fv2, fv3, fv4]) 0).run Tryd.prog W = .ok fv0 W := fun _ _ _ _ _ _ => by kernel_rfl
  have HB := am_ (Below.refl w.heap.size w); have HGL := am_ hG; clear hG; have H : ((impl_SecMade.f a0).bind fun bt214 => (some (bt214.1 == 3))) = some r := h; clear h; replace H := Option.bind_eq_some_iff.mp H; obtain ⟨⟨t214, t215, t216, t217, t218⟩, A20, H⟩ := H; replace H : (some (t214 == 3)) = some r := H; have A2 := am_ A20; clear A20; obtain rfl := Option.some.inj H; go_enter Tryd.func64, Tryd.ntmps64; go_wp2_with (first | ((with_reducible refine gate_callee (f := 48) rfl ?_); refine goesL_ (some 4) rfl rfl Tryd.func48 (by kernel_rfl) rfl #[.string a0] rfl y1_ ?_; (with_reducible refine (impl_SecMade.calls a0 t214 t215 t216 t217 t218 _ ?side1 A2.out).mono ?_); (case side1 => exact GlobOk.below HGL.out (y7_ HB.out)); rintro e w3 ⟨rfl, hb⟩; refine ⟨_, rfl, ?_⟩; replace HB := am_ (below_step (y7_ HB.out) hb); clear hb)); go_ret; exact ⟨y6_, y7_ HB.out⟩

/-! ### impl_twoKeys: function 51 -/
def impl_twoKeys.f (a0 : Int) (a1 : ByteArray) (a2 : ByteArray) : Option (Bool) := if a0 < 0 then (if a1.toList = ([] : List UInt8) then (some (a2.toList == ([] : List UInt8))) else (some false)) else ((impl_isKey.f a1).bind fun t219 => (if t219 = true then ((impl_isKey.f a2).bind fun t220 => (if t220 = true then (some (a1.toList != a2.toList)) else (some false))) else (some false)))
set_option maxHeartbeats 8000000 in
set_option maxRecDepth 100000 in
theorem impl_twoKeys.calls (a0 : Int) (a1 : ByteArray) (a2 : ByteArray) (r : Bool) (w : World) (hG : GlobOk w) (h : impl_twoKeys.f a0 a1 a2 = some r) :
    Calls Tryd.prog 51 #[.int .i64 a0, .string a1, .string a2] w fun e w' => e = .returned (.bool r) ∧ Below w.heap.size w w' := by
  have HB := am_ (Below.refl w.heap.size w); have HGL := am_ hG; clear hG; have H : (if a0 < 0 then (if a1.toList = ([] : List UInt8) then (some (a2.toList == ([] : List UInt8))) else (some false)) else ((impl_isKey.f a1).bind fun t219 => (if t219 = true then ((impl_isKey.f a2).bind fun t220 => (if t220 = true then (some (a1.toList != a2.toList)) else (some false))) else (some false)))) = some r := h; clear h; by_cases c4 : a0 < 0
  · rw [if_pos c4] at H
    have c4b0 : decide (a0 < 0) = true := decide_eq_true c4; clear c4; by_cases c5 : a1.toList = ([] : List UInt8)
    · rw [if_pos c5] at H; have c5b0 : (a1.toList == ([] : List UInt8)) = true := beq_iff_eq.mpr c5; have c5b1 : (a1.toList != ([] : List UInt8)) = false := bne_eq_false_iff_eq.mpr c5; clear c5; obtain rfl := Option.some.inj H; go_enter Tryd.func51, Tryd.ntmps51; go_wp2; go_ret; exact ⟨y6_, y7_ HB.out⟩
    rw [if_neg c5] at H; have c5b0 : (a1.toList == ([] : List UInt8)) = false := beq_eq_false_iff_ne.mpr c5; have c5b1 : (a1.toList != ([] : List UInt8)) = true := bne_iff_ne.mpr c5; obtain rfl := Option.some.inj H; go_enter Tryd.func51, Tryd.ntmps51; go_wp2; go_ret; exact ⟨y6_, y7_ HB.out⟩
  rw [if_neg c4] at H; have c4b0 : decide (a0 < 0) = false := decide_eq_false c4; clear c4; replace H := Option.bind_eq_some_iff.mp H; obtain ⟨t219, A60, H⟩ := H; replace H : (if t219 = true then ((impl_isKey.f a2).bind fun t220 => (if t220 = true then (some (a1.toList != a2.toList)) else (some false))) else (some false)) = some r := H; have A6 := am_ A60; clear A60; by_cases c7 : t219 = true
  · subst c7
    have H1 : ((impl_isKey.f a2).bind fun t220 => (if t220 = true then (some (a1.toList != a2.toList)) else (some false))) = some r := by rw [if_pos rfl] at H; exact H
    clear H; have H := H1; clear H1; replace H := Option.bind_eq_some_iff.mp H; obtain ⟨t220, A80, H⟩ := H; replace H : (if t220 = true then (some (a1.toList != a2.toList)) else (some false)) = some r := H; have A8 := am_ A80; clear A80; by_cases c9 : t220 = true
    · subst c9
      have H1 : (some (a1.toList != a2.toList)) = some r := by rw [if_pos rfl] at H; exact H
      clear H; have H := H1; clear H1; obtain rfl := Option.some.inj H; go_enter Tryd.func51, Tryd.ntmps51; go_wp2_with (first | ((with_reducible refine gate_callee (f := 64) rfl ?_); refine goesL_ (some 16) rfl rfl Tryd.func64 (by kernel_rfl) rfl #[.string a1] rfl y1_ ?_; (with_reducible refine (impl_isKey.calls a1 true _ ?side1 A6.out).mono ?_); (case side1 => exact GlobOk.below HGL.out (y7_ HB.out)); rintro e w10 ⟨rfl, hb⟩; refine ⟨_, rfl, ?_⟩; replace HB := am_ (below_step (y7_ HB.out) hb); clear hb) | (go_at_call 64; (with_reducible refine (impl_isKey.calls a2 true _ ?side1 A8.out).mono ?_); (case side1 => exact GlobOk.below HGL.out (y7_ HB.out)); rintro e w11 ⟨rfl, hb⟩; replace HB := am_ (below_step (y7_ HB.out) hb); clear hb)); go_ret; exact ⟨y6_, y7_ HB.out⟩
    replace c9 := Bool.eq_false_iff.mpr c9; subst c9
    have H1 : (some false) = some r := by rw [if_neg (show ¬ (false = true) by decide)] at H; exact H
    clear H; have H := H1; clear H1; obtain rfl := Option.some.inj H; go_enter Tryd.func51, Tryd.ntmps51; go_wp2_with (first | ((with_reducible refine gate_callee (f := 64) rfl ?_); refine goesL_ (some 16) rfl rfl Tryd.func64 (by kernel_rfl) rfl #[.string a1] rfl y1_ ?_; (with_reducible refine (impl_isKey.calls a1 true _ ?side1 A6.out).mono ?_); (case side1 => exact GlobOk.below HGL.out (y7_ HB.out)); rintro e w12 ⟨rfl, hb⟩; refine ⟨_, rfl, ?_⟩; replace HB := am_ (below_step (y7_ HB.out) hb); clear hb) | (go_at_call 64; (with_reducible refine (impl_isKey.calls a2 false _ ?side1 A8.out).mono ?_); (case side1 => exact GlobOk.below HGL.out (y7_ HB.out)); rintro e w13 ⟨rfl, hb⟩; replace HB := am_ (below_step (y7_ HB.out) hb); clear hb)); go_ret; exact ⟨y6_, y7_ HB.out⟩
  replace c7 := Bool.eq_false_iff.mpr c7; subst c7
  have H1 : (some false) = some r := by rw [if_neg (show ¬ (false = true) by decide)] at H; exact H
  clear H; have H := H1; clear H1; obtain rfl := Option.some.inj H; go_enter Tryd.func51, Tryd.ntmps51; go_wp2_with (first | ((with_reducible refine gate_callee (f := 64) rfl ?_); refine goesL_ (some 16) rfl rfl Tryd.func64 (by kernel_rfl) rfl #[.string a1] rfl y1_ ?_; (with_reducible refine (impl_isKey.calls a1 false _ ?side1 A6.out).mono ?_); (case side1 => exact GlobOk.below HGL.out (y7_ HB.out)); rintro e w14 ⟨rfl, hb⟩; refine ⟨_, rfl, ?_⟩; replace HB := am_ (below_step (y7_ HB.out) hb); clear hb)); go_ret; exact ⟨y6_, y7_ HB.out⟩

end Go.Proofs.YtnemchmiplbopaaDoor.Xq
