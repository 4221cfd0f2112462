-- Written by this session's own program (wip/tools/pp.py) out of the translation, over functions given by hand. Lean checks it.
import Derived.Test.YtjbnfcljkmapeaaDoorYmx0
import Derived.Test.YtjbnfcljkmapeaaDoorYmx6
import Derived.Test.YtjbnfcljkmapeaaDoorYmx12
import Derived.Test.YtjbnfcljkmapeaaDoorYmx14
namespace Go.Proofs.YtjbnfcljkmapeaaDoor.Ym
open Go.RowKit Go.Proofs.YtjbnfcljkmapeaaDoorW.PrintWords Go.Proofs.YtjbnfcljkmapeaaDoorW.PrintLast Go.Proofs.YtjbnfcljkmapeaaDoorW.PrintMore
attribute [local go_sem] max2_int min2_int max_two min_two max_three min_three max_four min_four   -- for this text's walks alone
set_option linter.unusedVariables false
set_option linter.unusedSimpArgs false

/-! ### spec_KnwMake: function 17 -/
def spec_KnwMake.f (k : Nat) (l0 : List ByteArray) (a1 : ByteArray) : Option (Bool) := (spec_l2Ok.f k l0).bind fun t251 => (if t251 = true then ((spec_SecOk.f k a1).bind fun t252 => (if t252 = true then ((spec_l2Make.f k l0 a1).bind fun t253 => (some t253)) else (some false))) else (some false))
theorem spec_KnwMake.mono : ∀ a0 a1 k, LeO (spec_KnwMake.f k a0 a1) (spec_KnwMake.f (k + 1) a0 a1) := by
  intro a0 a1 k
  unfold spec_KnwMake.f
  repeat' first
      | (with_reducible exact spec_SecOk.mono _ _)
      | (with_reducible exact spec_l2Make.mono _ _ _)
      | (with_reducible exact spec_l2Ok.mono _ _)
      | (with_reducible exact LeO.refl _)
      | (with_reducible exact LeO.none _)
      | (with_reducible refine LeO.ite ?_ ?_)
      | (with_reducible refine LeO.bind ?_ (fun _ => ?_))
      | exact LeO.none _
      | refine LeO.ite ?_ ?_
      | refine LeO.bind ?_ (fun _ => ?_)
set_option maxHeartbeats 8000000 in
set_option maxRecDepth 100000 in
theorem spec_KnwMake.calls (k : Nat) (A0 : Option Addr) (c0 : Nat) (l0 : List ByteArray) (a1 : ByteArray) (r : Bool) (w : World) (hr0 : Kd.C Kd.string w A0 l0.length l0) (hc0 : l0.length ≤ c0) (h : spec_KnwMake.f k l0 a1 = some r) :
    Calls Tryd.prog 17 #[.slice A0 l0.length c0, .string a1] w fun e w' => e = .returned (.bool r) ∧ Below w.heap.size w w' := by
  have HR0 := Aside0.mk hr0
  have HC0 := Aside0.mk hc0
  clear hr0 hc0
  have HB := Aside0.mk (Below.refl w.heap.size w)
  have H : ((spec_l2Ok.f k l0).bind fun t251 => (if t251 = true then ((spec_SecOk.f k a1).bind fun t252 => (if t252 = true then ((spec_l2Make.f k l0 a1).bind fun t253 => (some t253)) else (some false))) else (some false))) = some r := h
  clear h
  replace H := Option.bind_eq_some_iff.mp H
  obtain ⟨t251, A30, H⟩ := H
  replace H : (if t251 = true then ((spec_SecOk.f k a1).bind fun t252 => (if t252 = true then ((spec_l2Make.f k l0 a1).bind fun t253 => (some t253)) else (some false))) else (some false)) = some r := H
  have A3 := Aside0.mk A30
  clear A30
  by_cases c4 : t251 = true
  · subst c4
    have H1 : ((spec_SecOk.f k a1).bind fun t252 => (if t252 = true then ((spec_l2Make.f k l0 a1).bind fun t253 => (some t253)) else (some false))) = some r := by rw [if_pos rfl] at H; exact H
    clear H
    have H := H1
    clear H1
    replace H := Option.bind_eq_some_iff.mp H
    obtain ⟨t252, A50, H⟩ := H
    replace H : (if t252 = true then ((spec_l2Make.f k l0 a1).bind fun t253 => (some t253)) else (some false)) = some r := H
    have A5 := Aside0.mk A50
    clear A50
    by_cases c6 : t252 = true
    · subst c6
      have H1 : ((spec_l2Make.f k l0 a1).bind fun t253 => (some t253)) = some r := by rw [if_pos rfl] at H; exact H
      clear H
      have H := H1
      clear H1
      replace H := Option.bind_eq_some_iff.mp H
      obtain ⟨t253, A70, H⟩ := H
      replace H : (some t253) = some r := H
      have A7 := Aside0.mk A70
      clear A70
      obtain rfl := Option.some.inj H
      go_enter Tryd.func17, Tryd.ntmps17
      go_wp2_with (first | ((with_reducible refine gate_callee (f := 41) rfl ?_); refine goesL_ (some 6) rfl rfl Tryd.func41 (by kernel_rfl) rfl #[.slice A0 l0.length c0] rfl y1_ ?_; (with_reducible refine (spec_l2Ok.calls k _ _ l0 true _ ?side1 ?side2 A3.out).mono ?_); (case side1 => repeat (first | exact HR0.out | (with_reducible refine Kd.C_alloc ?_ _) | (with_reducible refine Kd.C_drewN ?_ _) | (with_reducible refine Kd.C_drew ?_))); (case side2 => exact HC0.out); rintro e w8 ⟨rfl, hb⟩; refine ⟨_, rfl, ?_⟩; replace HB := Aside0.mk (below_step (y7_ HB.out) hb); clear hb) | (go_at_call 21; (with_reducible refine (spec_SecOk.calls k a1 true _ A5.out).mono ?_); rintro e w9 ⟨rfl, hb⟩; replace HB := Aside0.mk (below_step (y7_ HB.out) hb); clear hb) | (go_at_call 42; (with_reducible refine (spec_l2Make.calls k _ _ l0 a1 t253 _ ?side1 ?side2 A7.out).mono ?_); (case side1 => repeat (first | exact (Kd.C_below HR0.out HB.out) | (with_reducible refine Kd.C_alloc ?_ _) | (with_reducible refine Kd.C_drewN ?_ _) | (with_reducible refine Kd.C_drew ?_))); (case side2 => exact HC0.out); rintro e w10 ⟨rfl, hb⟩; replace HB := Aside0.mk (below_step (y7_ HB.out) hb); clear hb))
      go_ret
      exact ⟨y6_, y7_ HB.out⟩
    replace c6 := Bool.eq_false_iff.mpr c6
    subst c6
    have H1 : (some false) = some r := by rw [if_neg (show ¬ (false = true) by decide)] at H; exact H
    clear H
    have H := H1
    clear H1
    obtain rfl := Option.some.inj H
    go_enter Tryd.func17, Tryd.ntmps17
    go_wp2_with (first | ((with_reducible refine gate_callee (f := 41) rfl ?_); refine goesL_ (some 6) rfl rfl Tryd.func41 (by kernel_rfl) rfl #[.slice A0 l0.length c0] rfl y1_ ?_; (with_reducible refine (spec_l2Ok.calls k _ _ l0 true _ ?side1 ?side2 A3.out).mono ?_); (case side1 => repeat (first | exact HR0.out | (with_reducible refine Kd.C_alloc ?_ _) | (with_reducible refine Kd.C_drewN ?_ _) | (with_reducible refine Kd.C_drew ?_))); (case side2 => exact HC0.out); rintro e w11 ⟨rfl, hb⟩; refine ⟨_, rfl, ?_⟩; replace HB := Aside0.mk (below_step (y7_ HB.out) hb); clear hb) | (go_at_call 21; (with_reducible refine (spec_SecOk.calls k a1 false _ A5.out).mono ?_); rintro e w12 ⟨rfl, hb⟩; replace HB := Aside0.mk (below_step (y7_ HB.out) hb); clear hb))
    go_ret
    exact ⟨y6_, y7_ HB.out⟩
  replace c4 := Bool.eq_false_iff.mpr c4
  subst c4
  have H1 : (some false) = some r := by rw [if_neg (show ¬ (false = true) by decide)] at H; exact H
  clear H
  have H := H1
  clear H1
  obtain rfl := Option.some.inj H
  go_enter Tryd.func17, Tryd.ntmps17
  go_wp2_with (first | ((with_reducible refine gate_callee (f := 41) rfl ?_); refine goesL_ (some 6) rfl rfl Tryd.func41 (by kernel_rfl) rfl #[.slice A0 l0.length c0] rfl y1_ ?_; (with_reducible refine (spec_l2Ok.calls k _ _ l0 false _ ?side1 ?side2 A3.out).mono ?_); (case side1 => repeat (first | exact HR0.out | (with_reducible refine Kd.C_alloc ?_ _) | (with_reducible refine Kd.C_drewN ?_ _) | (with_reducible refine Kd.C_drew ?_))); (case side2 => exact HC0.out); rintro e w13 ⟨rfl, hb⟩; refine ⟨_, rfl, ?_⟩; replace HB := Aside0.mk (below_step (y7_ HB.out) hb); clear hb))
  go_ret
  exact ⟨y6_, y7_ HB.out⟩

-- GIVEN: function 69 (strings_Join)

/-! ### impl_made: function 45 -/
def impl_made.l0 : Nat → ByteArray → List ByteArray → List ByteArray → Int → Int → Option (ByteArray)
  | 0, _, _, _, _, _ => none
  | k + 1, x0, x1, x8, x9, x10 => if x10 < x9 then (if 0 ≤ x10 then (if x10 < (x8.length : Int) then ((impl_SecOk.f (rdOf ByteArray.empty x8 x10)).bind fun t255 => (if t255 = true then (impl_made.l0 k x0 x1 x8 x9 (wrap64 (x10 + 1))) else (some (⟨#[]⟩ : ByteArray)))) else (none)) else (none)) else ((strings_Join.f x1 (⟨#[]⟩ : ByteArray)).bind fun t256 => (if x0.size + t256.size ≤ 9223372036854775807 then (if ((x0 ++ t256).size : Int) ≤ 300 then (some (x0 ++ t256)) else (some (⟨#[]⟩ : ByteArray))) else (none)))
def impl_made.f (k : Nat) (a0 : ByteArray) (l1 : List ByteArray) : Option (ByteArray) := impl_made.l0 k a0 l1 l1 (l1.length : Int) 0
theorem impl_made.mono_l : ∀ k, (∀ y0 y1 y2 y3 y4, LeO (impl_made.l0 k y0 y1 y2 y3 y4) (impl_made.l0 (k + 1) y0 y1 y2 y3 y4))
  | 0 => fun _ _ _ _ _ r h => by simp [impl_made.l0] at h
  | k + 1 => by
    have ih0 := impl_made.mono_l k
    · intro y0 y1 y2 y3 y4
      unfold impl_made.l0
      repeat' first
      | (with_reducible exact ih0 _ _ _ _ _)
      | (with_reducible exact LeO.refl _)
      | (with_reducible exact LeO.none _)
      | (with_reducible refine LeO.ite ?_ ?_)
      | (with_reducible refine LeO.bind ?_ (fun _ => ?_))
      | exact LeO.none _
      | refine LeO.ite ?_ ?_
      | refine LeO.bind ?_ (fun _ => ?_)
theorem impl_made.mono : ∀ a0 a1 k, LeO (impl_made.f k a0 a1) (impl_made.f (k + 1) a0 a1) := by
  intro a0 a1 k
  have ih0 := impl_made.mono_l k
  unfold impl_made.f
  repeat' first
      | (with_reducible exact ih0 _ _ _ _ _)
      | (with_reducible exact LeO.refl _)
      | (with_reducible exact LeO.none _)
      | (with_reducible refine LeO.ite ?_ ?_)
      | (with_reducible refine LeO.bind ?_ (fun _ => ?_))
      | exact LeO.none _
      | refine LeO.ite ?_ ?_
      | refine LeO.bind ?_ (fun _ => ?_)
set_option maxHeartbeats 8000000 in
set_option maxRecDepth 100000 in
theorem impl_made.calls (k : Nat) (a0 : ByteArray) (A1 : Option Addr) (c1 : Nat) (l1 : List ByteArray) (r : ByteArray) (w : World) (hr1 : Kd.C Kd.string w A1 l1.length l1) (hc1 : l1.length ≤ c1) (hsp1 : Flat A1) (hG : GlobOk w) (h : impl_made.f k a0 l1 = some r) :
    Calls Tryd.prog 45 #[.string a0, .slice A1 l1.length c1] w fun e w' => e = .returned (.string r) ∧ Below w.heap.size w w' := by
  have HR1 := Aside0.mk hr1
  have HC1 := Aside0.mk hc1
  clear hr1 hc1
  have HB := Aside0.mk (Below.refl w.heap.size w)
  have HGL := Aside0.mk hG
  clear hG
  have H : (impl_made.l0 k a0 l1 l1 (l1.length : Int) 0) = some r := h
  clear h
  have H' := Aside0.mk H
  clear H
  go_enter Tryd.func45, Tryd.ntmps45
  go_wp2
  go_loopg [10] k (fun kq v10 w' => ∃ (x10_1 : Int), v10 = .int .i64 x10_1 ∧ Aside0 (impl_made.l0 kq a0 l1 l1 (l1.length : Int) x10_1 = some r) ∧ Aside0 (kq ≤ k) ∧ Aside0 (Below w.heap.size w w'))
  case atStart => exact ⟨(0), y4_, H', ⟨Nat.le_refl _⟩, ⟨y7_ HB.out⟩⟩
  case round =>
    clear H'
    try clear c1
    try clear p2
    obtain ⟨x10_1, rfl, HA, HK1, HB⟩ := hrel
    cases gk with
    | zero => exact absurd HA.out (by simp [impl_made.l0])
    | succ k1 =>
      have H := HA.out
      clear HA
      simp only [impl_made.l0] at H
      by_cases c3 : x10_1 < (l1.length : Int)
      · rw [if_pos c3] at H
        have c3b0 : decide (x10_1 < (l1.length : Int)) = true := decide_eq_true c3
        clear c3
        by_cases c4 : 0 ≤ x10_1
        · rw [if_pos c4] at H
          have c4b0 : decide (0 ≤ x10_1) = true := decide_eq_true c4
          clear c4
          by_cases c5 : x10_1 < (l1.length : Int)
          · rw [if_pos c5] at H
            have c5b0 : decide (x10_1 < (l1.length : Int)) = true := decide_eq_true c5
            clear c5
            replace H := Option.bind_eq_some_iff.mp H
            obtain ⟨t255, A60, H⟩ := H
            replace H : (if t255 = true then (impl_made.l0 k1 a0 l1 l1 (l1.length : Int) (wrap64 (x10_1 + 1))) else (some (⟨#[]⟩ : ByteArray))) = some r := H
            have A6 := Aside0.mk A60
            clear A60
            by_cases c7 : t255 = true
            · subst c7
              have H1 : (impl_made.l0 k1 a0 l1 l1 (l1.length : Int) (wrap64 (x10_1 + 1))) = some r := by rw [if_pos rfl] at H; exact H
              clear H
              have H := H1
              clear H1
              have H' := Aside0.mk H
              clear H
              have p254 : 0 ≤ (x10_1 : Int) := of_decide_eq_true y3_
              have q254 : x10_1 < (l1.length : Int) := of_decide_eq_true y3_
              obtain ⟨ad254, e254, hx254_0⟩ := Kd.at_string HR1.out x10_1 p254 q254
              cases e254
              replace hx254_0 := (HB.out.cell (World.block_lt_of_cell? w _ hx254_0)).trans hx254_0
              replace p254 := eq_true p254
              replace q254 := eq_true q254
              go_wp2_with (first | ((with_reducible refine gate_callee (f := 22) rfl ?_); refine goesL_ (some 15) rfl rfl Tryd.func22 (by kernel_rfl) rfl #[.string (rdOf ByteArray.empty l1 x10_1)] rfl y1_ ?_; (with_reducible refine (impl_SecOk.calls (rdOf ByteArray.empty l1 x10_1) true _ ?side1 A6.out).mono ?_); (case side1 => exact GlobOk.below HGL.out (y7_ HB.out)); rintro e w8 ⟨rfl, hb⟩; refine ⟨_, rfl, ?_⟩; replace HB := Aside0.mk (below_step (y7_ HB.out) hb); clear hb))
              go_roundg k1
              case measure => have := HK1.out; omega
              case rel => exact ⟨(wrap64 (x10_1 + 1)), y4_, H', ⟨by have := HK1.out; omega⟩, ⟨y7_ HB.out⟩⟩
            replace c7 := Bool.eq_false_iff.mpr c7
            subst c7
            have H1 : (some (⟨#[]⟩ : ByteArray)) = some r := by rw [if_neg (show ¬ (false = true) by decide)] at H; exact H
            clear H
            have H := H1
            clear H1
            obtain rfl := Option.some.inj H
            have p254 : 0 ≤ (x10_1 : Int) := of_decide_eq_true y3_
            have q254 : x10_1 < (l1.length : Int) := of_decide_eq_true y3_
            obtain ⟨ad254, e254, hx254_0⟩ := Kd.at_string HR1.out x10_1 p254 q254
            cases e254
            replace hx254_0 := (HB.out.cell (World.block_lt_of_cell? w _ hx254_0)).trans hx254_0
            replace p254 := eq_true p254
            replace q254 := eq_true q254
            go_wp2_with (first | ((with_reducible refine gate_callee (f := 22) rfl ?_); refine goesL_ (some 15) rfl rfl Tryd.func22 (by kernel_rfl) rfl #[.string (rdOf ByteArray.empty l1 x10_1)] rfl y1_ ?_; (with_reducible refine (impl_SecOk.calls (rdOf ByteArray.empty l1 x10_1) false _ ?side1 A6.out).mono ?_); (case side1 => exact GlobOk.below HGL.out (y7_ HB.out)); rintro e w9 ⟨rfl, hb⟩; refine ⟨_, rfl, ?_⟩; replace HB := Aside0.mk (below_step (y7_ HB.out) hb); clear hb))
            go_ret
            exact ⟨y6_, y7_ HB.out⟩
          rw [if_neg c5] at H
          exact absurd H (by simp)
        rw [if_neg c4] at H
        exact absurd H (by simp)
      rw [if_neg c3] at H
      have c3b0 : decide (x10_1 < (l1.length : Int)) = false := decide_eq_false c3
      clear c3
      replace H := Option.bind_eq_some_iff.mp H
      obtain ⟨t256, A100, H⟩ := H
      replace H : (if a0.size + t256.size ≤ 9223372036854775807 then (if ((a0 ++ t256).size : Int) ≤ 300 then (some (a0 ++ t256)) else (some (⟨#[]⟩ : ByteArray))) else (none)) = some r := H
      have A10 := Aside0.mk A100
      clear A100
      by_cases c11 : a0.size + t256.size ≤ 9223372036854775807
      · rw [if_pos c11] at H
        have c11b0 := eq_true c11
        have c11b1 : decide (a0.size + t256.size ≤ 9223372036854775807) = true := decide_eq_true c11
        try have c11b2 : (9223372036854775807 < a0.size + t256.size) = False := eq_false (Nat.not_lt.2 c11)
        by_cases c12 : ((a0 ++ t256).size : Int) ≤ 300
        · rw [if_pos c12] at H
          have c12b0 : decide (((a0 ++ t256).size : Int) ≤ 300) = true := decide_eq_true c12
          have c12z : decide (((a0.size : Int) + (t256.size : Int)) ≤ 300) = true := decide_eq_true (by have z_ := c12; rw [ByteArray.size_append] at z_; omega)
          have c12b1 : decide ((a0 ++ t256).size ≤ 300) = true := decide_eq_true (by omega)
          clear c12
          obtain rfl := Option.some.inj H
          go_wp2_with (first | ((with_reducible refine gate_callee (f := 69) rfl ?_); refine goesL_ (some 20) rfl rfl Tryd.func69 (by kernel_rfl) rfl #[.slice A1 l1.length c1, .string (⟨#[]⟩ : ByteArray)] rfl y1_ ?_; (with_reducible refine (strings_Join.calls _ _ l1 (⟨#[]⟩ : ByteArray) t256 _ ?side1 ?side2 ?side3 A10.out).mono ?_); (case side1 => repeat (first | exact (Kd.C_below HR1.out HB.out) | (with_reducible refine Kd.C_alloc ?_ _) | (with_reducible refine Kd.C_drewN ?_ _) | (with_reducible refine Kd.C_drew ?_))); (case side2 => exact HC1.out); (case side3 => first | assumption | exact Flat.of_R (by assumption) | exact Flat.none_); rintro e w13 ⟨rfl, hb⟩; refine ⟨_, rfl, ?_⟩; replace HB := Aside0.mk (below_step (y7_ HB.out) hb); clear hb))
          go_ret
          exact ⟨y6_, y7_ HB.out⟩
        rw [if_neg c12] at H
        have c12b0 : decide (((a0 ++ t256).size : Int) ≤ 300) = false := decide_eq_false c12
        have c12z : decide (((a0.size : Int) + (t256.size : Int)) ≤ 300) = false := decide_eq_false (by have z_ := c12; rw [ByteArray.size_append] at z_; omega)
        have c12b1 : decide ((a0 ++ t256).size ≤ 300) = false := decide_eq_false (by omega)
        clear c12
        obtain rfl := Option.some.inj H
        go_wp2_with (first | ((with_reducible refine gate_callee (f := 69) rfl ?_); refine goesL_ (some 20) rfl rfl Tryd.func69 (by kernel_rfl) rfl #[.slice A1 l1.length c1, .string (⟨#[]⟩ : ByteArray)] rfl y1_ ?_; (with_reducible refine (strings_Join.calls _ _ l1 (⟨#[]⟩ : ByteArray) t256 _ ?side1 ?side2 ?side3 A10.out).mono ?_); (case side1 => repeat (first | exact (Kd.C_below HR1.out HB.out) | (with_reducible refine Kd.C_alloc ?_ _) | (with_reducible refine Kd.C_drewN ?_ _) | (with_reducible refine Kd.C_drew ?_))); (case side2 => exact HC1.out); (case side3 => first | assumption | exact Flat.of_R (by assumption) | exact Flat.none_); rintro e w14 ⟨rfl, hb⟩; refine ⟨_, rfl, ?_⟩; replace HB := Aside0.mk (below_step (y7_ HB.out) hb); clear hb))
        go_ret
        exact ⟨y6_, y7_ HB.out⟩
      rw [if_neg c11] at H
      exact absurd H (by simp)

/-! ### impl_MakNext: function 23 -/
def impl_MakNext.f (k : Nat) (a0 : ByteArray) : Option (ByteArray) := (impl_made.f k (⟨#[110]⟩ : ByteArray) (([a0] : List ByteArray))).bind fun t260 => (some t260)
theorem impl_MakNext.mono : ∀ a0 k, LeO (impl_MakNext.f k a0) (impl_MakNext.f (k + 1) a0) := by
  intro a0 k
  unfold impl_MakNext.f
  repeat' first
      | (with_reducible exact impl_made.mono _ _ _)
      | (with_reducible exact LeO.refl _)
      | (with_reducible exact LeO.none _)
      | (with_reducible refine LeO.ite ?_ ?_)
      | (with_reducible refine LeO.bind ?_ (fun _ => ?_))
      | exact LeO.none _
      | refine LeO.ite ?_ ?_
      | refine LeO.bind ?_ (fun _ => ?_)
set_option maxHeartbeats 8000000 in
set_option maxRecDepth 100000 in
theorem impl_MakNext.calls (k : Nat) (a0 : ByteArray) (r : ByteArray) (w : World) (hG : GlobOk w) (h : impl_MakNext.f k a0 = some r) :
    Calls Tryd.prog 23 #[.string a0] w fun e w' => e = .returned (.string r) ∧ Below w.heap.size w w' := by
  have HB := Aside0.mk (Below.refl w.heap.size w)
  have HGL := Aside0.mk hG
  clear hG
  have H : ((impl_made.f k (⟨#[110]⟩ : ByteArray) (([a0] : List ByteArray))).bind fun t260 => (some t260)) = some r := h
  clear h
  obtain ⟨y257, hy257⟩ : ∃ y_ : List ByteArray, y_ = (([a0] : List ByteArray)) := ⟨_, rfl⟩
  replace H : ((impl_made.f k (⟨#[110]⟩ : ByteArray) y257).bind fun t260 => (some t260)) = some r := by first | (rw [hy257]; with_reducible exact H) | (have H2_ := (Option.bind_some _ _).symm.trans H; rw [hy257]; with_reducible exact H2_) | (have H2_ := (Option.bind_some _ _).symm.trans H; with_reducible exact H2_) | with_reducible exact H | (rw [hy257]; exact H) | exact H
  have Ny257 := Aside0.mk hy257
  clear hy257
  replace H := Option.bind_eq_some_iff.mp H
  obtain ⟨t260, A20, H⟩ := H
  replace H : (some t260) = some r := H
  have A2 := Aside0.mk A20
  clear A20
  obtain rfl := Option.some.inj H
  go_enter Tryd.func23, Tryd.ntmps23
  go_wp2_with (first | ((with_reducible refine gate_dst (N := 4) rfl ?_); refine Kd.R_lit Kd.string _ 9 ?hg (N := 4) ?hd (xs := ([a0] : List ByteArray)) (inner := [.string a0]) (ok := fun _ => True) (okp := fun _ => True) ?hr ?hp (fun _ hk => hk) trivial (Below.refl _ _) (Nat.le_refl _) (by simp) ?_; (case hd => rfl); (case hg => rfl); (case hr => first | (go_simp; done) | (go_simp; rfl)); (case hp => exact (Reps.one (show Kd.M Kd.string _ _ _ a0 [.string a0] from rfl) (Reps.none _ _))); intro v258 w3 ho4 hb hg_ hnew_; clear hg_ hnew_; (first | rw [← Ny257.out] at ho4 | (simp only [Int.reduceToNat] at ho4; rw [← Ny257.out] at ho4)); have HO259 := Aside0.mk (Kd.R_lower ho4 (below_size (y7_ HB.out))); replace HB := Aside0.mk (below_step (y7_ HB.out) hb); clear hb ho4; obtain ⟨Ao5, co5, eo5⟩ := Kd.R_slice HO259.out; subst eo5) | ((with_reducible refine gate_callee (f := 45) rfl ?_); refine goesL_ (some 5) rfl rfl Tryd.func45 (by kernel_rfl) rfl #[.string (⟨#[110]⟩ : ByteArray), .slice Ao5 y257.length co5] rfl y1_ ?_; (with_reducible refine (impl_made.calls k (⟨#[110]⟩ : ByteArray) _ _ y257 t260 _ ?side1 ?side2 ?side3 ?side4 A2.out).mono ?_); (case side1 => repeat (first | exact (Kd.R_reads' HO259.out).2.2 | (with_reducible refine Kd.C_alloc ?_ _) | (with_reducible refine Kd.C_drewN ?_ _) | (with_reducible refine Kd.C_drew ?_))); (case side2 => exact (Kd.R_reads' HO259.out).2.1); (case side3 => first | assumption | exact Flat.of_R (by assumption) | exact Flat.none_); (case side4 => exact GlobOk.below HGL.out (y7_ HB.out)); rintro e w6 ⟨rfl, hb⟩; refine ⟨_, rfl, ?_⟩; replace HO259 := Aside0.mk (Kd.R_below (y11_ HO259.out) hb); replace HB := Aside0.mk (below_step (y7_ HB.out) hb); clear hb))
  go_ret
  exact ⟨y6_, y7_ HB.out⟩

/-! ### impl_MakKey: function 24 -/
def impl_MakKey.f (k : Nat) (a0 : ByteArray) : Option (ByteArray) := (impl_made.f k (⟨#[107]⟩ : ByteArray) (([a0] : List ByteArray))).bind fun t264 => (some t264)
theorem impl_MakKey.mono : ∀ a0 k, LeO (impl_MakKey.f k a0) (impl_MakKey.f (k + 1) a0) := by
  intro a0 k
  unfold impl_MakKey.f
  repeat' first
      | (with_reducible exact impl_made.mono _ _ _)
      | (with_reducible exact LeO.refl _)
      | (with_reducible exact LeO.none _)
      | (with_reducible refine LeO.ite ?_ ?_)
      | (with_reducible refine LeO.bind ?_ (fun _ => ?_))
      | exact LeO.none _
      | refine LeO.ite ?_ ?_
      | refine LeO.bind ?_ (fun _ => ?_)
set_option maxHeartbeats 8000000 in
set_option maxRecDepth 100000 in
theorem impl_MakKey.calls (k : Nat) (a0 : ByteArray) (r : ByteArray) (w : World) (hG : GlobOk w) (h : impl_MakKey.f k a0 = some r) :
    Calls Tryd.prog 24 #[.string a0] w fun e w' => e = .returned (.string r) ∧ Below w.heap.size w w' := by
  have HB := Aside0.mk (Below.refl w.heap.size w)
  have HGL := Aside0.mk hG
  clear hG
  have H : ((impl_made.f k (⟨#[107]⟩ : ByteArray) (([a0] : List ByteArray))).bind fun t264 => (some t264)) = some r := h
  clear h
  obtain ⟨y261, hy261⟩ : ∃ y_ : List ByteArray, y_ = (([a0] : List ByteArray)) := ⟨_, rfl⟩
  replace H : ((impl_made.f k (⟨#[107]⟩ : ByteArray) y261).bind fun t264 => (some t264)) = some r := by first | (rw [hy261]; with_reducible exact H) | (have H2_ := (Option.bind_some _ _).symm.trans H; rw [hy261]; with_reducible exact H2_) | (have H2_ := (Option.bind_some _ _).symm.trans H; with_reducible exact H2_) | with_reducible exact H | (rw [hy261]; exact H) | exact H
  have Ny261 := Aside0.mk hy261
  clear hy261
  replace H := Option.bind_eq_some_iff.mp H
  obtain ⟨t264, A20, H⟩ := H
  replace H : (some t264) = some r := H
  have A2 := Aside0.mk A20
  clear A20
  obtain rfl := Option.some.inj H
  go_enter Tryd.func24, Tryd.ntmps24
  go_wp2_with (first | ((with_reducible refine gate_dst (N := 4) rfl ?_); refine Kd.R_lit Kd.string _ 9 ?hg (N := 4) ?hd (xs := ([a0] : List ByteArray)) (inner := [.string a0]) (ok := fun _ => True) (okp := fun _ => True) ?hr ?hp (fun _ hk => hk) trivial (Below.refl _ _) (Nat.le_refl _) (by simp) ?_; (case hd => rfl); (case hg => rfl); (case hr => first | (go_simp; done) | (go_simp; rfl)); (case hp => exact (Reps.one (show Kd.M Kd.string _ _ _ a0 [.string a0] from rfl) (Reps.none _ _))); intro v262 w3 ho4 hb hg_ hnew_; clear hg_ hnew_; (first | rw [← Ny261.out] at ho4 | (simp only [Int.reduceToNat] at ho4; rw [← Ny261.out] at ho4)); have HO263 := Aside0.mk (Kd.R_lower ho4 (below_size (y7_ HB.out))); replace HB := Aside0.mk (below_step (y7_ HB.out) hb); clear hb ho4; obtain ⟨Ao5, co5, eo5⟩ := Kd.R_slice HO263.out; subst eo5) | ((with_reducible refine gate_callee (f := 45) rfl ?_); refine goesL_ (some 5) rfl rfl Tryd.func45 (by kernel_rfl) rfl #[.string (⟨#[107]⟩ : ByteArray), .slice Ao5 y261.length co5] rfl y1_ ?_; (with_reducible refine (impl_made.calls k (⟨#[107]⟩ : ByteArray) _ _ y261 t264 _ ?side1 ?side2 ?side3 ?side4 A2.out).mono ?_); (case side1 => repeat (first | exact (Kd.R_reads' HO263.out).2.2 | (with_reducible refine Kd.C_alloc ?_ _) | (with_reducible refine Kd.C_drewN ?_ _) | (with_reducible refine Kd.C_drew ?_))); (case side2 => exact (Kd.R_reads' HO263.out).2.1); (case side3 => first | assumption | exact Flat.of_R (by assumption) | exact Flat.none_); (case side4 => exact GlobOk.below HGL.out (y7_ HB.out)); rintro e w6 ⟨rfl, hb⟩; refine ⟨_, rfl, ?_⟩; replace HO263 := Aside0.mk (Kd.R_below (y11_ HO263.out) hb); replace HB := Aside0.mk (below_step (y7_ HB.out) hb); clear hb))
  go_ret
  exact ⟨y6_, y7_ HB.out⟩

end Go.Proofs.YtjbnfcljkmapeaaDoor.Ym
