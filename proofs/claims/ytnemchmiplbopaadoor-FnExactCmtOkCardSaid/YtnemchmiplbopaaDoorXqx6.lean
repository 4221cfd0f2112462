-- Written by this session's own program (wip/tools/pp.py) out of the translation, over functions given by hand. Lean checks it.
import Derived.Test.YtnemchmiplbopaaDoorXqx0
import Derived.Test.YtnemchmiplbopaaDoorXqx5
namespace Go.Proofs.YtnemchmiplbopaaDoor.Xq
open Go.RowKit Go.Proofs.YtnemchmiplbopaaDoorW.PrintWords Go.Proofs.YtnemchmiplbopaaDoorW.PrintLast Go.Proofs.YtnemchmiplbopaaDoorW.PrintMore
attribute [local go_sem] max2_int min2_int max_two min_two max_three min_three max_four min_four   -- for this text's walks alone
set_option linter.unusedVariables false
set_option linter.unusedSimpArgs false

/-! ### spec_SecOk: function 28 -/
def spec_SecOk.f (k : Nat) (a0 : ByteArray) : Option (Bool) := if a0.toList = ([] : List UInt8) then (some false) else (if (a0.size : Int) ≤ 300 then ((spec_l1Size.f k a0 0).bind fun t136 => (some (t136 == (a0.size : Int)))) else (some false))
theorem spec_SecOk.mono : ∀ a0 k, LeO (spec_SecOk.f k a0) (spec_SecOk.f (k + 1) a0) := by
  intro a0 k; unfold spec_SecOk.f
  repeat' first
      | (with_reducible exact spec_l1Size.mono _ _ _)
      | (with_reducible exact LeO.refl _)
      | (with_reducible exact LeO.none _)
      | (with_reducible refine LeO.ite ?_ ?_)
      | (with_reducible refine LeO.bind ?_ (fun _ => ?_))
      | exact LeO.none _
      | refine LeO.ite ?_ ?_
      | refine LeO.bind ?_ (fun _ => ?_)
set_option maxHeartbeats 8000000 in
set_option maxRecDepth 100000 in
theorem spec_SecOk.calls (k : Nat) (a0 : ByteArray) (r : Bool) (w : World) (h : spec_SecOk.f k a0 = some r) :
    Calls Tryd.prog 28 #[.string a0] w fun e w' => e = .returned (.bool r) ∧ Below w.heap.size w w' := by
  have HB := am_ (Below.refl w.heap.size w); have H : (if a0.toList = ([] : List UInt8) then (some false) else (if (a0.size : Int) ≤ 300 then ((spec_l1Size.f k a0 0).bind fun t136 => (some (t136 == (a0.size : Int)))) else (some false))) = some r := h; clear h; by_cases c2 : a0.toList = ([] : List UInt8)
  · rw [if_pos c2] at H; have c2b0 : (a0.toList == ([] : List UInt8)) = true := beq_iff_eq.mpr c2; have c2b1 : (a0.toList != ([] : List UInt8)) = false := bne_eq_false_iff_eq.mpr c2; clear c2; obtain rfl := Option.some.inj H; go_enter Tryd.func28, Tryd.ntmps28; go_wp2; go_ret; exact ⟨y6_, y7_ HB.out⟩
  rw [if_neg c2] at H; have c2b0 : (a0.toList == ([] : List UInt8)) = false := beq_eq_false_iff_ne.mpr c2; have c2b1 : (a0.toList != ([] : List UInt8)) = true := bne_iff_ne.mpr c2; by_cases c3 : (a0.size : Int) ≤ 300
  · rw [if_pos c3] at H; have c3b0 : decide ((a0.size : Int) ≤ 300) = true := decide_eq_true c3; have c3b1 : decide (a0.size ≤ 300) = true := decide_eq_true (by omega); clear c3; replace H := Option.bind_eq_some_iff.mp H; obtain ⟨t136, A40, H⟩ := H; replace H : (some (t136 == (a0.size : Int))) = some r := H; have A4 := am_ A40; clear A40; obtain rfl := Option.some.inj H; go_enter Tryd.func28, Tryd.ntmps28; go_wp2_with (first | (go_at_call 53; (with_reducible refine (spec_l1Size.calls k a0 0 t136 _ A4.out).mono ?_); rintro e w5 ⟨rfl, hb⟩; replace HB := am_ (below_step (y7_ HB.out) hb); clear hb)); go_ret; exact ⟨y6_, y7_ HB.out⟩
  rw [if_neg c3] at H; have c3b0 : decide ((a0.size : Int) ≤ 300) = false := decide_eq_false c3; have c3b1 : decide (a0.size ≤ 300) = false := decide_eq_false (by omega); clear c3; obtain rfl := Option.some.inj H; go_enter Tryd.func28, Tryd.ntmps28; go_wp2; go_ret; exact ⟨y6_, y7_ HB.out⟩

/-! ### spec_l2Boxes: function 35 -/
def spec_l2Boxes.l0 : Nat → List (S45) → Int → Option (Bool)
  | 0, _, _ => none
  | k + 1, x0, x3 => if x3 < (x0.length : Int) then (if 0 ≤ x3 then ((spec_SecOk.f k ((rd_T45 x0 x3).f0)).bind fun t138 => (if t138 = true then ((spec_SecOk.f k ((rd_T45 x0 x3).f1)).bind fun t140 => (if t140 = true then (spec_l2Boxes.l0 k x0 (wrap64 (x3 + 1))) else (some false))) else (some false))) else (none)) else (some true)
def spec_l2Boxes.f (k : Nat) (l0 : List (S45)) : Option (Bool) := if (l0.length : Int) > 400 then (some false) else (spec_l2Boxes.l0 k l0 0)
theorem spec_l2Boxes.mono_l : ∀ k, (∀ y0 y1, LeO (spec_l2Boxes.l0 k y0 y1) (spec_l2Boxes.l0 (k + 1) y0 y1))
  | 0 => fun _ _ r h => by simp [spec_l2Boxes.l0] at h
  | k + 1 => by
    have ih0 := spec_l2Boxes.mono_l k
    · intro y0 y1
      unfold spec_l2Boxes.l0
      repeat' first
      | (with_reducible exact ih0 _ _)
      | (with_reducible exact spec_SecOk.mono _ _)
      | (with_reducible exact LeO.refl _)
      | (with_reducible exact LeO.none _)
      | (with_reducible refine LeO.ite ?_ ?_)
      | (with_reducible refine LeO.bind ?_ (fun _ => ?_))
      | exact LeO.none _
      | refine LeO.ite ?_ ?_
      | refine LeO.bind ?_ (fun _ => ?_)
theorem spec_l2Boxes.mono : ∀ a0 k, LeO (spec_l2Boxes.f k a0) (spec_l2Boxes.f (k + 1) a0) := by
  intro a0 k; have ih0 := spec_l2Boxes.mono_l k; unfold spec_l2Boxes.f
  repeat' first
      | (with_reducible exact ih0 _ _)
      | (with_reducible exact spec_SecOk.mono _ _)
      | (with_reducible exact LeO.refl _)
      | (with_reducible exact LeO.none _)
      | (with_reducible refine LeO.ite ?_ ?_)
      | (with_reducible refine LeO.bind ?_ (fun _ => ?_))
      | exact LeO.none _
      | refine LeO.ite ?_ ?_
      | refine LeO.bind ?_ (fun _ => ?_)
set_option maxHeartbeats 8000000 in
set_option maxRecDepth 100000 in
theorem spec_l2Boxes.calls (k : Nat) (A0 : Option Addr) (c0 : Nat) (l0 : List (S45)) (r : Bool) (w : World) (hr0 : Kd.C k45 w A0 l0.length l0) (hc0 : l0.length ≤ c0) (h : spec_l2Boxes.f k l0 = some r) :
    Calls Tryd.prog 35 #[.slice A0 l0.length c0] w fun e w' => e = .returned (.bool r) ∧ Below w.heap.size w w' := by
  have HR0 := am_ hr0; have HC0 := am_ hc0; clear hr0 hc0; have HB := am_ (Below.refl w.heap.size w); have H : (if (l0.length : Int) > 400 then (some false) else (spec_l2Boxes.l0 k l0 0)) = some r := h; clear h; by_cases c2 : (l0.length : Int) > 400
  · rw [if_pos c2] at H; have c2b0 : decide (400 < (l0.length : Int)) = true := decide_eq_true c2; have c2b1 : decide (400 < l0.length) = true := decide_eq_true (by omega); clear c2; obtain rfl := Option.some.inj H; go_enter Tryd.func35, Tryd.ntmps35; go_wp2; go_ret; exact ⟨y6_, y7_ HB.out⟩
  rw [if_neg c2] at H; have c2b0 : decide (400 < (l0.length : Int)) = false := decide_eq_false c2; have c2b1 : decide (400 < l0.length) = false := decide_eq_false (by omega); clear c2; have H' := am_ H; clear H; go_enter Tryd.func35, Tryd.ntmps35; go_wp2
  go_loopg [3] k (fun kq v3 w' => ∃ (x3_1 : Int), v3 = .int .i64 x3_1 ∧ Aside0 (spec_l2Boxes.l0 kq l0 x3_1 = some r) ∧ Aside0 (kq ≤ k) ∧ Aside0 (Below w.heap.size w w'))
  case atStart => exact ⟨(0), y4_, H', ⟨Nat.le_refl _⟩, ⟨y7_ HB.out⟩⟩
  case round =>
    clear H'; (try clear c2); (try clear c2b0); (try clear c2b1); (try clear p2); obtain ⟨x3_1, rfl, HA, HK1, HB⟩ := hrel
    cases gk with
    | zero => exact absurd HA.out (by simp [spec_l2Boxes.l0])
    | succ k1 =>
      have H := HA.out; clear HA; simp only [spec_l2Boxes.l0] at H; by_cases c3 : x3_1 < (l0.length : Int)
      · rw [if_pos c3] at H
        have c3b0 : decide (x3_1 < (l0.length : Int)) = true := decide_eq_true c3; clear c3; by_cases c4 : 0 ≤ x3_1
        · rw [if_pos c4] at H
          have c4b0 : decide (0 ≤ x3_1) = true := decide_eq_true c4; clear c4; replace H := Option.bind_eq_some_iff.mp H; obtain ⟨t138, A50, H⟩ := H; replace H : (if t138 = true then ((spec_SecOk.f k1 ((rd_T45 l0 x3_1).f1)).bind fun t140 => (if t140 = true then (spec_l2Boxes.l0 k1 l0 (wrap64 (x3_1 + 1))) else (some false))) else (some false)) = some r := H; have A5 := am_ A50; clear A50; by_cases c6 : t138 = true
          · subst c6
            have H1 : ((spec_SecOk.f k1 ((rd_T45 l0 x3_1).f1)).bind fun t140 => (if t140 = true then (spec_l2Boxes.l0 k1 l0 (wrap64 (x3_1 + 1))) else (some false))) = some r := by rw [if_pos rfl] at H; exact H
            clear H; have H := H1; clear H1; replace H := Option.bind_eq_some_iff.mp H; obtain ⟨t140, A70, H⟩ := H; replace H : (if t140 = true then (spec_l2Boxes.l0 k1 l0 (wrap64 (x3_1 + 1))) else (some false)) = some r := H; have A7 := am_ A70; clear A70; by_cases c8 : t140 = true
            · subst c8
              have H1 : (spec_l2Boxes.l0 k1 l0 (wrap64 (x3_1 + 1))) = some r := by rw [if_pos rfl] at H; exact H
              clear H; have H := H1; clear H1; have H' := am_ H; clear H; have p137 : 0 ≤ (x3_1 : Int) := of_decide_eq_true y3_; have q137 : x3_1 < (l0.length : Int) := of_decide_eq_true y3_; obtain ⟨ad137, e137, hx137_0, hx137_1⟩ := at_T45 HR0.out x3_1 p137 q137
              cases e137
              replace hx137_0 := (HB.out.cell (World.block_lt_of_cell? w _ hx137_0)).trans hx137_0; replace hx137_1 := (HB.out.cell (World.block_lt_of_cell? w _ hx137_1)).trans hx137_1; replace p137 := eq_true p137; replace q137 := eq_true q137; go_wp2_with (first | ((with_reducible refine gate_callee (f := 28) rfl ?_); refine goesL_ (some 18) rfl rfl Tryd.func28 (by kernel_rfl) rfl #[.string ((rd_T45 l0 x3_1).f0)] rfl y1_ ?_; (with_reducible refine (spec_SecOk.calls k1 ((rd_T45 l0 x3_1).f0) true _ A5.out).mono ?_); rintro e w9 ⟨rfl, hb⟩; refine ⟨_, rfl, ?_⟩; replace HB := am_ (below_step (y7_ HB.out) hb); clear hb; have p139 : 0 ≤ (x3_1 : Int) := of_decide_eq_true y3_; have q139 : x3_1 < (l0.length : Int) := of_decide_eq_true y3_; obtain ⟨ad139, e139, hx139_0, hx139_1⟩ := at_T45 HR0.out x3_1 p139 q139; obtain rfl : ad137 = ad139 := (by injection e139); replace hx139_0 := (HB.out.cell (World.block_lt_of_cell? w _ hx139_0)).trans hx139_0; replace hx139_1 := (HB.out.cell (World.block_lt_of_cell? w _ hx139_1)).trans hx139_1; replace p139 := eq_true p139; replace q139 := eq_true q139) | (go_at_call 28; (with_reducible refine (spec_SecOk.calls k1 ((rd_T45 l0 x3_1).f1) true _ A7.out).mono ?_); rintro e w10 ⟨rfl, hb⟩; replace HB := am_ (below_step (y7_ HB.out) hb); clear hb))
              go_roundg k1
              case measure => have := HK1.out; omega
              case rel => exact ⟨(wrap64 (x3_1 + 1)), y4_, H', ⟨by have := HK1.out; omega⟩, ⟨y7_ HB.out⟩⟩
            replace c8 := Bool.eq_false_iff.mpr c8; subst c8
            have H1 : (some false) = some r := by rw [if_neg (show ¬ (false = true) by decide)] at H; exact H
            clear H; have H := H1; clear H1; obtain rfl := Option.some.inj H; have p137 : 0 ≤ (x3_1 : Int) := of_decide_eq_true y3_; have q137 : x3_1 < (l0.length : Int) := of_decide_eq_true y3_; obtain ⟨ad137, e137, hx137_0, hx137_1⟩ := at_T45 HR0.out x3_1 p137 q137
            cases e137
            replace hx137_0 := (HB.out.cell (World.block_lt_of_cell? w _ hx137_0)).trans hx137_0; replace hx137_1 := (HB.out.cell (World.block_lt_of_cell? w _ hx137_1)).trans hx137_1; replace p137 := eq_true p137; replace q137 := eq_true q137; go_wp2_with (first | ((with_reducible refine gate_callee (f := 28) rfl ?_); refine goesL_ (some 18) rfl rfl Tryd.func28 (by kernel_rfl) rfl #[.string ((rd_T45 l0 x3_1).f0)] rfl y1_ ?_; (with_reducible refine (spec_SecOk.calls k1 ((rd_T45 l0 x3_1).f0) true _ A5.out).mono ?_); rintro e w11 ⟨rfl, hb⟩; refine ⟨_, rfl, ?_⟩; replace HB := am_ (below_step (y7_ HB.out) hb); clear hb; have p139 : 0 ≤ (x3_1 : Int) := of_decide_eq_true y3_; have q139 : x3_1 < (l0.length : Int) := of_decide_eq_true y3_; obtain ⟨ad139, e139, hx139_0, hx139_1⟩ := at_T45 HR0.out x3_1 p139 q139; obtain rfl : ad137 = ad139 := (by injection e139); replace hx139_0 := (HB.out.cell (World.block_lt_of_cell? w _ hx139_0)).trans hx139_0; replace hx139_1 := (HB.out.cell (World.block_lt_of_cell? w _ hx139_1)).trans hx139_1; replace p139 := eq_true p139; replace q139 := eq_true q139) | (go_at_call 28; (with_reducible refine (spec_SecOk.calls k1 ((rd_T45 l0 x3_1).f1) false _ A7.out).mono ?_); rintro e w12 ⟨rfl, hb⟩; replace HB := am_ (below_step (y7_ HB.out) hb); clear hb)); go_ret; exact ⟨y6_, y7_ HB.out⟩
          replace c6 := Bool.eq_false_iff.mpr c6; subst c6
          have H1 : (some false) = some r := by rw [if_neg (show ¬ (false = true) by decide)] at H; exact H
          clear H; have H := H1; clear H1; obtain rfl := Option.some.inj H; have p137 : 0 ≤ (x3_1 : Int) := of_decide_eq_true y3_; have q137 : x3_1 < (l0.length : Int) := of_decide_eq_true y3_; obtain ⟨ad137, e137, hx137_0, hx137_1⟩ := at_T45 HR0.out x3_1 p137 q137
          cases e137
          replace hx137_0 := (HB.out.cell (World.block_lt_of_cell? w _ hx137_0)).trans hx137_0; replace hx137_1 := (HB.out.cell (World.block_lt_of_cell? w _ hx137_1)).trans hx137_1; replace p137 := eq_true p137; replace q137 := eq_true q137; go_wp2_with (first | ((with_reducible refine gate_callee (f := 28) rfl ?_); refine goesL_ (some 18) rfl rfl Tryd.func28 (by kernel_rfl) rfl #[.string ((rd_T45 l0 x3_1).f0)] rfl y1_ ?_; (with_reducible refine (spec_SecOk.calls k1 ((rd_T45 l0 x3_1).f0) false _ A5.out).mono ?_); rintro e w13 ⟨rfl, hb⟩; refine ⟨_, rfl, ?_⟩; replace HB := am_ (below_step (y7_ HB.out) hb); clear hb)); go_ret; exact ⟨y6_, y7_ HB.out⟩
        rw [if_neg c4] at H; exact absurd H (by simp)
      rw [if_neg c3] at H; have c3b0 : decide (x3_1 < (l0.length : Int)) = false := decide_eq_false c3; clear c3; obtain rfl := Option.some.inj H; go_wp2; go_ret; exact ⟨y6_, y7_ HB.out⟩

end Go.Proofs.YtnemchmiplbopaaDoor.Xq
