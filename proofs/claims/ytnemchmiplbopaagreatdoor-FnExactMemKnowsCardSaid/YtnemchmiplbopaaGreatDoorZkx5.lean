-- Written by this session's own program (wip/tools/pp.py) out of the translation, over functions given by hand. Lean checks it.
import Derived.Test.YtnemchmiplbopaaGreatDoorZkx0
import Derived.Test.YtnemchmiplbopaaGreatDoorZkx2
import Derived.Test.YtnemchmiplbopaaGreatDoorZkx4
namespace Go.Proofs.YtnemchmiplbopaaGreatDoor.Zk
open Go.RowKit Go.Proofs.YtnemchmiplbopaaGreatDoorW.PrintWords Go.Proofs.YtnemchmiplbopaaGreatDoorW.PrintLast Go.Proofs.YtnemchmiplbopaaGreatDoorW.PrintMore
attribute [local go_sem] max2_int min2_int max_two min_two max_three min_three max_four min_four   -- for this text's walks alone
set_option linter.unusedVariables false
set_option linter.unusedSimpArgs false

/-! ### spec_l1Size: function 77 -/
mutual
def spec_l1Size.j0 : Nat → ByteArray → Int → Int → Bool → Option (Int)
  | 0, _, _, _, _ => none
  | k + 1, x0, x1, x5, x14 => if x14 = true then ((spec_l1Size.f k x0 (wrap64 (x1 + 1))).bind fun t168 => ((spec_l1More.f 1 t168).bind fun t169 => (some t169))) else (if x5 = 109 then (if (wrap64 (x1 + 1)) ≥ (x0.size : Int) then (spec_l1Size.j1 k x0 x1 true) else (if 0 ≤ (wrap64 (x1 + 1)) then (if (wrap64 (x1 + 1)) < (x0.size : Int) then (if (bt x0 (wrap64 (x1 + 1))) < 65 then (spec_l1Size.j1 k x0 x1 true) else (spec_l1Size.j1 k x0 x1 (decide ((bt x0 (wrap64 (x1 + 1))) > 72)))) else (none)) else (none))) else (if x5 = 114 then (if (wrap64 (x1 + 1)) ≥ (x0.size : Int) then (spec_l1Size.j2 k x0 x1 true) else (if 0 ≤ (wrap64 (x1 + 1)) then (if (wrap64 (x1 + 1)) < (x0.size : Int) then (if (bt x0 (wrap64 (x1 + 1))) < 49 then (spec_l1Size.j2 k x0 x1 true) else (spec_l1Size.j2 k x0 x1 (decide ((bt x0 (wrap64 (x1 + 1))) > 57)))) else (none)) else (none))) else (if x5 = 101 then ((spec_l1Size.f k x0 (wrap64 (x1 + 1))).bind fun t174 => (if t174 = 0 then (some 0) else ((spec_l1Size.f k x0 (wrap64 ((wrap64 (x1 + 1)) + t174))).bind fun t175 => ((spec_l1More.f (wrap64 (1 + t174)) t175).bind fun t176 => (some t176))))) else ((spec_l1Fresh.f k x0 x1).bind fun t177 => (some t177)))))
def spec_l1Size.j1 : Nat → ByteArray → Int → Bool → Option (Int)
  | 0, _, _, _ => none
  | k + 1, x0, x1, x47 => if x47 = true then (some 0) else ((spec_l1Size.f k x0 (wrap64 (x1 + 2))).bind fun t170 => ((spec_l1More.f 2 t170).bind fun t171 => (some t171)))
def spec_l1Size.j2 : Nat → ByteArray → Int → Bool → Option (Int)
  | 0, _, _, _ => none
  | k + 1, x0, x1, x74 => if x74 = true then (some 0) else ((spec_l1Size.f k x0 (wrap64 (x1 + 2))).bind fun t172 => ((spec_l1More.f 2 t172).bind fun t173 => (some t173)))
def spec_l1Size.f : Nat → ByteArray → Int → Option (Int)
  | 0, _, _ => none
  | k + 1, a0, a1 => if a1 ≥ (a0.size : Int) then (some 0) else (if 0 ≤ a1 then (if a1 < (a0.size : Int) then (if (bt a0 a1) = 110 then (spec_l1Size.j0 k a0 a1 (bt a0 a1) true) else (spec_l1Size.j0 k a0 a1 (bt a0 a1) ((bt a0 a1) == 107))) else (none)) else (none))
end
theorem spec_l1Size.mono_l : ∀ k, (∀ y0 y1, LeO (spec_l1Size.f k y0 y1) (spec_l1Size.f (k + 1) y0 y1)) ∧ (∀ y0 y1 y2 y3, LeO (spec_l1Size.j0 k y0 y1 y2 y3) (spec_l1Size.j0 (k + 1) y0 y1 y2 y3)) ∧ (∀ y0 y1 y2, LeO (spec_l1Size.j1 k y0 y1 y2) (spec_l1Size.j1 (k + 1) y0 y1 y2)) ∧ (∀ y0 y1 y2, LeO (spec_l1Size.j2 k y0 y1 y2) (spec_l1Size.j2 (k + 1) y0 y1 y2))
  | 0 => ⟨fun _ _ r h => by simp [spec_l1Size.f] at h, fun _ _ _ _ r h => by simp [spec_l1Size.j0] at h, fun _ _ _ r h => by simp [spec_l1Size.j1] at h, fun _ _ _ r h => by simp [spec_l1Size.j2] at h⟩
  | k + 1 => by
    obtain ⟨ih0, ih1, ih2, ih3⟩ := spec_l1Size.mono_l k; refine ⟨?_, ?_, ?_, ?_⟩
    · intro y0 y1
      unfold spec_l1Size.f
      repeat' first
      | (with_reducible exact ih0 _ _)
      | (with_reducible exact ih1 _ _ _ _)
      | (with_reducible exact ih2 _ _ _)
      | (with_reducible exact ih3 _ _ _)
      | (with_reducible exact spec_l1Fresh.mono _ _ _)
      | (with_reducible first | exact LeO.refl _ | exact LeO.none _ | refine LeO.ite ?_ ?_ | refine LeO.bind ?_ (fun _ => ?_)) | exact LeO.none _ | refine LeO.ite ?_ ?_ | refine LeO.bind ?_ (fun _ => ?_)
    · intro y0 y1 y2 y3
      unfold spec_l1Size.j0
      repeat' first
      | (with_reducible exact ih0 _ _)
      | (with_reducible exact ih1 _ _ _ _)
      | (with_reducible exact ih2 _ _ _)
      | (with_reducible exact ih3 _ _ _)
      | (with_reducible exact spec_l1Fresh.mono _ _ _)
      | (with_reducible first | exact LeO.refl _ | exact LeO.none _ | refine LeO.ite ?_ ?_ | refine LeO.bind ?_ (fun _ => ?_)) | exact LeO.none _ | refine LeO.ite ?_ ?_ | refine LeO.bind ?_ (fun _ => ?_)
    · intro y0 y1 y2
      unfold spec_l1Size.j1
      repeat' first
      | (with_reducible exact ih0 _ _)
      | (with_reducible exact ih1 _ _ _ _)
      | (with_reducible exact ih2 _ _ _)
      | (with_reducible exact ih3 _ _ _)
      | (with_reducible exact spec_l1Fresh.mono _ _ _)
      | (with_reducible first | exact LeO.refl _ | exact LeO.none _ | refine LeO.ite ?_ ?_ | refine LeO.bind ?_ (fun _ => ?_)) | exact LeO.none _ | refine LeO.ite ?_ ?_ | refine LeO.bind ?_ (fun _ => ?_)
    intro y0 y1 y2; unfold spec_l1Size.j2
    repeat' first
    | (with_reducible exact ih0 _ _)
    | (with_reducible exact ih1 _ _ _ _)
    | (with_reducible exact ih2 _ _ _)
    | (with_reducible exact ih3 _ _ _)
    | (with_reducible exact spec_l1Fresh.mono _ _ _)
    | (with_reducible first | exact LeO.refl _ | exact LeO.none _ | refine LeO.ite ?_ ?_ | refine LeO.bind ?_ (fun _ => ?_)) | exact LeO.none _ | refine LeO.ite ?_ ?_ | refine LeO.bind ?_ (fun _ => ?_)
theorem spec_l1Size.mono : ∀ a0 a1 k, LeO (spec_l1Size.f k a0 a1) (spec_l1Size.f (k + 1) a0 a1) := by
  intro a0 a1 k; obtain ⟨ih0, ih1, ih2, ih3⟩ := spec_l1Size.mono_l k; exact ih0 a0 a1
set_option maxHeartbeats 8000000 in
set_option maxRecDepth 100000 in
theorem spec_l1Size.calls (k : Nat) : ∀ (a0 : ByteArray) (a1 : Int) (r : Int) (w : World) (h : spec_l1Size.f k a0 a1 = some r),
    Calls Tryz.prog 77 #[.string a0, .int .i64 a1] w fun e w' => e = .returned (.int .i64 r) ∧ Below w.heap.size w w' := by
  induction k using Nat.strongRecOn with
  | _ k ih =>
  intro a0 a1 r w h
  cases k with
  | zero => exact absurd h (by simp [spec_l1Size.f])
  | succ k =>
  simp only [spec_l1Size.f] at h; have HB := am_ (Below.refl w.heap.size w); have H : (if a1 ≥ (a0.size : Int) then (some 0) else (if 0 ≤ a1 then (if a1 < (a0.size : Int) then (if (bt a0 a1) = 110 then (spec_l1Size.j0 k a0 a1 (bt a0 a1) true) else (spec_l1Size.j0 k a0 a1 (bt a0 a1) ((bt a0 a1) == 107))) else (none)) else (none))) = some r := h; clear h; by_cases c3 : a1 ≥ (a0.size : Int)
  · rw [if_pos c3] at H; have c3b0 : decide ((a0.size : Int) ≤ a1) = true := decide_eq_true c3; clear c3; obtain rfl := oi_ H; go_enter Tryz.func77, Tryz.ntmps77; go_wp2; go_ret; exact ⟨y6_, y7_ HB.out⟩
  rw [if_neg c3] at H; have c3b0 : decide ((a0.size : Int) ≤ a1) = false := decide_eq_false c3; clear c3; by_cases c4 : 0 ≤ a1
  · rw [if_pos c4] at H
    have c4b0 : decide (0 ≤ a1) = true := decide_eq_true c4; clear c4; by_cases c5 : a1 < (a0.size : Int)
    · rw [if_pos c5] at H
      have c5b0 : decide (a1 < (a0.size : Int)) = true := decide_eq_true c5; clear c5; have HC7 := am_ H; clear H; have p6 : 0 ≤ (a1 : Int) := of_decide_eq_true y3_; have q6 : a1 < (a0.size : Int) := of_decide_eq_true y3_; have hx6 := bt_at a0 a1; replace p6 := eq_true p6; replace q6 := eq_true q6; go_enter Tryz.func77, Tryz.ntmps77
      go_upto_region 4 with (fail)
      go_cut [14] (fun v14 wc => ∃ (kq : Nat) (x14_6 : Bool), v14 = .bool x14_6 ∧ Aside0 (spec_l1Size.j0 kq a0 a1 (bt a0 a1) x14_6 = some r) ∧ Aside0 (kq ≤ k) ∧ Aside0 (Below w.heap.size w wc))
      case first =>
        have H := HC7.out; clear HC7; by_cases c8 : (bt a0 a1) = 110
        · rw [if_pos c8] at H
          have c8b0 : ((bt a0 a1) == 110) = true := beq_iff_eq.mpr c8; have c8b1 : ((bt a0 a1) != 110) = false := bne_eq_false_iff_eq.mpr c8; clear c8; (first | rw [c8b0] | (simp only [i64_w, i32_w]; rw [c8b0]) | skip); have H' := am_ H; clear H; go_wp2; go_meet
          case rel => exact ⟨_, (true), y4_, H', ⟨by first | omega | exact Nat.le_refl _⟩, ⟨y7_ HB.out⟩⟩
        rw [if_neg c8] at H; have c8b0 : ((bt a0 a1) == 110) = false := beq_eq_false_iff_ne.mpr c8; have c8b1 : ((bt a0 a1) != 110) = true := bne_iff_ne.mpr c8; (first | rw [c8b0] | (simp only [i64_w, i32_w]; rw [c8b0]) | skip); have H' := am_ H; clear H; go_wp2; go_meet
        case rel => exact ⟨_, (((bt a0 a1) == 107)), y4_, H', ⟨by first | omega | exact Nat.le_refl _⟩, ⟨y7_ HB.out⟩⟩
      case rest =>
        clear HC7; (try clear p2); (try clear c3); (try clear c3b0); (try clear c4); (try clear c4b0); (try clear c5); (try clear c5b0); (try clear p6); (try clear q6); (try clear hx6); (try clear c7); (try clear c8); (try clear c8b0); (try clear c8b1); (try clear p6); (try clear q6); obtain ⟨kq, x14_6, rfl, HA, HJ6, HB⟩ := hcut
        cases kq with
        | zero => exact absurd HA.out (by simp [spec_l1Size.j0])
        | succ kj6 =>
          have H := HA.out; clear HA; simp only [spec_l1Size.j0] at H; by_cases c9 : x14_6 = true
          · subst c9
            have H1 : ((spec_l1Size.f kj6 a0 (wrap64 (a1 + 1))).bind fun t168 => ((spec_l1More.f 1 t168).bind fun t169 => (some t169))) = some r := by rw [if_pos rfl] at H; exact H
            clear H; have H := H1; clear H1; replace H := ob_ H; obtain ⟨t168, A100, H⟩ := H; replace H : ((spec_l1More.f 1 t168).bind fun t169 => (some t169)) = some r := H; have A10 := am_ A100; clear A100; replace H := ob_ H; obtain ⟨t169, A110, H⟩ := H; replace H : (some t169) = some r := H; have A11 := am_ A110; clear A110; obtain rfl := oi_ H; go_wp2_with (first | ((with_reducible refine gate_callee (f := 77) rfl ?_); refine goesL_ (some 24) rfl rfl Tryz.func77 (by kernel_rfl) rfl #[.string a0, .int .i64 (wrap64 (a1 + 1))] rfl y1_ ?_; (with_reducible refine (ih kj6 (by have := HJ6.out; omega) a0 (wrap64 (a1 + 1)) t168 _ A10.out).mono ?_); rintro e w12 ⟨rfl, hb⟩; refine ⟨_, rfl, ?_⟩; replace HB := st_ (y7_ HB.out) hb; clear hb) | ((with_reducible refine gate_callee (f := 107) rfl ?_); refine goesL_ (some 25) rfl rfl Tryz.func107 (by kernel_rfl) rfl #[.int .i64 1, .int .i64 t168] rfl y1_ ?_; (with_reducible refine (spec_l1More.calls 1 t168 t169 _ A11.out).mono ?_); rintro e w' ⟨rfl, ⟨nd, rfl⟩⟩; refine ⟨_, rfl, ?_⟩)); go_ret; exact ⟨y6_, y7_ HB.out⟩
          replace c9 := Bool.eq_false_iff.mpr c9; subst c9
          have H1 : (if (bt a0 a1) = 109 then (if (wrap64 (a1 + 1)) ≥ (a0.size : Int) then (spec_l1Size.j1 kj6 a0 a1 true) else (if 0 ≤ (wrap64 (a1 + 1)) then (if (wrap64 (a1 + 1)) < (a0.size : Int) then (if (bt a0 (wrap64 (a1 + 1))) < 65 then (spec_l1Size.j1 kj6 a0 a1 true) else (spec_l1Size.j1 kj6 a0 a1 (decide ((bt a0 (wrap64 (a1 + 1))) > 72)))) else (none)) else (none))) else (if (bt a0 a1) = 114 then (if (wrap64 (a1 + 1)) ≥ (a0.size : Int) then (spec_l1Size.j2 kj6 a0 a1 true) else (if 0 ≤ (wrap64 (a1 + 1)) then (if (wrap64 (a1 + 1)) < (a0.size : Int) then (if (bt a0 (wrap64 (a1 + 1))) < 49 then (spec_l1Size.j2 kj6 a0 a1 true) else (spec_l1Size.j2 kj6 a0 a1 (decide ((bt a0 (wrap64 (a1 + 1))) > 57)))) else (none)) else (none))) else (if (bt a0 a1) = 101 then ((spec_l1Size.f kj6 a0 (wrap64 (a1 + 1))).bind fun t174 => (if t174 = 0 then (some 0) else ((spec_l1Size.f kj6 a0 (wrap64 ((wrap64 (a1 + 1)) + t174))).bind fun t175 => ((spec_l1More.f (wrap64 (1 + t174)) t175).bind fun t176 => (some t176))))) else ((spec_l1Fresh.f kj6 a0 a1).bind fun t177 => (some t177))))) = some r := by rw [if_neg (show ¬ (false = true) by decide)] at H; exact H
          clear H; have H := H1; clear H1; by_cases c13 : (bt a0 a1) = 109
          · rw [if_pos c13] at H
            have c13b0 : ((bt a0 a1) == 109) = true := beq_iff_eq.mpr c13; have c13b1 : ((bt a0 a1) != 109) = false := bne_eq_false_iff_eq.mpr c13; clear c13; have HC14 := am_ H; clear H
            go_upto_region 7 with (fail)
            go_cut [47] (fun v47 wc => ∃ (kq : Nat) (x47_13 : Bool), v47 = .bool x47_13 ∧ Aside0 (spec_l1Size.j1 kq a0 a1 x47_13 = some r) ∧ Aside0 (kq ≤ kj6) ∧ Aside0 (Below w.heap.size w wc))
            case first =>
              have H := HC14.out; clear HC14; by_cases c15 : (wrap64 (a1 + 1)) ≥ (a0.size : Int)
              · rw [if_pos c15] at H
                have c15b0 : decide ((a0.size : Int) ≤ (wrap64 (a1 + 1))) = true := decide_eq_true c15; clear c15; (first | rw [c15b0] | (simp only [i64_w, i32_w]; rw [c15b0]) | skip); have H' := am_ H; clear H; go_wp2; go_meet
                case rel => exact ⟨_, (true), y4_, H', ⟨by have := HJ6.out; first | omega | exact Nat.le_refl _⟩, ⟨y7_ HB.out⟩⟩
              rw [if_neg c15] at H; have c15b0 : decide ((a0.size : Int) ≤ (wrap64 (a1 + 1))) = false := decide_eq_false c15; clear c15; (first | rw [c15b0] | (simp only [i64_w, i32_w]; rw [c15b0]) | skip)
              obtain ⟨ji16, hji16⟩ : ∃ j_ : Int, (wrap64 (a1 + 1)) = j_ := ⟨_, rfl⟩
              replace H : (if 0 ≤ (ji16) then (if (ji16) < (a0.size : Int) then (if (bt a0 (ji16)) < 65 then (spec_l1Size.j1 kj6 a0 a1 true) else (spec_l1Size.j1 kj6 a0 a1 (decide ((bt a0 (ji16)) > 72)))) else (none)) else (none)) = some r := by first | (rw [hji16] at H; exact H) | (simp only [hji16] at H ⊢; exact H)
              (try rw [hji16] at c15b0); have hji16w : (IntKind.i64.wrap (a1 + 1)) = ji16 := (i64_w _).trans hji16; by_cases c17 : 0 ≤ (ji16)
              · rw [if_pos c17] at H
                have c17b0 : decide (0 ≤ (ji16)) = true := decide_eq_true c17; clear c17; by_cases c18 : (ji16) < (a0.size : Int)
                · rw [if_pos c18] at H
                  have c18b0 : decide ((ji16) < (a0.size : Int)) = true := decide_eq_true c18; clear c18; by_cases c20 : (bt a0 (ji16)) < 65
                  · rw [if_pos c20] at H
                    have c20b0 : decide ((bt a0 (ji16)) < 65) = true := decide_eq_true c20; clear c20; have H' := am_ H; clear H; have p19 : 0 ≤ ((ji16) : Int) := of_decide_eq_true y3_; have q19 : (ji16) < (a0.size : Int) := of_decide_eq_true y3_; have hx19 := bt_at a0 (ji16); replace p19 := eq_true p19; replace q19 := eq_true q19; go_wp2; go_meet
                    case rel => exact ⟨_, (true), y4_, H', ⟨by have := HJ6.out; first | omega | exact Nat.le_refl _⟩, ⟨y7_ HB.out⟩⟩
                  rw [if_neg c20] at H; have c20b0 : decide ((bt a0 (ji16)) < 65) = false := decide_eq_false c20; clear c20; have H' := am_ H; clear H; have p19 : 0 ≤ ((ji16) : Int) := of_decide_eq_true y3_; have q19 : (ji16) < (a0.size : Int) := of_decide_eq_true y3_; have hx19 := bt_at a0 (ji16); replace p19 := eq_true p19; replace q19 := eq_true q19; have p21 : 0 ≤ ((ji16) : Int) := of_decide_eq_true y3_; have q21 : (ji16) < (a0.size : Int) := of_decide_eq_true y3_; have hx21 := bt_at a0 (ji16); replace p21 := eq_true p21; replace q21 := eq_true q21; go_wp2; go_meet
                  case rel => exact ⟨_, (decide ((bt a0 (ji16)) > 72)), (by first | rfl | (simp; done) | (simp only [← hji16] <;> (first | rfl | simp)) | (simp [*]; done)), H', ⟨by have := HJ6.out; first | omega | exact Nat.le_refl _⟩, ⟨y7_ HB.out⟩⟩
                rw [if_neg c18] at H; exact absurd H (by simp)
              rw [if_neg c17] at H; exact absurd H (by simp)
            case rest =>
              clear HC14; (try clear c1); (try clear p1); (try clear q1); (try clear hx1); (try clear c2); (try clear p2); (try clear q2); (try clear hx2); (try clear c3); (try clear c3b0); (try clear c4); (try clear c4b0); (try clear c5); (try clear c5b0); (try clear p6); (try clear q6); (try clear hx6); (try clear c7); (try clear c8); (try clear c8b0); (try clear c8b1); (try clear c9); (try clear c10); (try clear c13); (try clear c13b0); (try clear c13b1); (try clear c15); (try clear c15b0); (try clear c17); (try clear c17b0); (try clear c18); (try clear c18b0); (try clear p19); (try clear q19); (try clear hx19); (try clear c20); (try clear c20b0); (try clear p21); (try clear q21); (try clear hx21); (try clear p19); (try clear p2); (try clear p21); (try clear p6); (try clear q19); (try clear q21); (try clear q6); obtain ⟨kq, x47_13, rfl, HA, HJ13, HB⟩ := hcut
              cases kq with
              | zero => exact absurd HA.out (by simp [spec_l1Size.j1])
              | succ kj13 =>
                have H := HA.out; clear HA; simp only [spec_l1Size.j1] at H; by_cases c22 : x47_13 = true
                · subst c22
                  have H1 : (some 0) = some r := by rw [if_pos rfl] at H; exact H
                  clear H; have H := H1; clear H1; obtain rfl := oi_ H; go_wp2; go_ret; exact ⟨y6_, y7_ HB.out⟩
                replace c22 := Bool.eq_false_iff.mpr c22; subst c22
                have H1 : ((spec_l1Size.f kj13 a0 (wrap64 (a1 + 2))).bind fun t170 => ((spec_l1More.f 2 t170).bind fun t171 => (some t171))) = some r := by rw [if_neg (show ¬ (false = true) by decide)] at H; exact H
                clear H; have H := H1; clear H1; replace H := ob_ H; obtain ⟨t170, A230, H⟩ := H; replace H : ((spec_l1More.f 2 t170).bind fun t171 => (some t171)) = some r := H; have A23 := am_ A230; clear A230; replace H := ob_ H; obtain ⟨t171, A240, H⟩ := H; replace H : (some t171) = some r := H; have A24 := am_ A240; clear A240; obtain rfl := oi_ H; go_wp2_with (first | ((with_reducible refine gate_callee (f := 77) rfl ?_); refine goesL_ (some 51) rfl rfl Tryz.func77 (by kernel_rfl) rfl #[.string a0, .int .i64 (wrap64 (a1 + 2))] rfl y1_ ?_; (with_reducible refine (ih kj13 (by have := HJ6.out; have := HJ13.out; omega) a0 (wrap64 (a1 + 2)) t170 _ A23.out).mono ?_); rintro e w25 ⟨rfl, hb⟩; refine ⟨_, rfl, ?_⟩; replace HB := st_ (y7_ HB.out) hb; clear hb) | ((with_reducible refine gate_callee (f := 107) rfl ?_); refine goesL_ (some 52) rfl rfl Tryz.func107 (by kernel_rfl) rfl #[.int .i64 2, .int .i64 t170] rfl y1_ ?_; (with_reducible refine (spec_l1More.calls 2 t170 t171 _ A24.out).mono ?_); rintro e w' ⟨rfl, ⟨nd, rfl⟩⟩; refine ⟨_, rfl, ?_⟩)); go_ret; exact ⟨y6_, y7_ HB.out⟩
          rw [if_neg c13] at H; have c13b0 : ((bt a0 a1) == 109) = false := beq_eq_false_iff_ne.mpr c13; have c13b1 : ((bt a0 a1) != 109) = true := bne_iff_ne.mpr c13; by_cases c26 : (bt a0 a1) = 114
          · rw [if_pos c26] at H
            have c26b0 : ((bt a0 a1) == 114) = true := beq_iff_eq.mpr c26; have c26b1 : ((bt a0 a1) != 114) = false := bne_eq_false_iff_eq.mpr c26; clear c26; have HC27 := am_ H; clear H
            go_upto_region 11 with (fail)
            go_cut [74] (fun v74 wc => ∃ (kq : Nat) (x74_26 : Bool), v74 = .bool x74_26 ∧ Aside0 (spec_l1Size.j2 kq a0 a1 x74_26 = some r) ∧ Aside0 (kq ≤ kj6) ∧ Aside0 (Below w.heap.size w wc))
            case first =>
              have H := HC27.out; clear HC27; by_cases c28 : (wrap64 (a1 + 1)) ≥ (a0.size : Int)
              · rw [if_pos c28] at H
                have c28b0 : decide ((a0.size : Int) ≤ (wrap64 (a1 + 1))) = true := decide_eq_true c28; clear c28; (first | rw [c28b0] | (simp only [i64_w, i32_w]; rw [c28b0]) | skip); have H' := am_ H; clear H; go_wp2; go_meet
                case rel => exact ⟨_, (true), y4_, H', ⟨by have := HJ6.out; first | omega | exact Nat.le_refl _⟩, ⟨y7_ HB.out⟩⟩
              rw [if_neg c28] at H; have c28b0 : decide ((a0.size : Int) ≤ (wrap64 (a1 + 1))) = false := decide_eq_false c28; clear c28; (first | rw [c28b0] | (simp only [i64_w, i32_w]; rw [c28b0]) | skip)
              obtain ⟨ji29, hji29⟩ : ∃ j_ : Int, (wrap64 (a1 + 1)) = j_ := ⟨_, rfl⟩
              replace H : (if 0 ≤ (ji29) then (if (ji29) < (a0.size : Int) then (if (bt a0 (ji29)) < 49 then (spec_l1Size.j2 kj6 a0 a1 true) else (spec_l1Size.j2 kj6 a0 a1 (decide ((bt a0 (ji29)) > 57)))) else (none)) else (none)) = some r := by first | (rw [hji29] at H; exact H) | (simp only [hji29] at H ⊢; exact H)
              (try rw [hji29] at c28b0); have hji29w : (IntKind.i64.wrap (a1 + 1)) = ji29 := (i64_w _).trans hji29; by_cases c30 : 0 ≤ (ji29)
              · rw [if_pos c30] at H
                have c30b0 : decide (0 ≤ (ji29)) = true := decide_eq_true c30; clear c30; by_cases c31 : (ji29) < (a0.size : Int)
                · rw [if_pos c31] at H
                  have c31b0 : decide ((ji29) < (a0.size : Int)) = true := decide_eq_true c31; clear c31; by_cases c33 : (bt a0 (ji29)) < 49
                  · rw [if_pos c33] at H
                    have c33b0 : decide ((bt a0 (ji29)) < 49) = true := decide_eq_true c33; clear c33; have H' := am_ H; clear H; have p32 : 0 ≤ ((ji29) : Int) := of_decide_eq_true y3_; have q32 : (ji29) < (a0.size : Int) := of_decide_eq_true y3_; have hx32 := bt_at a0 (ji29); replace p32 := eq_true p32; replace q32 := eq_true q32; go_wp2; go_meet
                    case rel => exact ⟨_, (true), y4_, H', ⟨by have := HJ6.out; first | omega | exact Nat.le_refl _⟩, ⟨y7_ HB.out⟩⟩
                  rw [if_neg c33] at H; have c33b0 : decide ((bt a0 (ji29)) < 49) = false := decide_eq_false c33; clear c33; have H' := am_ H; clear H; have p32 : 0 ≤ ((ji29) : Int) := of_decide_eq_true y3_; have q32 : (ji29) < (a0.size : Int) := of_decide_eq_true y3_; have hx32 := bt_at a0 (ji29); replace p32 := eq_true p32; replace q32 := eq_true q32; have p34 : 0 ≤ ((ji29) : Int) := of_decide_eq_true y3_; have q34 : (ji29) < (a0.size : Int) := of_decide_eq_true y3_; have hx34 := bt_at a0 (ji29); replace p34 := eq_true p34; replace q34 := eq_true q34; go_wp2; go_meet
                  case rel => exact ⟨_, (decide ((bt a0 (ji29)) > 57)), (by first | rfl | (simp; done) | (simp only [← hji29] <;> (first | rfl | simp)) | (simp [*]; done)), H', ⟨by have := HJ6.out; first | omega | exact Nat.le_refl _⟩, ⟨y7_ HB.out⟩⟩
                rw [if_neg c31] at H; exact absurd H (by simp)
              rw [if_neg c30] at H; exact absurd H (by simp)
            case rest =>
              clear HC27; (try clear c1); (try clear p1); (try clear q1); (try clear hx1); (try clear c2); (try clear p2); (try clear q2); (try clear hx2); (try clear c3); (try clear c3b0); (try clear p3); (try clear q3); (try clear hx3); (try clear c4); (try clear c4b0); (try clear c5); (try clear c5b0); (try clear p6); (try clear q6); (try clear hx6); (try clear c7); (try clear c8); (try clear c8b0); (try clear c8b1); (try clear c9); (try clear c10); (try clear c13); (try clear c13b0); (try clear c13b1); (try clear c15); (try clear c15b0); (try clear c17); (try clear c17b0); (try clear c18); (try clear c18b0); (try clear p19); (try clear q19); (try clear hx19); (try clear c20); (try clear c20b0); (try clear p21); (try clear q21); (try clear hx21); (try clear c22); (try clear c26); (try clear c26b0); (try clear c26b1); (try clear c28); (try clear c28b0); (try clear c30); (try clear c30b0); (try clear c31); (try clear c31b0); (try clear p32); (try clear q32); (try clear hx32); (try clear c33); (try clear c33b0); (try clear p34); (try clear q34); (try clear hx34); (try clear p1); (try clear p19); (try clear p2); (try clear p21); (try clear p32); (try clear p34); (try clear p6); (try clear q1); (try clear q19); (try clear q2); (try clear q21); (try clear q32); (try clear q34); (try clear q6); obtain ⟨kq, x74_26, rfl, HA, HJ26, HB⟩ := hcut
              cases kq with
              | zero => exact absurd HA.out (by simp [spec_l1Size.j2])
              | succ kj26 =>
                have H := HA.out; clear HA; simp only [spec_l1Size.j2] at H; by_cases c35 : x74_26 = true
                · subst c35
                  have H1 : (some 0) = some r := by rw [if_pos rfl] at H; exact H
                  clear H; have H := H1; clear H1; obtain rfl := oi_ H; go_wp2; go_ret; exact ⟨y6_, y7_ HB.out⟩
                replace c35 := Bool.eq_false_iff.mpr c35; subst c35
                have H1 : ((spec_l1Size.f kj26 a0 (wrap64 (a1 + 2))).bind fun t172 => ((spec_l1More.f 2 t172).bind fun t173 => (some t173))) = some r := by rw [if_neg (show ¬ (false = true) by decide)] at H; exact H
                clear H; have H := H1; clear H1; replace H := ob_ H; obtain ⟨t172, A360, H⟩ := H; replace H : ((spec_l1More.f 2 t172).bind fun t173 => (some t173)) = some r := H; have A36 := am_ A360; clear A360; replace H := ob_ H; obtain ⟨t173, A370, H⟩ := H; replace H : (some t173) = some r := H; have A37 := am_ A370; clear A370; obtain rfl := oi_ H; go_wp2_with (first | ((with_reducible refine gate_callee (f := 77) rfl ?_); refine goesL_ (some 78) rfl rfl Tryz.func77 (by kernel_rfl) rfl #[.string a0, .int .i64 (wrap64 (a1 + 2))] rfl y1_ ?_; (with_reducible refine (ih kj26 (by have := HJ6.out; have := HJ26.out; omega) a0 (wrap64 (a1 + 2)) t172 _ A36.out).mono ?_); rintro e w38 ⟨rfl, hb⟩; refine ⟨_, rfl, ?_⟩; replace HB := st_ (y7_ HB.out) hb; clear hb) | ((with_reducible refine gate_callee (f := 107) rfl ?_); refine goesL_ (some 79) rfl rfl Tryz.func107 (by kernel_rfl) rfl #[.int .i64 2, .int .i64 t172] rfl y1_ ?_; (with_reducible refine (spec_l1More.calls 2 t172 t173 _ A37.out).mono ?_); rintro e w' ⟨rfl, ⟨nd, rfl⟩⟩; refine ⟨_, rfl, ?_⟩)); go_ret; exact ⟨y6_, y7_ HB.out⟩
          rw [if_neg c26] at H; have c26b0 : ((bt a0 a1) == 114) = false := beq_eq_false_iff_ne.mpr c26; have c26b1 : ((bt a0 a1) != 114) = true := bne_iff_ne.mpr c26; by_cases c39 : (bt a0 a1) = 101
          · rw [if_pos c39] at H
            have c39b0 : ((bt a0 a1) == 101) = true := beq_iff_eq.mpr c39; have c39b1 : ((bt a0 a1) != 101) = false := bne_eq_false_iff_eq.mpr c39; clear c39; replace H := ob_ H; obtain ⟨t174, A400, H⟩ := H; replace H : (if t174 = 0 then (some 0) else ((spec_l1Size.f kj6 a0 (wrap64 ((wrap64 (a1 + 1)) + t174))).bind fun t175 => ((spec_l1More.f (wrap64 (1 + t174)) t175).bind fun t176 => (some t176)))) = some r := H; have A40 := am_ A400; clear A400; by_cases c41 : t174 = 0
            · rw [if_pos c41] at H; have c41b0 : (t174 == 0) = true := beq_iff_eq.mpr c41; have c41b1 : (t174 != 0) = false := bne_eq_false_iff_eq.mpr c41; clear c41; obtain rfl := oi_ H; go_wp2_with (first | ((with_reducible refine gate_callee (f := 77) rfl ?_); refine goesL_ (some 86) rfl rfl Tryz.func77 (by kernel_rfl) rfl #[.string a0, .int .i64 (wrap64 (a1 + 1))] rfl y1_ ?_; (with_reducible refine (ih kj6 (by have := HJ6.out; omega) a0 (wrap64 (a1 + 1)) t174 _ A40.out).mono ?_); rintro e w42 ⟨rfl, hb⟩; refine ⟨_, rfl, ?_⟩; replace HB := st_ (y7_ HB.out) hb; clear hb)); go_ret; exact ⟨y6_, y7_ HB.out⟩
            rw [if_neg c41] at H; have c41b0 : (t174 == 0) = false := beq_eq_false_iff_ne.mpr c41; have c41b1 : (t174 != 0) = true := bne_iff_ne.mpr c41; replace H := ob_ H; obtain ⟨t175, A430, H⟩ := H; replace H : ((spec_l1More.f (wrap64 (1 + t174)) t175).bind fun t176 => (some t176)) = some r := H; have A43 := am_ A430; clear A430; replace H := ob_ H; obtain ⟨t176, A440, H⟩ := H; replace H : (some t176) = some r := H; have A44 := am_ A440; clear A440; obtain rfl := oi_ H; go_wp2_with (first | ((with_reducible refine gate_callee (f := 77) rfl ?_); refine goesL_ (some 86) rfl rfl Tryz.func77 (by kernel_rfl) rfl #[.string a0, .int .i64 (wrap64 (a1 + 1))] rfl y1_ ?_; (with_reducible refine (ih kj6 (by have := HJ6.out; omega) a0 (wrap64 (a1 + 1)) t174 _ A40.out).mono ?_); rintro e w45 ⟨rfl, hb⟩; refine ⟨_, rfl, ?_⟩; replace HB := st_ (y7_ HB.out) hb; clear hb) | ((with_reducible refine gate_callee (f := 77) rfl ?_); refine goesL_ (some 96) rfl rfl Tryz.func77 (by kernel_rfl) rfl #[.string a0, .int .i64 (wrap64 ((wrap64 (a1 + 1)) + t174))] rfl y1_ ?_; (with_reducible refine (ih kj6 (by have := HJ6.out; omega) a0 (wrap64 ((wrap64 (a1 + 1)) + t174)) t175 _ A43.out).mono ?_); rintro e w46 ⟨rfl, hb⟩; refine ⟨_, rfl, ?_⟩; replace HB := st_ (y7_ HB.out) hb; clear hb) | ((with_reducible refine gate_callee (f := 107) rfl ?_); refine goesL_ (some 97) rfl rfl Tryz.func107 (by kernel_rfl) rfl #[.int .i64 (wrap64 (1 + t174)), .int .i64 t175] rfl y1_ ?_; (with_reducible refine (spec_l1More.calls (wrap64 (1 + t174)) t175 t176 _ A44.out).mono ?_); rintro e w' ⟨rfl, ⟨nd, rfl⟩⟩; refine ⟨_, rfl, ?_⟩)); go_ret; exact ⟨y6_, y7_ HB.out⟩
          rw [if_neg c39] at H; have c39b0 : ((bt a0 a1) == 101) = false := beq_eq_false_iff_ne.mpr c39; have c39b1 : ((bt a0 a1) != 101) = true := bne_iff_ne.mpr c39; replace H := ob_ H; obtain ⟨t177, A470, H⟩ := H; replace H : (some t177) = some r := H; have A47 := am_ A470; clear A470; obtain rfl := oi_ H; go_wp2_with (first | ((with_reducible refine gate_callee (f := 108) rfl ?_); refine goesL_ (some 100) rfl rfl Tryz.func108 (by kernel_rfl) rfl #[.string a0, .int .i64 a1] rfl y1_ ?_; (with_reducible refine (spec_l1Fresh.calls kj6 a0 a1 t177 _ A47.out).mono ?_); rintro e w48 ⟨rfl, hb⟩; refine ⟨_, rfl, ?_⟩; replace HB := st_ (y7_ HB.out) hb; clear hb)); go_ret; exact ⟨y6_, y7_ HB.out⟩
    rw [if_neg c5] at H; exact absurd H (by simp)
  rw [if_neg c4] at H; exact absurd H (by simp)

/-! ### spec_SecOk: function 30 -/
def spec_SecOk.f (k : Nat) (a0 : ByteArray) : Option (Bool) := if a0.toList = ([] : List UInt8) then (some false) else (if (a0.size : Int) ≤ 300 then ((spec_l1Size.f k a0 0).bind fun t178 => (some (t178 == (a0.size : Int)))) else (some false))
set_option maxHeartbeats 8000000 in
set_option maxRecDepth 100000 in
theorem spec_SecOk.calls (k : Nat) (a0 : ByteArray) (r : Bool) (w : World) (h : spec_SecOk.f k a0 = some r) :
    Calls Tryz.prog 30 #[.string a0] w fun e w' => e = .returned (.bool r) ∧ Below w.heap.size w w' := by
  have HB := am_ (Below.refl w.heap.size w); have H : (if a0.toList = ([] : List UInt8) then (some false) else (if (a0.size : Int) ≤ 300 then ((spec_l1Size.f k a0 0).bind fun t178 => (some (t178 == (a0.size : Int)))) else (some false))) = some r := h; clear h; by_cases c2 : a0.toList = ([] : List UInt8)
  · rw [if_pos c2] at H; have c2b0 : (a0.toList == ([] : List UInt8)) = true := beq_iff_eq.mpr c2; have c2b1 : (a0.toList != ([] : List UInt8)) = false := bne_eq_false_iff_eq.mpr c2; clear c2; obtain rfl := oi_ H; go_enter Tryz.func30, Tryz.ntmps30; go_wp2; go_ret; exact ⟨y6_, y7_ HB.out⟩
  rw [if_neg c2] at H; have c2b0 : (a0.toList == ([] : List UInt8)) = false := beq_eq_false_iff_ne.mpr c2; have c2b1 : (a0.toList != ([] : List UInt8)) = true := bne_iff_ne.mpr c2; by_cases c3 : (a0.size : Int) ≤ 300
  · rw [if_pos c3] at H; have c3b0 : decide ((a0.size : Int) ≤ 300) = true := decide_eq_true c3; have c3b1 : decide (a0.size ≤ 300) = true := decide_eq_true (by omega); clear c3; replace H := ob_ H; obtain ⟨t178, A40, H⟩ := H; replace H : (some (t178 == (a0.size : Int))) = some r := H; have A4 := am_ A40; clear A40; obtain rfl := oi_ H; go_enter Tryz.func30, Tryz.ntmps30; go_wp2_with (first | (go_at_call 77; (with_reducible refine (spec_l1Size.calls k a0 0 t178 _ A4.out).mono ?_); rintro e w5 ⟨rfl, hb⟩; replace HB := st_ (y7_ HB.out) hb; clear hb)); go_ret; exact ⟨y6_, y7_ HB.out⟩
  rw [if_neg c3] at H; have c3b0 : decide ((a0.size : Int) ≤ 300) = false := decide_eq_false c3; have c3b1 : decide (a0.size ≤ 300) = false := decide_eq_false (by omega); clear c3; obtain rfl := oi_ H; go_enter Tryz.func30, Tryz.ntmps30; go_wp2; go_ret; exact ⟨y6_, y7_ HB.out⟩

end Go.Proofs.YtnemchmiplbopaaGreatDoor.Zk
