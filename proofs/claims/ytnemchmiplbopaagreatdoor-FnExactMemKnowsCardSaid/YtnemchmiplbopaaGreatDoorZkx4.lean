-- Written by this session's own program (wip/tools/pp.py) out of the translation, over functions given by hand. Lean checks it.
import Derived.Test.YtnemchmiplbopaaGreatDoorZkx0
import Derived.Test.YtnemchmiplbopaaGreatDoorZkx3
namespace Go.Proofs.YtnemchmiplbopaaGreatDoor.Zk
open Go.RowKit Go.Proofs.YtnemchmiplbopaaGreatDoorW.PrintWords Go.Proofs.YtnemchmiplbopaaGreatDoorW.PrintLast Go.Proofs.YtnemchmiplbopaaGreatDoorW.PrintMore
attribute [local go_sem] max2_int min2_int max_two min_two max_three min_three max_four min_four   -- for this text's walks alone
set_option linter.unusedVariables false
set_option linter.unusedSimpArgs false

/-! ### spec_l1Fresh: function 108 -/
mutual
def spec_l1Fresh.j0 : Nat → ByteArray → Int → Bool → Option (Int)
  | 0, _, _, _ => none
  | k + 1, x0, x1, x16 => if x16 = true then (some 0) else (spec_l1Fresh.l0 k x0 x1 0 (wrap64 (x1 + 1)))
def spec_l1Fresh.l0 : Nat → ByteArray → Int → Int → Int → Option (Int)
  | 0, _, _, _, _ => none
  | k + 1, x0, x1, x5, x6 => if x6 < (x0.size : Int) then (if 0 ≤ x6 then (if (bt x0 x6) ≥ 48 then (if (bt x0 x6) ≤ 57 then (spec_l1Fresh.j2 k x0 x1 x5 x6 (decide (x6 < (wrap64 (x1 + 4))))) else (spec_l1Fresh.j2 k x0 x1 x5 x6 false)) else (spec_l1Fresh.j2 k x0 x1 x5 x6 false)) else (none)) else (spec_l1Fresh.j2 k x0 x1 x5 x6 false)
def spec_l1Fresh.j2 : Nat → ByteArray → Int → Int → Int → Bool → Option (Int)
  | 0, _, _, _, _, _ => none
  | k + 1, x0, x1, x5, x6, x40 => if x40 = true then (if 0 ≤ x6 then (if x6 < (x0.size : Int) then (spec_l1Fresh.l0 k x0 x1 (wrap64 ((wrap64 (x5 * 10)) + (((bt x0 x6) - 48) % 256))) (wrap64 (x6 + 1))) else (none)) else (none)) else (if x6 ≥ (x0.size : Int) then (spec_l1Fresh.j3 k x1 x6 true) else (if 0 ≤ x6 then (if x6 < (x0.size : Int) then (if (bt x0 x6) = 59 then (if 0 ≤ x1 then (if x1 < (x0.size : Int) then ((spec_MakNew.f k (((bt x0 x1) - 65) % 256) x5).bind fun t167 => (if x1 ≤ (wrap64 (x6 + 1)) then (if (wrap64 (x6 + 1)) ≤ (x0.size : Int) then (spec_l1Fresh.j3 k x1 x6 (t167.toList != (x0.extract (x1 : Int).toNat ((wrap64 (x6 + 1)) : Int).toNat).toList)) else (none)) else (none))) else (none)) else (none)) else (spec_l1Fresh.j3 k x1 x6 true)) else (none)) else (none)))
def spec_l1Fresh.j3 : Nat → Int → Int → Bool → Option (Int)
  | 0, _, _, _ => none
  | k + 1, x1, x6, x75 => if x75 = true then (some 0) else (some (wrap64 ((wrap64 (x6 + 1)) - x1)))
end
def spec_l1Fresh.f (k : Nat) (a0 : ByteArray) (a1 : Int) : Option (Int) := if 0 ≤ a1 then (if a1 < (a0.size : Int) then (if (bt a0 a1) < 65 then (spec_l1Fresh.j0 k a0 a1 true) else (spec_l1Fresh.j0 k a0 a1 (decide ((bt a0 a1) > 72)))) else (none)) else (none)
theorem spec_l1Fresh.mono_l : ∀ k, (∀ y0 y1 y2, LeO (spec_l1Fresh.j0 k y0 y1 y2) (spec_l1Fresh.j0 (k + 1) y0 y1 y2)) ∧ (∀ y0 y1 y2 y3, LeO (spec_l1Fresh.l0 k y0 y1 y2 y3) (spec_l1Fresh.l0 (k + 1) y0 y1 y2 y3)) ∧ (∀ y0 y1 y2 y3 y4, LeO (spec_l1Fresh.j2 k y0 y1 y2 y3 y4) (spec_l1Fresh.j2 (k + 1) y0 y1 y2 y3 y4)) ∧ (∀ y0 y1 y2, LeO (spec_l1Fresh.j3 k y0 y1 y2) (spec_l1Fresh.j3 (k + 1) y0 y1 y2))
  | 0 => ⟨fun _ _ _ r h => by simp [spec_l1Fresh.j0] at h, fun _ _ _ _ r h => by simp [spec_l1Fresh.l0] at h, fun _ _ _ _ _ r h => by simp [spec_l1Fresh.j2] at h, fun _ _ _ r h => by simp [spec_l1Fresh.j3] at h⟩
  | k + 1 => by
    obtain ⟨ih0, ih1, ih2, ih3⟩ := spec_l1Fresh.mono_l k; refine ⟨?_, ?_, ?_, ?_⟩
    · intro y0 y1 y2
      unfold spec_l1Fresh.j0
      repeat' first
      | (with_reducible exact ih0 _ _ _)
      | (with_reducible exact ih1 _ _ _ _)
      | (with_reducible exact ih2 _ _ _ _ _)
      | (with_reducible exact ih3 _ _ _)
      | (with_reducible exact spec_MakNew.mono _ _ _)
      | (with_reducible first | exact LeO.refl _ | exact LeO.none _ | refine LeO.ite ?_ ?_ | refine LeO.bind ?_ (fun _ => ?_)) | exact LeO.none _ | refine LeO.ite ?_ ?_ | refine LeO.bind ?_ (fun _ => ?_)
    · intro y0 y1 y2 y3
      unfold spec_l1Fresh.l0
      repeat' first
      | (with_reducible exact ih0 _ _ _)
      | (with_reducible exact ih1 _ _ _ _)
      | (with_reducible exact ih2 _ _ _ _ _)
      | (with_reducible exact ih3 _ _ _)
      | (with_reducible exact spec_MakNew.mono _ _ _)
      | (with_reducible first | exact LeO.refl _ | exact LeO.none _ | refine LeO.ite ?_ ?_ | refine LeO.bind ?_ (fun _ => ?_)) | exact LeO.none _ | refine LeO.ite ?_ ?_ | refine LeO.bind ?_ (fun _ => ?_)
    · intro y0 y1 y2 y3 y4
      unfold spec_l1Fresh.j2
      repeat' first
      | (with_reducible exact ih0 _ _ _)
      | (with_reducible exact ih1 _ _ _ _)
      | (with_reducible exact ih2 _ _ _ _ _)
      | (with_reducible exact ih3 _ _ _)
      | (with_reducible exact spec_MakNew.mono _ _ _)
      | (with_reducible first | exact LeO.refl _ | exact LeO.none _ | refine LeO.ite ?_ ?_ | refine LeO.bind ?_ (fun _ => ?_)) | exact LeO.none _ | refine LeO.ite ?_ ?_ | refine LeO.bind ?_ (fun _ => ?_)
    intro y0 y1 y2; unfold spec_l1Fresh.j3
    repeat' first
    | (with_reducible exact ih0 _ _ _)
    | (with_reducible exact ih1 _ _ _ _)
    | (with_reducible exact ih2 _ _ _ _ _)
    | (with_reducible exact ih3 _ _ _)
    | (with_reducible exact spec_MakNew.mono _ _ _)
    | (with_reducible first | exact LeO.refl _ | exact LeO.none _ | refine LeO.ite ?_ ?_ | refine LeO.bind ?_ (fun _ => ?_)) | exact LeO.none _ | refine LeO.ite ?_ ?_ | refine LeO.bind ?_ (fun _ => ?_)
theorem spec_l1Fresh.mono : ∀ a0 a1 k, LeO (spec_l1Fresh.f k a0 a1) (spec_l1Fresh.f (k + 1) a0 a1) := by
  intro a0 a1 k; obtain ⟨ih0, ih1, ih2, ih3⟩ := spec_l1Fresh.mono_l k; unfold spec_l1Fresh.f
  repeat' first
      | (with_reducible exact ih0 _ _ _)
      | (with_reducible exact ih1 _ _ _ _)
      | (with_reducible exact ih2 _ _ _ _ _)
      | (with_reducible exact ih3 _ _ _)
      | (with_reducible exact spec_MakNew.mono _ _ _)
      | (with_reducible first | exact LeO.refl _ | exact LeO.none _ | refine LeO.ite ?_ ?_ | refine LeO.bind ?_ (fun _ => ?_)) | exact LeO.none _ | refine LeO.ite ?_ ?_ | refine LeO.bind ?_ (fun _ => ?_)
def spec_l1Fresh.T8 : Bool × List (List Nat × List Nat) := (true, [([], []), ([], []), ([1], [1]), ([0, 2], [0, 2]), ([3], [3]), ([4], [4]), ([4], [4]), ([5, 6, 4], [4, 5, 6]), ([7, 4], [4, 7]), ([4, 8], [4, 8]), ([9, 4], [9]), ([10], [10]), ([10], [10]), ([11, 12, 10], [10, 11, 12]), ([13, 10], [10, 13]), ([14, 10], [10, 14]), ([10], [10]), ([15, 16, 10, 10], [10, 15, 16]), ([10], [10]), ([10], [10]), ([10], [10]), ([20, 10], [10, 20]), ([18, 19, 21, 10], [10, 18, 19, 21]), ([17, 22, 10], [10, 17, 22]), ([10, 23], [10, 23])])
def spec_l1Fresh.B8 : List Nat := [0, 0, 2, 7, 15, 31, 31, 127, 255, 511, 1023, 2047, 2047, 8191, 16383, 32767, 2047, 131071, 2047, 2047, 2047, 1050623, 3934207, 8388607, 16777215]
theorem spec_l1Fresh.tab8 : rtab .any (opsOf Tryz.f108 8) = spec_l1Fresh.T8 := by kernel_rfl
theorem spec_l1Fresh.bits8 : waitsOk spec_l1Fresh.T8.2 spec_l1Fresh.B8 = true := by kernel_rfl
set_option maxHeartbeats 8000000 in
set_option maxRecDepth 100000 in
theorem spec_l1Fresh.calls (k : Nat) (a0 : ByteArray) (a1 : Int) (r : Int) (w : World) (h : spec_l1Fresh.f k a0 a1 = some r) :
    Calls Tryz.prog 108 #[.string a0, .int .i64 a1] w fun e w' => e = .returned (.int .i64 r) ∧ Below w.heap.size w w' := by
  have HB := am_ (Below.refl w.heap.size w); have H : (if 0 ≤ a1 then (if a1 < (a0.size : Int) then (if (bt a0 a1) < 65 then (spec_l1Fresh.j0 k a0 a1 true) else (spec_l1Fresh.j0 k a0 a1 (decide ((bt a0 a1) > 72)))) else (none)) else (none)) = some r := h; clear h; have HC3 := am_ H; clear H; go_enter Tryz.func108, Tryz.ntmps108
  go_upto_region 1 with (fail)
  go_cut [16] (fun v16 wc => ∃ (kq : Nat) (x16_2 : Bool), v16 = .bool x16_2 ∧ Aside0 (spec_l1Fresh.j0 kq a0 a1 x16_2 = some r) ∧ Aside0 (kq ≤ k) ∧ Aside0 (Below w.heap.size w wc))
  case first =>
    have H := HC3.out; clear HC3; by_cases c4 : 0 ≤ a1
    · rw [if_pos c4] at H
      have c4b0 : decide (0 ≤ a1) = true := decide_eq_true c4; clear c4; (first | rw [c4b0] | (simp only [i64_w, i32_w]; rw [c4b0]) | skip); by_cases c5 : a1 < (a0.size : Int)
      · rw [if_pos c5] at H
        have c5b0 : decide (a1 < (a0.size : Int)) = true := decide_eq_true c5; clear c5; by_cases c7 : (bt a0 a1) < 65
        · rw [if_pos c7] at H
          have c7b0 : decide ((bt a0 a1) < 65) = true := decide_eq_true c7; clear c7; have H' := am_ H; clear H; have p6 : 0 ≤ (a1 : Int) := of_decide_eq_true y3_; have q6 : a1 < (a0.size : Int) := of_decide_eq_true y3_; have hx6 := bt_at a0 a1; replace p6 := eq_true p6; replace q6 := eq_true q6; go_wp2; go_meet
          case rel => exact ⟨_, (true), y4_, H', ⟨by first | omega | exact Nat.le_refl _⟩, ⟨y7_ HB.out⟩⟩
        rw [if_neg c7] at H; have c7b0 : decide ((bt a0 a1) < 65) = false := decide_eq_false c7; clear c7; have H' := am_ H; clear H; have p6 : 0 ≤ (a1 : Int) := of_decide_eq_true y3_; have q6 : a1 < (a0.size : Int) := of_decide_eq_true y3_; have hx6 := bt_at a0 a1; replace p6 := eq_true p6; replace q6 := eq_true q6; have p8 : 0 ≤ (a1 : Int) := of_decide_eq_true y3_; have q8 : a1 < (a0.size : Int) := of_decide_eq_true y3_; have hx8 := bt_at a0 a1; replace p8 := eq_true p8; replace q8 := eq_true q8; go_wp2; go_meet
        case rel => exact ⟨_, (decide ((bt a0 a1) > 72)), y4_, H', ⟨by first | omega | exact Nat.le_refl _⟩, ⟨y7_ HB.out⟩⟩
      rw [if_neg c5] at H; exact absurd H (by simp)
    rw [if_neg c4] at H; exact absurd H (by simp)
  case rest =>
    clear HC3; (try clear c1); (try clear p2); (try clear c4); (try clear c4b0); (try clear c5); (try clear c5b0); (try clear p6); (try clear q6); (try clear hx6); (try clear c7); (try clear c7b0); (try clear p8); (try clear q8); (try clear hx8); (try clear p6); (try clear p8); (try clear q6); (try clear q8); obtain ⟨kq, x16_2, rfl, HA, HJ2, HB⟩ := hcut
    cases kq with
    | zero => exact absurd HA.out (by simp [spec_l1Fresh.j0])
    | succ kj2 =>
      have H := HA.out; clear HA; simp only [spec_l1Fresh.j0] at H; by_cases c9 : x16_2 = true
      · subst c9
        have H1 : (some 0) = some r := by rw [if_pos rfl] at H; exact H
        clear H; have H := H1; clear H1; obtain rfl := oi_ H; go_wp2; go_ret; exact ⟨y6_, y7_ HB.out⟩
      replace c9 := Bool.eq_false_iff.mpr c9; subst c9
      have H1 : (spec_l1Fresh.l0 kj2 a0 a1 0 (wrap64 (a1 + 1))) = some r := by rw [if_neg (show ¬ (false = true) by decide)] at H; exact H
      clear H; have H := H1; clear H1; have H' := am_ H; clear H; go_wp2
      go_loopg [5, 6] kj2 (fun kq v5 v6 w' => ∃ (x5_2 : Int) (x6_2 : Int), v5 = .int .i64 x5_2 ∧ v6 = .int .i64 x6_2 ∧ Aside0 (spec_l1Fresh.l0 kq a0 a1 x5_2 x6_2 = some r) ∧ Aside0 (kq ≤ kj2) ∧ Aside0 (Below w.heap.size w w'))
      case atStart => exact ⟨(0), (wrap64 (a1 + 1)), y4_, y4_, H', ⟨Nat.le_refl _⟩, ⟨y7_ HB.out⟩⟩
      case round =>
        clear H'; (try clear c1); (try clear p2); (try clear c4); (try clear c4b0); (try clear c5); (try clear c5b0); (try clear p6); (try clear q6); (try clear hx6); (try clear c7); (try clear c7b0); (try clear p8); (try clear q8); (try clear hx8); (try clear c9); (try clear p2); (try clear p6); (try clear p8); (try clear q6); (try clear q8); obtain ⟨x5_2, x6_2, rfl, rfl, HA, HK2, HB⟩ := hrel
        cases gk with
        | zero => exact absurd HA.out (by simp [spec_l1Fresh.l0])
        | succ k2 =>
          have H := HA.out; clear HA; simp only [spec_l1Fresh.l0] at H; have HC10 := am_ H; clear H
          go_upto_region 5 with (fail)
          go_cut [40] (fun v40 wc => ∃ (kq : Nat) (x40_9 : Bool), v40 = .bool x40_9 ∧ Aside0 (spec_l1Fresh.j2 kq a0 a1 x5_2 x6_2 x40_9 = some r) ∧ Aside0 (kq ≤ k2) ∧ Aside0 (Below w.heap.size w wc))
          case first =>
            have H := HC10.out; clear HC10; by_cases c11 : x6_2 < (a0.size : Int)
            · rw [if_pos c11] at H
              have c11b0 : decide (x6_2 < (a0.size : Int)) = true := decide_eq_true c11; clear c11; (first | rw [c11b0] | (simp only [i64_w, i32_w]; rw [c11b0]) | skip); by_cases c12 : 0 ≤ x6_2
              · rw [if_pos c12] at H
                have c12b0 : decide (0 ≤ x6_2) = true := decide_eq_true c12; clear c12; by_cases c14 : (bt a0 x6_2) ≥ 48
                · rw [if_pos c14] at H
                  have c14b0 : decide (48 ≤ (bt a0 x6_2)) = true := decide_eq_true c14; clear c14; by_cases c16 : (bt a0 x6_2) ≤ 57
                  · rw [if_pos c16] at H
                    have c16b0 : decide ((bt a0 x6_2) ≤ 57) = true := decide_eq_true c16; clear c16; have H' := am_ H; clear H; have p13 : 0 ≤ (x6_2 : Int) := of_decide_eq_true y3_; have q13 : x6_2 < (a0.size : Int) := of_decide_eq_true y3_; have hx13 := bt_at a0 x6_2; replace p13 := eq_true p13; replace q13 := eq_true q13; have p15 : 0 ≤ (x6_2 : Int) := of_decide_eq_true y3_; have q15 : x6_2 < (a0.size : Int) := of_decide_eq_true y3_; have hx15 := bt_at a0 x6_2; replace p15 := eq_true p15; replace q15 := eq_true q15; go_wp2; go_meet
                    case rel => exact ⟨_, (decide (x6_2 < (wrap64 (a1 + 4)))), y4_, H', ⟨by have := HJ2.out; have := HK2.out; first | omega | exact Nat.le_refl _⟩, ⟨y7_ HB.out⟩⟩
                  rw [if_neg c16] at H; have c16b0 : decide ((bt a0 x6_2) ≤ 57) = false := decide_eq_false c16; clear c16; have H' := am_ H; clear H; have p13 : 0 ≤ (x6_2 : Int) := of_decide_eq_true y3_; have q13 : x6_2 < (a0.size : Int) := of_decide_eq_true y3_; have hx13 := bt_at a0 x6_2; replace p13 := eq_true p13; replace q13 := eq_true q13; have p15 : 0 ≤ (x6_2 : Int) := of_decide_eq_true y3_; have q15 : x6_2 < (a0.size : Int) := of_decide_eq_true y3_; have hx15 := bt_at a0 x6_2; replace p15 := eq_true p15; replace q15 := eq_true q15; go_wp2; go_meet
                  case rel => exact ⟨_, (false), y4_, H', ⟨by have := HJ2.out; have := HK2.out; first | omega | exact Nat.le_refl _⟩, ⟨y7_ HB.out⟩⟩
                rw [if_neg c14] at H; have c14b0 : decide (48 ≤ (bt a0 x6_2)) = false := decide_eq_false c14; clear c14; have H' := am_ H; clear H; have p13 : 0 ≤ (x6_2 : Int) := of_decide_eq_true y3_; have q13 : x6_2 < (a0.size : Int) := of_decide_eq_true y3_; have hx13 := bt_at a0 x6_2; replace p13 := eq_true p13; replace q13 := eq_true q13; go_wp2; go_meet
                case rel => exact ⟨_, (false), y4_, H', ⟨by have := HJ2.out; have := HK2.out; first | omega | exact Nat.le_refl _⟩, ⟨y7_ HB.out⟩⟩
              rw [if_neg c12] at H; exact absurd H (by simp)
            rw [if_neg c11] at H; have c11b0 : decide (x6_2 < (a0.size : Int)) = false := decide_eq_false c11; clear c11; (first | rw [c11b0] | (simp only [i64_w, i32_w]; rw [c11b0]) | skip); have H' := am_ H; clear H; go_wp2; go_meet
            case rel => exact ⟨_, (false), y4_, H', ⟨by have := HJ2.out; have := HK2.out; first | omega | exact Nat.le_refl _⟩, ⟨y7_ HB.out⟩⟩
          case rest =>
            clear HC10; (try clear c1); (try clear p1); (try clear q1); (try clear hx1); (try clear p2); (try clear c4); (try clear c4b0); (try clear c5); (try clear c5b0); (try clear p6); (try clear q6); (try clear hx6); (try clear c7); (try clear c7b0); (try clear p8); (try clear q8); (try clear hx8); (try clear c9); (try clear c10); (try clear c11); (try clear c11b0); (try clear c12); (try clear c12b0); (try clear p13); (try clear q13); (try clear hx13); (try clear c14); (try clear c14b0); (try clear p15); (try clear q15); (try clear hx15); (try clear c16); (try clear c16b0); (try clear p13); (try clear p15); (try clear p2); (try clear p6); (try clear p8); (try clear q13); (try clear q15); (try clear q6); (try clear q8); obtain ⟨kq, x40_9, rfl, HA, HJ9, HB⟩ := hcut
            cases kq with
            | zero => exact absurd HA.out (by simp [spec_l1Fresh.j2])
            | succ kj9 =>
              have H := HA.out; clear HA; simp only [spec_l1Fresh.j2] at H; by_cases c17 : x40_9 = true
              · subst c17
                have H1 : (if 0 ≤ x6_2 then (if x6_2 < (a0.size : Int) then (spec_l1Fresh.l0 kj9 a0 a1 (wrap64 ((wrap64 (x5_2 * 10)) + (((bt a0 x6_2) - 48) % 256))) (wrap64 (x6_2 + 1))) else (none)) else (none)) = some r := by rw [if_pos rfl] at H; exact H
                clear H; have H := H1; clear H1; by_cases c18 : 0 ≤ x6_2
                · rw [if_pos c18] at H
                  have c18b0 : decide (0 ≤ x6_2) = true := decide_eq_true c18; clear c18; by_cases c19 : x6_2 < (a0.size : Int)
                  · rw [if_pos c19] at H
                    have c19b0 : decide (x6_2 < (a0.size : Int)) = true := decide_eq_true c19; clear c19; have H' := am_ H; clear H; have p20 : 0 ≤ (x6_2 : Int) := of_decide_eq_true y3_; have q20 : x6_2 < (a0.size : Int) := of_decide_eq_true y3_; have hx20 := bt_at a0 x6_2; replace p20 := eq_true p20; replace q20 := eq_true q20; go_wp2
                    go_roundg kj9
                    case measure => have := HJ2.out; have := HK2.out; have := HJ9.out; omega
                    case rel => exact ⟨(wrap64 ((wrap64 (x5_2 * 10)) + (((bt a0 x6_2) - 48) % 256))), (wrap64 (x6_2 + 1)), y4_, y4_, H', ⟨by have := HJ2.out; have := HK2.out; have := HJ9.out; omega⟩, ⟨y7_ HB.out⟩⟩
                  rw [if_neg c19] at H; exact absurd H (by simp)
                rw [if_neg c18] at H; exact absurd H (by simp)
              replace c17 := Bool.eq_false_iff.mpr c17; subst c17
              have H1 : (if x6_2 ≥ (a0.size : Int) then (spec_l1Fresh.j3 kj9 a1 x6_2 true) else (if 0 ≤ x6_2 then (if x6_2 < (a0.size : Int) then (if (bt a0 x6_2) = 59 then (if 0 ≤ a1 then (if a1 < (a0.size : Int) then ((spec_MakNew.f kj9 (((bt a0 a1) - 65) % 256) x5_2).bind fun t167 => (if a1 ≤ (wrap64 (x6_2 + 1)) then (if (wrap64 (x6_2 + 1)) ≤ (a0.size : Int) then (spec_l1Fresh.j3 kj9 a1 x6_2 (t167.toList != (a0.extract (a1 : Int).toNat ((wrap64 (x6_2 + 1)) : Int).toNat).toList)) else (none)) else (none))) else (none)) else (none)) else (spec_l1Fresh.j3 kj9 a1 x6_2 true)) else (none)) else (none))) = some r := by rw [if_neg (show ¬ (false = true) by decide)] at H; exact H
              clear H; have H := H1; clear H1; have HC21 := am_ H; clear H
              go_upto_region 8 with (fail)
              go_cut [75] (fun v75 wc => ∃ (kq : Nat) (x75_20 : Bool), v75 = .bool x75_20 ∧ Aside0 (spec_l1Fresh.j3 kq a1 x6_2 x75_20 = some r) ∧ Aside0 (kq ≤ kj9) ∧ Aside0 (Below w.heap.size w wc))
              case first =>
                have H := HC21.out; clear HC21; by_cases c22 : x6_2 ≥ (a0.size : Int)
                · rw [if_pos c22] at H
                  have c22b0 : decide ((a0.size : Int) ≤ x6_2) = true := decide_eq_true c22; clear c22; (first | rw [c22b0] | (simp only [i64_w, i32_w]; rw [c22b0]) | skip); have H' := am_ H; clear H
                  try go_wp2
                  replace HB := am_ (below_drew1 HB.out); refine start_ (n := 25) (S := fun w' => True) (ds := []) #[false, false, false, false, false, false, false, false, false, false, false, false, false, false, false, false, false, false, false, false, false, false, false, false, false] (by kernel_rfl) rfl rfl trivial (fun hHeld => ?_); refine with_tabW spec_l1Fresh.tab8 spec_l1Fresh.bits8 (fun HT_ HW_ => ?_); generalize wc.drew = w23 at HB hHeld ⊢; refine pi_ 0 (some 51) (bs_ 25 1) HT_.out ?_; refine pi_ 1 (some 52) (bs_ 25 3) HT_.out ?_; refine pi_ 2 (some 53) (bs_ 25 7) HT_.out ?_; refine pi_ 3 (some 54) (bs_ 25 15) HT_.out ?_; refine pi_ 4 (some 55) (bs_ 25 31) HT_.out ?_; refine pz_ 5 (some 56) (bs_ 25 63) HT_.out ?_; refine pz_ 6 (some 57) (bs_ 25 127) HT_.out ?_; refine pz_ 7 (some 58) (bs_ 25 255) HT_.out ?_; refine pz_ 8 (some 59) (bs_ 25 511) HT_.out ?_; refine pi_ 9 (some 60) (bs_ 25 1023) HT_.out ?_; refine pi_ 10 (some 61) (bs_ 25 2047) HT_.out ?_; refine pz_ 11 (some 62) (bs_ 25 4095) HT_.out ?_; refine pz_ 12 (some 63) (bs_ 25 8191) HT_.out ?_; refine pz_ 13 (some 64) (bs_ 25 16383) HT_.out ?_; refine pz_ 14 (some 65) (bs_ 25 32767) HT_.out ?_; refine pz_ 15 (some 66) (bs_ 25 65535) HT_.out ?_; refine pz_ 16 (some 67) (bs_ 25 131071) HT_.out ?_; refine pz_ 17 (some 68) (bs_ 25 262143) HT_.out ?_; refine pz_ 18 (some 69) (bs_ 25 524287) HT_.out ?_; refine pz_ 19 (some 70) (bs_ 25 1048575) HT_.out ?_; refine pz_ 20 (some 71) (bs_ 25 2097151) HT_.out ?_; refine pz_ 21 (some 72) (bs_ 25 4194303) HT_.out ?_; refine pz_ 22 (some 73) (bs_ 25 8388607) HT_.out ?_; refine pz_ 23 (some 74) (bs_ 25 16777215) HT_.out ?_; refine pi_ 24 (some 75) (bs_ 25 33554431) HT_.out ?_; refine done_ (done_of HT_.out (by kernel_rfl)) ?_
                  try go_wp2
                  go_meet
                  case rel => exact ⟨_, (true), y4_, H', ⟨by have := HJ2.out; have := HK2.out; have := HJ9.out; first | omega | exact Nat.le_refl _⟩, ⟨y7_ HB.out⟩⟩
                rw [if_neg c22] at H; have c22b0 : decide ((a0.size : Int) ≤ x6_2) = false := decide_eq_false c22; clear c22; (first | rw [c22b0] | (simp only [i64_w, i32_w]; rw [c22b0]) | skip); by_cases c24 : 0 ≤ x6_2
                · rw [if_pos c24] at H
                  have c24b0 : decide (0 ≤ x6_2) = true := decide_eq_true c24; clear c24; by_cases c25 : x6_2 < (a0.size : Int)
                  · rw [if_pos c25] at H
                    have c25b0 : decide (x6_2 < (a0.size : Int)) = true := decide_eq_true c25; clear c25; by_cases c27 : (bt a0 x6_2) = 59
                    · rw [if_pos c27] at H
                      have c27b0 : ((bt a0 x6_2) == 59) = true := beq_iff_eq.mpr c27; have c27b1 : ((bt a0 x6_2) != 59) = false := bne_eq_false_iff_eq.mpr c27; clear c27; by_cases c28 : 0 ≤ a1
                      · rw [if_pos c28] at H
                        have c28b0 : decide (0 ≤ a1) = true := decide_eq_true c28; clear c28; by_cases c29 : a1 < (a0.size : Int)
                        · rw [if_pos c29] at H
                          have c29b0 : decide (a1 < (a0.size : Int)) = true := decide_eq_true c29; clear c29; replace H := ob_ H; obtain ⟨t167, A310, H⟩ := H; replace H : (if a1 ≤ (wrap64 (x6_2 + 1)) then (if (wrap64 (x6_2 + 1)) ≤ (a0.size : Int) then (spec_l1Fresh.j3 kj9 a1 x6_2 (t167.toList != (a0.extract (a1 : Int).toNat ((wrap64 (x6_2 + 1)) : Int).toNat).toList)) else (none)) else (none)) = some r := H; have A31 := am_ A310; clear A310; have c32b0 := eq_true (of_decide_eq_true y3_ : 0 ≤ a1); by_cases c33 : a1 ≤ (wrap64 (x6_2 + 1))
                          · rw [if_pos c33] at H
                            have c33b0 := eq_true c33; have c33b1 : decide (a1 ≤ (wrap64 (x6_2 + 1))) = true := decide_eq_true c33; by_cases c34 : (wrap64 (x6_2 + 1)) ≤ (a0.size : Int)
                            · rw [if_pos c34] at H
                              have c34b0 := eq_true c34; have c34b1 : decide ((wrap64 (x6_2 + 1)) ≤ (a0.size : Int)) = true := decide_eq_true c34; have H' := am_ H; clear H
                              try go_wp2
                              replace HB := am_ (below_drew1 HB.out); have p26 : 0 ≤ (x6_2 : Int) := of_decide_eq_true y3_; have q26 : x6_2 < (a0.size : Int) := of_decide_eq_true y3_; have hx26 := bt_at a0 x6_2; replace p26 := eq_true p26; replace q26 := eq_true q26; have p30 : 0 ≤ (a1 : Int) := of_decide_eq_true y3_; have q30 : a1 < (a0.size : Int) := of_decide_eq_true y3_; have hx30 := bt_at a0 a1; replace p30 := eq_true p30; replace q30 := eq_true q30; refine start_ (n := 25) (S := fun w' => True) (ds := []) #[false, false, false, false, false, false, false, false, false, false, false, false, false, false, false, false, false, false, false, false, false, false, false, false, false] (by kernel_rfl) rfl rfl trivial (fun hHeld => ?_); refine with_tabW spec_l1Fresh.tab8 spec_l1Fresh.bits8 (fun HT_ HW_ => ?_); generalize wc.drew = w35 at HB hHeld ⊢; refine pi_ 0 (some 51) (bs_ 25 1) HT_.out ?_; refine pi_ 1 (some 52) (bs_ 25 3) HT_.out ?_; refine pi_ 2 (some 53) (bs_ 25 7) HT_.out ?_; refine pi_ 3 (some 54) (bs_ 25 15) HT_.out ?_; refine pi_ 4 (some 55) (bs_ 25 31) HT_.out ?_; refine pi_ 5 (some 56) (bs_ 25 63) HT_.out ?_; refine pi_ 6 (some 57) (bs_ 25 127) HT_.out ?_; refine pt_ (i := 7) (N := some 58) (bs_ 25 255) rfl rfl HT_.out HW_.out (Or.inl ⟨by rfl, by intro w' _; go_simp; with_reducible rfl⟩) hHeld ?_; refine pi_ 8 (some 59) (bs_ 25 511) HT_.out ?_; refine pi_ 9 (some 60) (bs_ 25 1023) HT_.out ?_; refine pi_ 10 (some 61) (bs_ 25 2047) HT_.out ?_; refine pi_ 11 (some 62) (bs_ 25 4095) HT_.out ?_; refine pi_ 12 (some 63) (bs_ 25 8191) HT_.out ?_; refine pi_ 16 (some 67) (bs_ 25 73727) HT_.out ?_; refine pi_ 18 (some 69) (bs_ 25 335871) HT_.out ?_; refine pi_ 19 (some 70) (bs_ 25 860159) HT_.out ?_; refine pi_ 20 (some 71) (bs_ 25 1908735) HT_.out ?_; refine pi_ 21 (some 72) (bs_ 25 4005887) HT_.out ?_; refine pi_ 22 (some 73) (bs_ 25 8200191) HT_.out ?_; refine pt_ (i := 13) (N := some 64) (bs_ 25 8208383) rfl rfl HT_.out HW_.out (Or.inl ⟨by rfl, by intro w' _; go_simp; with_reducible rfl⟩) hHeld ?_; refine pi_ 14 (some 65) (bs_ 25 8224767) HT_.out ?_; refine pi_ 15 (some 66) (bs_ 25 8257535) HT_.out ?_; refine one_ (i := 17) (N := some 68) (bs_ 25 8388607) rfl rfl (one_of HT_.out (by kernel_rfl)) (by decide) (fun K hK => ?_); refine goes_ Tryz.func118 (by kernel_rfl) rfl #[.int .i64 (((bt a0 a1) - 65) % 256), .int .i64 x5_2] (by rfl) rfl rfl y1_ ?_
                              with_reducible refine (spec_MakNew.calls kj9 (((bt a0 a1) - 65) % 256) x5_2 t167 _ A31.out).mono ?_
                              rintro e w36 ⟨rfl, hb⟩; refine ⟨_, rfl, ?_⟩; replace HB := st_ (y7_ HB.out) hb; clear hb; refine hK.out _ _ trivial (fun hHeld => ?_); clear hK K; refine norm_ (a' := ?_) ?_ ?_; rotate_left
                              · show Act.put _ (some 68) _ = _
                                simp only [Act.put, List.setIfInBounds_toArray, List.set_cons_zero, List.set_cons_succ, i64_w, i32_w]
                                rfl
                              refine pi_ 23 (some 74) (bs_ 25 16777215) HT_.out ?_; refine pi_ 24 (some 75) (bs_ 25 33554431) HT_.out ?_; refine done_ (done_of HT_.out (by kernel_rfl)) ?_
                              try go_wp2
                              go_meet
                              case rel => exact ⟨_, ((t167.toList != (a0.extract (a1 : Int).toNat ((wrap64 (x6_2 + 1)) : Int).toNat).toList)), y4_, H', ⟨by have := HJ2.out; have := HK2.out; have := HJ9.out; first | omega | exact Nat.le_refl _⟩, ⟨y7_ HB.out⟩⟩
                            rw [if_neg c34] at H; exact absurd H (by simp)
                          rw [if_neg c33] at H; exact absurd H (by simp)
                        rw [if_neg c29] at H; exact absurd H (by simp)
                      rw [if_neg c28] at H; exact absurd H (by simp)
                    rw [if_neg c27] at H; have c27b0 : ((bt a0 x6_2) == 59) = false := beq_eq_false_iff_ne.mpr c27; have c27b1 : ((bt a0 x6_2) != 59) = true := bne_iff_ne.mpr c27; have H' := am_ H; clear H
                    try go_wp2
                    replace HB := am_ (below_drew1 HB.out); have p26 : 0 ≤ (x6_2 : Int) := of_decide_eq_true y3_; have q26 : x6_2 < (a0.size : Int) := of_decide_eq_true y3_; have hx26 := bt_at a0 x6_2; replace p26 := eq_true p26; replace q26 := eq_true q26; refine start_ (n := 25) (S := fun w' => True) (ds := []) #[false, false, false, false, false, false, false, false, false, false, false, false, false, false, false, false, false, false, false, false, false, false, false, false, false] (by kernel_rfl) rfl rfl trivial (fun hHeld => ?_); refine with_tabW spec_l1Fresh.tab8 spec_l1Fresh.bits8 (fun HT_ HW_ => ?_); generalize wc.drew = w37 at HB hHeld ⊢; refine pi_ 0 (some 51) (bs_ 25 1) HT_.out ?_; refine pi_ 1 (some 52) (bs_ 25 3) HT_.out ?_; refine pi_ 2 (some 53) (bs_ 25 7) HT_.out ?_; refine pi_ 3 (some 54) (bs_ 25 15) HT_.out ?_; refine pi_ 4 (some 55) (bs_ 25 31) HT_.out ?_; refine pi_ 5 (some 56) (bs_ 25 63) HT_.out ?_; refine pi_ 6 (some 57) (bs_ 25 127) HT_.out ?_; refine pt_ (i := 7) (N := some 58) (bs_ 25 255) rfl rfl HT_.out HW_.out (Or.inl ⟨by rfl, by intro w' _; go_simp; with_reducible rfl⟩) hHeld ?_; refine pi_ 8 (some 59) (bs_ 25 511) HT_.out ?_; refine pi_ 9 (some 60) (bs_ 25 1023) HT_.out ?_; refine pi_ 10 (some 61) (bs_ 25 2047) HT_.out ?_; refine pz_ 11 (some 62) (bs_ 25 4095) HT_.out ?_; refine pz_ 12 (some 63) (bs_ 25 8191) HT_.out ?_; refine pz_ 13 (some 64) (bs_ 25 16383) HT_.out ?_; refine pz_ 14 (some 65) (bs_ 25 32767) HT_.out ?_; refine pz_ 15 (some 66) (bs_ 25 65535) HT_.out ?_; refine pz_ 16 (some 67) (bs_ 25 131071) HT_.out ?_; refine pz_ 17 (some 68) (bs_ 25 262143) HT_.out ?_; refine pz_ 18 (some 69) (bs_ 25 524287) HT_.out ?_; refine pz_ 19 (some 70) (bs_ 25 1048575) HT_.out ?_; refine pz_ 20 (some 71) (bs_ 25 2097151) HT_.out ?_; refine pz_ 21 (some 72) (bs_ 25 4194303) HT_.out ?_; refine pz_ 22 (some 73) (bs_ 25 8388607) HT_.out ?_; refine pz_ 23 (some 74) (bs_ 25 16777215) HT_.out ?_; refine pi_ 24 (some 75) (bs_ 25 33554431) HT_.out ?_; refine done_ (done_of HT_.out (by kernel_rfl)) ?_
                    try go_wp2
                    go_meet
                    case rel => exact ⟨_, (true), y4_, H', ⟨by have := HJ2.out; have := HK2.out; have := HJ9.out; first | omega | exact Nat.le_refl _⟩, ⟨y7_ HB.out⟩⟩
                  rw [if_neg c25] at H; exact absurd H (by simp)
                rw [if_neg c24] at H; exact absurd H (by simp)
              case rest =>
                clear HC21; (try clear c1); (try clear c2); (try clear p2); (try clear q2); (try clear hx2); (try clear c3); (try clear p3); (try clear q3); (try clear hx3); (try clear p6); (try clear c11); (try clear c22); (try clear c22b0); (try clear c24); (try clear c24b0); (try clear c25); (try clear c25b0); (try clear p26); (try clear q26); (try clear hx26); (try clear c27); (try clear c27b0); (try clear c27b1); (try clear c28); (try clear c28b0); (try clear c29); (try clear c29b0); (try clear p30); (try clear q30); (try clear hx30); (try clear c32); (try clear c32b0); (try clear c33); (try clear c33b0); (try clear c33b1); (try clear c34); (try clear c34b0); (try clear c34b1); (try clear p26); (try clear p30); (try clear q26); (try clear q30); obtain ⟨kq, x75_20, rfl, HA, HJ20, HB⟩ := hcut
                cases kq with
                | zero => exact absurd HA.out (by simp [spec_l1Fresh.j3])
                | succ kj20 =>
                  have H := HA.out; clear HA; simp only [spec_l1Fresh.j3] at H; by_cases c38 : x75_20 = true
                  · subst c38
                    have H1 : (some 0) = some r := by rw [if_pos rfl] at H; exact H
                    clear H; have H := H1; clear H1; obtain rfl := oi_ H; go_wp2; go_ret; exact ⟨y6_, y7_ HB.out⟩
                  replace c38 := Bool.eq_false_iff.mpr c38; subst c38
                  have H1 : (some (wrap64 ((wrap64 (x6_2 + 1)) - a1))) = some r := by rw [if_neg (show ¬ (false = true) by decide)] at H; exact H
                  clear H; have H := H1; clear H1; obtain rfl := oi_ H; go_wp2; go_ret; exact ⟨y6_, y7_ HB.out⟩

end Go.Proofs.YtnemchmiplbopaaGreatDoor.Zk
