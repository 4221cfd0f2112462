-- Written by this session's own program (wip/tools/pp.py) out of the translation, over functions given by hand. Lean checks it.
import Derived.Test.YtnemchmiplbopaaGreatDoorZjx0
import Derived.Test.YtnemchmiplbopaaGreatDoorZjx4
namespace Go.Proofs.YtnemchmiplbopaaGreatDoor.Zj
open Go.RowKit Go.Proofs.YtnemchmiplbopaaGreatDoorW.PrintWords Go.Proofs.YtnemchmiplbopaaGreatDoorW.PrintLast Go.Proofs.YtnemchmiplbopaaGreatDoorW.PrintMore
attribute [local go_sem] max2_int min2_int max_two min_two max_three min_three max_four min_four   -- for this text's walks alone
set_option linter.unusedVariables false
set_option linter.unusedSimpArgs false

/-! ### spec_l1Fresh: function 108 -/
mutual
def spec_l1Fresh.j0 : Nat → ByteArray → Int → Bool → Option (Int)
  | 0, _, _, _ => none
  | k + 1, x0, x1, x16 => if x16 = true then (some 0) else (spec_l1Fresh.l0 k x0 x1 0 (wrap64 (x1 + 1)))
def spec_l1Fresh.l0 : Nat → ByteArray → Int → Int → Int → Option (Int)
  | 0, _, _, _, _ => none
  | k + 1, x0, x1, x5, x6 => if x6 < (x0.size : Int) then (if 0 ≤ x6 then (if (bt x0 x6) ≥ 48 then (if (bt x0 x6) ≤ 57 then (spec_l1Fresh.j2 k x0 x1 x5 x6 (decide (x6 < (wrap64 (x1 + 4))))) else (spec_l1Fresh.j2 k x0 x1 x5 x6 false)) else (spec_l1Fresh.j2 k x0 x1 x5 x6 false)) else (none)) else (spec_l1Fresh.j2 k x0 x1 x5 x6 false)
def spec_l1Fresh.j2 : Nat → ByteArray → Int → Int → Int → Bool → Option (Int)
  | 0, _, _, _, _, _ => none
  | k + 1, x0, x1, x5, x6, x40 => if x40 = true then (if 0 ≤ x6 then (if x6 < (x0.size : Int) then (spec_l1Fresh.l0 k x0 x1 (wrap64 ((wrap64 (x5 * 10)) + (((bt x0 x6) - 48) % 256))) (wrap64 (x6 + 1))) else (none)) else (none)) else (if x6 ≥ (x0.size : Int) then (spec_l1Fresh.j3 k x1 x6 true) else (if 0 ≤ x6 then (if x6 < (x0.size : Int) then (if (bt x0 x6) = 59 then (if 0 ≤ x1 then (if x1 < (x0.size : Int) then ((spec_MakNew.f k (((bt x0 x1) - 65) % 256) x5).bind fun t155 => (if x1 ≤ (wrap64 (x6 + 1)) then (if (wrap64 (x6 + 1)) ≤ (x0.size : Int) then (spec_l1Fresh.j3 k x1 x6 (t155.toList != (x0.extract (x1 : Int).toNat ((wrap64 (x6 + 1)) : Int).toNat).toList)) else (none)) else (none))) else (none)) else (none)) else (spec_l1Fresh.j3 k x1 x6 true)) else (none)) else (none)))
def spec_l1Fresh.j3 : Nat → Int → Int → Bool → Option (Int)
  | 0, _, _, _ => none
  | k + 1, x1, x6, x75 => if x75 = true then (some 0) else (some (wrap64 ((wrap64 (x6 + 1)) - x1)))
end
def spec_l1Fresh.f (k : Nat) (a0 : ByteArray) (a1 : Int) : Option (Int) := if 0 ≤ a1 then (if a1 < (a0.size : Int) then (if (bt a0 a1) < 65 then (spec_l1Fresh.j0 k a0 a1 true) else (spec_l1Fresh.j0 k a0 a1 (decide ((bt a0 a1) > 72)))) else (none)) else (none)
theorem spec_l1Fresh.mono_l : ∀ k, (∀ y0 y1 y2, LeO (spec_l1Fresh.j0 k y0 y1 y2) (spec_l1Fresh.j0 (k + 1) y0 y1 y2)) ∧ (∀ y0 y1 y2 y3, LeO (spec_l1Fresh.l0 k y0 y1 y2 y3) (spec_l1Fresh.l0 (k + 1) y0 y1 y2 y3)) ∧ (∀ y0 y1 y2 y3 y4, LeO (spec_l1Fresh.j2 k y0 y1 y2 y3 y4) (spec_l1Fresh.j2 (k + 1) y0 y1 y2 y3 y4)) ∧ (∀ y0 y1 y2, LeO (spec_l1Fresh.j3 k y0 y1 y2) (spec_l1Fresh.j3 (k + 1) y0 y1 y2))
  | 0 => ⟨fun _ _ _ r h => by simp [spec_l1Fresh.j0] at h, fun _ _ _ _ r h => by simp [spec_l1Fresh.l0] at h, fun _ _ _ _ _ r h => by simp [spec_l1Fresh.j2] at h, fun _ _ _ r h => by simp [spec_l1Fresh.j3] at h⟩
  | k + 1 => by
    obtain ⟨ih0, ih1, ih2, ih3⟩ := spec_l1Fresh.mono_l k; refine ⟨?_, ?_, ?_, ?_⟩
    · intro y0 y1 y2
      unfold spec_l1Fresh.j0
      repeat' first
      | (with_reducible exact ih0 _ _ _)
      | (with_reducible exact ih1 _ _ _ _)
      | (with_reducible exact ih2 _ _ _ _ _)
      | (with_reducible exact ih3 _ _ _)
      | (with_reducible exact spec_MakNew.mono _ _ _)
      | (with_reducible first | exact LeO.refl _ | exact LeO.none _ | refine LeO.ite ?_ ?_ | refine LeO.bind ?_ (fun _ => ?_)) | exact LeO.none _ | refine LeO.ite ?_ ?_ | refine LeO.bind ?_ (fun _ => ?_)
    · intro y0 y1 y2 y3
      unfold spec_l1Fresh.l0
      repeat' first
      | (with_reducible exact ih0 _ _ _)
      | (with_reducible exact ih1 _ _ _ _)
      | (with_reducible exact ih2 _ _ _ _ _)
      | (with_reducible exact ih3 _ _ _)
      | (with_reducible exact spec_MakNew.mono _ _ _)
      | (with_reducible first | exact LeO.refl _ | exact LeO.none _ | refine LeO.ite ?_ ?_ | refine LeO.bind ?_ (fun _ => ?_)) | exact LeO.none _ | refine LeO.ite ?_ ?_ | refine LeO.bind ?_ (fun _ => ?_)
    · intro y0 y1 y2 y3 y4
      unfold spec_l1Fresh.j2
      repeat' first
      | (with_reducible exact ih0 _ _ _)
      | (with_reducible exact ih1 _ _ _ _)
      | (with_reducible exact ih2 _ _ _ _ _)
      | (with_reducible exact ih3 _ _ _)
      | (with_reducible exact spec_MakNew.mono _ _ _)
      | (with_reducible first | exact LeO.refl _ | exact LeO.none _ | refine LeO.ite ?_ ?_ | refine LeO.bind ?_ (fun _ => ?_)) | exact LeO.none _ | refine LeO.ite ?_ ?_ | refine LeO.bind ?_ (fun _ => ?_)
    intro y0 y1 y2; unfold spec_l1Fresh.j3
    repeat' first
    | (with_reducible exact ih0 _ _ _)
    | (with_reducible exact ih1 _ _ _ _)
    | (with_reducible exact ih2 _ _ _ _ _)
    | (with_reducible exact ih3 _ _ _)
    | (with_reducible exact spec_MakNew.mono _ _ _)
    | (with_reducible first | exact LeO.refl _ | exact LeO.none _ | refine LeO.ite ?_ ?_ | refine LeO.bind ?_ (fun _ => ?_)) | exact LeO.none _ | refine LeO.ite ?_ ?_ | refine LeO.bind ?_ (fun _ => ?_)
theorem spec_l1Fresh.mono : ∀ a0 a1 k, LeO (spec_l1Fresh.f k a0 a1) (spec_l1Fresh.f (k + 1) a0 a1) := by
  intro a0 a1 k; obtain ⟨ih0, ih1, ih2, ih3⟩ := spec_l1Fresh.mono_l k; unfold spec_l1Fresh.f
  repeat' first
      | (with_reducible exact ih0 _ _ _)
      | (with_reducible exact ih1 _ _ _ _)
      | (with_reducible exact ih2 _ _ _ _ _)
      | (with_reducible exact ih3 _ _ _)
      | (with_reducible exact spec_MakNew.mono _ _ _)
      | (with_reducible first | exact LeO.refl _ | exact LeO.none _ | refine LeO.ite ?_ ?_ | refine LeO.bind ?_ (fun _ => ?_)) | exact LeO.none _ | refine LeO.ite ?_ ?_ | refine LeO.bind ?_ (fun _ => ?_)
def spec_l1Fresh.T8 : Bool × List (List Nat × List Nat) := (true, [([], []), ([], []), ([1], [1]), ([0, 2], [0, 2]), ([3], [3]), ([4], [4]), ([4], [4]), ([5, 6, 4], [4, 5, 6]), ([7, 4], [4, 7]), ([4, 8], [4, 8]), ([9, 4], [9]), ([10], [10]), ([10], [10]), ([11, 12, 10], [10, 11, 12]), ([13, 10], [10, 13]), ([14, 10], [10, 14]), ([10], [10]), ([15, 16, 10, 10], [10, 15, 16]), ([10], [10]), ([10], [10]), ([10], [10]), ([20, 10], [10, 20]), ([18, 19, 21, 10], [10, 18, 19, 21]), ([17, 22, 10], [10, 17, 22]), ([10, 23], [10, 23])])
def spec_l1Fresh.B8 : List Nat := [0, 0, 2, 7, 15, 31, 31, 127, 255, 511, 1023, 2047, 2047, 8191, 16383, 32767, 2047, 131071, 2047, 2047, 2047, 1050623, 3934207, 8388607, 16777215]
theorem spec_l1Fresh.tab8 : rtab .any (opsOf Tryz.f108 8) = spec_l1Fresh.T8 := by kernel_rfl
theorem spec_l1Fresh.bits8 : waitsOk spec_l1Fresh.T8.2 spec_l1Fresh.B8 = true := by kernel_rfl
theorem spec_l1Fresh.W {P : Prop} (h : P := by
  go_wp2
  go_meet
  case rel => first | exact ⟨_, (decide (x6_2 < (wrap64 (a1 + 4)))), y4_, H', ⟨by have := HJ2.out; have := HK2.out; first | omega | exact Nat.le_refl _⟩, ⟨y7_ HB.out⟩⟩ | exact ⟨_, (false), y4_, H', ⟨by have := HJ2.out; have := HK2.out; first | omega | exact Nat.le_refl _⟩, ⟨y7_ HB.out⟩⟩ | exact ⟨_, (decide ((bt a0 a1) > 72)), y4_, H', ⟨by first | omega | exact Nat.le_refl _⟩, ⟨y7_ HB.out⟩⟩ | exact ⟨_, (true), y4_, H', ⟨by first | omega | exact Nat.le_refl _⟩, ⟨y7_ HB.out⟩⟩) : P := h
theorem spec_l1Fresh.W1 {P : Prop} (h : P := by
  try go_wp2
  go_meet
  case rel => first | exact ⟨_, ((t155.toList != (a0.extract (a1 : Int).toNat ((wrap64 (x6_2 + 1)) : Int).toNat).toList)), y4_, H', ⟨by have := HJ2.out; have := HK2.out; have := HJ9.out; first | omega | exact Nat.le_refl _⟩, ⟨y7_ HB.out⟩⟩ | exact ⟨_, (true), y4_, H', ⟨by have := HJ2.out; have := HK2.out; have := HJ9.out; first | omega | exact Nat.le_refl _⟩, ⟨y7_ HB.out⟩⟩) : P := h
set_option maxHeartbeats 8000000 in
set_option maxRecDepth 100000 in
theorem spec_l1Fresh.calls {k : Nat} {a0 : ByteArray} {a1 : Int} {r : Int} {w : World} (H : spec_l1Fresh.f k a0 a1 = some r) :
    Calls Tryz.prog 108 #[.string a0, .int .i64 a1] w fun e w' => e = .returned (.int .i64 r) ∧ Below w.heap.size w w' := by
  have HB := am_ (Below.refl w.heap.size w); revert H; unfold spec_l1Fresh.f; refine ai_ fun HC3 => ?_; go_enter Tryz.func108, Tryz.ntmps108
  go_upto_region 1 with (fail)
  go_cut [16] (fun v16 wc => ∃ (kq : Nat) (x16_2 : Bool), v16 = .bool x16_2 ∧ Aside0 (spec_l1Fresh.j0 kq a0 a1 x16_2 = some r) ∧ Aside0 (kq ≤ k) ∧ Aside0 (Below w.heap.size w wc))
  case first =>
    have H := HC3.out; clear HC3; revert H; refine in_ fun c4b0 => ?_
    (first | rw [c4b0] | (simp only [i64_w, i32_w]; rw [c4b0]) | skip); refine in_ fun c5b0 => ?_
    refine it_ ?_ ?_
    · intro c7b0; refine ai_ fun H' => ?_; have p6 : 0 ≤ (a1 : Int) := of_decide_eq_true y3_; have q6 : a1 < (a0.size : Int) := of_decide_eq_true y3_; have hx6 := bt_at a0 a1; replace p6 := eq_true p6; replace q6 := eq_true q6; exact spec_l1Fresh.W
    intro c7b0; refine ai_ fun H' => ?_; have p6 : 0 ≤ (a1 : Int) := of_decide_eq_true y3_; have q6 : a1 < (a0.size : Int) := of_decide_eq_true y3_; have hx6 := bt_at a0 a1; replace p6 := eq_true p6; replace q6 := eq_true q6; have p8 : 0 ≤ (a1 : Int) := of_decide_eq_true y3_; have q8 : a1 < (a0.size : Int) := of_decide_eq_true y3_; have hx8 := bt_at a0 a1; replace p8 := eq_true p8; replace q8 := eq_true q8; exact spec_l1Fresh.W
  case rest =>
    clear HC3; (try clear c4b0); (try clear c5b0); (try clear p6); (try clear q6); (try clear hx6); (try clear c7b0); (try clear p8); (try clear q8); (try clear hx8); (try clear p6); (try clear p8); (try clear q6); (try clear q8); obtain ⟨kq, x16_2, rfl, HA, HJ2, HB⟩ := hcut
    cases kq with
    | zero => exact absurd HA.out (by simp [spec_l1Fresh.j0])
    | succ kj2 =>
      have H := HA.out; clear HA; simp only [spec_l1Fresh.j0] at H; revert H; refine ib_ ?_ ?_
      · rintro rfl; refine oj_ ?_; rintro rfl; go_wp2; go_ret; exact ⟨y6_, y7_ HB.out⟩
      rintro rfl; refine ai_ fun H' => ?_; go_wp2
      go_loopg [5, 6] kj2 (fun kq v5 v6 w' => ∃ (x5_2 : Int) (x6_2 : Int), v5 = .int .i64 x5_2 ∧ v6 = .int .i64 x6_2 ∧ Aside0 (spec_l1Fresh.l0 kq a0 a1 x5_2 x6_2 = some r) ∧ Aside0 (kq ≤ kj2) ∧ Aside0 (Below w.heap.size w w'))
      case atStart => exact ⟨(0), (wrap64 (a1 + 1)), y4_, y4_, H', ⟨Nat.le_refl _⟩, ⟨y7_ HB.out⟩⟩
      case round =>
        clear H'; (try clear c4b0); (try clear c5b0); (try clear p6); (try clear q6); (try clear hx6); (try clear c7b0); (try clear p8); (try clear q8); (try clear hx8); (try clear p6); (try clear p8); (try clear q6); (try clear q8); obtain ⟨x5_2, x6_2, rfl, rfl, HA, HK2, HB⟩ := hrel
        cases gk with
        | zero => exact absurd HA.out (by simp [spec_l1Fresh.l0])
        | succ k2 =>
          have H := HA.out; clear HA; simp only [spec_l1Fresh.l0] at H; revert H; refine ai_ fun HC10 => ?_
          go_upto_region 5 with (fail)
          go_cut [40] (fun v40 wc => ∃ (kq : Nat) (x40_9 : Bool), v40 = .bool x40_9 ∧ Aside0 (spec_l1Fresh.j2 kq a0 a1 x5_2 x6_2 x40_9 = some r) ∧ Aside0 (kq ≤ k2) ∧ Aside0 (Below w.heap.size w wc))
          case first =>
            have H := HC10.out; clear HC10; revert H; refine it_ ?_ ?_
            · intro c11b0; (first | rw [c11b0] | (simp only [i64_w, i32_w]; rw [c11b0]) | skip); refine in_ fun c12b0 => ?_
              refine ith_ ?_ ?_
              · intro c14b0
                refine ai_ fun HH => ?_
                have p13 : 0 ≤ (x6_2 : Int) := of_decide_eq_true y3_; have q13 : x6_2 < (a0.size : Int) := of_decide_eq_true y3_; have hx13 := bt_at a0 x6_2; replace p13 := eq_true p13; replace q13 := eq_true q13; have p15 : 0 ≤ (x6_2 : Int) := of_decide_eq_true y3_; have q15 : x6_2 < (a0.size : Int) := of_decide_eq_true y3_; have hx15 := bt_at a0 x6_2; replace p15 := eq_true p15; replace q15 := eq_true q15
                obtain ⟨H⟩ := HH; revert H; refine it_ ?_ ?_
                · intro c16b0; (try simp only [em_, bne, c16b0, Bool.not_true, Bool.not_false])
                  refine ai_ fun H' => ?_
                  exact spec_l1Fresh.W
                intro c16b0; (try simp only [em_, bne, c16b0, Bool.not_true, Bool.not_false])
                refine ai_ fun H' => ?_
                exact spec_l1Fresh.W
              intro c14b0; refine ai_ fun H' => ?_; have p13 : 0 ≤ (x6_2 : Int) := of_decide_eq_true y3_; have q13 : x6_2 < (a0.size : Int) := of_decide_eq_true y3_; have hx13 := bt_at a0 x6_2; replace p13 := eq_true p13; replace q13 := eq_true q13; exact spec_l1Fresh.W
            intro c11b0; (first | rw [c11b0] | (simp only [i64_w, i32_w]; rw [c11b0]) | skip); refine ai_ fun H' => ?_; exact spec_l1Fresh.W
          case rest =>
            clear HC10; (try clear c4b0); (try clear c5b0); (try clear p6); (try clear q6); (try clear hx6); (try clear c7b0); (try clear p8); (try clear q8); (try clear hx8); (try clear c11b0); (try clear c12b0); (try clear p13); (try clear q13); (try clear hx13); (try clear c14b0); (try clear p15); (try clear q15); (try clear hx15); (try clear c16b0); (try clear p13); (try clear p15); (try clear p6); (try clear p8); (try clear q13); (try clear q15); (try clear q6); (try clear q8); obtain ⟨kq, x40_9, rfl, HA, HJ9, HB⟩ := hcut
            cases kq with
            | zero => exact absurd HA.out (by simp [spec_l1Fresh.j2])
            | succ kj9 =>
              have H := HA.out; clear HA; simp only [spec_l1Fresh.j2] at H; revert H; refine ib_ ?_ ?_
              · rintro rfl
                refine in_ fun c18b0 => ?_
                refine in_ fun c19b0 => ?_
                refine ai_ fun H' => ?_; have p20 : 0 ≤ (x6_2 : Int) := of_decide_eq_true y3_; have q20 : x6_2 < (a0.size : Int) := of_decide_eq_true y3_; have hx20 := bt_at a0 x6_2; replace p20 := eq_true p20; replace q20 := eq_true q20; go_wp2
                go_roundg kj9
                case measure => have := HJ2.out; have := HK2.out; have := HJ9.out; omega
                case rel => exact ⟨(wrap64 ((wrap64 (x5_2 * 10)) + (((bt a0 x6_2) - 48) % 256))), (wrap64 (x6_2 + 1)), y4_, y4_, H', ⟨by have := HJ2.out; have := HK2.out; have := HJ9.out; omega⟩, ⟨y7_ HB.out⟩⟩
              rintro rfl; refine ai_ fun HC21 => ?_
              go_upto_region 8 with (fail)
              go_cut [75] (fun v75 wc => ∃ (kq : Nat) (x75_20 : Bool), v75 = .bool x75_20 ∧ Aside0 (spec_l1Fresh.j3 kq a1 x6_2 x75_20 = some r) ∧ Aside0 (kq ≤ kj9) ∧ Aside0 (Below w.heap.size w wc))
              case first =>
                have H := HC21.out; clear HC21; revert H; refine ith_ ?_ ?_
                · intro c22b0; (first | rw [c22b0] | (simp only [i64_w, i32_w]; rw [c22b0]) | skip); refine ai_ fun H' => ?_
                  try go_wp2
                  replace HB := am_ (below_drew1 HB.out); refine start_ (n := 25) (S := fun w' => True) (ds := []) #[false, false, false, false, false, false, false, false, false, false, false, false, false, false, false, false, false, false, false, false, false, false, false, false, false] (by kernel_rfl) rfl rfl trivial (fun hHeld => ?_); refine with_tabW spec_l1Fresh.tab8 spec_l1Fresh.bits8 (fun HT_ HW_ => ?_); generalize wc.drew = w23 at HB hHeld ⊢; refine pI_ 0 51 (bs_ 25 1) ?_; refine pI_ 1 52 (bs_ 25 3) ?_; refine pI_ 2 53 (bs_ 25 7) ?_; refine pI_ 3 54 (bs_ 25 15) ?_; refine pI_ 4 55 (bs_ 25 31) ?_; refine pZ_ 5 56 (bs_ 25 63) ?_; refine pZ_ 6 57 (bs_ 25 127) ?_; refine pZ_ 7 58 (bs_ 25 255) ?_; refine pZ_ 8 59 (bs_ 25 511) ?_; refine pI_ 9 60 (bs_ 25 1023) ?_; refine pI_ 10 61 (bs_ 25 2047) ?_; refine pZ_ 11 62 (bs_ 25 4095) ?_; refine pZ_ 12 63 (bs_ 25 8191) ?_; refine pZ_ 13 64 (bs_ 25 16383) ?_; refine pZ_ 14 65 (bs_ 25 32767) ?_; refine pZ_ 15 66 (bs_ 25 65535) ?_; refine pZ_ 16 67 (bs_ 25 131071) ?_; refine pZ_ 17 68 (bs_ 25 262143) ?_; refine pZ_ 18 69 (bs_ 25 524287) ?_; refine pZ_ 19 70 (bs_ 25 1048575) ?_; refine pZ_ 20 71 (bs_ 25 2097151) ?_; refine pZ_ 21 72 (bs_ 25 4194303) ?_; refine pZ_ 22 73 (bs_ 25 8388607) ?_; refine pZ_ 23 74 (bs_ 25 16777215) ?_; refine pI_ 24 75 (bs_ 25 33554431) ?_; refine done_ (done_of HT_.out (by kernel_rfl)) ?_
                  exact spec_l1Fresh.W1
                intro c22b0; (first | rw [c22b0] | (simp only [i64_w, i32_w]; rw [c22b0]) | skip); refine in_ fun c24b0 => ?_
                refine in_ fun c25b0 => ?_
                refine ie2_ ?_ ?_
                · intro c27b0 c27b1
                  refine in_ fun c28b0 => ?_
                  refine in_ fun c29b0 => ?_
                  refine oc_ fun t155 A31 => ?_; have c32b0 := eq_true (of_decide_eq_true y3_ : 0 ≤ a1); refine il1_ fun c33 c33b0 c33b1 => ?_
                  refine il1_ fun c34 c34b0 c34b1 => ?_
                  refine ai_ fun H' => ?_
                  try go_wp2
                  replace HB := am_ (below_drew1 HB.out); have p26 : 0 ≤ (x6_2 : Int) := of_decide_eq_true y3_; have q26 : x6_2 < (a0.size : Int) := of_decide_eq_true y3_; have hx26 := bt_at a0 x6_2; replace p26 := eq_true p26; replace q26 := eq_true q26; have p30 : 0 ≤ (a1 : Int) := of_decide_eq_true y3_; have q30 : a1 < (a0.size : Int) := of_decide_eq_true y3_; have hx30 := bt_at a0 a1; replace p30 := eq_true p30; replace q30 := eq_true q30; refine start_ (n := 25) (S := fun w' => True) (ds := []) #[false, false, false, false, false, false, false, false, false, false, false, false, false, false, false, false, false, false, false, false, false, false, false, false, false] (by kernel_rfl) rfl rfl trivial (fun hHeld => ?_); refine with_tabW spec_l1Fresh.tab8 spec_l1Fresh.bits8 (fun HT_ HW_ => ?_); generalize wc.drew = w35 at HB hHeld ⊢; refine pI_ 0 51 (bs_ 25 1) ?_; refine pI_ 1 52 (bs_ 25 3) ?_; refine pI_ 2 53 (bs_ 25 7) ?_; refine pI_ 3 54 (bs_ 25 15) ?_; refine pI_ 4 55 (bs_ 25 31) ?_; refine pI_ 5 56 (bs_ 25 63) ?_; refine pI_ 6 57 (bs_ 25 127) ?_; refine pT_ 7 58 (bs_ 25 255) ?_; refine pI_ 8 59 (bs_ 25 511) ?_; refine pI_ 9 60 (bs_ 25 1023) ?_; refine pI_ 10 61 (bs_ 25 2047) ?_; refine pI_ 11 62 (bs_ 25 4095) ?_; refine pI_ 12 63 (bs_ 25 8191) ?_; refine pI_ 16 67 (bs_ 25 73727) ?_; refine pI_ 18 69 (bs_ 25 335871) ?_; refine pI_ 19 70 (bs_ 25 860159) ?_; refine pI_ 20 71 (bs_ 25 1908735) ?_; refine pI_ 21 72 (bs_ 25 4005887) ?_; refine pI_ 22 73 (bs_ 25 8200191) ?_; refine pT_ 13 64 (bs_ 25 8208383) ?_; refine pI_ 14 65 (bs_ 25 8224767) ?_; refine pI_ 15 66 (bs_ 25 8257535) ?_; refine oN_ 17 68 (bs_ 25 8388607) (fun K hK => ?_); refine gs_ (spec_MakNew.calls A31.out) ?_
                  rintro e w36 ⟨rfl, hb⟩; refine ⟨_, rfl, ?_⟩; replace HB := st_ (y7_ HB.out) hb; clear hb; refine hK.out _ _ trivial (fun hHeld => ?_); clear hK K; refine nm_ ?_
                  refine pI_ 23 74 (bs_ 25 16777215) ?_; refine pI_ 24 75 (bs_ 25 33554431) ?_; refine done_ (done_of HT_.out (by kernel_rfl)) ?_
                  exact spec_l1Fresh.W1
                intro c27 c27b0 c27b1; refine ai_ fun H' => ?_
                try go_wp2
                replace HB := am_ (below_drew1 HB.out); have p26 : 0 ≤ (x6_2 : Int) := of_decide_eq_true y3_; have q26 : x6_2 < (a0.size : Int) := of_decide_eq_true y3_; have hx26 := bt_at a0 x6_2; replace p26 := eq_true p26; replace q26 := eq_true q26; refine start_ (n := 25) (S := fun w' => True) (ds := []) #[false, false, false, false, false, false, false, false, false, false, false, false, false, false, false, false, false, false, false, false, false, false, false, false, false] (by kernel_rfl) rfl rfl trivial (fun hHeld => ?_); refine with_tabW spec_l1Fresh.tab8 spec_l1Fresh.bits8 (fun HT_ HW_ => ?_); generalize wc.drew = w37 at HB hHeld ⊢; refine pI_ 0 51 (bs_ 25 1) ?_; refine pI_ 1 52 (bs_ 25 3) ?_; refine pI_ 2 53 (bs_ 25 7) ?_; refine pI_ 3 54 (bs_ 25 15) ?_; refine pI_ 4 55 (bs_ 25 31) ?_; refine pI_ 5 56 (bs_ 25 63) ?_; refine pI_ 6 57 (bs_ 25 127) ?_; refine pT_ 7 58 (bs_ 25 255) ?_; refine pI_ 8 59 (bs_ 25 511) ?_; refine pI_ 9 60 (bs_ 25 1023) ?_; refine pI_ 10 61 (bs_ 25 2047) ?_; refine pZ_ 11 62 (bs_ 25 4095) ?_; refine pZ_ 12 63 (bs_ 25 8191) ?_; refine pZ_ 13 64 (bs_ 25 16383) ?_; refine pZ_ 14 65 (bs_ 25 32767) ?_; refine pZ_ 15 66 (bs_ 25 65535) ?_; refine pZ_ 16 67 (bs_ 25 131071) ?_; refine pZ_ 17 68 (bs_ 25 262143) ?_; refine pZ_ 18 69 (bs_ 25 524287) ?_; refine pZ_ 19 70 (bs_ 25 1048575) ?_; refine pZ_ 20 71 (bs_ 25 2097151) ?_; refine pZ_ 21 72 (bs_ 25 4194303) ?_; refine pZ_ 22 73 (bs_ 25 8388607) ?_; refine pZ_ 23 74 (bs_ 25 16777215) ?_; refine pI_ 24 75 (bs_ 25 33554431) ?_; refine done_ (done_of HT_.out (by kernel_rfl)) ?_
                exact spec_l1Fresh.W1
              case rest =>
                clear HC21; (try clear p6); (try clear c22b0); (try clear c24b0); (try clear c25b0); (try clear p26); (try clear q26); (try clear hx26); (try clear c27); (try clear c27b0); (try clear c27b1); (try clear c28b0); (try clear c29b0); (try clear p30); (try clear q30); (try clear hx30); (try clear c32b0); (try clear c33); (try clear c33b0); (try clear c33b1); (try clear c34); (try clear c34b0); (try clear c34b1); (try clear p26); (try clear p30); (try clear q26); (try clear q30); obtain ⟨kq, x75_20, rfl, HA, HJ20, HB⟩ := hcut
                cases kq with
                | zero => exact absurd HA.out (by simp [spec_l1Fresh.j3])
                | succ kj20 =>
                  have H := HA.out; clear HA; simp only [spec_l1Fresh.j3] at H; revert H; refine ib_ ?_ ?_
                  · rintro rfl; refine oj_ ?_; rintro rfl; go_wp2; go_ret; exact ⟨y6_, y7_ HB.out⟩
                  rintro rfl; refine oj_ ?_; rintro rfl; go_wp2; go_ret; exact ⟨y6_, y7_ HB.out⟩

end Go.Proofs.YtnemchmiplbopaaGreatDoor.Zj
