-- Written by this session's own program (wip/tools/pp.py) out of the translation, over functions given by hand. Lean checks it.
import Derived.Test.YtnemchmiplbopaaGreatDoorZjx0
import Derived.Test.YtnemchmiplbopaaGreatDoorZjx3
import Derived.Test.YtnemchmiplbopaaGreatDoorZjx5
namespace Go.Proofs.YtnemchmiplbopaaGreatDoor.Zj
open Go.RowKit Go.Proofs.YtnemchmiplbopaaGreatDoorW.PrintWords Go.Proofs.YtnemchmiplbopaaGreatDoorW.PrintLast Go.Proofs.YtnemchmiplbopaaGreatDoorW.PrintMore
attribute [local go_sem] max2_int min2_int max_two min_two max_three min_three max_four min_four   -- for this text's walks alone
set_option linter.unusedVariables false
set_option linter.unusedSimpArgs false

/-! ### spec_l1Size: function 77 -/
mutual
def spec_l1Size.j0 : Nat → ByteArray → Int → Int → Bool → Option (Int)
  | 0, _, _, _, _ => none
  | k + 1, x0, x1, x5, x14 => if x14 = true then ((spec_l1Size.f k x0 (wrap64 (x1 + 1))).bind fun t156 => ((spec_l1More.f 1 t156).bind fun t157 => (some t157))) else (if x5 = 109 then (if (wrap64 (x1 + 1)) ≥ (x0.size : Int) then (spec_l1Size.j1 k x0 x1 true) else (if 0 ≤ (wrap64 (x1 + 1)) then (if (wrap64 (x1 + 1)) < (x0.size : Int) then (if (bt x0 (wrap64 (x1 + 1))) < 65 then (spec_l1Size.j1 k x0 x1 true) else (spec_l1Size.j1 k x0 x1 (decide ((bt x0 (wrap64 (x1 + 1))) > 72)))) else (none)) else (none))) else (if x5 = 114 then (if (wrap64 (x1 + 1)) ≥ (x0.size : Int) then (spec_l1Size.j2 k x0 x1 true) else (if 0 ≤ (wrap64 (x1 + 1)) then (if (wrap64 (x1 + 1)) < (x0.size : Int) then (if (bt x0 (wrap64 (x1 + 1))) < 49 then (spec_l1Size.j2 k x0 x1 true) else (spec_l1Size.j2 k x0 x1 (decide ((bt x0 (wrap64 (x1 + 1))) > 57)))) else (none)) else (none))) else (if x5 = 101 then ((spec_l1Size.f k x0 (wrap64 (x1 + 1))).bind fun t162 => (if t162 = 0 then (some 0) else ((spec_l1Size.f k x0 (wrap64 ((wrap64 (x1 + 1)) + t162))).bind fun t163 => ((spec_l1More.f (wrap64 (1 + t162)) t163).bind fun t164 => (some t164))))) else ((spec_l1Fresh.f k x0 x1).bind fun t165 => (some t165)))))
def spec_l1Size.j1 : Nat → ByteArray → Int → Bool → Option (Int)
  | 0, _, _, _ => none
  | k + 1, x0, x1, x47 => if x47 = true then (some 0) else ((spec_l1Size.f k x0 (wrap64 (x1 + 2))).bind fun t158 => ((spec_l1More.f 2 t158).bind fun t159 => (some t159)))
def spec_l1Size.j2 : Nat → ByteArray → Int → Bool → Option (Int)
  | 0, _, _, _ => none
  | k + 1, x0, x1, x74 => if x74 = true then (some 0) else ((spec_l1Size.f k x0 (wrap64 (x1 + 2))).bind fun t160 => ((spec_l1More.f 2 t160).bind fun t161 => (some t161)))
def spec_l1Size.f : Nat → ByteArray → Int → Option (Int)
  | 0, _, _ => none
  | k + 1, a0, a1 => if a1 ≥ (a0.size : Int) then (some 0) else (if 0 ≤ a1 then (if a1 < (a0.size : Int) then (if (bt a0 a1) = 110 then (spec_l1Size.j0 k a0 a1 (bt a0 a1) true) else (spec_l1Size.j0 k a0 a1 (bt a0 a1) ((bt a0 a1) == 107))) else (none)) else (none))
end
theorem spec_l1Size.mono_l : ∀ k, (∀ y0 y1, LeO (spec_l1Size.f k y0 y1) (spec_l1Size.f (k + 1) y0 y1)) ∧ (∀ y0 y1 y2 y3, LeO (spec_l1Size.j0 k y0 y1 y2 y3) (spec_l1Size.j0 (k + 1) y0 y1 y2 y3)) ∧ (∀ y0 y1 y2, LeO (spec_l1Size.j1 k y0 y1 y2) (spec_l1Size.j1 (k + 1) y0 y1 y2)) ∧ (∀ y0 y1 y2, LeO (spec_l1Size.j2 k y0 y1 y2) (spec_l1Size.j2 (k + 1) y0 y1 y2))
  | 0 => ⟨fun _ _ r h => by simp [spec_l1Size.f] at h, fun _ _ _ _ r h => by simp [spec_l1Size.j0] at h, fun _ _ _ r h => by simp [spec_l1Size.j1] at h, fun _ _ _ r h => by simp [spec_l1Size.j2] at h⟩
  | k + 1 => by
    obtain ⟨ih0, ih1, ih2, ih3⟩ := spec_l1Size.mono_l k; refine ⟨?_, ?_, ?_, ?_⟩
    · intro y0 y1
      unfold spec_l1Size.f
      repeat' first
      | (with_reducible exact ih0 _ _)
      | (with_reducible exact ih1 _ _ _ _)
      | (with_reducible exact ih2 _ _ _)
      | (with_reducible exact ih3 _ _ _)
      | (with_reducible exact spec_l1Fresh.mono _ _ _)
      | (with_reducible first | exact LeO.refl _ | exact LeO.none _ | refine LeO.ite ?_ ?_ | refine LeO.bind ?_ (fun _ => ?_)) | exact LeO.none _ | refine LeO.ite ?_ ?_ | refine LeO.bind ?_ (fun _ => ?_)
    · intro y0 y1 y2 y3
      unfold spec_l1Size.j0
      repeat' first
      | (with_reducible exact ih0 _ _)
      | (with_reducible exact ih1 _ _ _ _)
      | (with_reducible exact ih2 _ _ _)
      | (with_reducible exact ih3 _ _ _)
      | (with_reducible exact spec_l1Fresh.mono _ _ _)
      | (with_reducible first | exact LeO.refl _ | exact LeO.none _ | refine LeO.ite ?_ ?_ | refine LeO.bind ?_ (fun _ => ?_)) | exact LeO.none _ | refine LeO.ite ?_ ?_ | refine LeO.bind ?_ (fun _ => ?_)
    · intro y0 y1 y2
      unfold spec_l1Size.j1
      repeat' first
      | (with_reducible exact ih0 _ _)
      | (with_reducible exact ih1 _ _ _ _)
      | (with_reducible exact ih2 _ _ _)
      | (with_reducible exact ih3 _ _ _)
      | (with_reducible exact spec_l1Fresh.mono _ _ _)
      | (with_reducible first | exact LeO.refl _ | exact LeO.none _ | refine LeO.ite ?_ ?_ | refine LeO.bind ?_ (fun _ => ?_)) | exact LeO.none _ | refine LeO.ite ?_ ?_ | refine LeO.bind ?_ (fun _ => ?_)
    intro y0 y1 y2; unfold spec_l1Size.j2
    repeat' first
    | (with_reducible exact ih0 _ _)
    | (with_reducible exact ih1 _ _ _ _)
    | (with_reducible exact ih2 _ _ _)
    | (with_reducible exact ih3 _ _ _)
    | (with_reducible exact spec_l1Fresh.mono _ _ _)
    | (with_reducible first | exact LeO.refl _ | exact LeO.none _ | refine LeO.ite ?_ ?_ | refine LeO.bind ?_ (fun _ => ?_)) | exact LeO.none _ | refine LeO.ite ?_ ?_ | refine LeO.bind ?_ (fun _ => ?_)
theorem spec_l1Size.mono : ∀ a0 a1 k, LeO (spec_l1Size.f k a0 a1) (spec_l1Size.f (k + 1) a0 a1) := by
  intro a0 a1 k; obtain ⟨ih0, ih1, ih2, ih3⟩ := spec_l1Size.mono_l k; exact ih0 a0 a1
theorem spec_l1Size.W {P : Prop} (h : P := by
  go_wp2
  go_meet
  case rel => first | exact ⟨_, (decide ((bt a0 (ji16)) > 72)), (by first | rfl | (simp; done) | (simp only [← hji16] <;> (first | rfl | simp)) | (simp [*]; done)), H', ⟨by have := HJ6.out; first | omega | exact Nat.le_refl _⟩, ⟨y7_ HB.out⟩⟩ | exact ⟨_, (decide ((bt a0 (ji29)) > 57)), (by first | rfl | (simp; done) | (simp only [← hji29] <;> (first | rfl | simp)) | (simp [*]; done)), H', ⟨by have := HJ6.out; first | omega | exact Nat.le_refl _⟩, ⟨y7_ HB.out⟩⟩ | exact ⟨_, (true), y4_, H', ⟨by have := HJ6.out; first | omega | exact Nat.le_refl _⟩, ⟨y7_ HB.out⟩⟩ | exact ⟨_, (((bt a0 a1) == 107)), y4_, H', ⟨by first | omega | exact Nat.le_refl _⟩, ⟨y7_ HB.out⟩⟩ | exact ⟨_, (true), y4_, H', ⟨by first | omega | exact Nat.le_refl _⟩, ⟨y7_ HB.out⟩⟩) : P := h
theorem spec_l1Size.W1 {P : Prop} (h : P := by
  go_wp2_with ((with_reducible refine gl_ ?_); first | ((with_reducible refine gf_ 108 100 rfl rfl ?_); refine gb_ (spec_l1Fresh.calls A47.out) ?_; intro w_ hb; replace HB := st_ (y7_ HB.out) hb; clear hb) | ((with_reducible refine gf_ 77 78 rfl rfl ?_); refine gb_ (ih kj26 (by have := HJ6.out; have := HJ26.out; omega) a0 (wrap64 (a1 + 2)) t160 _ A36.out) ?_; intro w_ hb; replace HB := st_ (y7_ HB.out) hb; clear hb) | ((with_reducible refine gf_ 107 79 rfl rfl ?_); refine gd_ (spec_l1More.calls A37.out) ?_; intro nd) | ((with_reducible refine gf_ 77 51 rfl rfl ?_); refine gb_ (ih kj13 (by have := HJ6.out; have := HJ13.out; omega) a0 (wrap64 (a1 + 2)) t158 _ A23.out) ?_; intro w_ hb; replace HB := st_ (y7_ HB.out) hb; clear hb) | ((with_reducible refine gf_ 107 52 rfl rfl ?_); refine gd_ (spec_l1More.calls A24.out) ?_; intro nd) | ((with_reducible refine gf_ 77 24 rfl rfl ?_); refine gb_ (ih kj6 (by have := HJ6.out; omega) a0 (wrap64 (a1 + 1)) t156 _ A10.out) ?_; intro w_ hb; replace HB := st_ (y7_ HB.out) hb; clear hb) | ((with_reducible refine gf_ 107 25 rfl rfl ?_); refine gd_ (spec_l1More.calls A11.out) ?_; intro nd) | ((with_reducible refine gf_ 77 86 rfl rfl ?_); refine gb_ (ih kj6 (by have := HJ6.out; omega) a0 (wrap64 (a1 + 1)) t162 _ A40.out) ?_; intro w_ hb; replace HB := st_ (y7_ HB.out) hb; clear hb) | ((with_reducible refine gf_ 77 96 rfl rfl ?_); refine gb_ (ih kj6 (by have := HJ6.out; omega) a0 (wrap64 ((wrap64 (a1 + 1)) + t162)) t163 _ A43.out) ?_; intro w_ hb; replace HB := st_ (y7_ HB.out) hb; clear hb) | ((with_reducible refine gf_ 107 97 rfl rfl ?_); refine gd_ (spec_l1More.calls A44.out) ?_; intro nd))
  go_ret
  exact ⟨y6_, y7_ HB.out⟩) : P := h
set_option maxHeartbeats 8000000 in
set_option maxRecDepth 100000 in
theorem spec_l1Size.calls (k : Nat) : ∀ (a0 : ByteArray) (a1 : Int) (r : Int) (w : World) (h : spec_l1Size.f k a0 a1 = some r),
    Calls Tryz.prog 77 #[.string a0, .int .i64 a1] w fun e w' => e = .returned (.int .i64 r) ∧ Below w.heap.size w w' := by
  induction k using Nat.strongRecOn with
  | _ k ih =>
  intro a0 a1 r w h
  cases k with
  | zero => exact absurd h (by simp [spec_l1Size.f])
  | succ k =>
  simp only [spec_l1Size.f] at h; have HB := am_ (Below.refl w.heap.size w); revert h; refine ith_ ?_ ?_
  · intro c3b0; refine oj_ ?_; rintro rfl; go_enter Tryz.func77, Tryz.ntmps77; go_wp2; go_ret; exact ⟨y6_, y7_ HB.out⟩
  intro c3b0
  refine in_ fun c4b0 => ?_
  refine in_ fun c5b0 => ?_
  refine ai_ fun HC7 => ?_; have p6 : 0 ≤ (a1 : Int) := of_decide_eq_true y3_; have q6 : a1 < (a0.size : Int) := of_decide_eq_true y3_; have hx6 := bt_at a0 a1; replace p6 := eq_true p6; replace q6 := eq_true q6; go_enter Tryz.func77, Tryz.ntmps77
  go_upto_region 4 with (fail)
  go_cut [14] (fun v14 wc => ∃ (kq : Nat) (x14_6 : Bool), v14 = .bool x14_6 ∧ Aside0 (spec_l1Size.j0 kq a0 a1 (bt a0 a1) x14_6 = some r) ∧ Aside0 (kq ≤ k) ∧ Aside0 (Below w.heap.size w wc))
  case first =>
    have H := HC7.out; clear HC7; revert H; refine ie2_ ?_ ?_
    · intro c8b0 c8b1; (first | rw [c8b0] | (simp only [i64_w, i32_w]; rw [c8b0]) | skip); refine ai_ fun H' => ?_; exact spec_l1Size.W
    intro c8 c8b0 c8b1; (first | rw [c8b0] | (simp only [i64_w, i32_w]; rw [c8b0]) | skip); refine ai_ fun H' => ?_; exact spec_l1Size.W
  case rest =>
    clear HC7; (try clear c3b0); (try clear c4b0); (try clear c5b0); (try clear p6); (try clear q6); (try clear hx6); (try clear c8); (try clear c8b0); (try clear c8b1); (try clear p6); (try clear q6); obtain ⟨kq, x14_6, rfl, HA, HJ6, HB⟩ := hcut
    cases kq with
    | zero => exact absurd HA.out (by simp [spec_l1Size.j0])
    | succ kj6 =>
      have H := HA.out; clear HA; simp only [spec_l1Size.j0] at H; revert H; refine ib_ ?_ ?_
      · rintro rfl; refine oc_ fun t156 A10 => ?_; refine oc_ fun t157 A11 => ?_; refine oj_ ?_; rintro rfl; exact spec_l1Size.W1
      rintro rfl
      refine ie2_ ?_ ?_
      · intro c13b0 c13b1; refine ai_ fun HC14 => ?_
        go_upto_region 7 with (fail)
        go_cut [47] (fun v47 wc => ∃ (kq : Nat) (x47_13 : Bool), v47 = .bool x47_13 ∧ Aside0 (spec_l1Size.j1 kq a0 a1 x47_13 = some r) ∧ Aside0 (kq ≤ kj6) ∧ Aside0 (Below w.heap.size w wc))
        case first =>
          have H := HC14.out; clear HC14; revert H; refine ith_ ?_ ?_
          · intro c15b0; (first | rw [c15b0] | (simp only [i64_w, i32_w]; rw [c15b0]) | skip); refine ai_ fun H' => ?_; exact spec_l1Size.W
          intro c15b0; (first | rw [c15b0] | (simp only [i64_w, i32_w]; rw [c15b0]) | skip)
          obtain ⟨ji16, hji16⟩ : ∃ j_ : Int, (wrap64 (a1 + 1)) = j_ := ⟨_, rfl⟩
          intro H; rw [hji16] at H; revert H
          (try rw [hji16] at c15b0); have hji16w : (IntKind.i64.wrap (a1 + 1)) = ji16 := (i64_w _).trans hji16; refine in_ fun c17b0 => ?_
          refine in_ fun c18b0 => ?_
          refine it_ ?_ ?_
          · intro c20b0; refine ai_ fun H' => ?_; have p19 : 0 ≤ ((ji16) : Int) := of_decide_eq_true y3_; have q19 : (ji16) < (a0.size : Int) := of_decide_eq_true y3_; have hx19 := bt_at a0 (ji16); replace p19 := eq_true p19; replace q19 := eq_true q19; exact spec_l1Size.W
          intro c20b0; refine ai_ fun H' => ?_; have p19 : 0 ≤ ((ji16) : Int) := of_decide_eq_true y3_; have q19 : (ji16) < (a0.size : Int) := of_decide_eq_true y3_; have hx19 := bt_at a0 (ji16); replace p19 := eq_true p19; replace q19 := eq_true q19; have p21 : 0 ≤ ((ji16) : Int) := of_decide_eq_true y3_; have q21 : (ji16) < (a0.size : Int) := of_decide_eq_true y3_; have hx21 := bt_at a0 (ji16); replace p21 := eq_true p21; replace q21 := eq_true q21; exact spec_l1Size.W
        case rest =>
          clear HC14; (try clear c3b0); (try clear c4b0); (try clear c5b0); (try clear p6); (try clear q6); (try clear hx6); (try clear c8); (try clear c8b0); (try clear c8b1); (try clear c13); (try clear c13b0); (try clear c13b1); (try clear c15b0); (try clear c17b0); (try clear c18b0); (try clear p19); (try clear q19); (try clear hx19); (try clear c20b0); (try clear p21); (try clear q21); (try clear hx21); (try clear p19); (try clear p21); (try clear p6); (try clear q19); (try clear q21); (try clear q6); obtain ⟨kq, x47_13, rfl, HA, HJ13, HB⟩ := hcut
          cases kq with
          | zero => exact absurd HA.out (by simp [spec_l1Size.j1])
          | succ kj13 =>
            have H := HA.out; clear HA; simp only [spec_l1Size.j1] at H; revert H; refine ib_ ?_ ?_
            · rintro rfl; refine oj_ ?_; rintro rfl; go_wp2; go_ret; exact ⟨y6_, y7_ HB.out⟩
            rintro rfl; refine oc_ fun t158 A23 => ?_; refine oc_ fun t159 A24 => ?_; refine oj_ ?_; rintro rfl; exact spec_l1Size.W1
      intro c13 c13b0 c13b1
      refine ie2_ ?_ ?_
      · intro c26b0 c26b1; refine ai_ fun HC27 => ?_
        go_upto_region 11 with (fail)
        go_cut [74] (fun v74 wc => ∃ (kq : Nat) (x74_26 : Bool), v74 = .bool x74_26 ∧ Aside0 (spec_l1Size.j2 kq a0 a1 x74_26 = some r) ∧ Aside0 (kq ≤ kj6) ∧ Aside0 (Below w.heap.size w wc))
        case first =>
          have H := HC27.out; clear HC27; revert H; refine ith_ ?_ ?_
          · intro c28b0; (first | rw [c28b0] | (simp only [i64_w, i32_w]; rw [c28b0]) | skip); refine ai_ fun H' => ?_; exact spec_l1Size.W
          intro c28b0; (first | rw [c28b0] | (simp only [i64_w, i32_w]; rw [c28b0]) | skip)
          obtain ⟨ji29, hji29⟩ : ∃ j_ : Int, (wrap64 (a1 + 1)) = j_ := ⟨_, rfl⟩
          intro H; rw [hji29] at H; revert H
          (try rw [hji29] at c28b0); have hji29w : (IntKind.i64.wrap (a1 + 1)) = ji29 := (i64_w _).trans hji29; refine in_ fun c30b0 => ?_
          refine in_ fun c31b0 => ?_
          refine it_ ?_ ?_
          · intro c33b0; refine ai_ fun H' => ?_; have p32 : 0 ≤ ((ji29) : Int) := of_decide_eq_true y3_; have q32 : (ji29) < (a0.size : Int) := of_decide_eq_true y3_; have hx32 := bt_at a0 (ji29); replace p32 := eq_true p32; replace q32 := eq_true q32; exact spec_l1Size.W
          intro c33b0; refine ai_ fun H' => ?_; have p32 : 0 ≤ ((ji29) : Int) := of_decide_eq_true y3_; have q32 : (ji29) < (a0.size : Int) := of_decide_eq_true y3_; have hx32 := bt_at a0 (ji29); replace p32 := eq_true p32; replace q32 := eq_true q32; have p34 : 0 ≤ ((ji29) : Int) := of_decide_eq_true y3_; have q34 : (ji29) < (a0.size : Int) := of_decide_eq_true y3_; have hx34 := bt_at a0 (ji29); replace p34 := eq_true p34; replace q34 := eq_true q34; exact spec_l1Size.W
        case rest =>
          clear HC27; (try clear c3b0); (try clear c4b0); (try clear c5b0); (try clear p6); (try clear q6); (try clear hx6); (try clear c8); (try clear c8b0); (try clear c8b1); (try clear c13); (try clear c13b0); (try clear c13b1); (try clear c15b0); (try clear c17b0); (try clear c18b0); (try clear p19); (try clear q19); (try clear hx19); (try clear c20b0); (try clear p21); (try clear q21); (try clear hx21); (try clear c26); (try clear c26b0); (try clear c26b1); (try clear c28b0); (try clear c30b0); (try clear c31b0); (try clear p32); (try clear q32); (try clear hx32); (try clear c33b0); (try clear p34); (try clear q34); (try clear hx34); (try clear p19); (try clear p21); (try clear p32); (try clear p34); (try clear p6); (try clear q19); (try clear q21); (try clear q32); (try clear q34); (try clear q6); obtain ⟨kq, x74_26, rfl, HA, HJ26, HB⟩ := hcut
          cases kq with
          | zero => exact absurd HA.out (by simp [spec_l1Size.j2])
          | succ kj26 =>
            have H := HA.out; clear HA; simp only [spec_l1Size.j2] at H; revert H; refine ib_ ?_ ?_
            · rintro rfl; refine oj_ ?_; rintro rfl; go_wp2; go_ret; exact ⟨y6_, y7_ HB.out⟩
            rintro rfl; refine oc_ fun t160 A36 => ?_; refine oc_ fun t161 A37 => ?_; refine oj_ ?_; rintro rfl; exact spec_l1Size.W1
      intro c26 c26b0 c26b1
      refine ie2_ ?_ ?_
      · intro c39b0 c39b1
        refine oc_ fun t162 A40 => ?_; refine ie2_ ?_ ?_
        · intro c41b0 c41b1; refine oj_ ?_; rintro rfl; exact spec_l1Size.W1
        intro c41 c41b0 c41b1; refine oc_ fun t163 A43 => ?_; refine oc_ fun t164 A44 => ?_; refine oj_ ?_; rintro rfl; exact spec_l1Size.W1
      intro c39 c39b0 c39b1; refine oc_ fun t165 A47 => ?_; refine oj_ ?_; rintro rfl; exact spec_l1Size.W1

/-! ### spec_SecOk: function 30 -/
def spec_SecOk.f (k : Nat) (a0 : ByteArray) : Option (Bool) := if a0.toList = ([] : List UInt8) then (some false) else (if (a0.size : Int) ≤ 300 then ((spec_l1Size.f k a0 0).bind fun t166 => (some (t166 == (a0.size : Int)))) else (some false))
set_option maxHeartbeats 8000000 in
set_option maxRecDepth 100000 in
theorem spec_SecOk.calls {k : Nat} {a0 : ByteArray} {r : Bool} {w : World} (H : spec_SecOk.f k a0 = some r) :
    Calls Tryz.prog 30 #[.string a0] w fun e w' => e = .returned (.bool r) ∧ Below w.heap.size w w' := by
  have HB := am_ (Below.refl w.heap.size w); revert H; unfold spec_SecOk.f; refine ie2_ ?_ ?_
  · intro c2b0 c2b1; refine oj_ ?_; rintro rfl; go_enter Tryz.func30, Tryz.ntmps30; go_wp2; go_ret; exact ⟨y6_, y7_ HB.out⟩
  intro c2 c2b0 c2b1
  refine it3_ ?_ ?_
  · intro c3 c3b0; have c3b1 : decide (a0.size ≤ 300) = true := decide_eq_true (by omega); clear c3; refine oc_ fun t166 A4 => ?_; refine oj_ ?_; rintro rfl; go_enter Tryz.func30, Tryz.ntmps30; go_wp2_with (first | (go_at_call 77; (with_reducible refine (spec_l1Size.calls k a0 0 t166 _ A4.out).mono ?_); rintro e w5 ⟨rfl, hb⟩; replace HB := st_ (y7_ HB.out) hb; clear hb)); go_ret; exact ⟨y6_, y7_ HB.out⟩
  intro c3 c3b0; have c3b1 : decide (a0.size ≤ 300) = false := decide_eq_false (by omega); clear c3; refine oj_ ?_; rintro rfl; go_enter Tryz.func30, Tryz.ntmps30; go_wp2; go_ret; exact ⟨y6_, y7_ HB.out⟩

end Go.Proofs.YtnemchmiplbopaaGreatDoor.Zj
