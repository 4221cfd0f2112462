-- Written by this session's own program (wip/tools/pp.py) out of the translation, over functions given by hand. Lean checks it.
import Derived.Test.YtnemchmiplbopaaGreatDoorZjx0
import Derived.Test.YtnemchmiplbopaaGreatDoorZjx3
namespace Go.Proofs.YtnemchmiplbopaaGreatDoor.Zj
open Go.RowKit Go.Proofs.YtnemchmiplbopaaGreatDoorW.PrintWords Go.Proofs.YtnemchmiplbopaaGreatDoorW.PrintLast Go.Proofs.YtnemchmiplbopaaGreatDoorW.PrintMore
attribute [local go_sem] max2_int min2_int max_two min_two max_three min_three max_four min_four   -- for this text's walks alone
set_option linter.unusedVariables false
set_option linter.unusedSimpArgs false

/-! ### spec_l1Plain: function 131 -/
def spec_l1Plain.l0 : Nat → Int → ByteArray → Option (ByteArray)
  | 0, _, _ => none
  | k + 1, x0, x3 => if x0 > 9 then ((some (([(wrap64 (48 + (Int.tmod x0 10))) % 256] : List Int) : List Int)).bind fun y145 => (if (strOfNums y145).size + x3.size ≤ 9223372036854775807 then (spec_l1Plain.l0 k (wrap64 (Int.tdiv x0 10)) ((strOfNums y145) ++ x3)) else (none))) else ((some (([(wrap64 (48 + x0)) % 256] : List Int) : List Int)).bind fun y148 => (if (strOfNums y148).size + x3.size ≤ 9223372036854775807 then (some ((strOfNums y148) ++ x3)) else (none)))
def spec_l1Plain.f (k : Nat) (a0 : Int) : Option (ByteArray) := spec_l1Plain.l0 k a0 (⟨#[]⟩ : ByteArray)
theorem spec_l1Plain.mono_l : ∀ k, (∀ y0 y1, LeO (spec_l1Plain.l0 k y0 y1) (spec_l1Plain.l0 (k + 1) y0 y1))
  | 0 => fun _ _ r h => by simp [spec_l1Plain.l0] at h
  | k + 1 => by
    have ih0 := spec_l1Plain.mono_l k
    · intro y0 y1
      unfold spec_l1Plain.l0
      repeat' first
      | (with_reducible exact ih0 _ _)
      | (with_reducible first | exact LeO.refl _ | exact LeO.none _ | refine LeO.ite ?_ ?_ | refine LeO.bind ?_ (fun _ => ?_)) | exact LeO.none _ | refine LeO.ite ?_ ?_ | refine LeO.bind ?_ (fun _ => ?_)
theorem spec_l1Plain.mono : ∀ a0 k, LeO (spec_l1Plain.f k a0) (spec_l1Plain.f (k + 1) a0) := by
  intro a0 k; have ih0 := spec_l1Plain.mono_l k; unfold spec_l1Plain.f
  repeat' first
      | (with_reducible exact ih0 _ _)
      | (with_reducible first | exact LeO.refl _ | exact LeO.none _ | refine LeO.ite ?_ ?_ | refine LeO.bind ?_ (fun _ => ?_)) | exact LeO.none _ | refine LeO.ite ?_ ?_ | refine LeO.bind ?_ (fun _ => ?_)
set_option maxHeartbeats 8000000 in
set_option maxRecDepth 100000 in
theorem spec_l1Plain.calls {k : Nat} {a0 : Int} {r : ByteArray} {w : World} (H : spec_l1Plain.f k a0 = some r) :
    Calls Tryz.prog 131 #[.int .i64 a0] w fun e w' => e = .returned (.string r) ∧ Below w.heap.size w w' := by
  have HB := am_ (Below.refl w.heap.size w); revert H; unfold spec_l1Plain.f; refine ai_ fun H' => ?_; go_enter Tryz.func131, Tryz.ntmps131; go_wp2
  go_loopg [0, 3] k (fun kq v0 v3 w' => ∃ (x0_1 : Int) (x3_1 : ByteArray), v0 = .int .i64 x0_1 ∧ v3 = .string x3_1 ∧ Aside0 (spec_l1Plain.l0 kq x0_1 x3_1 = some r) ∧ Aside0 (kq ≤ k) ∧ Aside0 (Below w.heap.size w w'))
  case atStart => exact ⟨(a0), ((⟨#[]⟩ : ByteArray)), y4_, y4_, H', ⟨Nat.le_refl _⟩, ⟨y7_ HB.out⟩⟩
  case round =>
    clear H'; obtain ⟨x0_1, x3_1, rfl, rfl, HA, HK1, HB⟩ := hrel
    cases gk with
    | zero => exact absurd HA.out (by simp [spec_l1Plain.l0])
    | succ k1 =>
      have H := HA.out; clear HA; simp only [spec_l1Plain.l0] at H; revert H; refine itg_ ?_ ?_
      · intro c2b0
        refine on_ fun y145 Ny145 => ?_; refine il1_ fun c3 c3b0 c3b1 => ?_
        try have c3b2 : (9223372036854775807 < (strOfNums y145).size + x3_1.size) = False := eq_false (Nat.not_lt.2 c3)
        refine ai_ fun H' => ?_; go_wp2_with (first | ((with_reducible refine gate_dst (N := 10) rfl ?_); refine Kd.R_lit (Kd.int .u8) _ 5 ?hg (N := 10) ?hd (xs := ([(wrap64 (48 + (Int.tmod x0_1 10))) % 256] : List Int)) (inner := [.int .u8 ((wrap64 (48 + (Int.tmod x0_1 10))) % 256)]) (ok := fun _ => True) (okp := fun _ => True) ?hr ?hp (fun _ hk => hk) trivial (Below.refl _ _) (Nat.le_refl _) (by simp) ?_; (case hd => rfl); (case hg => rfl); (case hr => go_simp; try rfl); (case hp => exact (Reps.one (show Kd.M (Kd.int .u8) _ _ _ ((wrap64 (48 + (Int.tmod x0_1 10))) % 256) [.int .u8 ((wrap64 (48 + (Int.tmod x0_1 10))) % 256)] from rfl) (Reps.none _ _))); intro v146 w4 ho5 hb hg_ hnew_; clear hg_ hnew_; (first | rw [← Ny145.out] at ho5 | (simp only [Int.reduceToNat] at ho5; rw [← Ny145.out] at ho5)); have HO147 := am_ (Kd.R_lower ho5 (below_size (y7_ HB.out))); replace HB := st_ (y7_ HB.out) hb; clear hb ho5; have hcv6 := own_string (P := Tryz.prog) Tryz.underlying109 Tryz.underlying5 Tryz.underlying9 (Kd.own_of_R HO147.out)))
        go_roundg k1
        case measure => have := HK1.out; omega
        case rel => exact ⟨(wrap64 (Int.tdiv x0_1 10)), ((strOfNums y145) ++ x3_1), y4_, y4_, H', ⟨by have := HK1.out; omega⟩, ⟨y7_ HB.out⟩⟩
      intro c2b0
      refine on_ fun y148 Ny148 => ?_; refine il1_ fun c7 c7b0 c7b1 => ?_
      try have c7b2 : (9223372036854775807 < (strOfNums y148).size + x3_1.size) = False := eq_false (Nat.not_lt.2 c7)
      refine oj_ ?_; rintro rfl; go_wp2_with (first | ((with_reducible refine gate_dst (N := 19) rfl ?_); refine Kd.R_lit (Kd.int .u8) _ 5 ?hg (N := 19) ?hd (xs := ([(wrap64 (48 + x0_1)) % 256] : List Int)) (inner := [.int .u8 ((wrap64 (48 + x0_1)) % 256)]) (ok := fun _ => True) (okp := fun _ => True) ?hr ?hp (fun _ hk => hk) trivial (Below.refl _ _) (Nat.le_refl _) (by simp) ?_; (case hd => rfl); (case hg => rfl); (case hr => go_simp; try rfl); (case hp => exact (Reps.one (show Kd.M (Kd.int .u8) _ _ _ ((wrap64 (48 + x0_1)) % 256) [.int .u8 ((wrap64 (48 + x0_1)) % 256)] from rfl) (Reps.none _ _))); intro v149 w8 ho9 hb hg_ hnew_; clear hg_ hnew_; (first | rw [← Ny148.out] at ho9 | (simp only [Int.reduceToNat] at ho9; rw [← Ny148.out] at ho9)); have HO150 := am_ (Kd.R_lower ho9 (below_size (y7_ HB.out))); replace HB := st_ (y7_ HB.out) hb; clear hb ho9; have hcv10 := own_string (P := Tryz.prog) Tryz.underlying109 Tryz.underlying5 Tryz.underlying9 (Kd.own_of_R HO150.out))); go_ret; exact ⟨y6_, y7_ HB.out⟩

/-! ### spec_MakNew: function 118 -/
def spec_MakNew.j0 : Nat → Int → Int → Bool → Option (ByteArray)
  | 0, _, _, _ => none
  | k + 1, x0, x1, x12 => if x12 = true then (some (⟨#[]⟩ : ByteArray)) else ((spec_l1Who.f x0).bind fun t153 => ((spec_l1Plain.f k x1).bind fun t154 => (if t153.size + t154.size ≤ 9223372036854775807 then (if (t153 ++ t154).size + 1 ≤ 9223372036854775807 then (some ((t153 ++ t154) ++ (⟨#[59]⟩ : ByteArray))) else (none)) else (none))))
def spec_MakNew.f (k : Nat) (a0 : Int) (a1 : Int) : Option (ByteArray) := (spec_l1In.f a0 0 7).bind fun t151 => (if t151 = true then ((spec_l1In.f a1 1 99).bind fun t152 => (spec_MakNew.j0 k a0 a1 (!t152))) else (spec_MakNew.j0 k a0 a1 true))
theorem spec_MakNew.mono_l : ∀ k, (∀ y0 y1 y2, LeO (spec_MakNew.j0 k y0 y1 y2) (spec_MakNew.j0 (k + 1) y0 y1 y2))
  | 0 => fun _ _ _ r h => by simp [spec_MakNew.j0] at h
  | k + 1 => by
    have ih0 := spec_MakNew.mono_l k
    · intro y0 y1 y2
      unfold spec_MakNew.j0
      repeat' first
      | (with_reducible exact ih0 _ _ _)
      | (with_reducible exact spec_l1Plain.mono _ _)
      | (with_reducible first | exact LeO.refl _ | exact LeO.none _ | refine LeO.ite ?_ ?_ | refine LeO.bind ?_ (fun _ => ?_)) | exact LeO.none _ | refine LeO.ite ?_ ?_ | refine LeO.bind ?_ (fun _ => ?_)
theorem spec_MakNew.mono : ∀ a0 a1 k, LeO (spec_MakNew.f k a0 a1) (spec_MakNew.f (k + 1) a0 a1) := by
  intro a0 a1 k; have ih0 := spec_MakNew.mono_l k; unfold spec_MakNew.f
  repeat' first
      | (with_reducible exact ih0 _ _ _)
      | (with_reducible exact spec_l1Plain.mono _ _)
      | (with_reducible first | exact LeO.refl _ | exact LeO.none _ | refine LeO.ite ?_ ?_ | refine LeO.bind ?_ (fun _ => ?_)) | exact LeO.none _ | refine LeO.ite ?_ ?_ | refine LeO.bind ?_ (fun _ => ?_)
set_option maxHeartbeats 8000000 in
set_option maxRecDepth 100000 in
theorem spec_MakNew.calls {k : Nat} {a0 : Int} {a1 : Int} {r : ByteArray} {w : World} (H : spec_MakNew.f k a0 a1 = some r) :
    Calls Tryz.prog 118 #[.int .i64 a0, .int .i64 a1] w fun e w' => e = .returned (.string r) ∧ Below w.heap.size w w' := by
  have HB := am_ (Below.refl w.heap.size w); revert H; unfold spec_MakNew.f; refine ai_ fun HC3 => ?_; go_enter Tryz.func118, Tryz.ntmps118
  go_upto_region 1 with (fail)
  go_cut [12] (fun v12 wc => ∃ (kq : Nat) (x12_2 : Bool), v12 = .bool x12_2 ∧ Aside0 (spec_MakNew.j0 kq a0 a1 x12_2 = some r) ∧ Aside0 (kq ≤ k) ∧ Aside0 (Below w.heap.size w wc))
  case first =>
    have H := HC3.out; clear HC3; revert H; refine oc_ fun t151 A4 => ?_; refine ib_ ?_ ?_
    · rintro rfl; refine oc_ fun t152 A6 => ?_; refine ai_ fun H' => ?_; go_wp2_with (first | (go_at_call 26; (with_reducible refine (spec_l1In.calls A6.out).mono ?_); rintro e w' ⟨rfl, ⟨nd, rfl⟩⟩) | ((with_reducible refine gl_ ?_); first | ((with_reducible refine gf_ 26 6 rfl rfl ?_); refine gd_ (spec_l1In.calls A4.out) ?_; intro nd))); go_meet
      case rel => exact ⟨_, (!t152), y4_, H', ⟨by first | omega | exact Nat.le_refl _⟩, ⟨y7_ HB.out⟩⟩
    rintro rfl; refine ai_ fun H' => ?_; go_wp2_with ((with_reducible refine gl_ ?_); first | ((with_reducible refine gf_ 26 6 rfl rfl ?_); refine gd_ (spec_l1In.calls A4.out) ?_; intro nd)); go_meet
    case rel => exact ⟨_, (true), y4_, H', ⟨by first | omega | exact Nat.le_refl _⟩, ⟨y7_ HB.out⟩⟩
  case rest =>
    clear HC3; obtain ⟨kq, x12_2, rfl, HA, HJ2, HB⟩ := hcut
    cases kq with
    | zero => exact absurd HA.out (by simp [spec_MakNew.j0])
    | succ kj2 =>
      have H := HA.out; clear HA; simp only [spec_MakNew.j0] at H; revert H; refine ib_ ?_ ?_
      · rintro rfl; refine oj_ ?_; rintro rfl; go_wp2; go_ret; exact ⟨y6_, y7_ HB.out⟩
      rintro rfl
      refine oc_ fun t153 A8 => ?_; refine oc_ fun t154 A9 => ?_; refine il1_ fun c10 c10b0 c10b1 => ?_
      try have c10b2 : (9223372036854775807 < t153.size + t154.size) = False := eq_false (Nat.not_lt.2 c10)
      refine il1_ fun c11 c11b0 c11b1 => ?_
      try have c11b2 : (9223372036854775807 < (t153 ++ t154).size + 1) = False := eq_false (Nat.not_lt.2 c11)
      try (have c11e := c11; simp only [ByteArray.size_append] at c11e; have c11e0 := eq_true c11e; have c11e1 := decide_eq_true c11e; have c11e2 := eq_false (Nat.not_lt.2 c11e))
      refine oj_ ?_; rintro rfl; go_wp2_with ((with_reducible refine gl_ ?_); first | ((with_reducible refine gf_ 130 14 rfl rfl ?_); refine gb_ (spec_l1Who.calls A8.out) ?_; intro w12 hb; replace HB := st_ (y7_ HB.out) hb; clear hb) | ((with_reducible refine gf_ 131 16 rfl rfl ?_); refine gb_ (spec_l1Plain.calls A9.out) ?_; intro w13 hb; replace HB := st_ (y7_ HB.out) hb; clear hb)); go_ret; exact ⟨y6_, y7_ HB.out⟩

end Go.Proofs.YtnemchmiplbopaaGreatDoor.Zj
