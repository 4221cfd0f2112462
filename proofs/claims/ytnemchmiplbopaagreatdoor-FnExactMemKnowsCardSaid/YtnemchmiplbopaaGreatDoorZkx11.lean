-- Written by this session's own program (wip/tools/pp.py) out of the translation, over functions given by hand. Lean checks it.
import Derived.Test.YtnemchmiplbopaaGreatDoorZkx0
import Derived.Test.YtnemchmiplbopaaGreatDoorZkx10
import Derived.Test.YtnemchmiplbopaaGreatDoorZkGivK
namespace Go.Proofs.YtnemchmiplbopaaGreatDoor.Zk
open Go.RowKit Go.Proofs.YtnemchmiplbopaaGreatDoorW.PrintWords Go.Proofs.YtnemchmiplbopaaGreatDoorW.PrintLast Go.Proofs.YtnemchmiplbopaaGreatDoorW.PrintMore
attribute [local go_sem] max2_int min2_int max_two min_two max_three min_three max_four min_four   -- for this text's walks alone
set_option linter.unusedVariables false
set_option linter.unusedSimpArgs false

/-! ### impl_path: function 38 -/
def impl_path.f (k : Nat) (a0 : Int) : Option (List Int) := (impl_leaf.f a0).bind fun t277 => ((some (([t277] : List Int) : List Int)).bind fun y278 => ((impl_leaf.f a0).bind fun t281 => ((impl_TreUp.f k t281).bind fun t282 => (if y278.length + t282.length < 17592186044416 then (some (y278 ++ t282)) else (none)))))
theorem impl_path.mono : ∀ a0 k, LeO (impl_path.f k a0) (impl_path.f (k + 1) a0) := by
  intro a0 k; unfold impl_path.f
  repeat' first
      | (with_reducible exact impl_TreUp.mono _ _)
      | (with_reducible first | exact LeO.refl _ | exact LeO.none _ | refine LeO.ite ?_ ?_ | refine LeO.bind ?_ (fun _ => ?_)) | exact LeO.none _ | refine LeO.ite ?_ ?_ | refine LeO.bind ?_ (fun _ => ?_)
set_option maxHeartbeats 8000000 in
set_option maxRecDepth 100000 in
theorem impl_path.calls (k : Nat) (a0 : Int) (r : List Int) (w : World) (h : impl_path.f k a0 = some r) :
    Calls Tryz.prog 38 #[.int .i64 a0] w fun e w' => ∃ v0_ : Value, e = .returned (v0_) ∧ Kd.R (Kd.int .i64) 3 w' w.heap.size (fun _ => True) v0_ r ∧ Below w.heap.size w w' := by
  have HB := am_ (Below.refl w.heap.size w); have H : ((impl_leaf.f a0).bind fun t277 => ((some (([t277] : List Int) : List Int)).bind fun y278 => ((impl_leaf.f a0).bind fun t281 => ((impl_TreUp.f k t281).bind fun t282 => (if y278.length + t282.length < 17592186044416 then (some (y278 ++ t282)) else (none)))))) = some r := h; clear h; replace H := ob_ H; obtain ⟨t277, A20, H⟩ := H; replace H : ((some (([t277] : List Int) : List Int)).bind fun y278 => ((impl_leaf.f a0).bind fun t281 => ((impl_TreUp.f k t281).bind fun t282 => (if y278.length + t282.length < 17592186044416 then (some (y278 ++ t282)) else (none))))) = some r := H; have A2 := am_ A20; clear A20
  obtain ⟨y278, hy278⟩ : ∃ y_ : List Int, y_ = (([t277] : List Int)) := ⟨_, rfl⟩
  replace H : ((impl_leaf.f a0).bind fun t281 => ((impl_TreUp.f k t281).bind fun t282 => (if y278.length + t282.length < 17592186044416 then (some (y278 ++ t282)) else (none)))) = some r := by first | (rw [hy278]; with_reducible exact H) | (have H2_ := (Option.bind_some _ _).symm.trans H; rw [hy278]; with_reducible exact H2_) | (have H2_ := (Option.bind_some _ _).symm.trans H; with_reducible exact H2_) | with_reducible exact H | (rw [hy278]; exact H) | exact H
  have Ny278 := am_ hy278; clear hy278; replace H := ob_ H; obtain ⟨t281, A30, H⟩ := H; replace H : ((impl_TreUp.f k t281).bind fun t282 => (if y278.length + t282.length < 17592186044416 then (some (y278 ++ t282)) else (none))) = some r := H; have A3 := am_ A30; clear A30; replace H := ob_ H; obtain ⟨t282, A40, H⟩ := H; replace H : (if y278.length + t282.length < 17592186044416 then (some (y278 ++ t282)) else (none)) = some r := H; have A4 := am_ A40; clear A40; by_cases c5 : y278.length + t282.length < 17592186044416
  · rw [if_pos c5] at H
    have LMc5 := am_ c5; clear c5
    obtain ⟨y285, hy285⟩ : ∃ y_ : List Int, y_ = (y278 ++ t282) := ⟨_, rfl⟩
    replace H : (some y285) = some r := by first | (rw [hy285]; with_reducible exact H) | (have H2_ := (Option.bind_some _ _).symm.trans H; rw [hy285]; with_reducible exact H2_) | (have H2_ := (Option.bind_some _ _).symm.trans H; with_reducible exact H2_) | with_reducible exact H | (rw [hy285]; exact H) | exact H
    have Ny285 := am_ hy285; clear hy285; obtain rfl := oi_ H; go_enter Tryz.func38, Tryz.ntmps38; go_wp2_with (first | ((with_reducible refine gate_callee (f := 63) rfl ?_); refine goesL_ (some 4) rfl rfl Tryz.func63 (by kernel_rfl) rfl #[.int .i64 a0] rfl y1_ ?_; (with_reducible refine (impl_leaf.calls a0 t277 _ A2.out).mono ?_); rintro e w' ⟨rfl, ⟨nd, rfl⟩⟩; refine ⟨_, rfl, ?_⟩) | ((with_reducible refine gate_dst (N := 5) rfl ?_); refine Kd.R_lit (Kd.int .i64) _ 3 ?hg (N := 5) ?hd (xs := ([t277] : List Int)) (inner := [.int .i64 t277]) (ok := fun _ => True) (okp := fun _ => True) ?hr ?hp (fun _ hk => hk) trivial (Below.refl _ _) (Nat.le_refl _) (by simp) ?_; (case hd => rfl); (case hg => rfl); (case hr => go_simp; try rfl); (case hp => exact (Reps.one (show Kd.M (Kd.int .i64) _ _ _ t277 [.int .i64 t277] from rfl) (Reps.none _ _))); intro v279 w6 ho7 hb hg_ hnew_; clear hg_ hnew_; (first | rw [← Ny278.out] at ho7 | (simp only [Int.reduceToNat] at ho7; rw [← Ny278.out] at ho7)); have HO280 := am_ (Kd.R_lower ho7 (below_size (y7_ HB.out))); replace HB := st_ (y7_ HB.out) hb; clear hb ho7) | ((with_reducible refine gate_callee (f := 63) rfl ?_); refine goesL_ (some 7) rfl rfl Tryz.func63 (by kernel_rfl) rfl #[.int .i64 a0] rfl y1_ ?_; (with_reducible refine (impl_leaf.calls a0 t281 _ A3.out).mono ?_); rintro e w' ⟨rfl, ⟨nd, rfl⟩⟩; refine ⟨_, rfl, ?_⟩) | ((with_reducible refine gate_callee (f := 83) rfl ?_); refine goesL_ (some 8) rfl rfl Tryz.func83 (by kernel_rfl) rfl #[.int .i64 t281] rfl y1_ ?_; (with_reducible refine (impl_TreUp.calls k t281 t282 _ A4.out).mono ?_); rintro e w8 ⟨v283, rfl, ho0, hb⟩; refine ⟨_, rfl, ?_⟩; have HO284 := am_ (Kd.Q_lower (Kd.Q_new' ho0 (Kd.R_lt (y11_ HO280.out))) (below_size (y7_ HB.out))); replace HO280 := am_ (Kd.R_elder' (y11_ HO280.out) (Kd.Q_base ho0) hb); replace HB := st_ (y7_ HB.out) hb; (try clear hb); (try clear hb2); (try clear hk); (try clear hi); (try clear ho0); obtain ⟨Ao10, co10, eo10, _⟩ := Kd.Q_slice HO284.out; subst eo10) | ((with_reducible refine gate_builtin (b := .append) (xs := #[.tmp 5, .tmp 8]) rfl ?_); at_builtin; refine Kd.R_append_rows (Kd.int .i64) (w0 := w) w.heap.size rfl (.tmp 5) (.tmp 8) 69 3 (.int .i64 0) 8 rfl Tryz.underlying69 info3 rfl (by decide) (by omega) v279 y278 t282 _ _ _ (fun k_ => some k_ ≠ (.slice Ao10 t282.length co10 : Value).ownBlock) (fun _ => False) rfl rfl ?aO ?aR (fun _ _ h => h) (fun _ h => h.elim) ?aF ?aB ?aS ?aL ?_; (case aR => exact y17_ ((Kd.Q_reads' HO284.out).2.2)); (case aB => exact (y7_ HB.out)); (case aF => exact (fun k_ hk => Kd.fresh' (Kd.Q_lt (y13_ HO284.out)) k_ hk)); (case aO => exact (by (with_reducible repeat (first | apply Kd.R_alloc | apply Kd.R_drewN | apply Kd.R_drew)); exact Kd.R_mono HO280.out (fun _ hk => hk.2))); (case aS => exact (below_size (y7_ HB.out))); (case aL => have := LMc5.out; omega); intro v286 w9 ho hb hg hat; rw [← Ny285.out] at ho; replace HO284 := am_ (Kd.Q_after (ok := (fun _ => True)) (y13_ HO284.out) hg hat); replace HB := am_ hb; have HO287 := am_ ho; clear HO280; clear ho hb hg hat)); go_ret; exact ⟨_, y6_, y11_ (Kd.R_mono HO287.out (fun _ hk => trivial)), y7_ HB.out⟩
  rw [if_neg c5] at H; exact absurd H (by simp)

-- GIVEN: function 39 (impl_ownAt)

-- GIVEN: function 112 (strings_Join)

/-! ### impl_made: function 86 -/
def impl_made.l0 : Nat → ByteArray → List ByteArray → List ByteArray → Int → Int → Option (ByteArray)
  | 0, _, _, _, _, _ => none
  | k + 1, x0, x1, x8, x9, x10 => if x10 < x9 then (if 0 ≤ x10 then (if x10 < (x8.length : Int) then ((impl_SecOk.f (rdOf ByteArray.empty x8 x10)).bind fun t289 => (if t289 = true then (impl_made.l0 k x0 x1 x8 x9 (wrap64 (x10 + 1))) else (some (⟨#[]⟩ : ByteArray)))) else (none)) else (none)) else ((strings_Join.f x1 (⟨#[]⟩ : ByteArray)).bind fun t290 => (if x0.size + t290.size ≤ 9223372036854775807 then (if ((x0 ++ t290).size : Int) ≤ 300 then (some (x0 ++ t290)) else (some (⟨#[]⟩ : ByteArray))) else (none)))
def impl_made.f (k : Nat) (a0 : ByteArray) (l1 : List ByteArray) : Option (ByteArray) := impl_made.l0 k a0 l1 l1 (l1.length : Int) 0
theorem impl_made.mono_l : ∀ k, (∀ y0 y1 y2 y3 y4, LeO (impl_made.l0 k y0 y1 y2 y3 y4) (impl_made.l0 (k + 1) y0 y1 y2 y3 y4))
  | 0 => fun _ _ _ _ _ r h => by simp [impl_made.l0] at h
  | k + 1 => by
    have ih0 := impl_made.mono_l k
    · intro y0 y1 y2 y3 y4
      unfold impl_made.l0
      repeat' first
      | (with_reducible exact ih0 _ _ _ _ _)
      | (with_reducible first | exact LeO.refl _ | exact LeO.none _ | refine LeO.ite ?_ ?_ | refine LeO.bind ?_ (fun _ => ?_)) | exact LeO.none _ | refine LeO.ite ?_ ?_ | refine LeO.bind ?_ (fun _ => ?_)
theorem impl_made.mono : ∀ a0 a1 k, LeO (impl_made.f k a0 a1) (impl_made.f (k + 1) a0 a1) := by
  intro a0 a1 k; have ih0 := impl_made.mono_l k; unfold impl_made.f
  repeat' first
      | (with_reducible exact ih0 _ _ _ _ _)
      | (with_reducible first | exact LeO.refl _ | exact LeO.none _ | refine LeO.ite ?_ ?_ | refine LeO.bind ?_ (fun _ => ?_)) | exact LeO.none _ | refine LeO.ite ?_ ?_ | refine LeO.bind ?_ (fun _ => ?_)
set_option maxHeartbeats 8000000 in
set_option maxRecDepth 100000 in
theorem impl_made.calls (k : Nat) (a0 : ByteArray) (A1 : Option Addr) (c1 : Nat) (l1 : List ByteArray) (r : ByteArray) (w : World) (hr1 : Kd.C Kd.string w A1 l1.length l1) (hc1 : l1.length ≤ c1) (hsp1 : Flat A1) (hG : GlobOk w) (h : impl_made.f k a0 l1 = some r) :
    Calls Tryz.prog 86 #[.string a0, .slice A1 l1.length c1] w fun e w' => e = .returned (.string r) ∧ Below w.heap.size w w' := by
  have HR1 := am_ hr1; have HC1 := am_ hc1; clear hr1 hc1; have HB := am_ (Below.refl w.heap.size w); have HGL := am_ hG; clear hG; have H : (impl_made.l0 k a0 l1 l1 (l1.length : Int) 0) = some r := h; clear h; have H' := am_ H; clear H; go_enter Tryz.func86, Tryz.ntmps86; go_wp2
  go_loopg [10] k (fun kq v10 w' => ∃ (x10_1 : Int), v10 = .int .i64 x10_1 ∧ Aside0 (impl_made.l0 kq a0 l1 l1 (l1.length : Int) x10_1 = some r) ∧ Aside0 (kq ≤ k) ∧ Aside0 (Below w.heap.size w w'))
  case atStart => exact ⟨(0), y4_, H', ⟨Nat.le_refl _⟩, ⟨y7_ HB.out⟩⟩
  case round =>
    clear H'; (try clear c1); (try clear p2); obtain ⟨x10_1, rfl, HA, HK1, HB⟩ := hrel
    cases gk with
    | zero => exact absurd HA.out (by simp [impl_made.l0])
    | succ k1 =>
      have H := HA.out; clear HA; simp only [impl_made.l0] at H; by_cases c3 : x10_1 < (l1.length : Int)
      · rw [if_pos c3] at H
        have c3b0 : decide (x10_1 < (l1.length : Int)) = true := decide_eq_true c3; clear c3; by_cases c4 : 0 ≤ x10_1
        · rw [if_pos c4] at H
          have c4b0 : decide (0 ≤ x10_1) = true := decide_eq_true c4; clear c4; by_cases c5 : x10_1 < (l1.length : Int)
          · rw [if_pos c5] at H
            have c5b0 : decide (x10_1 < (l1.length : Int)) = true := decide_eq_true c5; clear c5; replace H := ob_ H; obtain ⟨t289, A60, H⟩ := H; replace H : (if t289 = true then (impl_made.l0 k1 a0 l1 l1 (l1.length : Int) (wrap64 (x10_1 + 1))) else (some (⟨#[]⟩ : ByteArray))) = some r := H; have A6 := am_ A60; clear A60; by_cases c7 : t289 = true
            · subst c7
              have H1 : (impl_made.l0 k1 a0 l1 l1 (l1.length : Int) (wrap64 (x10_1 + 1))) = some r := by rw [if_pos rfl] at H; exact H
              clear H; have H := H1; clear H1; have H' := am_ H; clear H; have p288 : 0 ≤ (x10_1 : Int) := of_decide_eq_true y3_; have q288 : x10_1 < (l1.length : Int) := of_decide_eq_true y3_; obtain ⟨ad288, e288, hx288_0⟩ := Kd.at_string HR1.out x10_1 p288 q288
              cases e288
              replace hx288_0 := (HB.out.cell (World.block_lt_of_cell? w _ hx288_0)).trans hx288_0; replace p288 := eq_true p288; replace q288 := eq_true q288; go_wp2_with (first | ((with_reducible refine gate_callee (f := 36) rfl ?_); refine goesL_ (some 15) rfl rfl Tryz.func36 (by kernel_rfl) rfl #[.string (rdOf ByteArray.empty l1 x10_1)] rfl y1_ ?_; (with_reducible refine (impl_SecOk.calls (rdOf ByteArray.empty l1 x10_1) true _ ?side1 A6.out).mono ?_); (case side1 => exact GlobOk.below HGL.out (y7_ HB.out)); rintro e w8 ⟨rfl, hb⟩; refine ⟨_, rfl, ?_⟩; replace HB := st_ (y7_ HB.out) hb; clear hb))
              go_roundg k1
              case measure => have := HK1.out; omega
              case rel => exact ⟨(wrap64 (x10_1 + 1)), y4_, H', ⟨by have := HK1.out; omega⟩, ⟨y7_ HB.out⟩⟩
            replace c7 := Bool.eq_false_iff.mpr c7; subst c7
            have H1 : (some (⟨#[]⟩ : ByteArray)) = some r := by rw [if_neg (show ¬ (false = true) by decide)] at H; exact H
            clear H; have H := H1; clear H1; obtain rfl := oi_ H; have p288 : 0 ≤ (x10_1 : Int) := of_decide_eq_true y3_; have q288 : x10_1 < (l1.length : Int) := of_decide_eq_true y3_; obtain ⟨ad288, e288, hx288_0⟩ := Kd.at_string HR1.out x10_1 p288 q288
            cases e288
            replace hx288_0 := (HB.out.cell (World.block_lt_of_cell? w _ hx288_0)).trans hx288_0; replace p288 := eq_true p288; replace q288 := eq_true q288; go_wp2_with (first | ((with_reducible refine gate_callee (f := 36) rfl ?_); refine goesL_ (some 15) rfl rfl Tryz.func36 (by kernel_rfl) rfl #[.string (rdOf ByteArray.empty l1 x10_1)] rfl y1_ ?_; (with_reducible refine (impl_SecOk.calls (rdOf ByteArray.empty l1 x10_1) false _ ?side1 A6.out).mono ?_); (case side1 => exact GlobOk.below HGL.out (y7_ HB.out)); rintro e w9 ⟨rfl, hb⟩; refine ⟨_, rfl, ?_⟩; replace HB := st_ (y7_ HB.out) hb; clear hb)); go_ret; exact ⟨y6_, y7_ HB.out⟩
          rw [if_neg c5] at H; exact absurd H (by simp)
        rw [if_neg c4] at H; exact absurd H (by simp)
      rw [if_neg c3] at H; have c3b0 : decide (x10_1 < (l1.length : Int)) = false := decide_eq_false c3; clear c3; replace H := ob_ H; obtain ⟨t290, A100, H⟩ := H; replace H : (if a0.size + t290.size ≤ 9223372036854775807 then (if ((a0 ++ t290).size : Int) ≤ 300 then (some (a0 ++ t290)) else (some (⟨#[]⟩ : ByteArray))) else (none)) = some r := H; have A10 := am_ A100; clear A100; by_cases c11 : a0.size + t290.size ≤ 9223372036854775807
      · rw [if_pos c11] at H
        have c11b0 := eq_true c11; have c11b1 : decide (a0.size + t290.size ≤ 9223372036854775807) = true := decide_eq_true c11
        try have c11b2 : (9223372036854775807 < a0.size + t290.size) = False := eq_false (Nat.not_lt.2 c11)
        by_cases c12 : ((a0 ++ t290).size : Int) ≤ 300
        · rw [if_pos c12] at H; have c12b0 : decide (((a0 ++ t290).size : Int) ≤ 300) = true := decide_eq_true c12; have c12z : decide (((a0.size : Int) + (t290.size : Int)) ≤ 300) = true := decide_eq_true (by have z_ := c12; rw [ByteArray.size_append] at z_; omega); have c12b1 : decide ((a0 ++ t290).size ≤ 300) = true := decide_eq_true (by omega); clear c12; obtain rfl := oi_ H; go_wp2_with (first | ((with_reducible refine gate_callee (f := 112) rfl ?_); refine goesL_ (some 20) rfl rfl Tryz.func112 (by kernel_rfl) rfl #[.slice A1 l1.length c1, .string (⟨#[]⟩ : ByteArray)] rfl y1_ ?_; (with_reducible refine (strings_Join.calls _ _ l1 (⟨#[]⟩ : ByteArray) t290 _ ?side1 ?side2 ?side3 A10.out).mono ?_); (case side1 => exact y17_ (Kd.C_below HR1.out HB.out)); (case side2 => exact HC1.out); (case side3 => first | assumption | exact Flat.of_R (by assumption) | exact Flat.none_); rintro e w13 ⟨rfl, hb⟩; refine ⟨_, rfl, ?_⟩; replace HB := st_ (y7_ HB.out) hb; clear hb)); go_ret; exact ⟨y6_, y7_ HB.out⟩
        rw [if_neg c12] at H; have c12b0 : decide (((a0 ++ t290).size : Int) ≤ 300) = false := decide_eq_false c12; have c12z : decide (((a0.size : Int) + (t290.size : Int)) ≤ 300) = false := decide_eq_false (by have z_ := c12; rw [ByteArray.size_append] at z_; omega); have c12b1 : decide ((a0 ++ t290).size ≤ 300) = false := decide_eq_false (by omega); clear c12; obtain rfl := oi_ H; go_wp2_with (first | ((with_reducible refine gate_callee (f := 112) rfl ?_); refine goesL_ (some 20) rfl rfl Tryz.func112 (by kernel_rfl) rfl #[.slice A1 l1.length c1, .string (⟨#[]⟩ : ByteArray)] rfl y1_ ?_; (with_reducible refine (strings_Join.calls _ _ l1 (⟨#[]⟩ : ByteArray) t290 _ ?side1 ?side2 ?side3 A10.out).mono ?_); (case side1 => exact y17_ (Kd.C_below HR1.out HB.out)); (case side2 => exact HC1.out); (case side3 => first | assumption | exact Flat.of_R (by assumption) | exact Flat.none_); rintro e w14 ⟨rfl, hb⟩; refine ⟨_, rfl, ?_⟩; replace HB := st_ (y7_ HB.out) hb; clear hb)); go_ret; exact ⟨y6_, y7_ HB.out⟩
      rw [if_neg c11] at H; exact absurd H (by simp)

/-! ### impl_MakKey: function 40 -/
def impl_MakKey.f (k : Nat) (a0 : ByteArray) : Option (ByteArray) := (impl_made.f k (⟨#[107]⟩ : ByteArray) (([a0] : List ByteArray))).bind fun t294 => (some t294)
theorem impl_MakKey.mono : ∀ a0 k, LeO (impl_MakKey.f k a0) (impl_MakKey.f (k + 1) a0) := by
  intro a0 k; unfold impl_MakKey.f
  repeat' first
      | (with_reducible exact impl_made.mono _ _ _)
      | (with_reducible first | exact LeO.refl _ | exact LeO.none _ | refine LeO.ite ?_ ?_ | refine LeO.bind ?_ (fun _ => ?_)) | exact LeO.none _ | refine LeO.ite ?_ ?_ | refine LeO.bind ?_ (fun _ => ?_)
set_option maxHeartbeats 8000000 in
set_option maxRecDepth 100000 in
theorem impl_MakKey.calls (k : Nat) (a0 : ByteArray) (r : ByteArray) (w : World) (hG : GlobOk w) (h : impl_MakKey.f k a0 = some r) :
    Calls Tryz.prog 40 #[.string a0] w fun e w' => e = .returned (.string r) ∧ Below w.heap.size w w' := by
  have HB := am_ (Below.refl w.heap.size w); have HGL := am_ hG; clear hG; have H : ((impl_made.f k (⟨#[107]⟩ : ByteArray) (([a0] : List ByteArray))).bind fun t294 => (some t294)) = some r := h; clear h
  obtain ⟨y291, hy291⟩ : ∃ y_ : List ByteArray, y_ = (([a0] : List ByteArray)) := ⟨_, rfl⟩
  replace H : ((impl_made.f k (⟨#[107]⟩ : ByteArray) y291).bind fun t294 => (some t294)) = some r := by first | (rw [hy291]; with_reducible exact H) | (have H2_ := (Option.bind_some _ _).symm.trans H; rw [hy291]; with_reducible exact H2_) | (have H2_ := (Option.bind_some _ _).symm.trans H; with_reducible exact H2_) | with_reducible exact H | (rw [hy291]; exact H) | exact H
  have Ny291 := am_ hy291; clear hy291; replace H := ob_ H; obtain ⟨t294, A20, H⟩ := H; replace H : (some t294) = some r := H; have A2 := am_ A20; clear A20; obtain rfl := oi_ H; go_enter Tryz.func40, Tryz.ntmps40; go_wp2_with (first | ((with_reducible refine gate_dst (N := 4) rfl ?_); refine Kd.R_lit Kd.string _ 9 ?hg (N := 4) ?hd (xs := ([a0] : List ByteArray)) (inner := [.string a0]) (ok := fun _ => True) (okp := fun _ => True) ?hr ?hp (fun _ hk => hk) trivial (Below.refl _ _) (Nat.le_refl _) (by simp) ?_; (case hd => rfl); (case hg => rfl); (case hr => go_simp; try rfl); (case hp => exact (Reps.one (show Kd.M Kd.string _ _ _ a0 [.string a0] from rfl) (Reps.none _ _))); intro v292 w3 ho4 hb hg_ hnew_; clear hg_ hnew_; (first | rw [← Ny291.out] at ho4 | (simp only [Int.reduceToNat] at ho4; rw [← Ny291.out] at ho4)); have HO293 := am_ (Kd.R_lower ho4 (below_size (y7_ HB.out))); replace HB := st_ (y7_ HB.out) hb; clear hb ho4; obtain ⟨Ao5, co5, eo5⟩ := Kd.R_slice HO293.out; subst eo5) | ((with_reducible refine gate_callee (f := 86) rfl ?_); refine goesL_ (some 5) rfl rfl Tryz.func86 (by kernel_rfl) rfl #[.string (⟨#[107]⟩ : ByteArray), .slice Ao5 y291.length co5] rfl y1_ ?_; (with_reducible refine (impl_made.calls k (⟨#[107]⟩ : ByteArray) _ _ y291 t294 _ ?side1 ?side2 ?side3 ?side4 A2.out).mono ?_); (case side1 => exact y17_ ((Kd.R_reads' HO293.out).2.2)); (case side2 => exact (Kd.R_reads' HO293.out).2.1); (case side3 => first | assumption | exact Flat.of_R (by assumption) | exact Flat.none_); (case side4 => exact GlobOk.below HGL.out (y7_ HB.out)); rintro e w6 ⟨rfl, hb⟩; refine ⟨_, rfl, ?_⟩; replace HO293 := rb_ (y11_ HO293.out) hb; replace HB := st_ (y7_ HB.out) hb; clear hb)); go_ret; exact ⟨y6_, y7_ HB.out⟩

end Go.Proofs.YtnemchmiplbopaaGreatDoor.Zk
