-- Written by this session's own program (wip/tools/pp.py) out of the translation, over functions given by hand. Lean checks it.
import Derived.Test.YtjbnfcljkmapeaaDoorYhx0
import Derived.Test.YtjbnfcljkmapeaaDoorYhx12
import Derived.Test.YtjbnfcljkmapeaaDoorYhx18
import Derived.Test.YtjbnfcljkmapeaaDoorYhGivK
namespace Go.Proofs.YtjbnfcljkmapeaaDoor.Yh
open Go.RowKit Go.Proofs.YtjbnfcljkmapeaaDoorW.PrintWords Go.Proofs.YtjbnfcljkmapeaaDoorW.PrintLast Go.Proofs.YtjbnfcljkmapeaaDoorW.PrintMore
attribute [local go_sem] max2_int min2_int max_two min_two max_three min_three max_four min_four   -- for this text's walks alone
set_option linter.unusedVariables false
set_option linter.unusedSimpArgs false

/-! ### laws_FnKnwHas: function 7 -/
mutual
def laws_FnKnwHas.j0 : Nat → List ByteArray → List (S45) → ByteArray → Bool → Bool → Option (Bool)
  | 0, _, _, _, _, _ => none
  | k + 1, x3, x4, x5, x6, x38 => if x38 = true then (some false) else (laws_FnKnwHas.l0 k x3 x4 x5 x6 (([] : List (S45))) (wrap64 ((x4.length : Int) - 1)))
def laws_FnKnwHas.l0 : Nat → List ByteArray → List (S45) → ByteArray → Bool → List (S45) → Int → Option (Bool)
  | 0, _, _, _, _, _, _ => none
  | k + 1, x3, x4, x5, x6, x7, x8 => if x8 ≥ 0 then (if 0 ≤ x8 then (if x8 < (x4.length : Int) then (if x7.length < 4398046511104 then (laws_FnKnwHas.l0 k x3 x4 x5 x6 (x7 ++ [(⟨(rd_T45 x4 x8).f0, (rd_T45 x4 x8).f1⟩ : S45)]) (wrap64 (x8 - 1))) else (none)) else (none)) else (none)) else ((impl_KnwHas.f x3 x7 x5).bind fun t324 => (if (t324 != x6) = true then (some false) else (if x6 = true then ((some (([] : List ByteArray) : List ByteArray)).bind fun y325 => (if y325.length + x3.length < 8796093022208 then ((some (y325 ++ x3 : List ByteArray)).bind fun y328 => (if y328.length < 8796093022208 then ((some (([] : List (S45)) : List (S45))).bind fun y334 => (if y334.length + x4.length < 4398046511104 then ((some (y334 ++ x4 : List (S45))).bind fun y337 => (if y337.length < 4398046511104 then ((impl_KnwHas.f (y328 ++ [(⟨#[72, 57, 59]⟩ : ByteArray)]) (y337 ++ [(⟨(⟨#[107, 72, 56, 59]⟩ : ByteArray), (⟨#[72, 55, 59]⟩ : ByteArray)⟩ : S45)]) x5).bind fun t343 => (some t343)) else (none))) else (none))) else (none))) else (none))) else ((laws_keOk.f).bind fun t344 => (some t344)))))
end
def laws_FnKnwHas.f (k : Nat) (l0 : List Int) : Option (Bool) := if (l0.length : Int) > 1048576 then (some true) else ((spec_DrawKnwHas.f k l0).bind fun bt304 => ((impl_KnwHas.f bt304.1 bt304.2.1 bt304.2.2).bind fun t311 => ((spec_KnwHas.f k bt304.1 bt304.2.1 bt304.2.2).bind fun t312 => (if (t311 != t312) = true then (laws_FnKnwHas.j0 k bt304.1 bt304.2.1 bt304.2.2 t311 true) else (if t311 = true then ((impl_KnwOpen.f bt304.1 bt304.2.1).bind fun t313 => ((impl_KnwMake.f t313 bt304.2.2).bind fun t316 => (laws_FnKnwHas.j0 k bt304.1 bt304.2.1 bt304.2.2 t311 (!t316)))) else (laws_FnKnwHas.j0 k bt304.1 bt304.2.1 bt304.2.2 t311 false))))))
theorem laws_FnKnwHas.mono_l : ∀ k, (∀ y0 y1 y2 y3 y4, LeO (laws_FnKnwHas.j0 k y0 y1 y2 y3 y4) (laws_FnKnwHas.j0 (k + 1) y0 y1 y2 y3 y4)) ∧ (∀ y0 y1 y2 y3 y4 y5, LeO (laws_FnKnwHas.l0 k y0 y1 y2 y3 y4 y5) (laws_FnKnwHas.l0 (k + 1) y0 y1 y2 y3 y4 y5))
  | 0 => ⟨fun _ _ _ _ _ r h => by simp [laws_FnKnwHas.j0] at h, fun _ _ _ _ _ _ r h => by simp [laws_FnKnwHas.l0] at h⟩
  | k + 1 => by
    obtain ⟨ih0, ih1⟩ := laws_FnKnwHas.mono_l k
    refine ⟨?_, ?_⟩
    · intro y0 y1 y2 y3 y4
      unfold laws_FnKnwHas.j0
      repeat' first
      | (with_reducible exact ih0 _ _ _ _ _)
      | (with_reducible exact ih1 _ _ _ _ _ _)
      | (with_reducible exact spec_DrawKnwHas.mono _ _)
      | (with_reducible exact spec_KnwHas.mono _ _ _ _)
      | (with_reducible exact LeO.refl _)
      | (with_reducible exact LeO.none _)
      | (with_reducible refine LeO.ite ?_ ?_)
      | (with_reducible refine LeO.bind ?_ (fun _ => ?_))
      | exact LeO.none _
      | refine LeO.ite ?_ ?_
      | refine LeO.bind ?_ (fun _ => ?_)
    intro y0 y1 y2 y3 y4 y5
    unfold laws_FnKnwHas.l0
    repeat' first
    | (with_reducible exact ih0 _ _ _ _ _)
    | (with_reducible exact ih1 _ _ _ _ _ _)
    | (with_reducible exact spec_DrawKnwHas.mono _ _)
    | (with_reducible exact spec_KnwHas.mono _ _ _ _)
    | (with_reducible exact LeO.refl _)
    | (with_reducible exact LeO.none _)
    | (with_reducible refine LeO.ite ?_ ?_)
    | (with_reducible refine LeO.bind ?_ (fun _ => ?_))
    | exact LeO.none _
    | refine LeO.ite ?_ ?_
    | refine LeO.bind ?_ (fun _ => ?_)
theorem laws_FnKnwHas.mono : ∀ a0 k, LeO (laws_FnKnwHas.f k a0) (laws_FnKnwHas.f (k + 1) a0) := by
  intro a0 k
  obtain ⟨ih0, ih1⟩ := laws_FnKnwHas.mono_l k
  unfold laws_FnKnwHas.f
  repeat' first
      | (with_reducible exact ih0 _ _ _ _ _)
      | (with_reducible exact ih1 _ _ _ _ _ _)
      | (with_reducible exact spec_DrawKnwHas.mono _ _)
      | (with_reducible exact spec_KnwHas.mono _ _ _ _)
      | (with_reducible exact LeO.refl _)
      | (with_reducible exact LeO.none _)
      | (with_reducible refine LeO.ite ?_ ?_)
      | (with_reducible refine LeO.bind ?_ (fun _ => ?_))
      | exact LeO.none _
      | refine LeO.ite ?_ ?_
      | refine LeO.bind ?_ (fun _ => ?_)
set_option maxHeartbeats 8000000 in
set_option maxRecDepth 100000 in
theorem laws_FnKnwHas.calls (k : Nat) (A0 : Option Addr) (c0 : Nat) (l0 : List Int) (r : Bool) (w : World) (hr0 : Kd.C (Kd.int .u8) w A0 l0.length l0) (hc0 : l0.length ≤ c0) (hG : GlobOk w) (h : laws_FnKnwHas.f k l0 = some r) :
    Calls Tryd.prog 7 #[.slice A0 l0.length c0] w fun e w' => e = .returned (.bool r) ∧ Below w.heap.size w w' := by
  have hu45 := Tryd.underlying45
  have HR0 := Aside0.mk hr0
  have HC0 := Aside0.mk hc0
  clear hr0 hc0
  have HB := Aside0.mk (Below.refl w.heap.size w)
  have HGL := Aside0.mk hG
  clear hG
  have H : (if (l0.length : Int) > 1048576 then (some true) else ((spec_DrawKnwHas.f k l0).bind fun bt304 => ((impl_KnwHas.f bt304.1 bt304.2.1 bt304.2.2).bind fun t311 => ((spec_KnwHas.f k bt304.1 bt304.2.1 bt304.2.2).bind fun t312 => (if (t311 != t312) = true then (laws_FnKnwHas.j0 k bt304.1 bt304.2.1 bt304.2.2 t311 true) else (if t311 = true then ((impl_KnwOpen.f bt304.1 bt304.2.1).bind fun t313 => ((impl_KnwMake.f t313 bt304.2.2).bind fun t316 => (laws_FnKnwHas.j0 k bt304.1 bt304.2.1 bt304.2.2 t311 (!t316)))) else (laws_FnKnwHas.j0 k bt304.1 bt304.2.1 bt304.2.2 t311 false))))))) = some r := h
  clear h
  by_cases c2 : (l0.length : Int) > 1048576
  · rw [if_pos c2] at H
    have c2b0 : decide (1048576 < (l0.length : Int)) = true := decide_eq_true c2
    have c2b1 : decide (1048576 < l0.length) = true := decide_eq_true (by omega)
    clear c2
    obtain rfl := Option.some.inj H
    go_enter Tryd.func7, Tryd.ntmps7
    go_wp2
    go_ret
    exact ⟨y6_, y7_ HB.out⟩
  rw [if_neg c2] at H
  have c2b0 : decide (1048576 < (l0.length : Int)) = false := decide_eq_false c2
  have c2b1 : decide (1048576 < l0.length) = false := decide_eq_false (by omega)
  clear c2
  replace H := Option.bind_eq_some_iff.mp H
  obtain ⟨⟨t304, t305, t306⟩, A30, H⟩ := H
  replace H : ((impl_KnwHas.f t304 t305 t306).bind fun t311 => ((spec_KnwHas.f k t304 t305 t306).bind fun t312 => (if (t311 != t312) = true then (laws_FnKnwHas.j0 k t304 t305 t306 t311 true) else (if t311 = true then ((impl_KnwOpen.f t304 t305).bind fun t313 => ((impl_KnwMake.f t313 t306).bind fun t316 => (laws_FnKnwHas.j0 k t304 t305 t306 t311 (!t316)))) else (laws_FnKnwHas.j0 k t304 t305 t306 t311 false))))) = some r := H
  have A3 := Aside0.mk A30
  clear A30
  replace H := Option.bind_eq_some_iff.mp H
  obtain ⟨t311, A40, H⟩ := H
  replace H : ((spec_KnwHas.f k t304 t305 t306).bind fun t312 => (if (t311 != t312) = true then (laws_FnKnwHas.j0 k t304 t305 t306 t311 true) else (if t311 = true then ((impl_KnwOpen.f t304 t305).bind fun t313 => ((impl_KnwMake.f t313 t306).bind fun t316 => (laws_FnKnwHas.j0 k t304 t305 t306 t311 (!t316)))) else (laws_FnKnwHas.j0 k t304 t305 t306 t311 false)))) = some r := H
  have A4 := Aside0.mk A40
  clear A40
  have HC5 := Aside0.mk H
  clear H
  go_enter Tryd.func7, Tryd.ntmps7
  go_upto_region 5 with (first | ((with_reducible refine gate_callee (f := 11) rfl ?_); refine goesL_ (some 14) rfl rfl Tryd.func11 (by kernel_rfl) rfl #[.slice A0 l0.length c0] rfl y1_ ?_; (with_reducible refine (spec_DrawKnwHas.calls k _ _ l0 t304 t305 t306 _ ?side1 ?side2 A3.out).mono ?_); (case side1 => repeat (first | exact HR0.out | (with_reducible refine Kd.C_alloc ?_ _) | (with_reducible refine Kd.C_drewN ?_ _) | (with_reducible refine Kd.C_drew ?_))); (case side2 => exact HC0.out); rintro e w6 ⟨v307, v309, rfl, ho0, ho1, hb⟩; refine ⟨_, rfl, ?_⟩; have HO308 := Aside0.mk (Kd.R_lower ho0 (below_size (y7_ HB.out))); have HO310 := Aside0.mk (Kd.R_lower ho1 (below_size (y7_ HB.out))); replace HB := Aside0.mk (below_step (y7_ HB.out) hb); (try clear hb); (try clear hb2); (try clear hk); (try clear hi); (try clear ho0); (try clear ho1); obtain ⟨Ao7, co7, eo7⟩ := Kd.R_slice HO308.out; subst eo7; obtain ⟨Ao8, co8, eo8⟩ := Kd.R_slice HO310.out; subst eo8) | ((with_reducible refine gate_callee (f := 13) rfl ?_); refine goesL_ (some 21) rfl rfl Tryd.func13 (by kernel_rfl) rfl #[.slice Ao7 t304.length co7, .slice Ao8 t305.length co8, .string t306] rfl y1_ ?_; (with_reducible refine (impl_KnwHas.calls _ _ t304 _ _ t305 t306 t311 _ ?side1 ?side2 ?side3 ?side4 ?side5 A4.out).mono ?_); (case side1 => repeat (first | exact (Kd.R_reads' HO308.out).2.2 | (with_reducible refine Kd.C_alloc ?_ _) | (with_reducible refine Kd.C_drewN ?_ _) | (with_reducible refine Kd.C_drew ?_))); (case side2 => exact (Kd.R_reads' HO308.out).2.1); (case side3 => repeat (first | exact (Kd.R_reads' HO310.out).2.2 | (with_reducible refine Kd.C_alloc ?_ _) | (with_reducible refine Kd.C_drewN ?_ _) | (with_reducible refine Kd.C_drew ?_))); (case side4 => exact (Kd.R_reads' HO310.out).2.1); (case side5 => exact GlobOk.below HGL.out (y7_ HB.out)); rintro e w9 ⟨rfl, hb⟩; refine ⟨_, rfl, ?_⟩; replace HO308 := Aside0.mk (Kd.R_below (y11_ HO308.out) hb); replace HO310 := Aside0.mk (Kd.R_below (y11_ HO310.out) hb); replace HB := Aside0.mk (below_step (y7_ HB.out) hb); clear hb))
  (try simp only [Act.put, List.setIfInBounds_toArray, List.set_cons_zero, List.set_cons_succ])
  go_cut [38] (fun v38 wc => ∃ (kq : Nat) (x38_4 : Bool), v38 = .bool x38_4 ∧ Aside0 (laws_FnKnwHas.j0 kq t304 t305 t306 t311 x38_4 = some r) ∧ Aside0 (kq ≤ k) ∧ Aside0 (Kd.R Kd.string 9 wc w.heap.size (fun _ => True) (.slice Ao7 t304.length co7) t304) ∧ Aside0 (Kd.R k45 45 wc w.heap.size (fun _ => True) (.slice Ao8 t305.length co8) t305) ∧ Aside0 (Below w.heap.size w wc))
  case first =>
    have H := HC5.out
    clear HC5
    replace H := Option.bind_eq_some_iff.mp H
    obtain ⟨t312, A100, H⟩ := H
    replace H : (if (t311 != t312) = true then (laws_FnKnwHas.j0 k t304 t305 t306 t311 true) else (if t311 = true then ((impl_KnwOpen.f t304 t305).bind fun t313 => ((impl_KnwMake.f t313 t306).bind fun t316 => (laws_FnKnwHas.j0 k t304 t305 t306 t311 (!t316)))) else (laws_FnKnwHas.j0 k t304 t305 t306 t311 false))) = some r := H
    have A10 := Aside0.mk A100
    clear A100
    by_cases c11 : (t311 != t312) = true
    · rw [if_pos c11] at H
      have c11b0 : (t311 != t312) = true := c11
      (try (have c11b1 : decide (t311 = t312) = false := by simpa using c11))
      (try (have c11b2 : (t311 == t312) = false := by simpa using c11))
      (try (have c11b3 : ¬ (t311 = t312) := by simpa using c11))
      clear c11
      (first | rw [c11b0] | (simp only [i64_w, i32_w]; rw [c11b0]) | skip)
      have H' := Aside0.mk H
      clear H
      go_wp2_with (first | ((with_reducible refine gate_callee (f := 31) rfl ?_); refine goesL_ (some 26) rfl rfl Tryd.func31 (by kernel_rfl) rfl #[.slice Ao7 t304.length co7, .slice Ao8 t305.length co8, .string t306] rfl y1_ ?_; (with_reducible refine (spec_KnwHas.calls k _ _ t304 _ _ t305 t306 t312 _ ?side1 ?side2 ?side3 ?side4 A10.out).mono ?_); (case side1 => repeat (first | exact (Kd.R_reads' HO308.out).2.2 | (with_reducible refine Kd.C_alloc ?_ _) | (with_reducible refine Kd.C_drewN ?_ _) | (with_reducible refine Kd.C_drew ?_))); (case side2 => exact (Kd.R_reads' HO308.out).2.1); (case side3 => repeat (first | exact (Kd.R_reads' HO310.out).2.2 | (with_reducible refine Kd.C_alloc ?_ _) | (with_reducible refine Kd.C_drewN ?_ _) | (with_reducible refine Kd.C_drew ?_))); (case side4 => exact (Kd.R_reads' HO310.out).2.1); rintro e w12 ⟨rfl, hb⟩; refine ⟨_, rfl, ?_⟩; replace HO308 := Aside0.mk (Kd.R_below (y11_ HO308.out) hb); replace HO310 := Aside0.mk (Kd.R_below (y11_ HO310.out) hb); replace HB := Aside0.mk (below_step (y7_ HB.out) hb); clear hb))
      go_meet
      case rel => exact ⟨_, (true), y4_, H', ⟨by first | omega | exact Nat.le_refl _⟩, ⟨by (with_reducible repeat (first | apply Kd.R_alloc | apply Kd.R_drewN | apply Kd.R_drew)); exact HO308.out⟩, ⟨by (with_reducible repeat (first | apply Kd.R_alloc | apply Kd.R_drewN | apply Kd.R_drew)); exact HO310.out⟩, ⟨y7_ HB.out⟩⟩
    rw [if_neg c11] at H
    have c11b0 : (t311 != t312) = false := by simpa using c11
    (try (have c11b1 : decide (t311 = t312) = true := by simpa using c11))
    (try (have c11b2 : (t311 == t312) = true := by simpa using c11))
    clear c11
    (first | rw [c11b0] | (simp only [i64_w, i32_w]; rw [c11b0]) | skip)
    by_cases c13 : t311 = true
    · subst c13
      have H1 : ((impl_KnwOpen.f t304 t305).bind fun t313 => ((impl_KnwMake.f t313 t306).bind fun t316 => (laws_FnKnwHas.j0 k t304 t305 t306 true (!t316)))) = some r := by rw [if_pos rfl] at H; exact H
      clear H
      have H := H1
      clear H1
      replace H := Option.bind_eq_some_iff.mp H
      obtain ⟨t313, A140, H⟩ := H
      replace H : ((impl_KnwMake.f t313 t306).bind fun t316 => (laws_FnKnwHas.j0 k t304 t305 t306 true (!t316))) = some r := H
      have A14 := Aside0.mk A140
      clear A140
      replace H := Option.bind_eq_some_iff.mp H
      obtain ⟨t316, A150, H⟩ := H
      replace H : (laws_FnKnwHas.j0 k t304 t305 t306 true (!t316)) = some r := H
      have A15 := Aside0.mk A150
      clear A150
      have H' := Aside0.mk H
      clear H
      go_wp2_with (first | ((with_reducible refine gate_callee (f := 31) rfl ?_); refine goesL_ (some 26) rfl rfl Tryd.func31 (by kernel_rfl) rfl #[.slice Ao7 t304.length co7, .slice Ao8 t305.length co8, .string t306] rfl y1_ ?_; (with_reducible refine (spec_KnwHas.calls k _ _ t304 _ _ t305 t306 t312 _ ?side1 ?side2 ?side3 ?side4 A10.out).mono ?_); (case side1 => repeat (first | exact (Kd.R_reads' HO308.out).2.2 | (with_reducible refine Kd.C_alloc ?_ _) | (with_reducible refine Kd.C_drewN ?_ _) | (with_reducible refine Kd.C_drew ?_))); (case side2 => exact (Kd.R_reads' HO308.out).2.1); (case side3 => repeat (first | exact (Kd.R_reads' HO310.out).2.2 | (with_reducible refine Kd.C_alloc ?_ _) | (with_reducible refine Kd.C_drewN ?_ _) | (with_reducible refine Kd.C_drew ?_))); (case side4 => exact (Kd.R_reads' HO310.out).2.1); rintro e w16 ⟨rfl, hb⟩; refine ⟨_, rfl, ?_⟩; replace HO308 := Aside0.mk (Kd.R_below (y11_ HO308.out) hb); replace HO310 := Aside0.mk (Kd.R_below (y11_ HO310.out) hb); replace HB := Aside0.mk (below_step (y7_ HB.out) hb); clear hb) | (go_at_call 12; (with_reducible refine (impl_KnwOpen.calls _ _ t304 _ _ t305 t313 _ ?side1 ?side2 ?side3 ?side4 ?side5 A14.out).mono ?_); (case side1 => repeat (first | exact (Kd.R_reads' HO308.out).2.2 | (with_reducible refine Kd.C_alloc ?_ _) | (with_reducible refine Kd.C_drewN ?_ _) | (with_reducible refine Kd.C_drew ?_))); (case side2 => exact (Kd.R_reads' HO308.out).2.1); (case side3 => repeat (first | exact (Kd.R_reads' HO310.out).2.2 | (with_reducible refine Kd.C_alloc ?_ _) | (with_reducible refine Kd.C_drewN ?_ _) | (with_reducible refine Kd.C_drew ?_))); (case side4 => exact (Kd.R_reads' HO310.out).2.1); (case side5 => exact GlobOk.below HGL.out (y7_ HB.out)); rintro e w17 ⟨v314, rfl, ho0, hb⟩; replace HO310 := Aside0.mk (Kd.R_below (y11_ HO310.out) hb); have HO315 := Aside0.mk (Kd.Q_lower (Kd.Q_new' ho0 (Kd.R_lt (y11_ HO308.out))) (below_size (y7_ HB.out))); replace HO308 := Aside0.mk (Kd.R_elder' (y11_ HO308.out) (Kd.Q_base ho0) hb); replace HB := Aside0.mk (below_step (y7_ HB.out) hb); (try clear hb); (try clear hb2); (try clear hk); (try clear hi); (try clear ho0); obtain ⟨Ao18, co18, eo18, _⟩ := Kd.Q_slice HO315.out; subst eo18) | (go_at_call 14; (with_reducible refine (impl_KnwMake.calls _ _ t313 t306 t316 _ ?side1 ?side2 ?side3 A15.out).mono ?_); (case side1 => repeat (first | exact (Kd.Q_reads' HO315.out).2.2 | (with_reducible refine Kd.C_alloc ?_ _) | (with_reducible refine Kd.C_drewN ?_ _) | (with_reducible refine Kd.C_drew ?_))); (case side2 => exact (Kd.Q_reads' HO315.out).2.1); (case side3 => exact GlobOk.below HGL.out (y7_ HB.out)); rintro e w19 ⟨rfl, hb⟩; replace HO308 := Aside0.mk (Kd.R_below (y11_ HO308.out) hb); replace HO310 := Aside0.mk (Kd.R_below (y11_ HO310.out) hb); replace HO315 := Aside0.mk (Kd.Q_below (y13_ HO315.out) hb); replace HB := Aside0.mk (below_step (y7_ HB.out) hb); clear hb))
      go_meet
      case rel => exact ⟨_, (!t316), y4_, H', ⟨by first | omega | exact Nat.le_refl _⟩, ⟨by (with_reducible repeat (first | apply Kd.R_alloc | apply Kd.R_drewN | apply Kd.R_drew)); exact Kd.R_mono HO308.out (fun _ hk => trivial)⟩, ⟨by (with_reducible repeat (first | apply Kd.R_alloc | apply Kd.R_drewN | apply Kd.R_drew)); exact HO310.out⟩, ⟨y7_ HB.out⟩⟩
    replace c13 := Bool.eq_false_iff.mpr c13
    subst c13
    have H1 : (laws_FnKnwHas.j0 k t304 t305 t306 false false) = some r := by rw [if_neg (show ¬ (false = true) by decide)] at H; exact H
    clear H
    have H := H1
    clear H1
    have H' := Aside0.mk H
    clear H
    go_wp2_with (first | ((with_reducible refine gate_callee (f := 31) rfl ?_); refine goesL_ (some 26) rfl rfl Tryd.func31 (by kernel_rfl) rfl #[.slice Ao7 t304.length co7, .slice Ao8 t305.length co8, .string t306] rfl y1_ ?_; (with_reducible refine (spec_KnwHas.calls k _ _ t304 _ _ t305 t306 t312 _ ?side1 ?side2 ?side3 ?side4 A10.out).mono ?_); (case side1 => repeat (first | exact (Kd.R_reads' HO308.out).2.2 | (with_reducible refine Kd.C_alloc ?_ _) | (with_reducible refine Kd.C_drewN ?_ _) | (with_reducible refine Kd.C_drew ?_))); (case side2 => exact (Kd.R_reads' HO308.out).2.1); (case side3 => repeat (first | exact (Kd.R_reads' HO310.out).2.2 | (with_reducible refine Kd.C_alloc ?_ _) | (with_reducible refine Kd.C_drewN ?_ _) | (with_reducible refine Kd.C_drew ?_))); (case side4 => exact (Kd.R_reads' HO310.out).2.1); rintro e w20 ⟨rfl, hb⟩; refine ⟨_, rfl, ?_⟩; replace HO308 := Aside0.mk (Kd.R_below (y11_ HO308.out) hb); replace HO310 := Aside0.mk (Kd.R_below (y11_ HO310.out) hb); replace HB := Aside0.mk (below_step (y7_ HB.out) hb); clear hb))
    go_meet
    case rel => exact ⟨_, (false), y4_, H', ⟨by first | omega | exact Nat.le_refl _⟩, ⟨by (with_reducible repeat (first | apply Kd.R_alloc | apply Kd.R_drewN | apply Kd.R_drew)); exact HO308.out⟩, ⟨by (with_reducible repeat (first | apply Kd.R_alloc | apply Kd.R_drewN | apply Kd.R_drew)); exact HO310.out⟩, ⟨y7_ HB.out⟩⟩
  case rest =>
    clear HC5
    try clear c1
    try clear c2
    try clear c2b0
    try clear c2b1
    try clear p2
    try clear c3
    try clear c7
    try clear c11
    try clear c11b0
    try clear c11b1
    try clear c11b2
    try clear c13
    obtain ⟨kq, x38_4, rfl, HA, HJ4, HO_3, HO_4, HB⟩ := hcut
    cases kq with
    | zero => exact absurd HA.out (by simp [laws_FnKnwHas.j0])
    | succ kj4 =>
      have H := HA.out
      clear HA
      simp only [laws_FnKnwHas.j0] at H
      by_cases c21 : x38_4 = true
      · subst c21
        have H1 : (some false) = some r := by rw [if_pos rfl] at H; exact H
        clear H
        have H := H1
        clear H1
        obtain rfl := Option.some.inj H
        go_wp2
        go_ret
        exact ⟨y6_, y7_ HB.out⟩
      replace c21 := Bool.eq_false_iff.mpr c21
      subst c21
      have H1 : (laws_FnKnwHas.l0 kj4 t304 t305 t306 t311 (([] : List (S45))) (wrap64 ((t305.length : Int) - 1))) = some r := by rw [if_neg (show ¬ (false = true) by decide)] at H; exact H
      clear H
      have H := H1
      clear H1
      obtain ⟨y317, hy317⟩ : ∃ y_ : List (S45), y_ = (([] : List (S45))) := ⟨_, rfl⟩
      replace H : (laws_FnKnwHas.l0 kj4 t304 t305 t306 t311 y317 (wrap64 ((t305.length : Int) - 1))) = some r := by first | (rw [hy317]; with_reducible exact H) | (have H2_ := (Option.bind_some _ _).symm.trans H; rw [hy317]; with_reducible exact H2_) | (have H2_ := (Option.bind_some _ _).symm.trans H; with_reducible exact H2_) | with_reducible exact H | (rw [hy317]; exact H) | exact H
      have Ny317 := Aside0.mk hy317
      clear hy317
      have H' := Aside0.mk H
      clear H
      go_wp2_with (first | ((with_reducible refine gate_dst (N := 39) rfl ?_); refine Kd.R_lit k45 _ 45 ?hg (N := 39) ?hd (xs := ([] : List (S45))) (inner := []) (ok := fun _ => True) (okp := fun _ => True) ?hr ?hp (fun _ hk => hk) trivial (Below.refl _ _) (Nat.le_refl _) (by simp) ?_; (case hd => rfl); (case hg => rfl); (case hr => first | (go_simp; done) | (go_simp; rfl)); (case hp => exact (Reps.none _ _)); intro v318 w22 ho23 hb hg_ hnew_; clear hg_ hnew_; (first | rw [← Ny317.out] at ho23 | (simp only [Int.reduceToNat] at ho23; rw [← Ny317.out] at ho23)); replace HO_3 := Aside0.mk (Kd.R_below (y11_ HO_3.out) hb); have HO319 := Aside0.mk (Kd.R_lower (Kd.R_new' ho23 (Kd.R_lt (y11_ HO_4.out))) (below_size (y7_ HB.out))); replace HO_4 := Aside0.mk (Kd.R_elder' (y11_ HO_4.out) (Kd.R_base ho23) hb); replace HB := Aside0.mk (below_step (y7_ HB.out) hb); clear hb ho23))
      go_loopg [7, 8] kj4 (fun kq v7 v8 w' => ∃ (x7_2 : List (S45)) (x8_2 : Int), v8 = .int .i64 x8_2 ∧ Aside0 (laws_FnKnwHas.l0 kq t304 t305 t306 t311 x7_2 x8_2 = some r) ∧ Aside0 (kq ≤ kj4) ∧ Aside0 (Kd.R Kd.string 9 w' w.heap.size (fun _ => True) (.slice Ao7 t304.length co7) t304) ∧ Aside0 (Kd.R k45 45 w' w.heap.size (fun k_ => some k_ ≠ (v7 : Value).ownBlock) (.slice Ao8 t305.length co8) t305) ∧ Aside0 (Kd.R k45 45 w' w.heap.size (fun k_ => some k_ ≠ ((.slice Ao8 t305.length co8) : Value).ownBlock) v7 x7_2) ∧ Aside0 (Below w.heap.size w w'))
      case atStart => exact ⟨(y317), (wrap64 ((t305.length : Int) - 1)), y4_, H', ⟨Nat.le_refl _⟩, ⟨by (with_reducible repeat (first | apply Kd.R_alloc | apply Kd.R_drewN | apply Kd.R_drew)); exact HO_3.out⟩, ⟨by (with_reducible repeat (first | apply Kd.R_alloc | apply Kd.R_drewN | apply Kd.R_drew)); exact Kd.R_mono HO_4.out (fun _ hk => hk.2)⟩, ⟨by (with_reducible repeat (first | apply Kd.R_alloc | apply Kd.R_drewN | apply Kd.R_drew)); exact Kd.R_mono HO319.out (fun _ hk => hk.2)⟩, ⟨y7_ HB.out⟩⟩
      case round =>
        clear H'
        try clear c1
        try clear c2
        try clear c2b0
        try clear c2b1
        try clear p2
        try clear c3
        try clear p6
        try clear c7
        try clear c11
        try clear c11b0
        try clear c11b1
        try clear c11b2
        try clear c13
        try clear c21
        try clear p2
        obtain ⟨x7_2, x8_2, rfl, HA, HK2, HO_3, HO_4, HO_7, HB⟩ := hrel
        cases gk with
        | zero => exact absurd HA.out (by simp [laws_FnKnwHas.l0])
        | succ k2 =>
          have H := HA.out
          clear HA
          simp only [laws_FnKnwHas.l0] at H
          by_cases c24 : x8_2 ≥ 0
          · rw [if_pos c24] at H
            have c24b0 : decide (0 ≤ x8_2) = true := decide_eq_true c24
            clear c24
            by_cases c25 : 0 ≤ x8_2
            · rw [if_pos c25] at H
              have c25b0 : decide (0 ≤ x8_2) = true := decide_eq_true c25
              clear c25
              by_cases c26 : x8_2 < (t305.length : Int)
              · rw [if_pos c26] at H
                have c26b0 : decide (x8_2 < (t305.length : Int)) = true := decide_eq_true c26
                clear c26
                by_cases c27 : x7_2.length < 4398046511104
                · rw [if_pos c27] at H
                  have LMc27 := Aside0.mk c27
                  clear c27
                  obtain ⟨y321, hy321⟩ : ∃ y_ : List (S45), y_ = (x7_2 ++ [(⟨(rd_T45 t305 x8_2).f0, (rd_T45 t305 x8_2).f1⟩ : S45)]) := ⟨_, rfl⟩
                  replace H : (laws_FnKnwHas.l0 k2 t304 t305 t306 t311 y321 (wrap64 (x8_2 - 1))) = some r := by first | (rw [hy321]; with_reducible exact H) | (have H2_ := (Option.bind_some _ _).symm.trans H; rw [hy321]; with_reducible exact H2_) | (have H2_ := (Option.bind_some _ _).symm.trans H; with_reducible exact H2_) | with_reducible exact H | (rw [hy321]; exact H) | exact H
                  have Ny321 := Aside0.mk hy321
                  clear hy321
                  have H' := Aside0.mk H
                  clear H
                  have p320 : 0 ≤ (x8_2 : Int) := of_decide_eq_true y3_
                  have q320 : x8_2 < (t305.length : Int) := of_decide_eq_true y3_
                  obtain ⟨ad320, e320, hx320_0, hx320_1⟩ := at_T45 (Kd.R_reads' HO_4.out).2.2 x8_2 p320 q320
                  cases e320
                  replace p320 := eq_true p320
                  replace q320 := eq_true q320
                  go_wp2_with (first | ((with_reducible refine gate_builtin (b := .append) (xs := #[.tmp 47, .tmp 52]) rfl ?_); at_builtin; refine Kd.R_append k45 (w0 := w) w.heap.size rfl (.tmp 47) (.tmp 52) 24 45 (.agg #[(.string ⟨#[]⟩), (.string ⟨#[]⟩)]) 32 rfl Tryd.underlying24 info45 rfl (by decide) (by omega) u7 x7_2 (⟨(rd_T45 t305 x8_2).f0, (rd_T45 t305 x8_2).f1⟩ : S45) [.string ((rd_T45 t305 x8_2).f0), .string ((rd_T45 t305 x8_2).f1)] (fun k_ => some k_ ≠ (.slice (some ad320) t305.length co8 : Value).ownBlock) (fun _ => False) rfl rfl ?aP (fun _ hk => hk.elim) ?aF ?aO ?aB ?aS ?aL ?_; (case aP => exact k45_mkM _ _ _ (⟨(rd_T45 t305 x8_2).f0, (rd_T45 t305 x8_2).f1⟩ : S45)); (case aB => exact (y7_ HB.out)); (case aF => exact (fun k_ hk => Kd.fresh' (Kd.R_lt (y11_ HO_4.out)) k_ hk)); (case aO => exact (y11_ HO_7.out)); (case aS => exact (below_size (y7_ HB.out))); (case aL => have := LMc27.out; omega); intro v322 w28 ho hb hg hat; rw [← Ny321.out] at ho; replace HO_3 := Aside0.mk (Kd.R_over' (y11_ HO_3.out) (Kd.R_typed (y11_ HO_7.out)) (by decide) hg); replace HO_4 := Aside0.mk (Kd.R_after (ok := (fun _ => True)) (by (with_reducible repeat (first | apply Kd.R_alloc | apply Kd.R_drewN | apply Kd.R_drew)); exact Kd.R_mono HO_4.out (fun _ hk => ⟨trivial, hk⟩)) hg hat); replace HB := Aside0.mk (hb); have HO323 := Aside0.mk (ho); clear HO_7; clear ho hb hg hat))
                  go_roundg k2
                  case measure => have := HJ4.out; have := HK2.out; omega
                  case rel => exact ⟨(y321), (wrap64 (x8_2 - 1)), y4_, H', ⟨by have := HJ4.out; have := HK2.out; omega⟩, ⟨by (with_reducible repeat (first | apply Kd.R_alloc | apply Kd.R_drewN | apply Kd.R_drew)); exact HO_3.out⟩, ⟨by (with_reducible repeat (first | apply Kd.R_alloc | apply Kd.R_drewN | apply Kd.R_drew)); exact Kd.R_mono HO_4.out (fun _ hk => hk.2)⟩, ⟨by (with_reducible repeat (first | apply Kd.R_alloc | apply Kd.R_drewN | apply Kd.R_drew)); exact HO323.out⟩, ⟨y7_ HB.out⟩⟩
                rw [if_neg c27] at H
                exact absurd H (by simp)
              rw [if_neg c26] at H
              exact absurd H (by simp)
            rw [if_neg c25] at H
            exact absurd H (by simp)
          rw [if_neg c24] at H
          have c24b0 : decide (0 ≤ x8_2) = false := decide_eq_false c24
          clear c24
          replace H := Option.bind_eq_some_iff.mp H
          obtain ⟨t324, A290, H⟩ := H
          replace H : (if (t324 != t311) = true then (some false) else (if t311 = true then ((some (([] : List ByteArray) : List ByteArray)).bind fun y325 => (if y325.length + t304.length < 8796093022208 then ((some (y325 ++ t304 : List ByteArray)).bind fun y328 => (if y328.length < 8796093022208 then ((some (([] : List (S45)) : List (S45))).bind fun y334 => (if y334.length + t305.length < 4398046511104 then ((some (y334 ++ t305 : List (S45))).bind fun y337 => (if y337.length < 4398046511104 then ((impl_KnwHas.f (y328 ++ [(⟨#[72, 57, 59]⟩ : ByteArray)]) (y337 ++ [(⟨(⟨#[107, 72, 56, 59]⟩ : ByteArray), (⟨#[72, 55, 59]⟩ : ByteArray)⟩ : S45)]) t306).bind fun t343 => (some t343)) else (none))) else (none))) else (none))) else (none))) else ((laws_keOk.f).bind fun t344 => (some t344)))) = some r := H
          have A29 := Aside0.mk A290
          clear A290
          by_cases c30 : (t324 != t311) = true
          · rw [if_pos c30] at H
            have c30b0 : (t324 != t311) = true := c30
            (try (have c30b1 : decide (t324 = t311) = false := by simpa using c30))
            (try (have c30b2 : (t324 == t311) = false := by simpa using c30))
            (try (have c30b3 : ¬ (t324 = t311) := by simpa using c30))
            clear c30
            obtain rfl := Option.some.inj H
            obtain ⟨Ao31, co31, eo31⟩ := Kd.R_slice HO_7.out
            subst eo31
            go_wp2_with (first | ((with_reducible refine gate_callee (f := 13) rfl ?_); refine goesL_ (some 57) rfl rfl Tryd.func13 (by kernel_rfl) rfl #[.slice Ao7 t304.length co7, .slice Ao31 x7_2.length co31, .string t306] rfl y1_ ?_; (with_reducible refine (impl_KnwHas.calls _ _ t304 _ _ x7_2 t306 t324 _ ?side1 ?side2 ?side3 ?side4 ?side5 A29.out).mono ?_); (case side1 => repeat (first | exact (Kd.R_reads' HO_3.out).2.2 | (with_reducible refine Kd.C_alloc ?_ _) | (with_reducible refine Kd.C_drewN ?_ _) | (with_reducible refine Kd.C_drew ?_))); (case side2 => exact (Kd.R_reads' HO_3.out).2.1); (case side3 => repeat (first | exact (Kd.R_reads' HO_7.out).2.2 | (with_reducible refine Kd.C_alloc ?_ _) | (with_reducible refine Kd.C_drewN ?_ _) | (with_reducible refine Kd.C_drew ?_))); (case side4 => exact (Kd.R_reads' HO_7.out).2.1); (case side5 => exact GlobOk.below HGL.out (y7_ HB.out)); rintro e w32 ⟨rfl, hb⟩; refine ⟨_, rfl, ?_⟩; replace HO_3 := Aside0.mk (Kd.R_below (y11_ HO_3.out) hb); replace HO_4 := Aside0.mk (Kd.R_below (y11_ HO_4.out) hb); replace HO_7 := Aside0.mk (Kd.R_below (y11_ HO_7.out) hb); replace HB := Aside0.mk (below_step (y7_ HB.out) hb); clear hb))
            go_ret
            exact ⟨y6_, y7_ HB.out⟩
          rw [if_neg c30] at H
          have c30b0 : (t324 != t311) = false := by simpa using c30
          (try (have c30b1 : decide (t324 = t311) = true := by simpa using c30))
          (try (have c30b2 : (t324 == t311) = true := by simpa using c30))
          clear c30
          by_cases c33 : t311 = true
          · subst c33
            have H1 : ((some (([] : List ByteArray) : List ByteArray)).bind fun y325 => (if y325.length + t304.length < 8796093022208 then ((some (y325 ++ t304 : List ByteArray)).bind fun y328 => (if y328.length < 8796093022208 then ((some (([] : List (S45)) : List (S45))).bind fun y334 => (if y334.length + t305.length < 4398046511104 then ((some (y334 ++ t305 : List (S45))).bind fun y337 => (if y337.length < 4398046511104 then ((impl_KnwHas.f (y328 ++ [(⟨#[72, 57, 59]⟩ : ByteArray)]) (y337 ++ [(⟨(⟨#[107, 72, 56, 59]⟩ : ByteArray), (⟨#[72, 55, 59]⟩ : ByteArray)⟩ : S45)]) t306).bind fun t343 => (some t343)) else (none))) else (none))) else (none))) else (none))) = some r := by rw [if_pos rfl] at H; exact H
            clear H
            have H := H1
            clear H1
            obtain ⟨y325, hy325⟩ : ∃ y_ : List ByteArray, y_ = (([] : List ByteArray)) := ⟨_, rfl⟩
            replace H : (if y325.length + t304.length < 8796093022208 then ((some (y325 ++ t304 : List ByteArray)).bind fun y328 => (if y328.length < 8796093022208 then ((some (([] : List (S45)) : List (S45))).bind fun y334 => (if y334.length + t305.length < 4398046511104 then ((some (y334 ++ t305 : List (S45))).bind fun y337 => (if y337.length < 4398046511104 then ((impl_KnwHas.f (y328 ++ [(⟨#[72, 57, 59]⟩ : ByteArray)]) (y337 ++ [(⟨(⟨#[107, 72, 56, 59]⟩ : ByteArray), (⟨#[72, 55, 59]⟩ : ByteArray)⟩ : S45)]) t306).bind fun t343 => (some t343)) else (none))) else (none))) else (none))) else (none)) = some r := by first | (rw [hy325]; with_reducible exact H) | (have H2_ := (Option.bind_some _ _).symm.trans H; rw [hy325]; with_reducible exact H2_) | (have H2_ := (Option.bind_some _ _).symm.trans H; with_reducible exact H2_) | with_reducible exact H | (rw [hy325]; exact H) | exact H
            have Ny325 := Aside0.mk hy325
            clear hy325
            by_cases c34 : y325.length + t304.length < 8796093022208
            · rw [if_pos c34] at H
              have LMc34 := Aside0.mk c34
              clear c34
              obtain ⟨y328, hy328⟩ : ∃ y_ : List ByteArray, y_ = (y325 ++ t304) := ⟨_, rfl⟩
              replace H : (if y328.length < 8796093022208 then ((some (([] : List (S45)) : List (S45))).bind fun y334 => (if y334.length + t305.length < 4398046511104 then ((some (y334 ++ t305 : List (S45))).bind fun y337 => (if y337.length < 4398046511104 then ((impl_KnwHas.f (y328 ++ [(⟨#[72, 57, 59]⟩ : ByteArray)]) (y337 ++ [(⟨(⟨#[107, 72, 56, 59]⟩ : ByteArray), (⟨#[72, 55, 59]⟩ : ByteArray)⟩ : S45)]) t306).bind fun t343 => (some t343)) else (none))) else (none))) else (none)) = some r := by first | (rw [hy328]; with_reducible exact H) | (have H2_ := (Option.bind_some _ _).symm.trans H; rw [hy328]; with_reducible exact H2_) | (have H2_ := (Option.bind_some _ _).symm.trans H; with_reducible exact H2_) | with_reducible exact H | (rw [hy328]; exact H) | exact H
              have Ny328 := Aside0.mk hy328
              clear hy328
              by_cases c35 : y328.length < 8796093022208
              · rw [if_pos c35] at H
                have LMc35 := Aside0.mk c35
                clear c35
                obtain ⟨y331, hy331⟩ : ∃ y_ : List ByteArray, y_ = (y328 ++ [(⟨#[72, 57, 59]⟩ : ByteArray)]) := ⟨_, rfl⟩
                replace H : ((some (([] : List (S45)) : List (S45))).bind fun y334 => (if y334.length + t305.length < 4398046511104 then ((some (y334 ++ t305 : List (S45))).bind fun y337 => (if y337.length < 4398046511104 then ((impl_KnwHas.f y331 (y337 ++ [(⟨(⟨#[107, 72, 56, 59]⟩ : ByteArray), (⟨#[72, 55, 59]⟩ : ByteArray)⟩ : S45)]) t306).bind fun t343 => (some t343)) else (none))) else (none))) = some r := by first | (rw [hy331]; with_reducible exact H) | (have H2_ := (Option.bind_some _ _).symm.trans H; rw [hy331]; with_reducible exact H2_) | (have H2_ := (Option.bind_some _ _).symm.trans H; with_reducible exact H2_) | with_reducible exact H | (rw [hy331]; exact H) | exact H
                have Ny331 := Aside0.mk hy331
                clear hy331
                obtain ⟨y334, hy334⟩ : ∃ y_ : List (S45), y_ = (([] : List (S45))) := ⟨_, rfl⟩
                replace H : (if y334.length + t305.length < 4398046511104 then ((some (y334 ++ t305 : List (S45))).bind fun y337 => (if y337.length < 4398046511104 then ((impl_KnwHas.f y331 (y337 ++ [(⟨(⟨#[107, 72, 56, 59]⟩ : ByteArray), (⟨#[72, 55, 59]⟩ : ByteArray)⟩ : S45)]) t306).bind fun t343 => (some t343)) else (none))) else (none)) = some r := by first | (rw [hy334]; with_reducible exact H) | (have H2_ := (Option.bind_some _ _).symm.trans H; rw [hy334]; with_reducible exact H2_) | (have H2_ := (Option.bind_some _ _).symm.trans H; with_reducible exact H2_) | with_reducible exact H | (rw [hy334]; exact H) | exact H
                have Ny334 := Aside0.mk hy334
                clear hy334
                by_cases c36 : y334.length + t305.length < 4398046511104
                · rw [if_pos c36] at H
                  have LMc36 := Aside0.mk c36
                  clear c36
                  obtain ⟨y337, hy337⟩ : ∃ y_ : List (S45), y_ = (y334 ++ t305) := ⟨_, rfl⟩
                  replace H : (if y337.length < 4398046511104 then ((impl_KnwHas.f y331 (y337 ++ [(⟨(⟨#[107, 72, 56, 59]⟩ : ByteArray), (⟨#[72, 55, 59]⟩ : ByteArray)⟩ : S45)]) t306).bind fun t343 => (some t343)) else (none)) = some r := by first | (rw [hy337]; with_reducible exact H) | (have H2_ := (Option.bind_some _ _).symm.trans H; rw [hy337]; with_reducible exact H2_) | (have H2_ := (Option.bind_some _ _).symm.trans H; with_reducible exact H2_) | with_reducible exact H | (rw [hy337]; exact H) | exact H
                  have Ny337 := Aside0.mk hy337
                  clear hy337
                  by_cases c37 : y337.length < 4398046511104
                  · rw [if_pos c37] at H
                    have LMc37 := Aside0.mk c37
                    clear c37
                    obtain ⟨y340, hy340⟩ : ∃ y_ : List (S45), y_ = (y337 ++ [(⟨(⟨#[107, 72, 56, 59]⟩ : ByteArray), (⟨#[72, 55, 59]⟩ : ByteArray)⟩ : S45)]) := ⟨_, rfl⟩
                    replace H : ((impl_KnwHas.f y331 y340 t306).bind fun t343 => (some t343)) = some r := by first | (rw [hy340]; with_reducible exact H) | (have H2_ := (Option.bind_some _ _).symm.trans H; rw [hy340]; with_reducible exact H2_) | (have H2_ := (Option.bind_some _ _).symm.trans H; with_reducible exact H2_) | with_reducible exact H | (rw [hy340]; exact H) | exact H
                    have Ny340 := Aside0.mk hy340
                    clear hy340
                    replace H := Option.bind_eq_some_iff.mp H
                    obtain ⟨t343, A380, H⟩ := H
                    replace H : (some t343) = some r := H
                    have A38 := Aside0.mk A380
                    clear A380
                    obtain rfl := Option.some.inj H
                    obtain ⟨Ao39, co39, eo39⟩ := Kd.R_slice HO_7.out
                    subst eo39
                    go_wp2_with (first | ((with_reducible refine gate_callee (f := 13) rfl ?_); refine goesL_ (some 57) rfl rfl Tryd.func13 (by kernel_rfl) rfl #[.slice Ao7 t304.length co7, .slice Ao39 x7_2.length co39, .string t306] rfl y1_ ?_; (with_reducible refine (impl_KnwHas.calls _ _ t304 _ _ x7_2 t306 t324 _ ?side1 ?side2 ?side3 ?side4 ?side5 A29.out).mono ?_); (case side1 => repeat (first | exact (Kd.R_reads' HO_3.out).2.2 | (with_reducible refine Kd.C_alloc ?_ _) | (with_reducible refine Kd.C_drewN ?_ _) | (with_reducible refine Kd.C_drew ?_))); (case side2 => exact (Kd.R_reads' HO_3.out).2.1); (case side3 => repeat (first | exact (Kd.R_reads' HO_7.out).2.2 | (with_reducible refine Kd.C_alloc ?_ _) | (with_reducible refine Kd.C_drewN ?_ _) | (with_reducible refine Kd.C_drew ?_))); (case side4 => exact (Kd.R_reads' HO_7.out).2.1); (case side5 => exact GlobOk.below HGL.out (y7_ HB.out)); rintro e w40 ⟨rfl, hb⟩; refine ⟨_, rfl, ?_⟩; replace HO_3 := Aside0.mk (Kd.R_below (y11_ HO_3.out) hb); replace HO_4 := Aside0.mk (Kd.R_below (y11_ HO_4.out) hb); replace HO_7 := Aside0.mk (Kd.R_below (y11_ HO_7.out) hb); replace HB := Aside0.mk (below_step (y7_ HB.out) hb); clear hb) | ((with_reducible refine gate_dst (N := 63) rfl ?_); refine Kd.R_lit Kd.string _ 9 ?hg (N := 63) ?hd (xs := ([] : List ByteArray)) (inner := []) (ok := fun _ => True) (okp := fun _ => True) ?hr ?hp (fun _ hk => hk) trivial (Below.refl _ _) (Nat.le_refl _) (by simp) ?_; (case hd => rfl); (case hg => rfl); (case hr => first | (go_simp; done) | (go_simp; rfl)); (case hp => exact (Reps.none _ _)); intro v326 w41 ho42 hb hg_ hnew_; clear hg_ hnew_; (first | rw [← Ny325.out] at ho42 | (simp only [Int.reduceToNat] at ho42; rw [← Ny325.out] at ho42)); replace HO_4 := Aside0.mk (Kd.R_below (y11_ HO_4.out) hb); replace HO_7 := Aside0.mk (Kd.R_below (y11_ HO_7.out) hb); have HO327 := Aside0.mk (Kd.R_lower (Kd.R_new' ho42 (Kd.R_lt (y11_ HO_3.out))) (below_size (y7_ HB.out))); replace HO_3 := Aside0.mk (Kd.R_elder' (y11_ HO_3.out) (Kd.R_base ho42) hb); replace HB := Aside0.mk (below_step (y7_ HB.out) hb); clear hb ho42) | ((with_reducible refine gate_builtin (b := .append) (xs := #[.tmp 63, .tmp 64]) rfl ?_); at_builtin; refine Kd.R_append_rows Kd.string (w0 := w) w.heap.size rfl (.tmp 63) (.tmp 64) 23 9 (.string ⟨#[]⟩) 16 rfl Tryd.underlying23 info9 rfl (by decide) (by omega) v326 y325 t304 _ _ _ (fun k_ => some k_ ≠ (.slice Ao7 t304.length co7 : Value).ownBlock) (fun _ => False) rfl rfl ?aO ?aR (fun _ _ h => h) (fun _ h => h.elim) ?aF ?aB ?aS ?aL ?_; (case aR => repeat (first | exact (Kd.R_reads' HO_3.out).2.2 | (with_reducible refine Kd.C_alloc ?_ _) | (with_reducible refine Kd.C_drewN ?_ _) | (with_reducible refine Kd.C_drew ?_))); (case aB => exact (y7_ HB.out)); (case aF => exact (fun k_ hk => Kd.fresh' (Kd.R_lt (y11_ HO_3.out)) k_ hk)); (case aO => exact (by (with_reducible repeat (first | apply Kd.R_alloc | apply Kd.R_drewN | apply Kd.R_drew)); exact Kd.R_mono HO327.out (fun _ hk => hk.2))); (case aS => exact (below_size (y7_ HB.out))); (case aL => have := LMc34.out; omega); intro v329 w43 ho hb hg hat; rw [← Ny328.out] at ho; replace HO_3 := Aside0.mk (Kd.R_after (ok := (fun _ => True)) (y11_ HO_3.out) hg hat); replace HO_4 := Aside0.mk (Kd.R_over' (y11_ HO_4.out) (Kd.R_typed (y11_ HO327.out)) (by decide) hg); replace HO_7 := Aside0.mk (Kd.R_over' (y11_ HO_7.out) (Kd.R_typed (y11_ HO327.out)) (by decide) hg); replace HB := Aside0.mk (hb); have HO330 := Aside0.mk (ho); clear HO327; clear ho hb hg hat) | ((with_reducible refine gate_builtin (b := .append) (xs := #[.tmp 65, .tmp 66]) rfl ?_); at_builtin; refine Kd.R_append Kd.string (w0 := w) w.heap.size rfl (.tmp 65) (.tmp 66) 23 9 (.string ⟨#[]⟩) 16 rfl Tryd.underlying23 info9 rfl (by decide) (by omega) v329 y328 (⟨#[72, 57, 59]⟩ : ByteArray) [.string (⟨#[72, 57, 59]⟩ : ByteArray)] (fun k_ => some k_ ≠ (.slice Ao7 t304.length co7 : Value).ownBlock) (fun _ => False) rfl rfl ?aP (fun _ hk => hk.elim) ?aF ?aO ?aB ?aS ?aL ?_; (case aP => exact rfl); (case aB => exact (y7_ HB.out)); (case aF => exact (fun k_ hk => Kd.fresh' (Kd.R_lt (y11_ HO_3.out)) k_ hk)); (case aO => exact (y11_ HO330.out)); (case aS => exact (below_size (y7_ HB.out))); (case aL => have := LMc35.out; omega); intro v332 w44 ho hb hg hat; rw [← Ny331.out] at ho; replace HO_3 := Aside0.mk (Kd.R_after (ok := (fun _ => True)) (y11_ HO_3.out) hg hat); replace HO_4 := Aside0.mk (Kd.R_over' (y11_ HO_4.out) (Kd.R_typed (y11_ HO330.out)) (by decide) hg); replace HO_7 := Aside0.mk (Kd.R_over' (y11_ HO_7.out) (Kd.R_typed (y11_ HO330.out)) (by decide) hg); replace HB := Aside0.mk (hb); have HO333 := Aside0.mk (ho); clear HO330; clear ho hb hg hat) | ((with_reducible refine gate_dst (N := 68) rfl ?_); refine Kd.R_lit k45 _ 45 ?hg (N := 68) ?hd (xs := ([] : List (S45))) (inner := []) (ok := fun _ => True) (okp := fun _ => True) ?hr ?hp (fun _ hk => hk) trivial (Below.refl _ _) (Nat.le_refl _) (by simp) ?_; (case hd => rfl); (case hg => rfl); (case hr => first | (go_simp; done) | (go_simp; rfl)); (case hp => exact (Reps.none _ _)); intro v335 w45 ho46 hb hg_ hnew_; clear hg_ hnew_; (first | rw [← Ny334.out] at ho46 | (simp only [Int.reduceToNat] at ho46; rw [← Ny334.out] at ho46)); replace HO_3 := Aside0.mk (Kd.R_below (y11_ HO_3.out) hb); replace HO333 := Aside0.mk (Kd.R_below (y11_ HO333.out) hb); have HO336 := Aside0.mk (Kd.R_lower (Kd.R_new' (Kd.R_new' ho46 (Kd.R_lt (y11_ HO_4.out))) (Kd.R_lt (y11_ HO_7.out))) (below_size (y7_ HB.out))); replace HO_4 := Aside0.mk (Kd.R_elder' (y11_ HO_4.out) (Kd.R_base ho46) hb); replace HO_7 := Aside0.mk (Kd.R_elder' (y11_ HO_7.out) (Kd.R_base ho46) hb); replace HB := Aside0.mk (below_step (y7_ HB.out) hb); clear hb ho46) | ((with_reducible refine gate_builtin (b := .append) (xs := #[.tmp 68, .tmp 69]) rfl ?_); at_builtin; refine Kd.R_append_rows k45 (w0 := w) w.heap.size rfl (.tmp 68) (.tmp 69) 24 45 (.agg #[(.string ⟨#[]⟩), (.string ⟨#[]⟩)]) 32 rfl Tryd.underlying24 info45 rfl (by decide) (by omega) v335 y334 t305 _ _ _ (fun k_ => some k_ ≠ (.slice Ao8 t305.length co8 : Value).ownBlock ∧ some k_ ≠ (.slice Ao39 x7_2.length co39 : Value).ownBlock) (fun _ => False) rfl rfl ?aO ?aR (fun _ _ h => h) (fun _ h => h.elim) ?aF ?aB ?aS ?aL ?_; (case aR => repeat (first | exact (Kd.R_reads' HO_4.out).2.2 | (with_reducible refine Kd.C_alloc ?_ _) | (with_reducible refine Kd.C_drewN ?_ _) | (with_reducible refine Kd.C_drew ?_))); (case aB => exact (y7_ HB.out)); (case aF => exact (fun k_ hk => ⟨Kd.fresh' (Kd.R_lt (y11_ HO_4.out)) k_ hk, Kd.fresh' (Kd.R_lt (y11_ HO_7.out)) k_ hk⟩)); (case aO => exact (by (with_reducible repeat (first | apply Kd.R_alloc | apply Kd.R_drewN | apply Kd.R_drew)); exact Kd.R_mono HO336.out (fun _ hk => ⟨hk.1.2, hk.2⟩))); (case aS => exact (below_size (y7_ HB.out))); (case aL => have := LMc36.out; omega); intro v338 w47 ho hb hg hat; rw [← Ny337.out] at ho; replace HO_3 := Aside0.mk (Kd.R_over' (y11_ HO_3.out) (Kd.R_typed (y11_ HO336.out)) (by decide) hg); replace HO_4 := Aside0.mk (Kd.R_after (ok := (fun k_ => some k_ ≠ (.slice Ao39 x7_2.length co39 : Value).ownBlock)) (y11_ HO_4.out) hg hat); replace HO_7 := Aside0.mk (Kd.R_after (ok := (fun k_ => some k_ ≠ (.slice Ao8 t305.length co8 : Value).ownBlock)) (y11_ HO_7.out) hg hat); replace HO333 := Aside0.mk (Kd.R_over' (y11_ HO333.out) (Kd.R_typed (y11_ HO336.out)) (by decide) hg); replace HB := Aside0.mk (hb); have HO339 := Aside0.mk (ho); clear HO336; clear ho hb hg hat) | ((with_reducible refine gate_builtin (b := .append) (xs := #[.tmp 70, .tmp 72]) rfl ?_); at_builtin; refine Kd.R_append k45 (w0 := w) w.heap.size rfl (.tmp 70) (.tmp 72) 24 45 (.agg #[(.string ⟨#[]⟩), (.string ⟨#[]⟩)]) 32 rfl Tryd.underlying24 info45 rfl (by decide) (by omega) v338 y337 (⟨(⟨#[107, 72, 56, 59]⟩ : ByteArray), (⟨#[72, 55, 59]⟩ : ByteArray)⟩ : S45) [.string (⟨#[107, 72, 56, 59]⟩ : ByteArray), .string (⟨#[72, 55, 59]⟩ : ByteArray)] (fun k_ => some k_ ≠ (.slice Ao8 t305.length co8 : Value).ownBlock ∧ some k_ ≠ (.slice Ao39 x7_2.length co39 : Value).ownBlock) (fun _ => False) rfl rfl ?aP (fun _ hk => hk.elim) ?aF ?aO ?aB ?aS ?aL ?_; (case aP => exact k45_mkM _ _ _ (⟨(⟨#[107, 72, 56, 59]⟩ : ByteArray), (⟨#[72, 55, 59]⟩ : ByteArray)⟩ : S45)); (case aB => exact (y7_ HB.out)); (case aF => exact (fun k_ hk => ⟨Kd.fresh' (Kd.R_lt (y11_ HO_4.out)) k_ hk, Kd.fresh' (Kd.R_lt (y11_ HO_7.out)) k_ hk⟩)); (case aO => exact (y11_ HO339.out)); (case aS => exact (below_size (y7_ HB.out))); (case aL => have := LMc37.out; omega); intro v341 w48 ho hb hg hat; rw [← Ny340.out] at ho; replace HO_3 := Aside0.mk (Kd.R_over' (y11_ HO_3.out) (Kd.R_typed (y11_ HO339.out)) (by decide) hg); replace HO_4 := Aside0.mk (Kd.R_after (ok := (fun k_ => some k_ ≠ (.slice Ao39 x7_2.length co39 : Value).ownBlock)) (y11_ HO_4.out) hg hat); replace HO_7 := Aside0.mk (Kd.R_after (ok := (fun k_ => some k_ ≠ (.slice Ao8 t305.length co8 : Value).ownBlock)) (y11_ HO_7.out) hg hat); replace HO333 := Aside0.mk (Kd.R_over' (y11_ HO333.out) (Kd.R_typed (y11_ HO339.out)) (by decide) hg); replace HB := Aside0.mk (hb); have HO342 := Aside0.mk (ho); clear HO339; clear ho hb hg hat; obtain ⟨Ao49, co49, eo49⟩ := Kd.R_slice HO333.out; subst eo49; obtain ⟨Ao50, co50, eo50⟩ := Kd.R_slice HO342.out; subst eo50) | ((with_reducible refine gate_callee (f := 13) rfl ?_); refine goesL_ (some 75) rfl rfl Tryd.func13 (by kernel_rfl) rfl #[.slice Ao49 y331.length co49, .slice Ao50 y340.length co50, .string t306] rfl y1_ ?_; (with_reducible refine (impl_KnwHas.calls _ _ y331 _ _ y340 t306 t343 _ ?side1 ?side2 ?side3 ?side4 ?side5 A38.out).mono ?_); (case side1 => repeat (first | exact (Kd.R_reads' HO333.out).2.2 | (with_reducible refine Kd.C_alloc ?_ _) | (with_reducible refine Kd.C_drewN ?_ _) | (with_reducible refine Kd.C_drew ?_))); (case side2 => exact (Kd.R_reads' HO333.out).2.1); (case side3 => repeat (first | exact (Kd.R_reads' HO342.out).2.2 | (with_reducible refine Kd.C_alloc ?_ _) | (with_reducible refine Kd.C_drewN ?_ _) | (with_reducible refine Kd.C_drew ?_))); (case side4 => exact (Kd.R_reads' HO342.out).2.1); (case side5 => exact GlobOk.below HGL.out (y7_ HB.out)); rintro e w51 ⟨rfl, hb⟩; refine ⟨_, rfl, ?_⟩; replace HO_3 := Aside0.mk (Kd.R_below (y11_ HO_3.out) hb); replace HO_4 := Aside0.mk (Kd.R_below (y11_ HO_4.out) hb); replace HO_7 := Aside0.mk (Kd.R_below (y11_ HO_7.out) hb); replace HO333 := Aside0.mk (Kd.R_below (y11_ HO333.out) hb); replace HO342 := Aside0.mk (Kd.R_below (y11_ HO342.out) hb); replace HB := Aside0.mk (below_step (y7_ HB.out) hb); clear hb))
                    go_ret
                    exact ⟨y6_, y7_ HB.out⟩
                  rw [if_neg c37] at H
                  exact absurd H (by simp)
                rw [if_neg c36] at H
                exact absurd H (by simp)
              rw [if_neg c35] at H
              exact absurd H (by simp)
            rw [if_neg c34] at H
            exact absurd H (by simp)
          replace c33 := Bool.eq_false_iff.mpr c33
          subst c33
          have H1 : ((laws_keOk.f).bind fun t344 => (some t344)) = some r := by rw [if_neg (show ¬ (false = true) by decide)] at H; exact H
          clear H
          have H := H1
          clear H1
          replace H := Option.bind_eq_some_iff.mp H
          obtain ⟨t344, A520, H⟩ := H
          replace H : (some t344) = some r := H
          have A52 := Aside0.mk A520
          clear A520
          obtain rfl := Option.some.inj H
          obtain ⟨Ao53, co53, eo53⟩ := Kd.R_slice HO_7.out
          subst eo53
          go_wp2_with (first | ((with_reducible refine gate_callee (f := 13) rfl ?_); refine goesL_ (some 57) rfl rfl Tryd.func13 (by kernel_rfl) rfl #[.slice Ao7 t304.length co7, .slice Ao53 x7_2.length co53, .string t306] rfl y1_ ?_; (with_reducible refine (impl_KnwHas.calls _ _ t304 _ _ x7_2 t306 t324 _ ?side1 ?side2 ?side3 ?side4 ?side5 A29.out).mono ?_); (case side1 => repeat (first | exact (Kd.R_reads' HO_3.out).2.2 | (with_reducible refine Kd.C_alloc ?_ _) | (with_reducible refine Kd.C_drewN ?_ _) | (with_reducible refine Kd.C_drew ?_))); (case side2 => exact (Kd.R_reads' HO_3.out).2.1); (case side3 => repeat (first | exact (Kd.R_reads' HO_7.out).2.2 | (with_reducible refine Kd.C_alloc ?_ _) | (with_reducible refine Kd.C_drewN ?_ _) | (with_reducible refine Kd.C_drew ?_))); (case side4 => exact (Kd.R_reads' HO_7.out).2.1); (case side5 => exact GlobOk.below HGL.out (y7_ HB.out)); rintro e w54 ⟨rfl, hb⟩; refine ⟨_, rfl, ?_⟩; replace HO_3 := Aside0.mk (Kd.R_below (y11_ HO_3.out) hb); replace HO_4 := Aside0.mk (Kd.R_below (y11_ HO_4.out) hb); replace HO_7 := Aside0.mk (Kd.R_below (y11_ HO_7.out) hb); replace HB := Aside0.mk (below_step (y7_ HB.out) hb); clear hb) | ((with_reducible refine gate_callee (f := 15) rfl ?_); refine goesL_ (some 62) rfl rfl Tryd.func15 (by kernel_rfl) rfl #[] rfl y1_ ?_; (with_reducible refine (laws_keOk.calls  t344 _ ?side1 A52.out).mono ?_); (case side1 => exact GlobOk.below HGL.out (y7_ HB.out)); rintro e w55 ⟨rfl, hb⟩; refine ⟨_, rfl, ?_⟩; replace HO_3 := Aside0.mk (Kd.R_below (y11_ HO_3.out) hb); replace HO_4 := Aside0.mk (Kd.R_below (y11_ HO_4.out) hb); replace HO_7 := Aside0.mk (Kd.R_below (y11_ HO_7.out) hb); replace HB := Aside0.mk (below_step (y7_ HB.out) hb); clear hb))
          go_ret
          exact ⟨y6_, y7_ HB.out⟩

/-- THE ONE PURE STATEMENT of laws_FnKnwHas: yours. -/
def laws_FnKnwHas.Pure : Prop := ∀ (l0 : List Int), l0.length ≤ maxLen → l0.length * 1 ≤ 140737488351232 → (∀ x ∈ l0, (Lit.int .u8 x).wf = true) → ∃ k, laws_FnKnwHas.f k l0 = some true
theorem laws_FnKnwHas.walk (P : laws_FnKnwHas.Pure) (a0 : Option Addr) (len0 cap0 : Nat) (z0 : List Int) (w : World) (w0 : (a0 = none ∧ len0 = 0 ∧ cap0 = 0 ∧ z0 = []) ∨ ∃ x, a0 = some x ∧ len0 ≤ cap0 ∧ cap0 ≤ maxLen ∧ z0.length = cap0 ∧ (∀ i, i < z0.length → w.cell? (x.add i) = some (.int .u8 (z0.getD i 0))) ∧ ∀ n ∈ z0, (Lit.int .u8 n).wf = true) (y0 : len0 * 1 ≤ 140737488351232) (hG : GlobOk w) :
    Calls Tryd.prog 7 #[.slice a0 len0 cap0] w fun e w' => e = .returned (.bool true) ∧ Below w.heap.size w w' := by
  obtain ⟨l0, rfl, hr0, hm0, hw0, hc0⟩ := ReadsInt.ofRowC w0
  obtain ⟨k, h⟩ := P l0 hm0 y0 hw0
  refine (laws_FnKnwHas.calls k _ _ l0 true w (Kd.C_of_reads (d := (0 : Int)) (h1 := fun _ => rfl) hr0) hc0 hG h).mono ?_
  rintro e w' ⟨rfl, hd⟩
  exact ⟨rfl, hd⟩

end Go.Proofs.YtjbnfcljkmapeaaDoor.Yh
