-- Written by this session's own program (wip/tools/pp.py) out of the translation, over functions given by hand. Lean checks it.
import Derived.Test.YtdcaipomjimplaaDoorWax0
import Derived.Test.YtdcaipomjimplaaDoorWax1
import Derived.Test.YtdcaipomjimplaaDoorWax2
import Derived.Test.YtdcaipomjimplaaDoorWax6
import Derived.Test.YtdcaipomjimplaaDoorWax8
import Derived.Test.YtdcaipomjimplaaDoorWax14
import Derived.Test.YtdcaipomjimplaaDoorWax15
namespace Go.Proofs.YtdcaipomjimplaaDoor.Wa
open Go.RowKit Go.Proofs.YtdcaipomjimplaaDoorW.PrintWords Go.Proofs.YtdcaipomjimplaaDoorW.PrintLast Go.Proofs.YtdcaipomjimplaaDoorW.PrintMore
attribute [local go_sem] max2_int min2_int max_two min_two max_three min_three max_four min_four   -- for this text's walks alone
set_option linter.unusedVariables false
set_option linter.unusedSimpArgs false

attribute [local go_sem high] eqA37
/-! ### laws_FnMakNext: function 8 -/
mutual
def laws_FnMakNext.j0 : Nat → List Int → List Int → Bool → Option (Bool)
  | 0, _, _, _ => none
  | k + 1, x0, x1, x18 => if x18 = true then (some true) else ((spec_DrawMakNext.f k x0).bind fun t255 => ((spec_DrawMakKey.f k x1).bind fun t256 => ((impl_MakNext.f k t255).bind fun t257 => ((impl_MakKey.f k t256).bind fun t258 => ((spec_MakNext.f k t255).bind fun t259 => (if t257.toList = t259.toList then ((spec_MakKey.f k t256).bind fun t260 => (if t258.toList = t260.toList then ((impl_MakKey.f k t255).bind fun t261 => ((spec_MakKey.f k t255).bind fun t262 => (laws_FnMakNext.j1 k t255 t256 t257 (t261.toList != t262.toList)))) else (laws_FnMakNext.j1 k t255 t256 t257 true))) else (laws_FnMakNext.j1 k t255 t256 t257 true)))))))
def laws_FnMakNext.j1 : Nat → ByteArray → ByteArray → ByteArray → Bool → Option (Bool)
  | 0, _, _, _, _ => none
  | k + 1, x5, x6, x7, x43 => if x43 = true then (some false) else ((spec_SecOk.f k x5).bind fun t263 => (if t263 = true then (laws_FnMakNext.j2 k x5 x6 x7 (decide ((x5.size : Int) ≥ 300))) else (laws_FnMakNext.j2 k x5 x6 x7 true)))
def laws_FnMakNext.j2 : Nat → ByteArray → ByteArray → ByteArray → Bool → Option (Bool)
  | 0, _, _, _, _ => none
  | k + 1, x5, x6, x7, x51 => if x51 = true then (if x7.toList = ([] : List UInt8) then ((impl_MakKey.f k x5).bind fun t264 => (if t264.toList = ([] : List UInt8) then ((laws_keOk.f).bind fun t265 => (some t265)) else (some false))) else (some false)) else ((impl_SecMade.f x7).bind fun bt266 => ((impl_MakKey.f k x5).bind fun t272 => ((impl_SecMade.f t272).bind fun bt273 => (if (!(bt266.1 == 2) || (!(bt266.2.1 == 0) || (!(bt266.2.2.1 == 0) || (!(bt266.2.2.2.1.toList == x5.toList) || (!(bt266.2.2.2.2.toList == ([] : List UInt8))))))) = true then (laws_FnMakNext.j3 k x5 x6 x7 true) else (if (!(bt273.1 == 3) || (!(bt273.2.1 == 0) || (!(bt273.2.2.1 == 0) || (!(bt273.2.2.2.1.toList == x5.toList) || (!(bt273.2.2.2.2.toList == ([] : List UInt8))))))) = true then (laws_FnMakNext.j3 k x5 x6 x7 true) else ((impl_MakKey.f k x5).bind fun t279 => (laws_FnMakNext.j3 k x5 x6 x7 (x7.toList == t279.toList))))))))
def laws_FnMakNext.j3 : Nat → ByteArray → ByteArray → ByteArray → Bool → Option (Bool)
  | 0, _, _, _, _ => none
  | k + 1, x5, x6, x7, x82 => if x82 = true then (some false) else ((spec_SecOk.f k x6).bind fun t280 => (if t280 = true then ((impl_MakNext.f k x6).bind fun t281 => (some ((t281.toList == x7.toList) == (x5.toList == x6.toList)))) else (some true)))
end
def laws_FnMakNext.f (k : Nat) (l0 : List Int) (l1 : List Int) : Option (Bool) := if (l0.length : Int) > 1048576 then (laws_FnMakNext.j0 k l0 l1 true) else (laws_FnMakNext.j0 k l0 l1 (decide ((l1.length : Int) > 1048576)))
theorem laws_FnMakNext.mono_l : ∀ k, (∀ y0 y1 y2, LeO (laws_FnMakNext.j0 k y0 y1 y2) (laws_FnMakNext.j0 (k + 1) y0 y1 y2)) ∧ (∀ y0 y1 y2 y3, LeO (laws_FnMakNext.j1 k y0 y1 y2 y3) (laws_FnMakNext.j1 (k + 1) y0 y1 y2 y3)) ∧ (∀ y0 y1 y2 y3, LeO (laws_FnMakNext.j2 k y0 y1 y2 y3) (laws_FnMakNext.j2 (k + 1) y0 y1 y2 y3)) ∧ (∀ y0 y1 y2 y3, LeO (laws_FnMakNext.j3 k y0 y1 y2 y3) (laws_FnMakNext.j3 (k + 1) y0 y1 y2 y3))
  | 0 => ⟨fun _ _ _ r h => by simp [laws_FnMakNext.j0] at h, fun _ _ _ _ r h => by simp [laws_FnMakNext.j1] at h, fun _ _ _ _ r h => by simp [laws_FnMakNext.j2] at h, fun _ _ _ _ r h => by simp [laws_FnMakNext.j3] at h⟩
  | k + 1 => by
    obtain ⟨ih0, ih1, ih2, ih3⟩ := laws_FnMakNext.mono_l k
    refine ⟨?_, ?_, ?_, ?_⟩
    · intro y0 y1 y2
      unfold laws_FnMakNext.j0
      repeat' first
      | (with_reducible exact ih0 _ _ _)
      | (with_reducible exact ih1 _ _ _ _)
      | (with_reducible exact ih2 _ _ _ _)
      | (with_reducible exact ih3 _ _ _ _)
      | (with_reducible exact impl_MakKey.mono _ _)
      | (with_reducible exact impl_MakNext.mono _ _)
      | (with_reducible exact spec_DrawMakKey.mono _ _)
      | (with_reducible exact spec_DrawMakNext.mono _ _)
      | (with_reducible exact spec_MakKey.mono _ _)
      | (with_reducible exact spec_MakNext.mono _ _)
      | (with_reducible exact spec_SecOk.mono _ _)
      | (with_reducible exact LeO.refl _)
      | (with_reducible exact LeO.none _)
      | (with_reducible refine LeO.ite ?_ ?_)
      | (with_reducible refine LeO.bind ?_ (fun _ => ?_))
      | exact ih0 _ _ _
      | exact ih1 _ _ _ _
      | exact ih2 _ _ _ _
      | exact ih3 _ _ _ _
      | exact impl_MakKey.mono _ _
      | exact impl_MakNext.mono _ _
      | exact spec_DrawMakKey.mono _ _
      | exact spec_DrawMakNext.mono _ _
      | exact spec_MakKey.mono _ _
      | exact spec_MakNext.mono _ _
      | exact spec_SecOk.mono _ _
      | exact LeO.none _
      | refine LeO.ite ?_ ?_
      | refine LeO.bind ?_ (fun _ => ?_)
    · intro y0 y1 y2 y3
      unfold laws_FnMakNext.j1
      repeat' first
      | (with_reducible exact ih0 _ _ _)
      | (with_reducible exact ih1 _ _ _ _)
      | (with_reducible exact ih2 _ _ _ _)
      | (with_reducible exact ih3 _ _ _ _)
      | (with_reducible exact impl_MakKey.mono _ _)
      | (with_reducible exact impl_MakNext.mono _ _)
      | (with_reducible exact spec_DrawMakKey.mono _ _)
      | (with_reducible exact spec_DrawMakNext.mono _ _)
      | (with_reducible exact spec_MakKey.mono _ _)
      | (with_reducible exact spec_MakNext.mono _ _)
      | (with_reducible exact spec_SecOk.mono _ _)
      | (with_reducible exact LeO.refl _)
      | (with_reducible exact LeO.none _)
      | (with_reducible refine LeO.ite ?_ ?_)
      | (with_reducible refine LeO.bind ?_ (fun _ => ?_))
      | exact ih0 _ _ _
      | exact ih1 _ _ _ _
      | exact ih2 _ _ _ _
      | exact ih3 _ _ _ _
      | exact impl_MakKey.mono _ _
      | exact impl_MakNext.mono _ _
      | exact spec_DrawMakKey.mono _ _
      | exact spec_DrawMakNext.mono _ _
      | exact spec_MakKey.mono _ _
      | exact spec_MakNext.mono _ _
      | exact spec_SecOk.mono _ _
      | exact LeO.none _
      | refine LeO.ite ?_ ?_
      | refine LeO.bind ?_ (fun _ => ?_)
    · intro y0 y1 y2 y3
      unfold laws_FnMakNext.j2
      repeat' first
      | (with_reducible exact ih0 _ _ _)
      | (with_reducible exact ih1 _ _ _ _)
      | (with_reducible exact ih2 _ _ _ _)
      | (with_reducible exact ih3 _ _ _ _)
      | (with_reducible exact impl_MakKey.mono _ _)
      | (with_reducible exact impl_MakNext.mono _ _)
      | (with_reducible exact spec_DrawMakKey.mono _ _)
      | (with_reducible exact spec_DrawMakNext.mono _ _)
      | (with_reducible exact spec_MakKey.mono _ _)
      | (with_reducible exact spec_MakNext.mono _ _)
      | (with_reducible exact spec_SecOk.mono _ _)
      | (with_reducible exact LeO.refl _)
      | (with_reducible exact LeO.none _)
      | (with_reducible refine LeO.ite ?_ ?_)
      | (with_reducible refine LeO.bind ?_ (fun _ => ?_))
      | exact ih0 _ _ _
      | exact ih1 _ _ _ _
      | exact ih2 _ _ _ _
      | exact ih3 _ _ _ _
      | exact impl_MakKey.mono _ _
      | exact impl_MakNext.mono _ _
      | exact spec_DrawMakKey.mono _ _
      | exact spec_DrawMakNext.mono _ _
      | exact spec_MakKey.mono _ _
      | exact spec_MakNext.mono _ _
      | exact spec_SecOk.mono _ _
      | exact LeO.none _
      | refine LeO.ite ?_ ?_
      | refine LeO.bind ?_ (fun _ => ?_)
    · intro y0 y1 y2 y3
      unfold laws_FnMakNext.j3
      repeat' first
      | (with_reducible exact ih0 _ _ _)
      | (with_reducible exact ih1 _ _ _ _)
      | (with_reducible exact ih2 _ _ _ _)
      | (with_reducible exact ih3 _ _ _ _)
      | (with_reducible exact impl_MakKey.mono _ _)
      | (with_reducible exact impl_MakNext.mono _ _)
      | (with_reducible exact spec_DrawMakKey.mono _ _)
      | (with_reducible exact spec_DrawMakNext.mono _ _)
      | (with_reducible exact spec_MakKey.mono _ _)
      | (with_reducible exact spec_MakNext.mono _ _)
      | (with_reducible exact spec_SecOk.mono _ _)
      | (with_reducible exact LeO.refl _)
      | (with_reducible exact LeO.none _)
      | (with_reducible refine LeO.ite ?_ ?_)
      | (with_reducible refine LeO.bind ?_ (fun _ => ?_))
      | exact ih0 _ _ _
      | exact ih1 _ _ _ _
      | exact ih2 _ _ _ _
      | exact ih3 _ _ _ _
      | exact impl_MakKey.mono _ _
      | exact impl_MakNext.mono _ _
      | exact spec_DrawMakKey.mono _ _
      | exact spec_DrawMakNext.mono _ _
      | exact spec_MakKey.mono _ _
      | exact spec_MakNext.mono _ _
      | exact spec_SecOk.mono _ _
      | exact LeO.none _
      | refine LeO.ite ?_ ?_
      | refine LeO.bind ?_ (fun _ => ?_)
theorem laws_FnMakNext.mono : ∀ a0 a1 k, LeO (laws_FnMakNext.f k a0 a1) (laws_FnMakNext.f (k + 1) a0 a1) := by
  intro a0 a1 k
  obtain ⟨ih0, ih1, ih2, ih3⟩ := laws_FnMakNext.mono_l k
  unfold laws_FnMakNext.f
  repeat' first
      | (with_reducible exact ih0 _ _ _)
      | (with_reducible exact ih1 _ _ _ _)
      | (with_reducible exact ih2 _ _ _ _)
      | (with_reducible exact ih3 _ _ _ _)
      | (with_reducible exact impl_MakKey.mono _ _)
      | (with_reducible exact impl_MakNext.mono _ _)
      | (with_reducible exact spec_DrawMakKey.mono _ _)
      | (with_reducible exact spec_DrawMakNext.mono _ _)
      | (with_reducible exact spec_MakKey.mono _ _)
      | (with_reducible exact spec_MakNext.mono _ _)
      | (with_reducible exact spec_SecOk.mono _ _)
      | (with_reducible exact LeO.refl _)
      | (with_reducible exact LeO.none _)
      | (with_reducible refine LeO.ite ?_ ?_)
      | (with_reducible refine LeO.bind ?_ (fun _ => ?_))
      | exact ih0 _ _ _
      | exact ih1 _ _ _ _
      | exact ih2 _ _ _ _
      | exact ih3 _ _ _ _
      | exact impl_MakKey.mono _ _
      | exact impl_MakNext.mono _ _
      | exact spec_DrawMakKey.mono _ _
      | exact spec_DrawMakNext.mono _ _
      | exact spec_MakKey.mono _ _
      | exact spec_MakNext.mono _ _
      | exact spec_SecOk.mono _ _
      | exact LeO.none _
      | refine LeO.ite ?_ ?_
      | refine LeO.bind ?_ (fun _ => ?_)
set_option maxHeartbeats 8000000 in
set_option maxRecDepth 100000 in
theorem laws_FnMakNext.calls (k : Nat) (A0 : Option Addr) (c0 : Nat) (l0 : List Int) (A1 : Option Addr) (c1 : Nat) (l1 : List Int) (r : Bool) (w : World) (hr0 : Kd.C (Kd.int .u8) w A0 l0.length l0) (hc0 : l0.length ≤ c0) (hr1 : Kd.C (Kd.int .u8) w A1 l1.length l1) (hc1 : l1.length ≤ c1) (hG : GlobOk w) (h : laws_FnMakNext.f k l0 l1 = some r) :
    Calls Tryd.prog 8 #[.slice A0 l0.length c0, .slice A1 l1.length c1] w fun e w' => e = .returned (.bool r) ∧ Below w.heap.size w w' := by
  have hu37 := Tryd.underlying37
  have HR0 := Aside0.mk hr0
  have HC0 := Aside0.mk hc0
  clear hr0 hc0
  have HR1 := Aside0.mk hr1
  have HC1 := Aside0.mk hc1
  clear hr1 hc1
  have HB := Aside0.mk (Below.refl w.heap.size w)
  have HGL := Aside0.mk hG
  clear hG
  have H : (if (l0.length : Int) > 1048576 then (laws_FnMakNext.j0 k l0 l1 true) else (laws_FnMakNext.j0 k l0 l1 (decide ((l1.length : Int) > 1048576)))) = some r := h
  clear h
  have HC3 := Aside0.mk H
  clear H
  go_enter Tryd.func8, Tryd.ntmps8
  go_upto_region 1 with (fail)
  go_cut [18] (fun v18 wc => ∃ (kq : Nat) (x18_2 : Bool), v18 = .bool x18_2 ∧ Aside0 (laws_FnMakNext.j0 kq l0 l1 x18_2 = some r) ∧ Aside0 (kq ≤ k) ∧ Aside0 (Below w.heap.size w wc))
  case first =>
    have H := HC3.out
    clear HC3
    by_cases c4 : (l0.length : Int) > 1048576
    · rw [if_pos c4] at H
      have c4b0 : decide (1048576 < (l0.length : Int)) = true := decide_eq_true c4
      have c4b1 : decide (1048576 < l0.length) = true := decide_eq_true (by omega)
      clear c4
      (first | rw [c4b0] | (simp only [i64_w, i32_w]; rw [c4b0]) | skip)
      have H' := Aside0.mk H
      clear H
      go_wp2
      go_meet
      case rel => exact ⟨_, (true), (by first | rfl | (simp; done) | (simp [*]; done)), H', ⟨by first | omega | exact Nat.le_refl _⟩, ⟨by repeat (first | (with_reducible first | exact HB.out | apply below_alloc | apply pw_below_drewN | apply below_drew1) | exact HB.out)⟩⟩
    · rw [if_neg c4] at H
      have c4b0 : decide (1048576 < (l0.length : Int)) = false := decide_eq_false c4
      have c4b1 : decide (1048576 < l0.length) = false := decide_eq_false (by omega)
      clear c4
      (first | rw [c4b0] | (simp only [i64_w, i32_w]; rw [c4b0]) | skip)
      have H' := Aside0.mk H
      clear H
      go_wp2
      go_meet
      case rel => exact ⟨_, (decide ((l1.length : Int) > 1048576)), (by first | rfl | (simp; done) | (simp [*]; done)), H', ⟨by first | omega | exact Nat.le_refl _⟩, ⟨by repeat (first | (with_reducible first | exact HB.out | apply below_alloc | apply pw_below_drewN | apply below_drew1) | exact HB.out)⟩⟩
  case rest =>
    clear HC3
    try clear c1
    try clear p2
    try clear c4
    try clear c4b0
    try clear c4b1
    obtain ⟨kq, x18_2, rfl, HA, HJ2, HB⟩ := hcut
    cases kq with
    | zero => exact absurd HA.out (by simp [laws_FnMakNext.j0])
    | succ kj2 =>
      have H := HA.out
      clear HA
      simp only [laws_FnMakNext.j0] at H
      by_cases c5 : x18_2 = true
      · subst c5
        have H1 : (some true) = some r := by rw [if_pos rfl] at H; exact H
        clear H
        have H := H1
        clear H1
        obtain rfl := Option.some.inj H
        go_wp2
        go_ret
        exact ⟨by first | rfl | (simp [errW_none, errW_some] <;> rfl) | (simp [*, errW_none, errW_some] <;> rfl), by repeat (first | (with_reducible first | exact HB.out | apply below_alloc | apply pw_below_drewN | apply below_drew1) | exact HB.out)⟩
      · replace c5 := Bool.eq_false_iff.mpr c5
        subst c5
        have H1 : ((spec_DrawMakNext.f kj2 l0).bind fun t255 => ((spec_DrawMakKey.f kj2 l1).bind fun t256 => ((impl_MakNext.f kj2 t255).bind fun t257 => ((impl_MakKey.f kj2 t256).bind fun t258 => ((spec_MakNext.f kj2 t255).bind fun t259 => (if t257.toList = t259.toList then ((spec_MakKey.f kj2 t256).bind fun t260 => (if t258.toList = t260.toList then ((impl_MakKey.f kj2 t255).bind fun t261 => ((spec_MakKey.f kj2 t255).bind fun t262 => (laws_FnMakNext.j1 kj2 t255 t256 t257 (t261.toList != t262.toList)))) else (laws_FnMakNext.j1 kj2 t255 t256 t257 true))) else (laws_FnMakNext.j1 kj2 t255 t256 t257 true))))))) = some r := by rw [if_neg (show ¬ (false = true) by decide)] at H; exact H
        clear H
        have H := H1
        clear H1
        replace H := Option.bind_eq_some_iff.mp H
        obtain ⟨t255, A60, H⟩ := H
        replace H : ((spec_DrawMakKey.f kj2 l1).bind fun t256 => ((impl_MakNext.f kj2 t255).bind fun t257 => ((impl_MakKey.f kj2 t256).bind fun t258 => ((spec_MakNext.f kj2 t255).bind fun t259 => (if t257.toList = t259.toList then ((spec_MakKey.f kj2 t256).bind fun t260 => (if t258.toList = t260.toList then ((impl_MakKey.f kj2 t255).bind fun t261 => ((spec_MakKey.f kj2 t255).bind fun t262 => (laws_FnMakNext.j1 kj2 t255 t256 t257 (t261.toList != t262.toList)))) else (laws_FnMakNext.j1 kj2 t255 t256 t257 true))) else (laws_FnMakNext.j1 kj2 t255 t256 t257 true)))))) = some r := H
        have A6 := Aside0.mk A60
        clear A60
        replace H := Option.bind_eq_some_iff.mp H
        obtain ⟨t256, A70, H⟩ := H
        replace H : ((impl_MakNext.f kj2 t255).bind fun t257 => ((impl_MakKey.f kj2 t256).bind fun t258 => ((spec_MakNext.f kj2 t255).bind fun t259 => (if t257.toList = t259.toList then ((spec_MakKey.f kj2 t256).bind fun t260 => (if t258.toList = t260.toList then ((impl_MakKey.f kj2 t255).bind fun t261 => ((spec_MakKey.f kj2 t255).bind fun t262 => (laws_FnMakNext.j1 kj2 t255 t256 t257 (t261.toList != t262.toList)))) else (laws_FnMakNext.j1 kj2 t255 t256 t257 true))) else (laws_FnMakNext.j1 kj2 t255 t256 t257 true))))) = some r := H
        have A7 := Aside0.mk A70
        clear A70
        replace H := Option.bind_eq_some_iff.mp H
        obtain ⟨t257, A80, H⟩ := H
        replace H : ((impl_MakKey.f kj2 t256).bind fun t258 => ((spec_MakNext.f kj2 t255).bind fun t259 => (if t257.toList = t259.toList then ((spec_MakKey.f kj2 t256).bind fun t260 => (if t258.toList = t260.toList then ((impl_MakKey.f kj2 t255).bind fun t261 => ((spec_MakKey.f kj2 t255).bind fun t262 => (laws_FnMakNext.j1 kj2 t255 t256 t257 (t261.toList != t262.toList)))) else (laws_FnMakNext.j1 kj2 t255 t256 t257 true))) else (laws_FnMakNext.j1 kj2 t255 t256 t257 true)))) = some r := H
        have A8 := Aside0.mk A80
        clear A80
        replace H := Option.bind_eq_some_iff.mp H
        obtain ⟨t258, A90, H⟩ := H
        replace H : ((spec_MakNext.f kj2 t255).bind fun t259 => (if t257.toList = t259.toList then ((spec_MakKey.f kj2 t256).bind fun t260 => (if t258.toList = t260.toList then ((impl_MakKey.f kj2 t255).bind fun t261 => ((spec_MakKey.f kj2 t255).bind fun t262 => (laws_FnMakNext.j1 kj2 t255 t256 t257 (t261.toList != t262.toList)))) else (laws_FnMakNext.j1 kj2 t255 t256 t257 true))) else (laws_FnMakNext.j1 kj2 t255 t256 t257 true))) = some r := H
        have A9 := Aside0.mk A90
        clear A90
        have HC10 := Aside0.mk H
        clear H
        go_upto_region 7 with (first | ((with_reducible refine gate_callee (f := 38) rfl ?_); refine goesL_ (some 20) rfl rfl Tryd.func38 (by kernel_rfl) rfl #[.slice A0 l0.length c0] rfl (by (try simp only [List.map_toArray, List.map_cons, List.map_nil]); first | done | rfl | (simp only [List.length_drop, List.length_take]; rfl) | (simp only [w64_u8]; rfl)) ?_; (with_reducible refine (spec_DrawMakNext.calls kj2 _ _ l0 t255 _ ?side1 ?side2 A6.out).mono ?_); (case side1 => repeat (first | exact (Kd.C_below HR0.out HB.out) | (with_reducible refine Kd.C_alloc ?_ _) | (with_reducible refine Kd.C_drewN ?_ _) | (with_reducible refine Kd.C_drew ?_))); (case side2 => exact HC0.out); rintro e w11 ⟨rfl, hb⟩; refine ⟨_, rfl, ?_⟩; have n0_ := Aside0.mk (below_step (by repeat (first | (with_reducible first | exact HB.out | apply below_alloc | apply pw_below_drewN | apply below_drew1) | exact HB.out)) hb); clear HB; have HB := n0_; clear n0_; (try clear hb); (try clear hb2); (try clear hk); (try clear hi)) | ((with_reducible refine gate_callee (f := 39) rfl ?_); refine goesL_ (some 22) rfl rfl Tryd.func39 (by kernel_rfl) rfl #[.slice A1 l1.length c1] rfl (by (try simp only [List.map_toArray, List.map_cons, List.map_nil]); first | done | rfl | (simp only [List.length_drop, List.length_take]; rfl) | (simp only [w64_u8]; rfl)) ?_; (with_reducible refine (spec_DrawMakKey.calls kj2 _ _ l1 t256 _ ?side1 ?side2 A7.out).mono ?_); (case side1 => repeat (first | exact (Kd.C_below HR1.out HB.out) | (with_reducible refine Kd.C_alloc ?_ _) | (with_reducible refine Kd.C_drewN ?_ _) | (with_reducible refine Kd.C_drew ?_))); (case side2 => exact HC1.out); rintro e w12 ⟨rfl, hb⟩; refine ⟨_, rfl, ?_⟩; have n0_ := Aside0.mk (below_step (by repeat (first | (with_reducible first | exact HB.out | apply below_alloc | apply pw_below_drewN | apply below_drew1) | exact HB.out)) hb); clear HB; have HB := n0_; clear n0_; (try clear hb); (try clear hb2); (try clear hk); (try clear hi)) | ((with_reducible refine gate_callee (f := 40) rfl ?_); refine goesL_ (some 24) rfl rfl Tryd.func40 (by kernel_rfl) rfl #[.string t255] rfl (by (try simp only [List.map_toArray, List.map_cons, List.map_nil]); first | done | rfl | (simp only [List.length_drop, List.length_take]; rfl) | (simp only [w64_u8]; rfl)) ?_; (with_reducible refine (impl_MakNext.calls kj2 t255 t257 _ ?side1 A8.out).mono ?_); (case side1 => exact GlobOk.below HGL.out (by repeat (first | (with_reducible first | exact HB.out | apply below_alloc | apply pw_below_drewN | apply below_drew1) | exact HB.out))); rintro e w13 ⟨rfl, hb⟩; refine ⟨_, rfl, ?_⟩; have n0_ := Aside0.mk (below_step (by repeat (first | (with_reducible first | exact HB.out | apply below_alloc | apply pw_below_drewN | apply below_drew1) | exact HB.out)) hb); clear HB; have HB := n0_; clear n0_; (try clear hb); (try clear hb2); (try clear hk); (try clear hi)) | ((with_reducible refine gate_callee (f := 41) rfl ?_); refine goesL_ (some 26) rfl rfl Tryd.func41 (by kernel_rfl) rfl #[.string t256] rfl (by (try simp only [List.map_toArray, List.map_cons, List.map_nil]); first | done | rfl | (simp only [List.length_drop, List.length_take]; rfl) | (simp only [w64_u8]; rfl)) ?_; (with_reducible refine (impl_MakKey.calls kj2 t256 t258 _ ?side1 A9.out).mono ?_); (case side1 => exact GlobOk.below HGL.out (by repeat (first | (with_reducible first | exact HB.out | apply below_alloc | apply pw_below_drewN | apply below_drew1) | exact HB.out))); rintro e w14 ⟨rfl, hb⟩; refine ⟨_, rfl, ?_⟩; have n0_ := Aside0.mk (below_step (by repeat (first | (with_reducible first | exact HB.out | apply below_alloc | apply pw_below_drewN | apply below_drew1) | exact HB.out)) hb); clear HB; have HB := n0_; clear n0_; (try clear hb); (try clear hb2); (try clear hk); (try clear hi)))
        (try simp only [Act.put, List.setIfInBounds_toArray, List.set_cons_zero, List.set_cons_succ])
        go_cut [43] (fun v43 wc => ∃ (kq : Nat) (x43_9 : Bool), v43 = .bool x43_9 ∧ Aside0 (laws_FnMakNext.j1 kq t255 t256 t257 x43_9 = some r) ∧ Aside0 (kq ≤ kj2) ∧ Aside0 (Below w.heap.size w wc))
        case first =>
          have H := HC10.out
          clear HC10
          replace H := Option.bind_eq_some_iff.mp H
          obtain ⟨t259, A150, H⟩ := H
          replace H : (if t257.toList = t259.toList then ((spec_MakKey.f kj2 t256).bind fun t260 => (if t258.toList = t260.toList then ((impl_MakKey.f kj2 t255).bind fun t261 => ((spec_MakKey.f kj2 t255).bind fun t262 => (laws_FnMakNext.j1 kj2 t255 t256 t257 (t261.toList != t262.toList)))) else (laws_FnMakNext.j1 kj2 t255 t256 t257 true))) else (laws_FnMakNext.j1 kj2 t255 t256 t257 true)) = some r := H
          have A15 := Aside0.mk A150
          clear A150
          by_cases c16 : t257.toList = t259.toList
          · rw [if_pos c16] at H
            have c16b0 : (t257.toList == t259.toList) = true := beq_iff_eq.mpr c16
            have c16b1 : (t257.toList != t259.toList) = false := bne_eq_false_iff_eq.mpr c16
            clear c16
            (first | rw [c16b0] | (simp only [i64_w, i32_w]; rw [c16b0]) | skip)
            replace H := Option.bind_eq_some_iff.mp H
            obtain ⟨t260, A170, H⟩ := H
            replace H : (if t258.toList = t260.toList then ((impl_MakKey.f kj2 t255).bind fun t261 => ((spec_MakKey.f kj2 t255).bind fun t262 => (laws_FnMakNext.j1 kj2 t255 t256 t257 (t261.toList != t262.toList)))) else (laws_FnMakNext.j1 kj2 t255 t256 t257 true)) = some r := H
            have A17 := Aside0.mk A170
            clear A170
            by_cases c18 : t258.toList = t260.toList
            · rw [if_pos c18] at H
              have c18b0 : (t258.toList == t260.toList) = true := beq_iff_eq.mpr c18
              have c18b1 : (t258.toList != t260.toList) = false := bne_eq_false_iff_eq.mpr c18
              clear c18
              replace H := Option.bind_eq_some_iff.mp H
              obtain ⟨t261, A190, H⟩ := H
              replace H : ((spec_MakKey.f kj2 t255).bind fun t262 => (laws_FnMakNext.j1 kj2 t255 t256 t257 (t261.toList != t262.toList))) = some r := H
              have A19 := Aside0.mk A190
              clear A190
              replace H := Option.bind_eq_some_iff.mp H
              obtain ⟨t262, A200, H⟩ := H
              replace H : (laws_FnMakNext.j1 kj2 t255 t256 t257 (t261.toList != t262.toList)) = some r := H
              have A20 := Aside0.mk A200
              clear A200
              have H' := Aside0.mk H
              clear H
              go_wp2_with (first | ((with_reducible refine gate_callee (f := 42) rfl ?_); refine goesL_ (some 29) rfl rfl Tryd.func42 (by kernel_rfl) rfl #[.string t255] rfl (by (try simp only [List.map_toArray, List.map_cons, List.map_nil]); first | done | rfl | (simp only [List.length_drop, List.length_take]; rfl) | (simp only [w64_u8]; rfl)) ?_; (with_reducible refine (spec_MakNext.calls kj2 t255 t259 _ A15.out).mono ?_); rintro e w21 ⟨rfl, hb⟩; refine ⟨_, rfl, ?_⟩; have n0_ := Aside0.mk (below_step (by repeat (first | (with_reducible first | exact HB.out | apply below_alloc | apply pw_below_drewN | apply below_drew1) | exact HB.out)) hb); clear HB; have HB := n0_; clear n0_; (try clear hb); (try clear hb2); (try clear hk); (try clear hi)) | (go_at_call 43; (with_reducible refine (spec_MakKey.calls kj2 t256 t260 _ A17.out).mono ?_); rintro e w22 ⟨rfl, hb⟩; have n0_ := Aside0.mk (below_step (by repeat (first | (with_reducible first | exact HB.out | apply below_alloc | apply pw_below_drewN | apply below_drew1) | exact HB.out)) hb); clear HB; have HB := n0_; clear n0_; (try clear hb); (try clear hb2); (try clear hk); (try clear hi)) | (go_at_call 41; (with_reducible refine (impl_MakKey.calls kj2 t255 t261 _ ?side1 A19.out).mono ?_); (case side1 => exact GlobOk.below HGL.out (by repeat (first | (with_reducible first | exact HB.out | apply below_alloc | apply pw_below_drewN | apply below_drew1) | exact HB.out))); rintro e w23 ⟨rfl, hb⟩; have n0_ := Aside0.mk (below_step (by repeat (first | (with_reducible first | exact HB.out | apply below_alloc | apply pw_below_drewN | apply below_drew1) | exact HB.out)) hb); clear HB; have HB := n0_; clear n0_; (try clear hb); (try clear hb2); (try clear hk); (try clear hi)) | (go_at_call 43; (with_reducible refine (spec_MakKey.calls kj2 t255 t262 _ A20.out).mono ?_); rintro e w24 ⟨rfl, hb⟩; have n0_ := Aside0.mk (below_step (by repeat (first | (with_reducible first | exact HB.out | apply below_alloc | apply pw_below_drewN | apply below_drew1) | exact HB.out)) hb); clear HB; have HB := n0_; clear n0_; (try clear hb); (try clear hb2); (try clear hk); (try clear hi)))
              go_meet
              case rel => exact ⟨_, ((t261.toList != t262.toList)), (by first | rfl | (simp; done) | (simp [*]; done)), H', ⟨by have := HJ2.out; first | omega | exact Nat.le_refl _⟩, ⟨by repeat (first | (with_reducible first | exact HB.out | apply below_alloc | apply pw_below_drewN | apply below_drew1) | exact HB.out)⟩⟩
            · rw [if_neg c18] at H
              have c18b0 : (t258.toList == t260.toList) = false := beq_eq_false_iff_ne.mpr c18
              have c18b1 : (t258.toList != t260.toList) = true := bne_iff_ne.mpr c18
              have H' := Aside0.mk H
              clear H
              go_wp2_with (first | ((with_reducible refine gate_callee (f := 42) rfl ?_); refine goesL_ (some 29) rfl rfl Tryd.func42 (by kernel_rfl) rfl #[.string t255] rfl (by (try simp only [List.map_toArray, List.map_cons, List.map_nil]); first | done | rfl | (simp only [List.length_drop, List.length_take]; rfl) | (simp only [w64_u8]; rfl)) ?_; (with_reducible refine (spec_MakNext.calls kj2 t255 t259 _ A15.out).mono ?_); rintro e w25 ⟨rfl, hb⟩; refine ⟨_, rfl, ?_⟩; have n0_ := Aside0.mk (below_step (by repeat (first | (with_reducible first | exact HB.out | apply below_alloc | apply pw_below_drewN | apply below_drew1) | exact HB.out)) hb); clear HB; have HB := n0_; clear n0_; (try clear hb); (try clear hb2); (try clear hk); (try clear hi)) | (go_at_call 43; (with_reducible refine (spec_MakKey.calls kj2 t256 t260 _ A17.out).mono ?_); rintro e w26 ⟨rfl, hb⟩; have n0_ := Aside0.mk (below_step (by repeat (first | (with_reducible first | exact HB.out | apply below_alloc | apply pw_below_drewN | apply below_drew1) | exact HB.out)) hb); clear HB; have HB := n0_; clear n0_; (try clear hb); (try clear hb2); (try clear hk); (try clear hi)))
              go_meet
              case rel => exact ⟨_, (true), (by first | rfl | (simp; done) | (simp [*]; done)), H', ⟨by have := HJ2.out; first | omega | exact Nat.le_refl _⟩, ⟨by repeat (first | (with_reducible first | exact HB.out | apply below_alloc | apply pw_below_drewN | apply below_drew1) | exact HB.out)⟩⟩
          · rw [if_neg c16] at H
            have c16b0 : (t257.toList == t259.toList) = false := beq_eq_false_iff_ne.mpr c16
            have c16b1 : (t257.toList != t259.toList) = true := bne_iff_ne.mpr c16
            (first | rw [c16b0] | (simp only [i64_w, i32_w]; rw [c16b0]) | skip)
            have H' := Aside0.mk H
            clear H
            go_wp2_with (first | ((with_reducible refine gate_callee (f := 42) rfl ?_); refine goesL_ (some 29) rfl rfl Tryd.func42 (by kernel_rfl) rfl #[.string t255] rfl (by (try simp only [List.map_toArray, List.map_cons, List.map_nil]); first | done | rfl | (simp only [List.length_drop, List.length_take]; rfl) | (simp only [w64_u8]; rfl)) ?_; (with_reducible refine (spec_MakNext.calls kj2 t255 t259 _ A15.out).mono ?_); rintro e w27 ⟨rfl, hb⟩; refine ⟨_, rfl, ?_⟩; have n0_ := Aside0.mk (below_step (by repeat (first | (with_reducible first | exact HB.out | apply below_alloc | apply pw_below_drewN | apply below_drew1) | exact HB.out)) hb); clear HB; have HB := n0_; clear n0_; (try clear hb); (try clear hb2); (try clear hk); (try clear hi)))
            go_meet
            case rel => exact ⟨_, (true), (by first | rfl | (simp; done) | (simp [*]; done)), H', ⟨by have := HJ2.out; first | omega | exact Nat.le_refl _⟩, ⟨by repeat (first | (with_reducible first | exact HB.out | apply below_alloc | apply pw_below_drewN | apply below_drew1) | exact HB.out)⟩⟩
        case rest =>
          clear HC10
          try clear c1
          try clear p2
          try clear c3
          try clear c4
          try clear c4b0
          try clear c4b1
          try clear c5
          try clear c8
          try clear c16
          try clear c16b0
          try clear c16b1
          try clear c18
          try clear c18b0
          try clear c18b1
          try clear p2
          obtain ⟨kq, x43_9, rfl, HA, HJ9, HB⟩ := hcut
          cases kq with
          | zero => exact absurd HA.out (by simp [laws_FnMakNext.j1])
          | succ kj9 =>
            have H := HA.out
            clear HA
            simp only [laws_FnMakNext.j1] at H
            by_cases c28 : x43_9 = true
            · subst c28
              have H1 : (some false) = some r := by rw [if_pos rfl] at H; exact H
              clear H
              have H := H1
              clear H1
              obtain rfl := Option.some.inj H
              go_wp2
              go_ret
              exact ⟨by first | rfl | (simp [errW_none, errW_some] <;> rfl) | (simp [*, errW_none, errW_some] <;> rfl), by repeat (first | (with_reducible first | exact HB.out | apply below_alloc | apply pw_below_drewN | apply below_drew1) | exact HB.out)⟩
            · replace c28 := Bool.eq_false_iff.mpr c28
              subst c28
              have H1 : ((spec_SecOk.f kj9 t255).bind fun t263 => (if t263 = true then (laws_FnMakNext.j2 kj9 t255 t256 t257 (decide ((t255.size : Int) ≥ 300))) else (laws_FnMakNext.j2 kj9 t255 t256 t257 true))) = some r := by rw [if_neg (show ¬ (false = true) by decide)] at H; exact H
              clear H
              have H := H1
              clear H1
              have HC29 := Aside0.mk H
              clear H
              go_upto_region 9 with (fail)
              go_cut [51] (fun v51 wc => ∃ (kq : Nat) (x51_28 : Bool), v51 = .bool x51_28 ∧ Aside0 (laws_FnMakNext.j2 kq t255 t256 t257 x51_28 = some r) ∧ Aside0 (kq ≤ kj9) ∧ Aside0 (Below w.heap.size w wc))
              case first =>
                have H := HC29.out
                clear HC29
                replace H := Option.bind_eq_some_iff.mp H
                obtain ⟨t263, A300, H⟩ := H
                replace H : (if t263 = true then (laws_FnMakNext.j2 kj9 t255 t256 t257 (decide ((t255.size : Int) ≥ 300))) else (laws_FnMakNext.j2 kj9 t255 t256 t257 true)) = some r := H
                have A30 := Aside0.mk A300
                clear A300
                by_cases c31 : t263 = true
                · subst c31
                  have H1 : (laws_FnMakNext.j2 kj9 t255 t256 t257 (decide ((t255.size : Int) ≥ 300))) = some r := by rw [if_pos rfl] at H; exact H
                  clear H
                  have H := H1
                  clear H1
                  have H' := Aside0.mk H
                  clear H
                  go_wp2_with (first | ((with_reducible refine gate_callee (f := 30) rfl ?_); refine goesL_ (some 45) rfl rfl Tryd.func30 (by kernel_rfl) rfl #[.string t255] rfl (by (try simp only [List.map_toArray, List.map_cons, List.map_nil]); first | done | rfl | (simp only [List.length_drop, List.length_take]; rfl) | (simp only [w64_u8]; rfl)) ?_; (with_reducible refine (spec_SecOk.calls kj9 t255 true _ A30.out).mono ?_); rintro e w32 ⟨rfl, hb⟩; refine ⟨_, rfl, ?_⟩; have n0_ := Aside0.mk (below_step (by repeat (first | (with_reducible first | exact HB.out | apply below_alloc | apply pw_below_drewN | apply below_drew1) | exact HB.out)) hb); clear HB; have HB := n0_; clear n0_; (try clear hb); (try clear hb2); (try clear hk); (try clear hi)))
                  go_meet
                  case rel => exact ⟨_, (decide ((t255.size : Int) ≥ 300)), (by first | rfl | (simp; done) | (simp [*]; done)), H', ⟨by have := HJ2.out; have := HJ9.out; first | omega | exact Nat.le_refl _⟩, ⟨by repeat (first | (with_reducible first | exact HB.out | apply below_alloc | apply pw_below_drewN | apply below_drew1) | exact HB.out)⟩⟩
                · replace c31 := Bool.eq_false_iff.mpr c31
                  subst c31
                  have H1 : (laws_FnMakNext.j2 kj9 t255 t256 t257 true) = some r := by rw [if_neg (show ¬ (false = true) by decide)] at H; exact H
                  clear H
                  have H := H1
                  clear H1
                  have H' := Aside0.mk H
                  clear H
                  go_wp2_with (first | ((with_reducible refine gate_callee (f := 30) rfl ?_); refine goesL_ (some 45) rfl rfl Tryd.func30 (by kernel_rfl) rfl #[.string t255] rfl (by (try simp only [List.map_toArray, List.map_cons, List.map_nil]); first | done | rfl | (simp only [List.length_drop, List.length_take]; rfl) | (simp only [w64_u8]; rfl)) ?_; (with_reducible refine (spec_SecOk.calls kj9 t255 false _ A30.out).mono ?_); rintro e w33 ⟨rfl, hb⟩; refine ⟨_, rfl, ?_⟩; have n0_ := Aside0.mk (below_step (by repeat (first | (with_reducible first | exact HB.out | apply below_alloc | apply pw_below_drewN | apply below_drew1) | exact HB.out)) hb); clear HB; have HB := n0_; clear n0_; (try clear hb); (try clear hb2); (try clear hk); (try clear hi)))
                  go_meet
                  case rel => exact ⟨_, (true), (by first | rfl | (simp; done) | (simp [*]; done)), H', ⟨by have := HJ2.out; have := HJ9.out; first | omega | exact Nat.le_refl _⟩, ⟨by repeat (first | (with_reducible first | exact HB.out | apply below_alloc | apply pw_below_drewN | apply below_drew1) | exact HB.out)⟩⟩
              case rest =>
                clear HC29
                try clear c1
                try clear c2
                try clear p2
                try clear c3
                try clear c4
                try clear c4b0
                try clear c4b1
                try clear c5
                try clear c8
                try clear c16
                try clear c16b0
                try clear c16b1
                try clear c18
                try clear c18b0
                try clear c18b1
                try clear c28
                try clear c30
                try clear c31
                try clear p2
                obtain ⟨kq, x51_28, rfl, HA, HJ28, HB⟩ := hcut
                cases kq with
                | zero => exact absurd HA.out (by simp [laws_FnMakNext.j2])
                | succ kj28 =>
                  have H := HA.out
                  clear HA
                  simp only [laws_FnMakNext.j2] at H
                  by_cases c34 : x51_28 = true
                  · subst c34
                    have H1 : (if t257.toList = ([] : List UInt8) then ((impl_MakKey.f kj28 t255).bind fun t264 => (if t264.toList = ([] : List UInt8) then ((laws_keOk.f).bind fun t265 => (some t265)) else (some false))) else (some false)) = some r := by rw [if_pos rfl] at H; exact H
                    clear H
                    have H := H1
                    clear H1
                    by_cases c35 : t257.toList = ([] : List UInt8)
                    · rw [if_pos c35] at H
                      have c35b0 : (t257.toList == ([] : List UInt8)) = true := beq_iff_eq.mpr c35
                      have c35b1 : (t257.toList != ([] : List UInt8)) = false := bne_eq_false_iff_eq.mpr c35
                      clear c35
                      replace H := Option.bind_eq_some_iff.mp H
                      obtain ⟨t264, A360, H⟩ := H
                      replace H : (if t264.toList = ([] : List UInt8) then ((laws_keOk.f).bind fun t265 => (some t265)) else (some false)) = some r := H
                      have A36 := Aside0.mk A360
                      clear A360
                      by_cases c37 : t264.toList = ([] : List UInt8)
                      · rw [if_pos c37] at H
                        have c37b0 : (t264.toList == ([] : List UInt8)) = true := beq_iff_eq.mpr c37
                        have c37b1 : (t264.toList != ([] : List UInt8)) = false := bne_eq_false_iff_eq.mpr c37
                        clear c37
                        replace H := Option.bind_eq_some_iff.mp H
                        obtain ⟨t265, A380, H⟩ := H
                        replace H : (some t265) = some r := H
                        have A38 := Aside0.mk A380
                        clear A380
                        obtain rfl := Option.some.inj H
                        go_wp2_with (first | (go_at_call 41; (with_reducible refine (impl_MakKey.calls kj28 t255 t264 _ ?side1 A36.out).mono ?_); (case side1 => exact GlobOk.below HGL.out (by repeat (first | (with_reducible first | exact HB.out | apply below_alloc | apply pw_below_drewN | apply below_drew1) | exact HB.out))); rintro e w39 ⟨rfl, hb⟩; have n0_ := Aside0.mk (below_step (by repeat (first | (with_reducible first | exact HB.out | apply below_alloc | apply pw_below_drewN | apply below_drew1) | exact HB.out)) hb); clear HB; have HB := n0_; clear n0_; (try clear hb); (try clear hb2); (try clear hk); (try clear hi)) | (go_at_call 18; (with_reducible refine (laws_keOk.calls  t265 _ ?side1 A38.out).mono ?_); (case side1 => exact GlobOk.below HGL.out (by repeat (first | (with_reducible first | exact HB.out | apply below_alloc | apply pw_below_drewN | apply below_drew1) | exact HB.out))); rintro e w40 ⟨rfl, hb⟩; have n0_ := Aside0.mk (below_step (by repeat (first | (with_reducible first | exact HB.out | apply below_alloc | apply pw_below_drewN | apply below_drew1) | exact HB.out)) hb); clear HB; have HB := n0_; clear n0_; (try clear hb); (try clear hb2); (try clear hk); (try clear hi)))
                        go_ret
                        exact ⟨by first | rfl | (simp [errW_none, errW_some] <;> rfl) | (simp [*, errW_none, errW_some] <;> rfl), by repeat (first | (with_reducible first | exact HB.out | apply below_alloc | apply pw_below_drewN | apply below_drew1) | exact HB.out)⟩
                      · rw [if_neg c37] at H
                        have c37b0 : (t264.toList == ([] : List UInt8)) = false := beq_eq_false_iff_ne.mpr c37
                        have c37b1 : (t264.toList != ([] : List UInt8)) = true := bne_iff_ne.mpr c37
                        obtain rfl := Option.some.inj H
                        go_wp2_with (first | (go_at_call 41; (with_reducible refine (impl_MakKey.calls kj28 t255 t264 _ ?side1 A36.out).mono ?_); (case side1 => exact GlobOk.below HGL.out (by repeat (first | (with_reducible first | exact HB.out | apply below_alloc | apply pw_below_drewN | apply below_drew1) | exact HB.out))); rintro e w41 ⟨rfl, hb⟩; have n0_ := Aside0.mk (below_step (by repeat (first | (with_reducible first | exact HB.out | apply below_alloc | apply pw_below_drewN | apply below_drew1) | exact HB.out)) hb); clear HB; have HB := n0_; clear n0_; (try clear hb); (try clear hb2); (try clear hk); (try clear hi)))
                        go_ret
                        exact ⟨by first | rfl | (simp [errW_none, errW_some] <;> rfl) | (simp [*, errW_none, errW_some] <;> rfl), by repeat (first | (with_reducible first | exact HB.out | apply below_alloc | apply pw_below_drewN | apply below_drew1) | exact HB.out)⟩
                    · rw [if_neg c35] at H
                      have c35b0 : (t257.toList == ([] : List UInt8)) = false := beq_eq_false_iff_ne.mpr c35
                      have c35b1 : (t257.toList != ([] : List UInt8)) = true := bne_iff_ne.mpr c35
                      obtain rfl := Option.some.inj H
                      go_wp2
                      go_ret
                      exact ⟨by first | rfl | (simp [errW_none, errW_some] <;> rfl) | (simp [*, errW_none, errW_some] <;> rfl), by repeat (first | (with_reducible first | exact HB.out | apply below_alloc | apply pw_below_drewN | apply below_drew1) | exact HB.out)⟩
                  · replace c34 := Bool.eq_false_iff.mpr c34
                    subst c34
                    have H1 : ((impl_SecMade.f t257).bind fun bt266 => ((impl_MakKey.f kj28 t255).bind fun t272 => ((impl_SecMade.f t272).bind fun bt273 => (if (!(bt266.1 == 2) || (!(bt266.2.1 == 0) || (!(bt266.2.2.1 == 0) || (!(bt266.2.2.2.1.toList == t255.toList) || (!(bt266.2.2.2.2.toList == ([] : List UInt8))))))) = true then (laws_FnMakNext.j3 kj28 t255 t256 t257 true) else (if (!(bt273.1 == 3) || (!(bt273.2.1 == 0) || (!(bt273.2.2.1 == 0) || (!(bt273.2.2.2.1.toList == t255.toList) || (!(bt273.2.2.2.2.toList == ([] : List UInt8))))))) = true then (laws_FnMakNext.j3 kj28 t255 t256 t257 true) else ((impl_MakKey.f kj28 t255).bind fun t279 => (laws_FnMakNext.j3 kj28 t255 t256 t257 (t257.toList == t279.toList)))))))) = some r := by rw [if_neg (show ¬ (false = true) by decide)] at H; exact H
                    clear H
                    have H := H1
                    clear H1
                    replace H := Option.bind_eq_some_iff.mp H
                    obtain ⟨⟨t266, t267, t268, t269, t270⟩, A420, H⟩ := H
                    replace H : ((impl_MakKey.f kj28 t255).bind fun t272 => ((impl_SecMade.f t272).bind fun bt273 => (if (!(t266 == 2) || (!(t267 == 0) || (!(t268 == 0) || (!(t269.toList == t255.toList) || (!(t270.toList == ([] : List UInt8))))))) = true then (laws_FnMakNext.j3 kj28 t255 t256 t257 true) else (if (!(bt273.1 == 3) || (!(bt273.2.1 == 0) || (!(bt273.2.2.1 == 0) || (!(bt273.2.2.2.1.toList == t255.toList) || (!(bt273.2.2.2.2.toList == ([] : List UInt8))))))) = true then (laws_FnMakNext.j3 kj28 t255 t256 t257 true) else ((impl_MakKey.f kj28 t255).bind fun t279 => (laws_FnMakNext.j3 kj28 t255 t256 t257 (t257.toList == t279.toList))))))) = some r := H
                    have A42 := Aside0.mk A420
                    clear A420
                    replace H := Option.bind_eq_some_iff.mp H
                    obtain ⟨t272, A430, H⟩ := H
                    replace H : ((impl_SecMade.f t272).bind fun bt273 => (if (!(t266 == 2) || (!(t267 == 0) || (!(t268 == 0) || (!(t269.toList == t255.toList) || (!(t270.toList == ([] : List UInt8))))))) = true then (laws_FnMakNext.j3 kj28 t255 t256 t257 true) else (if (!(bt273.1 == 3) || (!(bt273.2.1 == 0) || (!(bt273.2.2.1 == 0) || (!(bt273.2.2.2.1.toList == t255.toList) || (!(bt273.2.2.2.2.toList == ([] : List UInt8))))))) = true then (laws_FnMakNext.j3 kj28 t255 t256 t257 true) else ((impl_MakKey.f kj28 t255).bind fun t279 => (laws_FnMakNext.j3 kj28 t255 t256 t257 (t257.toList == t279.toList)))))) = some r := H
                    have A43 := Aside0.mk A430
                    clear A430
                    replace H := Option.bind_eq_some_iff.mp H
                    obtain ⟨⟨t273, t274, t275, t276, t277⟩, A440, H⟩ := H
                    replace H : (if (!(t266 == 2) || (!(t267 == 0) || (!(t268 == 0) || (!(t269.toList == t255.toList) || (!(t270.toList == ([] : List UInt8))))))) = true then (laws_FnMakNext.j3 kj28 t255 t256 t257 true) else (if (!(t273 == 3) || (!(t274 == 0) || (!(t275 == 0) || (!(t276.toList == t255.toList) || (!(t277.toList == ([] : List UInt8))))))) = true then (laws_FnMakNext.j3 kj28 t255 t256 t257 true) else ((impl_MakKey.f kj28 t255).bind fun t279 => (laws_FnMakNext.j3 kj28 t255 t256 t257 (t257.toList == t279.toList))))) = some r := H
                    have A44 := Aside0.mk A440
                    clear A440
                    have HC45 := Aside0.mk H
                    clear H
                    go_upto_region 13 with (first | ((with_reducible refine gate_callee (f := 28) rfl ?_); refine goesL_ (some 63) rfl rfl Tryd.func28 (by kernel_rfl) rfl #[.string t257] rfl (by (try simp only [List.map_toArray, List.map_cons, List.map_nil]); first | done | rfl | (simp only [List.length_drop, List.length_take]; rfl) | (simp only [w64_u8]; rfl)) ?_; (with_reducible refine (impl_SecMade.calls t257 t266 t267 t268 t269 t270 _ ?side1 A42.out).mono ?_); (case side1 => exact GlobOk.below HGL.out (by repeat (first | (with_reducible first | exact HB.out | apply below_alloc | apply pw_below_drewN | apply below_drew1) | exact HB.out))); rintro e w46 ⟨rfl, hb⟩; refine ⟨_, rfl, ?_⟩; have n0_ := Aside0.mk (below_step (by repeat (first | (with_reducible first | exact HB.out | apply below_alloc | apply pw_below_drewN | apply below_drew1) | exact HB.out)) hb); clear HB; have HB := n0_; clear n0_; (try clear hb); (try clear hb2); (try clear hk); (try clear hi)) | ((with_reducible refine gate_dst (N := 9) rfl ?_); (try (refine gate_guard (by rfl) ?_; dsimp only)); refine box_event ?hg (N := 9) ?hd (cs := #[.int .i64 0, .int .i64 0, .int .i64 0, .string (⟨#[]⟩ : ByteArray), .string (⟨#[]⟩ : ByteArray)]) (t := 37) ?hr ?_; (case hd => rfl); (case hg => rfl); (case hr => first | (go_simp; done) | (go_simp; rfl)); intro gb271 hg w47 hbox hb; have n0_ := Aside0.mk (below_step (by repeat (first | (with_reducible first | exact HB.out | apply below_alloc | apply pw_below_drewN | apply below_drew1) | exact HB.out)) hb); have n1_ := Aside0.mk (hbox); have n2_ := Aside0.mk ((by rw [hg]; exact (below_size (by repeat (first | (with_reducible first | exact HB.out | apply below_alloc | apply pw_below_drewN | apply below_drew1) | exact HB.out))) : w.heap.size ≤ gb271)); have n3_ := Aside0.mk ((by rw [hg]; exact (below_size (by repeat (first | (with_reducible first | exact HB.out | apply below_alloc | apply pw_below_drewN | apply below_drew1) | exact HB.out))) : w.heap.size ≤ gb271)); clear HB; have HB := n0_; have BK271 := n1_; have GW271 := n2_; have GE271 := n3_; clear n0_ n1_ n2_ n3_; clear hb hbox hg; have hcz48_0 : w47.cell? ⟨gb271, 0, none⟩ = some (.int .i64 0) := (blk_cell BK271.out 0).trans rfl; have hcz48_1 : w47.cell? ⟨gb271, 1, none⟩ = some (.int .i64 0) := (blk_cell BK271.out 1).trans rfl; have hcz48_2 : w47.cell? ⟨gb271, 2, none⟩ = some (.int .i64 0) := (blk_cell BK271.out 2).trans rfl; have hcz48_3 : w47.cell? ⟨gb271, 3, none⟩ = some (.string (⟨#[]⟩ : ByteArray)) := (blk_cell BK271.out 3).trans rfl; have hcz48_4 : w47.cell? ⟨gb271, 4, none⟩ = some (.string (⟨#[]⟩ : ByteArray)) := (blk_cell BK271.out 4).trans rfl; have hfz48_0 := blk_frozen BK271.out 0; have hfz48_1 := blk_frozen BK271.out 1; have hfz48_2 := blk_frozen BK271.out 2; have hfz48_3 := blk_frozen BK271.out 3; have hfz48_4 := blk_frozen BK271.out 4) | ((with_reducible refine gate_callee (f := 41) rfl ?_); refine goesL_ (some 65) rfl rfl Tryd.func41 (by kernel_rfl) rfl #[.string t255] rfl (by (try simp only [List.map_toArray, List.map_cons, List.map_nil]); first | done | rfl | (simp only [List.length_drop, List.length_take]; rfl) | (simp only [w64_u8]; rfl)) ?_; (with_reducible refine (impl_MakKey.calls kj28 t255 t272 _ ?side1 A43.out).mono ?_); (case side1 => exact GlobOk.below HGL.out (by repeat (first | (with_reducible first | exact HB.out | apply below_alloc | apply pw_below_drewN | apply below_drew1 | refine below_set ?_ GE271.out) | exact HB.out))); rintro e w49 ⟨rfl, hb⟩; refine ⟨_, rfl, ?_⟩; have n0_ := Aside0.mk (blk_below (g := gb271) (o := .cells #[.int .i64 t266, .int .i64 t267, .int .i64 t268, .string t269, .string t270] 37 (0, 0)) (by (with_reducible repeat (first | refine blk_drewN ?_ _ | refine blk_drew ?_ | refine blk_alloc ?_ _)); refine blk_put (cs := #[.int .i64 t266, .int .i64 t267, .int .i64 t268, .string t269, .string (⟨#[]⟩ : ByteArray)]) ?_ 4 _ (by first | rfl | (simp only [w64_u8]; rfl)); (with_reducible repeat (first | refine blk_drewN ?_ _ | refine blk_drew ?_ | refine blk_alloc ?_ _)); refine blk_put (cs := #[.int .i64 t266, .int .i64 t267, .int .i64 t268, .string (⟨#[]⟩ : ByteArray), .string (⟨#[]⟩ : ByteArray)]) ?_ 3 _ (by first | rfl | (simp only [w64_u8]; rfl)); (with_reducible repeat (first | refine blk_drewN ?_ _ | refine blk_drew ?_ | refine blk_alloc ?_ _)); refine blk_put (cs := #[.int .i64 t266, .int .i64 t267, .int .i64 0, .string (⟨#[]⟩ : ByteArray), .string (⟨#[]⟩ : ByteArray)]) ?_ 2 _ (by first | rfl | (simp only [w64_u8]; rfl)); (with_reducible repeat (first | refine blk_drewN ?_ _ | refine blk_drew ?_ | refine blk_alloc ?_ _)); refine blk_put (cs := #[.int .i64 t266, .int .i64 0, .int .i64 0, .string (⟨#[]⟩ : ByteArray), .string (⟨#[]⟩ : ByteArray)]) ?_ 1 _ (by first | rfl | (simp only [w64_u8]; rfl)); (with_reducible repeat (first | refine blk_drewN ?_ _ | refine blk_drew ?_ | refine blk_alloc ?_ _)); refine blk_put (cs := #[.int .i64 0, .int .i64 0, .int .i64 0, .string (⟨#[]⟩ : ByteArray), .string (⟨#[]⟩ : ByteArray)]) ?_ 0 _ (by first | rfl | (simp only [w64_u8]; rfl)); (with_reducible repeat (first | refine blk_drewN ?_ _ | refine blk_drew ?_ | refine blk_alloc ?_ _)); exact BK271.out) hb); have n1_ := Aside0.mk (below_step (by repeat (first | (with_reducible first | exact HB.out | apply below_alloc | apply pw_below_drewN | apply below_drew1 | refine below_set ?_ GE271.out) | exact HB.out)) hb); clear BK271; clear HB; have BK271 := n0_; have HB := n1_; clear n0_ n1_; (try clear hb); (try clear hb2); (try clear hk); (try clear hi)) | ((with_reducible refine gate_callee (f := 28) rfl ?_); refine goesL_ (some 66) rfl rfl Tryd.func28 (by kernel_rfl) rfl #[.string t272] rfl (by (try simp only [List.map_toArray, List.map_cons, List.map_nil]); first | done | rfl | (simp only [List.length_drop, List.length_take]; rfl) | (simp only [w64_u8]; rfl)) ?_; (with_reducible refine (impl_SecMade.calls t272 t273 t274 t275 t276 t277 _ ?side1 A44.out).mono ?_); (case side1 => exact GlobOk.below HGL.out (by repeat (first | (with_reducible first | exact HB.out | apply below_alloc | apply pw_below_drewN | apply below_drew1 | refine below_set ?_ GE271.out) | exact HB.out))); rintro e w50 ⟨rfl, hb⟩; refine ⟨_, rfl, ?_⟩; have n0_ := Aside0.mk (blk_below (g := gb271) (o := .cells #[.int .i64 t266, .int .i64 t267, .int .i64 t268, .string t269, .string t270] 37 (0, 0)) (by (with_reducible repeat (first | refine blk_drewN ?_ _ | refine blk_drew ?_ | refine blk_alloc ?_ _)); exact BK271.out) hb); have n1_ := Aside0.mk (below_step (by repeat (first | (with_reducible first | exact HB.out | apply below_alloc | apply pw_below_drewN | apply below_drew1 | refine below_set ?_ GE271.out) | exact HB.out)) hb); clear BK271; clear HB; have BK271 := n0_; have HB := n1_; clear n0_ n1_; (try clear hb); (try clear hb2); (try clear hk); (try clear hi)) | ((with_reducible refine gate_dst (N := 10) rfl ?_); (try (refine gate_guard (by rfl) ?_; dsimp only)); refine box_event ?hg (N := 10) ?hd (cs := #[.int .i64 0, .int .i64 0, .int .i64 0, .string (⟨#[]⟩ : ByteArray), .string (⟨#[]⟩ : ByteArray)]) (t := 37) ?hr ?_; (case hd => rfl); (case hg => rfl); (case hr => first | (go_simp; done) | (go_simp; rfl)); intro gb278 hg w51 hbox hb; have n0_ := Aside0.mk (blk_below (g := gb271) (o := .cells #[.int .i64 t266, .int .i64 t267, .int .i64 t268, .string t269, .string t270] 37 (0, 0)) (by (with_reducible repeat (first | refine blk_drewN ?_ _ | refine blk_drew ?_ | refine blk_alloc ?_ _)); exact BK271.out) hb); have n1_ := Aside0.mk (below_step (by repeat (first | (with_reducible first | exact HB.out | apply below_alloc | apply pw_below_drewN | apply below_drew1 | refine below_set ?_ GE271.out) | exact HB.out)) hb); have n2_ := Aside0.mk (hbox); have n3_ := Aside0.mk ((by rw [hg]; exact (below_size (by repeat (first | (with_reducible first | exact HB.out | apply below_alloc | apply pw_below_drewN | apply below_drew1 | refine below_set ?_ GE271.out) | exact HB.out))) : w.heap.size ≤ gb278)); have n4_ := Aside0.mk ((by rw [hg]; exact (below_size (by repeat (first | (with_reducible first | exact HB.out | apply below_alloc | apply pw_below_drewN | apply below_drew1 | refine below_set ?_ GE271.out) | exact HB.out))) : w.heap.size ≤ gb278)); have n5_ := Aside0.mk ((by rw [hg]; exact Nat.ne_of_lt (blk_lt (g := gb271) (o := .cells #[.int .i64 t266, .int .i64 t267, .int .i64 t268, .string t269, .string t270] 37 (0, 0)) (by (with_reducible repeat (first | refine blk_drewN ?_ _ | refine blk_drew ?_ | refine blk_alloc ?_ _)); exact BK271.out)) : gb271 ≠ gb278)); have n6_ := Aside0.mk ((by rw [hg]; exact Nat.ne_of_gt (blk_lt (g := gb271) (o := .cells #[.int .i64 t266, .int .i64 t267, .int .i64 t268, .string t269, .string t270] 37 (0, 0)) (by (with_reducible repeat (first | refine blk_drewN ?_ _ | refine blk_drew ?_ | refine blk_alloc ?_ _)); exact BK271.out)) : gb278 ≠ gb271)); clear BK271; clear HB; have BK271 := n0_; have HB := n1_; have BK278 := n2_; have GW278 := n3_; have GE278 := n4_; have NB271_278 := n5_; have NB278_271 := n6_; clear n0_ n1_ n2_ n3_ n4_ n5_ n6_; clear hb hbox hg; have hnb52 := NB278_271.out; have hnc52 := NB271_278.out; have hcz53_0 : w51.cell? ⟨gb278, 0, none⟩ = some (.int .i64 0) := (blk_cell BK278.out 0).trans rfl; have hcz53_1 : w51.cell? ⟨gb278, 1, none⟩ = some (.int .i64 0) := (blk_cell BK278.out 1).trans rfl; have hcz53_2 : w51.cell? ⟨gb278, 2, none⟩ = some (.int .i64 0) := (blk_cell BK278.out 2).trans rfl; have hcz53_3 : w51.cell? ⟨gb278, 3, none⟩ = some (.string (⟨#[]⟩ : ByteArray)) := (blk_cell BK278.out 3).trans rfl; have hcz53_4 : w51.cell? ⟨gb278, 4, none⟩ = some (.string (⟨#[]⟩ : ByteArray)) := (blk_cell BK278.out 4).trans rfl; have hfz53_0 := blk_frozen BK278.out 0; have hfz53_1 := blk_frozen BK278.out 1; have hfz53_2 := blk_frozen BK278.out 2; have hfz53_3 := blk_frozen BK278.out 3; have hfz53_4 := blk_frozen BK278.out 4))
                    (try simp only [Act.put, List.setIfInBounds_toArray, List.set_cons_zero, List.set_cons_succ])
                    go_cut [82] (fun v82 wc => ∃ (kq : Nat) (x82_44 : Bool), v82 = .bool x82_44 ∧ Aside0 (laws_FnMakNext.j3 kq t255 t256 t257 x82_44 = some r) ∧ Aside0 (kq ≤ kj28) ∧ Aside0 (wc.heap[gb271]? = some (.cells #[.int .i64 t266, .int .i64 t267, .int .i64 t268, .string t269, .string t270] 37 (0, 0))) ∧ Aside0 (wc.heap[gb278]? = some (.cells #[.int .i64 t273, .int .i64 t274, .int .i64 t275, .string t276, .string t277] 37 (0, 0))) ∧ Aside0 (Below w.heap.size w wc))
                    case first =>
                      have H := HC45.out
                      clear HC45
                      by_cases c54 : (!(t266 == 2) || (!(t267 == 0) || (!(t268 == 0) || (!(t269.toList == t255.toList) || (!(t270.toList == ([] : List UInt8))))))) = true
                      · rw [if_pos c54] at H
                        have c54b0 : (!(t266 == 2) || (!(t267 == 0) || (!(t268 == 0) || (!(t269.toList == t255.toList) || (!(t270.toList == ([] : List UInt8))))))) = true := c54
                        (try (have c54q := c54; simp only [← Bool.not_and, Bool.not_eq_true'] at c54q; have c54r := Bool.eq_false_iff.1 c54q; simp only [Bool.and_eq_true, beq_iff_eq, ne_eq] at c54r; have c54p := eq_false c54r; clear c54q c54r))
                        (try (have c54s := c54; simp only [Bool.or_eq_true, Bool.not_eq_true', beq_eq_false_iff_ne, ne_eq] at c54s; have c54t := eq_true c54s; clear c54s))
                        clear c54
                        (first | rw [c54b0] | (simp only [i64_w, i32_w]; rw [c54b0]) | skip)
                        have H' := Aside0.mk H
                        clear H
                        have hnb55 := NB271_278.out
                        have hnc55 := NB278_271.out
                        have hcz56_0 : w51.cell? ⟨gb271, 0, none⟩ = some (.int .i64 t266) := (blk_cell BK271.out 0).trans rfl
                        have hcz56_1 : w51.cell? ⟨gb271, 1, none⟩ = some (.int .i64 t267) := (blk_cell BK271.out 1).trans rfl
                        have hcz56_2 : w51.cell? ⟨gb271, 2, none⟩ = some (.int .i64 t268) := (blk_cell BK271.out 2).trans rfl
                        have hcz56_3 : w51.cell? ⟨gb271, 3, none⟩ = some (.string t269) := (blk_cell BK271.out 3).trans rfl
                        have hcz56_4 : w51.cell? ⟨gb271, 4, none⟩ = some (.string t270) := (blk_cell BK271.out 4).trans rfl
                        have hfz56_0 := blk_frozen BK271.out 0
                        have hfz56_1 := blk_frozen BK271.out 1
                        have hfz56_2 := blk_frozen BK271.out 2
                        have hfz56_3 := blk_frozen BK271.out 3
                        have hfz56_4 := blk_frozen BK271.out 4
                        go_wp2
                        go_meet
                        case rel => exact ⟨_, (true), (by first | rfl | (simp; done) | (simp [*]; done)), H', ⟨by have := HJ2.out; have := HJ9.out; have := HJ28.out; first | omega | exact Nat.le_refl _⟩, ⟨by (with_reducible repeat (first | refine blk_drewN ?_ _ | refine blk_drew ?_ | refine blk_alloc ?_ _)); refine blk_far ?_ NB271_278.out _; (with_reducible repeat (first | refine blk_drewN ?_ _ | refine blk_drew ?_ | refine blk_alloc ?_ _)); refine blk_far ?_ NB271_278.out _; (with_reducible repeat (first | refine blk_drewN ?_ _ | refine blk_drew ?_ | refine blk_alloc ?_ _)); refine blk_far ?_ NB271_278.out _; (with_reducible repeat (first | refine blk_drewN ?_ _ | refine blk_drew ?_ | refine blk_alloc ?_ _)); refine blk_far ?_ NB271_278.out _; (with_reducible repeat (first | refine blk_drewN ?_ _ | refine blk_drew ?_ | refine blk_alloc ?_ _)); refine blk_far ?_ NB271_278.out _; (with_reducible repeat (first | refine blk_drewN ?_ _ | refine blk_drew ?_ | refine blk_alloc ?_ _)); exact BK271.out⟩, ⟨by (with_reducible repeat (first | refine blk_drewN ?_ _ | refine blk_drew ?_ | refine blk_alloc ?_ _)); refine blk_put (cs := #[.int .i64 t273, .int .i64 t274, .int .i64 t275, .string t276, .string (⟨#[]⟩ : ByteArray)]) ?_ 4 _ (by first | rfl | (simp only [w64_u8]; rfl)); (with_reducible repeat (first | refine blk_drewN ?_ _ | refine blk_drew ?_ | refine blk_alloc ?_ _)); refine blk_put (cs := #[.int .i64 t273, .int .i64 t274, .int .i64 t275, .string (⟨#[]⟩ : ByteArray), .string (⟨#[]⟩ : ByteArray)]) ?_ 3 _ (by first | rfl | (simp only [w64_u8]; rfl)); (with_reducible repeat (first | refine blk_drewN ?_ _ | refine blk_drew ?_ | refine blk_alloc ?_ _)); refine blk_put (cs := #[.int .i64 t273, .int .i64 t274, .int .i64 0, .string (⟨#[]⟩ : ByteArray), .string (⟨#[]⟩ : ByteArray)]) ?_ 2 _ (by first | rfl | (simp only [w64_u8]; rfl)); (with_reducible repeat (first | refine blk_drewN ?_ _ | refine blk_drew ?_ | refine blk_alloc ?_ _)); refine blk_put (cs := #[.int .i64 t273, .int .i64 0, .int .i64 0, .string (⟨#[]⟩ : ByteArray), .string (⟨#[]⟩ : ByteArray)]) ?_ 1 _ (by first | rfl | (simp only [w64_u8]; rfl)); (with_reducible repeat (first | refine blk_drewN ?_ _ | refine blk_drew ?_ | refine blk_alloc ?_ _)); refine blk_put (cs := #[.int .i64 0, .int .i64 0, .int .i64 0, .string (⟨#[]⟩ : ByteArray), .string (⟨#[]⟩ : ByteArray)]) ?_ 0 _ (by first | rfl | (simp only [w64_u8]; rfl)); (with_reducible repeat (first | refine blk_drewN ?_ _ | refine blk_drew ?_ | refine blk_alloc ?_ _)); exact BK278.out⟩, ⟨by repeat (first | (with_reducible first | exact HB.out | apply below_alloc | apply pw_below_drewN | apply below_drew1 | refine below_set ?_ GE271.out | refine below_set ?_ GE278.out) | exact HB.out)⟩⟩
                      · rw [if_neg c54] at H
                        have c54b0 : (!(t266 == 2) || (!(t267 == 0) || (!(t268 == 0) || (!(t269.toList == t255.toList) || (!(t270.toList == ([] : List UInt8))))))) = false := by simpa using c54
                        (try (have c54q := c54; simp only [← Bool.not_and, Bool.not_eq_true', Bool.not_eq_false] at c54q; simp only [Bool.and_eq_true, beq_iff_eq] at c54q; have c54p := eq_true c54q; clear c54q))
                        (try (have c54s := c54; simp only [Bool.or_eq_true, Bool.not_eq_true', beq_eq_false_iff_ne, ne_eq] at c54s; have c54t := eq_false c54s; clear c54s))
                        clear c54
                        (first | rw [c54b0] | (simp only [i64_w, i32_w]; rw [c54b0]) | skip)
                        by_cases c57 : (!(t273 == 3) || (!(t274 == 0) || (!(t275 == 0) || (!(t276.toList == t255.toList) || (!(t277.toList == ([] : List UInt8))))))) = true
                        · rw [if_pos c57] at H
                          have c57b0 : (!(t273 == 3) || (!(t274 == 0) || (!(t275 == 0) || (!(t276.toList == t255.toList) || (!(t277.toList == ([] : List UInt8))))))) = true := c57
                          (try (have c57q := c57; simp only [← Bool.not_and, Bool.not_eq_true'] at c57q; have c57r := Bool.eq_false_iff.1 c57q; simp only [Bool.and_eq_true, beq_iff_eq, ne_eq] at c57r; have c57p := eq_false c57r; clear c57q c57r))
                          (try (have c57s := c57; simp only [Bool.or_eq_true, Bool.not_eq_true', beq_eq_false_iff_ne, ne_eq] at c57s; have c57t := eq_true c57s; clear c57s))
                          clear c57
                          have H' := Aside0.mk H
                          clear H
                          have hnb58 := NB271_278.out
                          have hnc58 := NB278_271.out
                          have hcz59_0 : w51.cell? ⟨gb271, 0, none⟩ = some (.int .i64 t266) := (blk_cell BK271.out 0).trans rfl
                          have hcz59_1 : w51.cell? ⟨gb271, 1, none⟩ = some (.int .i64 t267) := (blk_cell BK271.out 1).trans rfl
                          have hcz59_2 : w51.cell? ⟨gb271, 2, none⟩ = some (.int .i64 t268) := (blk_cell BK271.out 2).trans rfl
                          have hcz59_3 : w51.cell? ⟨gb271, 3, none⟩ = some (.string t269) := (blk_cell BK271.out 3).trans rfl
                          have hcz59_4 : w51.cell? ⟨gb271, 4, none⟩ = some (.string t270) := (blk_cell BK271.out 4).trans rfl
                          have hfz59_0 := blk_frozen BK271.out 0
                          have hfz59_1 := blk_frozen BK271.out 1
                          have hfz59_2 := blk_frozen BK271.out 2
                          have hfz59_3 := blk_frozen BK271.out 3
                          have hfz59_4 := blk_frozen BK271.out 4
                          have hcz60_0 : w51.cell? ⟨gb278, 0, none⟩ = some (.int .i64 0) := (blk_cell BK278.out 0).trans rfl
                          have hcz60_1 : w51.cell? ⟨gb278, 1, none⟩ = some (.int .i64 0) := (blk_cell BK278.out 1).trans rfl
                          have hcz60_2 : w51.cell? ⟨gb278, 2, none⟩ = some (.int .i64 0) := (blk_cell BK278.out 2).trans rfl
                          have hcz60_3 : w51.cell? ⟨gb278, 3, none⟩ = some (.string (⟨#[]⟩ : ByteArray)) := (blk_cell BK278.out 3).trans rfl
                          have hcz60_4 : w51.cell? ⟨gb278, 4, none⟩ = some (.string (⟨#[]⟩ : ByteArray)) := (blk_cell BK278.out 4).trans rfl
                          have hfz60_0 := blk_frozen BK278.out 0
                          have hfz60_1 := blk_frozen BK278.out 1
                          have hfz60_2 := blk_frozen BK278.out 2
                          have hfz60_3 := blk_frozen BK278.out 3
                          have hfz60_4 := blk_frozen BK278.out 4
                          go_wp2
                          go_meet
                          case rel => exact ⟨_, (true), (by first | rfl | (simp; done) | (simp [*]; done)), H', ⟨by have := HJ2.out; have := HJ9.out; have := HJ28.out; first | omega | exact Nat.le_refl _⟩, ⟨by (with_reducible repeat (first | refine blk_drewN ?_ _ | refine blk_drew ?_ | refine blk_alloc ?_ _)); refine blk_far ?_ NB271_278.out _; (with_reducible repeat (first | refine blk_drewN ?_ _ | refine blk_drew ?_ | refine blk_alloc ?_ _)); refine blk_far ?_ NB271_278.out _; (with_reducible repeat (first | refine blk_drewN ?_ _ | refine blk_drew ?_ | refine blk_alloc ?_ _)); refine blk_far ?_ NB271_278.out _; (with_reducible repeat (first | refine blk_drewN ?_ _ | refine blk_drew ?_ | refine blk_alloc ?_ _)); refine blk_far ?_ NB271_278.out _; (with_reducible repeat (first | refine blk_drewN ?_ _ | refine blk_drew ?_ | refine blk_alloc ?_ _)); refine blk_far ?_ NB271_278.out _; (with_reducible repeat (first | refine blk_drewN ?_ _ | refine blk_drew ?_ | refine blk_alloc ?_ _)); exact BK271.out⟩, ⟨by (with_reducible repeat (first | refine blk_drewN ?_ _ | refine blk_drew ?_ | refine blk_alloc ?_ _)); refine blk_put (cs := #[.int .i64 t273, .int .i64 t274, .int .i64 t275, .string t276, .string (⟨#[]⟩ : ByteArray)]) ?_ 4 _ (by first | rfl | (simp only [w64_u8]; rfl)); (with_reducible repeat (first | refine blk_drewN ?_ _ | refine blk_drew ?_ | refine blk_alloc ?_ _)); refine blk_put (cs := #[.int .i64 t273, .int .i64 t274, .int .i64 t275, .string (⟨#[]⟩ : ByteArray), .string (⟨#[]⟩ : ByteArray)]) ?_ 3 _ (by first | rfl | (simp only [w64_u8]; rfl)); (with_reducible repeat (first | refine blk_drewN ?_ _ | refine blk_drew ?_ | refine blk_alloc ?_ _)); refine blk_put (cs := #[.int .i64 t273, .int .i64 t274, .int .i64 0, .string (⟨#[]⟩ : ByteArray), .string (⟨#[]⟩ : ByteArray)]) ?_ 2 _ (by first | rfl | (simp only [w64_u8]; rfl)); (with_reducible repeat (first | refine blk_drewN ?_ _ | refine blk_drew ?_ | refine blk_alloc ?_ _)); refine blk_put (cs := #[.int .i64 t273, .int .i64 0, .int .i64 0, .string (⟨#[]⟩ : ByteArray), .string (⟨#[]⟩ : ByteArray)]) ?_ 1 _ (by first | rfl | (simp only [w64_u8]; rfl)); (with_reducible repeat (first | refine blk_drewN ?_ _ | refine blk_drew ?_ | refine blk_alloc ?_ _)); refine blk_put (cs := #[.int .i64 0, .int .i64 0, .int .i64 0, .string (⟨#[]⟩ : ByteArray), .string (⟨#[]⟩ : ByteArray)]) ?_ 0 _ (by first | rfl | (simp only [w64_u8]; rfl)); (with_reducible repeat (first | refine blk_drewN ?_ _ | refine blk_drew ?_ | refine blk_alloc ?_ _)); exact BK278.out⟩, ⟨by repeat (first | (with_reducible first | exact HB.out | apply below_alloc | apply pw_below_drewN | apply below_drew1 | refine below_set ?_ GE271.out | refine below_set ?_ GE278.out) | exact HB.out)⟩⟩
                        · rw [if_neg c57] at H
                          have c57b0 : (!(t273 == 3) || (!(t274 == 0) || (!(t275 == 0) || (!(t276.toList == t255.toList) || (!(t277.toList == ([] : List UInt8))))))) = false := by simpa using c57
                          (try (have c57q := c57; simp only [← Bool.not_and, Bool.not_eq_true', Bool.not_eq_false] at c57q; simp only [Bool.and_eq_true, beq_iff_eq] at c57q; have c57p := eq_true c57q; clear c57q))
                          (try (have c57s := c57; simp only [Bool.or_eq_true, Bool.not_eq_true', beq_eq_false_iff_ne, ne_eq] at c57s; have c57t := eq_false c57s; clear c57s))
                          clear c57
                          replace H := Option.bind_eq_some_iff.mp H
                          obtain ⟨t279, A610, H⟩ := H
                          replace H : (laws_FnMakNext.j3 kj28 t255 t256 t257 (t257.toList == t279.toList)) = some r := H
                          have A61 := Aside0.mk A610
                          clear A610
                          have H' := Aside0.mk H
                          clear H
                          have hnb62 := NB271_278.out
                          have hnc62 := NB278_271.out
                          have hcz63_0 : w51.cell? ⟨gb271, 0, none⟩ = some (.int .i64 t266) := (blk_cell BK271.out 0).trans rfl
                          have hcz63_1 : w51.cell? ⟨gb271, 1, none⟩ = some (.int .i64 t267) := (blk_cell BK271.out 1).trans rfl
                          have hcz63_2 : w51.cell? ⟨gb271, 2, none⟩ = some (.int .i64 t268) := (blk_cell BK271.out 2).trans rfl
                          have hcz63_3 : w51.cell? ⟨gb271, 3, none⟩ = some (.string t269) := (blk_cell BK271.out 3).trans rfl
                          have hcz63_4 : w51.cell? ⟨gb271, 4, none⟩ = some (.string t270) := (blk_cell BK271.out 4).trans rfl
                          have hfz63_0 := blk_frozen BK271.out 0
                          have hfz63_1 := blk_frozen BK271.out 1
                          have hfz63_2 := blk_frozen BK271.out 2
                          have hfz63_3 := blk_frozen BK271.out 3
                          have hfz63_4 := blk_frozen BK271.out 4
                          have hcz64_0 : w51.cell? ⟨gb278, 0, none⟩ = some (.int .i64 0) := (blk_cell BK278.out 0).trans rfl
                          have hcz64_1 : w51.cell? ⟨gb278, 1, none⟩ = some (.int .i64 0) := (blk_cell BK278.out 1).trans rfl
                          have hcz64_2 : w51.cell? ⟨gb278, 2, none⟩ = some (.int .i64 0) := (blk_cell BK278.out 2).trans rfl
                          have hcz64_3 : w51.cell? ⟨gb278, 3, none⟩ = some (.string (⟨#[]⟩ : ByteArray)) := (blk_cell BK278.out 3).trans rfl
                          have hcz64_4 : w51.cell? ⟨gb278, 4, none⟩ = some (.string (⟨#[]⟩ : ByteArray)) := (blk_cell BK278.out 4).trans rfl
                          have hfz64_0 := blk_frozen BK278.out 0
                          have hfz64_1 := blk_frozen BK278.out 1
                          have hfz64_2 := blk_frozen BK278.out 2
                          have hfz64_3 := blk_frozen BK278.out 3
                          have hfz64_4 := blk_frozen BK278.out 4
                          go_wp2_with (first | (go_at_call 41; (with_reducible refine (impl_MakKey.calls kj28 t255 t279 _ ?side1 A61.out).mono ?_); (case side1 => exact GlobOk.below HGL.out (by repeat (first | (with_reducible first | exact HB.out | apply below_alloc | apply pw_below_drewN | apply below_drew1 | refine below_set ?_ GE271.out | refine below_set ?_ GE278.out) | exact HB.out))); rintro e w65 ⟨rfl, hb⟩; have n0_ := Aside0.mk (blk_below (g := gb271) (o := .cells #[.int .i64 t266, .int .i64 t267, .int .i64 t268, .string t269, .string t270] 37 (0, 0)) (by (with_reducible repeat (first | refine blk_drewN ?_ _ | refine blk_drew ?_ | refine blk_alloc ?_ _)); refine blk_far ?_ NB271_278.out _; (with_reducible repeat (first | refine blk_drewN ?_ _ | refine blk_drew ?_ | refine blk_alloc ?_ _)); refine blk_far ?_ NB271_278.out _; (with_reducible repeat (first | refine blk_drewN ?_ _ | refine blk_drew ?_ | refine blk_alloc ?_ _)); refine blk_far ?_ NB271_278.out _; (with_reducible repeat (first | refine blk_drewN ?_ _ | refine blk_drew ?_ | refine blk_alloc ?_ _)); refine blk_far ?_ NB271_278.out _; (with_reducible repeat (first | refine blk_drewN ?_ _ | refine blk_drew ?_ | refine blk_alloc ?_ _)); refine blk_far ?_ NB271_278.out _; (with_reducible repeat (first | refine blk_drewN ?_ _ | refine blk_drew ?_ | refine blk_alloc ?_ _)); exact BK271.out) hb); have n1_ := Aside0.mk (blk_below (g := gb278) (o := .cells #[.int .i64 t273, .int .i64 t274, .int .i64 t275, .string t276, .string t277] 37 (0, 0)) (by (with_reducible repeat (first | refine blk_drewN ?_ _ | refine blk_drew ?_ | refine blk_alloc ?_ _)); refine blk_put (cs := #[.int .i64 t273, .int .i64 t274, .int .i64 t275, .string t276, .string (⟨#[]⟩ : ByteArray)]) ?_ 4 _ (by first | rfl | (simp only [w64_u8]; rfl)); (with_reducible repeat (first | refine blk_drewN ?_ _ | refine blk_drew ?_ | refine blk_alloc ?_ _)); refine blk_put (cs := #[.int .i64 t273, .int .i64 t274, .int .i64 t275, .string (⟨#[]⟩ : ByteArray), .string (⟨#[]⟩ : ByteArray)]) ?_ 3 _ (by first | rfl | (simp only [w64_u8]; rfl)); (with_reducible repeat (first | refine blk_drewN ?_ _ | refine blk_drew ?_ | refine blk_alloc ?_ _)); refine blk_put (cs := #[.int .i64 t273, .int .i64 t274, .int .i64 0, .string (⟨#[]⟩ : ByteArray), .string (⟨#[]⟩ : ByteArray)]) ?_ 2 _ (by first | rfl | (simp only [w64_u8]; rfl)); (with_reducible repeat (first | refine blk_drewN ?_ _ | refine blk_drew ?_ | refine blk_alloc ?_ _)); refine blk_put (cs := #[.int .i64 t273, .int .i64 0, .int .i64 0, .string (⟨#[]⟩ : ByteArray), .string (⟨#[]⟩ : ByteArray)]) ?_ 1 _ (by first | rfl | (simp only [w64_u8]; rfl)); (with_reducible repeat (first | refine blk_drewN ?_ _ | refine blk_drew ?_ | refine blk_alloc ?_ _)); refine blk_put (cs := #[.int .i64 0, .int .i64 0, .int .i64 0, .string (⟨#[]⟩ : ByteArray), .string (⟨#[]⟩ : ByteArray)]) ?_ 0 _ (by first | rfl | (simp only [w64_u8]; rfl)); (with_reducible repeat (first | refine blk_drewN ?_ _ | refine blk_drew ?_ | refine blk_alloc ?_ _)); exact BK278.out) hb); have n2_ := Aside0.mk (below_step (by repeat (first | (with_reducible first | exact HB.out | apply below_alloc | apply pw_below_drewN | apply below_drew1 | refine below_set ?_ GE271.out | refine below_set ?_ GE278.out) | exact HB.out)) hb); clear BK271; clear BK278; clear HB; have BK271 := n0_; have BK278 := n1_; have HB := n2_; clear n0_ n1_ n2_; (try clear hb); (try clear hb2); (try clear hk); (try clear hi)))
                          go_meet
                          case rel => exact ⟨_, ((t257.toList == t279.toList)), (by first | rfl | (simp; done) | (simp [*]; done)), H', ⟨by have := HJ2.out; have := HJ9.out; have := HJ28.out; first | omega | exact Nat.le_refl _⟩, ⟨by (with_reducible repeat (first | refine blk_drewN ?_ _ | refine blk_drew ?_ | refine blk_alloc ?_ _)); exact BK271.out⟩, ⟨by (with_reducible repeat (first | refine blk_drewN ?_ _ | refine blk_drew ?_ | refine blk_alloc ?_ _)); exact BK278.out⟩, ⟨by repeat (first | (with_reducible first | exact HB.out | apply below_alloc | apply pw_below_drewN | apply below_drew1 | refine below_set ?_ GE271.out | refine below_set ?_ GE278.out) | exact HB.out)⟩⟩
                    case rest =>
                      clear HC45
                      try clear c1
                      try clear c2
                      try clear p2
                      try clear c3
                      try clear c4
                      try clear c4b0
                      try clear c4b1
                      try clear c5
                      try clear c6
                      try clear c8
                      try clear c16
                      try clear c16b0
                      try clear c16b1
                      try clear c18
                      try clear c18b0
                      try clear c18b1
                      try clear c28
                      try clear c30
                      try clear c31
                      try clear c34
                      try clear c35
                      try clear c35b0
                      try clear c35b1
                      try clear c37
                      try clear c37b0
                      try clear c37b1
                      try clear c38
                      try clear c39
                      try clear c40
                      try clear c41
                      try clear c42
                      try clear c52
                      try clear c54
                      try clear c54b0
                      try clear c55
                      try clear c57
                      try clear c57b0
                      try clear c58
                      try clear c62
                      try clear hcz48_0
                      try clear hcz48_1
                      try clear hcz48_2
                      try clear hcz48_3
                      try clear hcz48_4
                      try clear hcz53_0
                      try clear hcz53_1
                      try clear hcz53_2
                      try clear hcz53_3
                      try clear hcz53_4
                      try clear hcz56_0
                      try clear hcz56_1
                      try clear hcz56_2
                      try clear hcz56_3
                      try clear hcz56_4
                      try clear hcz59_0
                      try clear hcz59_1
                      try clear hcz59_2
                      try clear hcz59_3
                      try clear hcz59_4
                      try clear hcz60_0
                      try clear hcz60_1
                      try clear hcz60_2
                      try clear hcz60_3
                      try clear hcz60_4
                      try clear hcz63_0
                      try clear hcz63_1
                      try clear hcz63_2
                      try clear hcz63_3
                      try clear hcz63_4
                      try clear hcz64_0
                      try clear hcz64_1
                      try clear hcz64_2
                      try clear hcz64_3
                      try clear hcz64_4
                      try clear hfz48_0
                      try clear hfz48_1
                      try clear hfz48_2
                      try clear hfz48_3
                      try clear hfz48_4
                      try clear hfz53_0
                      try clear hfz53_1
                      try clear hfz53_2
                      try clear hfz53_3
                      try clear hfz53_4
                      try clear hfz56_0
                      try clear hfz56_1
                      try clear hfz56_2
                      try clear hfz56_3
                      try clear hfz56_4
                      try clear hfz59_0
                      try clear hfz59_1
                      try clear hfz59_2
                      try clear hfz59_3
                      try clear hfz59_4
                      try clear hfz60_0
                      try clear hfz60_1
                      try clear hfz60_2
                      try clear hfz60_3
                      try clear hfz60_4
                      try clear hfz63_0
                      try clear hfz63_1
                      try clear hfz63_2
                      try clear hfz63_3
                      try clear hfz63_4
                      try clear hfz64_0
                      try clear hfz64_1
                      try clear hfz64_2
                      try clear hfz64_3
                      try clear hfz64_4
                      try clear p2
                      obtain ⟨kq, x82_44, rfl, HA, HJ44, BK271, BK278, HB⟩ := hcut
                      cases kq with
                      | zero => exact absurd HA.out (by simp [laws_FnMakNext.j3])
                      | succ kj44 =>
                        have H := HA.out
                        clear HA
                        simp only [laws_FnMakNext.j3] at H
                        by_cases c66 : x82_44 = true
                        · subst c66
                          have H1 : (some false) = some r := by rw [if_pos rfl] at H; exact H
                          clear H
                          have H := H1
                          clear H1
                          obtain rfl := Option.some.inj H
                          go_wp2
                          go_ret
                          exact ⟨by first | rfl | (simp [errW_none, errW_some] <;> rfl) | (simp [*, errW_none, errW_some] <;> rfl), by repeat (first | (with_reducible first | exact HB.out | apply below_alloc | apply pw_below_drewN | apply below_drew1 | refine below_set ?_ GE271.out | refine below_set ?_ GE278.out) | exact HB.out)⟩
                        · replace c66 := Bool.eq_false_iff.mpr c66
                          subst c66
                          have H1 : ((spec_SecOk.f kj44 t256).bind fun t280 => (if t280 = true then ((impl_MakNext.f kj44 t256).bind fun t281 => (some ((t281.toList == t257.toList) == (t255.toList == t256.toList)))) else (some true))) = some r := by rw [if_neg (show ¬ (false = true) by decide)] at H; exact H
                          clear H
                          have H := H1
                          clear H1
                          replace H := Option.bind_eq_some_iff.mp H
                          obtain ⟨t280, A670, H⟩ := H
                          replace H : (if t280 = true then ((impl_MakNext.f kj44 t256).bind fun t281 => (some ((t281.toList == t257.toList) == (t255.toList == t256.toList)))) else (some true)) = some r := H
                          have A67 := Aside0.mk A670
                          clear A670
                          by_cases c68 : t280 = true
                          · subst c68
                            have H1 : ((impl_MakNext.f kj44 t256).bind fun t281 => (some ((t281.toList == t257.toList) == (t255.toList == t256.toList)))) = some r := by rw [if_pos rfl] at H; exact H
                            clear H
                            have H := H1
                            clear H1
                            replace H := Option.bind_eq_some_iff.mp H
                            obtain ⟨t281, A690, H⟩ := H
                            replace H : (some ((t281.toList == t257.toList) == (t255.toList == t256.toList))) = some r := H
                            have A69 := Aside0.mk A690
                            clear A690
                            obtain rfl := Option.some.inj H
                            go_wp2_with (first | ((with_reducible refine gate_callee (f := 30) rfl ?_); refine goesL_ (some 84) rfl rfl Tryd.func30 (by kernel_rfl) rfl #[.string t256] rfl (by (try simp only [List.map_toArray, List.map_cons, List.map_nil]); first | done | rfl | (simp only [List.length_drop, List.length_take]; rfl) | (simp only [w64_u8]; rfl)) ?_; (with_reducible refine (spec_SecOk.calls kj44 t256 true _ A67.out).mono ?_); rintro e w70 ⟨rfl, hb⟩; refine ⟨_, rfl, ?_⟩; have n0_ := Aside0.mk (blk_below (g := gb271) (o := .cells #[.int .i64 t266, .int .i64 t267, .int .i64 t268, .string t269, .string t270] 37 (0, 0)) (by (with_reducible repeat (first | refine blk_drewN ?_ _ | refine blk_drew ?_ | refine blk_alloc ?_ _)); exact BK271.out) hb); have n1_ := Aside0.mk (blk_below (g := gb278) (o := .cells #[.int .i64 t273, .int .i64 t274, .int .i64 t275, .string t276, .string t277] 37 (0, 0)) (by (with_reducible repeat (first | refine blk_drewN ?_ _ | refine blk_drew ?_ | refine blk_alloc ?_ _)); exact BK278.out) hb); have n2_ := Aside0.mk (below_step (by repeat (first | (with_reducible first | exact HB.out | apply below_alloc | apply pw_below_drewN | apply below_drew1 | refine below_set ?_ GE271.out | refine below_set ?_ GE278.out) | exact HB.out)) hb); clear BK271; clear BK278; clear HB; have BK271 := n0_; have BK278 := n1_; have HB := n2_; clear n0_ n1_ n2_; (try clear hb); (try clear hb2); (try clear hk); (try clear hi)) | (go_at_call 40; (with_reducible refine (impl_MakNext.calls kj44 t256 t281 _ ?side1 A69.out).mono ?_); (case side1 => exact GlobOk.below HGL.out (by repeat (first | (with_reducible first | exact HB.out | apply below_alloc | apply pw_below_drewN | apply below_drew1 | refine below_set ?_ GE271.out | refine below_set ?_ GE278.out) | exact HB.out))); rintro e w71 ⟨rfl, hb⟩; have n0_ := Aside0.mk (blk_below (g := gb271) (o := .cells #[.int .i64 t266, .int .i64 t267, .int .i64 t268, .string t269, .string t270] 37 (0, 0)) (by (with_reducible repeat (first | refine blk_drewN ?_ _ | refine blk_drew ?_ | refine blk_alloc ?_ _)); exact BK271.out) hb); have n1_ := Aside0.mk (blk_below (g := gb278) (o := .cells #[.int .i64 t273, .int .i64 t274, .int .i64 t275, .string t276, .string t277] 37 (0, 0)) (by (with_reducible repeat (first | refine blk_drewN ?_ _ | refine blk_drew ?_ | refine blk_alloc ?_ _)); exact BK278.out) hb); have n2_ := Aside0.mk (below_step (by repeat (first | (with_reducible first | exact HB.out | apply below_alloc | apply pw_below_drewN | apply below_drew1 | refine below_set ?_ GE271.out | refine below_set ?_ GE278.out) | exact HB.out)) hb); clear BK271; clear BK278; clear HB; have BK271 := n0_; have BK278 := n1_; have HB := n2_; clear n0_ n1_ n2_; (try clear hb); (try clear hb2); (try clear hk); (try clear hi)))
                            go_ret
                            exact ⟨by first | rfl | (simp [errW_none, errW_some] <;> rfl) | (simp [*, errW_none, errW_some] <;> rfl), by repeat (first | (with_reducible first | exact HB.out | apply below_alloc | apply pw_below_drewN | apply below_drew1 | refine below_set ?_ GE271.out | refine below_set ?_ GE278.out) | exact HB.out)⟩
                          · replace c68 := Bool.eq_false_iff.mpr c68
                            subst c68
                            have H1 : (some true) = some r := by rw [if_neg (show ¬ (false = true) by decide)] at H; exact H
                            clear H
                            have H := H1
                            clear H1
                            obtain rfl := Option.some.inj H
                            go_wp2_with (first | ((with_reducible refine gate_callee (f := 30) rfl ?_); refine goesL_ (some 84) rfl rfl Tryd.func30 (by kernel_rfl) rfl #[.string t256] rfl (by (try simp only [List.map_toArray, List.map_cons, List.map_nil]); first | done | rfl | (simp only [List.length_drop, List.length_take]; rfl) | (simp only [w64_u8]; rfl)) ?_; (with_reducible refine (spec_SecOk.calls kj44 t256 false _ A67.out).mono ?_); rintro e w72 ⟨rfl, hb⟩; refine ⟨_, rfl, ?_⟩; have n0_ := Aside0.mk (blk_below (g := gb271) (o := .cells #[.int .i64 t266, .int .i64 t267, .int .i64 t268, .string t269, .string t270] 37 (0, 0)) (by (with_reducible repeat (first | refine blk_drewN ?_ _ | refine blk_drew ?_ | refine blk_alloc ?_ _)); exact BK271.out) hb); have n1_ := Aside0.mk (blk_below (g := gb278) (o := .cells #[.int .i64 t273, .int .i64 t274, .int .i64 t275, .string t276, .string t277] 37 (0, 0)) (by (with_reducible repeat (first | refine blk_drewN ?_ _ | refine blk_drew ?_ | refine blk_alloc ?_ _)); exact BK278.out) hb); have n2_ := Aside0.mk (below_step (by repeat (first | (with_reducible first | exact HB.out | apply below_alloc | apply pw_below_drewN | apply below_drew1 | refine below_set ?_ GE271.out | refine below_set ?_ GE278.out) | exact HB.out)) hb); clear BK271; clear BK278; clear HB; have BK271 := n0_; have BK278 := n1_; have HB := n2_; clear n0_ n1_ n2_; (try clear hb); (try clear hb2); (try clear hk); (try clear hi)))
                            go_ret
                            exact ⟨by first | rfl | (simp [errW_none, errW_some] <;> rfl) | (simp [*, errW_none, errW_some] <;> rfl), by repeat (first | (with_reducible first | exact HB.out | apply below_alloc | apply pw_below_drewN | apply below_drew1 | refine below_set ?_ GE271.out | refine below_set ?_ GE278.out) | exact HB.out)⟩

/-- THE ONE PURE STATEMENT of laws_FnMakNext: yours. -/
def laws_FnMakNext.Pure : Prop := ∀ (l0 : List Int) (l1 : List Int), l0.length ≤ maxLen → l0.length * 1 ≤ 140737488351232 → (∀ x ∈ l0, (Lit.int .u8 x).wf = true) → l1.length ≤ maxLen → l1.length * 1 ≤ 140737488351232 → (∀ x ∈ l1, (Lit.int .u8 x).wf = true) → ∃ k, laws_FnMakNext.f k l0 l1 = some true
theorem laws_FnMakNext.walk (P : laws_FnMakNext.Pure) (a0 : Option Addr) (len0 cap0 : Nat) (z0 : List Int) (a1 : Option Addr) (len1 cap1 : Nat) (z1 : List Int) (w : World) (w0 : (a0 = none ∧ len0 = 0 ∧ cap0 = 0 ∧ z0 = []) ∨ ∃ x, a0 = some x ∧ len0 ≤ cap0 ∧ cap0 ≤ maxLen ∧ z0.length = cap0 ∧ (∀ i, i < z0.length → w.cell? (x.add i) = some (.int .u8 (z0.getD i 0))) ∧ ∀ n ∈ z0, (Lit.int .u8 n).wf = true) (y0 : len0 * 1 ≤ 140737488351232) (w1 : (a1 = none ∧ len1 = 0 ∧ cap1 = 0 ∧ z1 = []) ∨ ∃ x, a1 = some x ∧ len1 ≤ cap1 ∧ cap1 ≤ maxLen ∧ z1.length = cap1 ∧ (∀ i, i < z1.length → w.cell? (x.add i) = some (.int .u8 (z1.getD i 0))) ∧ ∀ n ∈ z1, (Lit.int .u8 n).wf = true) (y1 : len1 * 1 ≤ 140737488351232) (hG : GlobOk w) :
    Calls Tryd.prog 8 #[.slice a0 len0 cap0, .slice a1 len1 cap1] w fun e w' => e = .returned (.bool true) ∧ Below w.heap.size w w' := by
  obtain ⟨l0, rfl, hr0, hm0, hw0, hc0⟩ := ReadsInt.ofRowC w0
  obtain ⟨l1, rfl, hr1, hm1, hw1, hc1⟩ := ReadsInt.ofRowC w1
  obtain ⟨k, h⟩ := P l0 l1 hm0 y0 hw0 hm1 y1 hw1
  refine (laws_FnMakNext.calls k _ _ l0 _ _ l1 true w (Kd.C_of_reads (d := (0 : Int)) (h1 := fun _ => rfl) hr0) hc0 (Kd.C_of_reads (d := (0 : Int)) (h1 := fun _ => rfl) hr1) hc1 hG h).mono ?_
  rintro e w' ⟨rfl, hd⟩
  exact ⟨rfl, hd⟩

end Go.Proofs.YtdcaipomjimplaaDoor.Wa
