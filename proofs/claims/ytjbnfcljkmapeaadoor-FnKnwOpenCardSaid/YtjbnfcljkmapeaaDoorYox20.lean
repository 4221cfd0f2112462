-- Written by this session's own program (wip/tools/pp.py) out of the translation, over functions given by hand. Lean checks it.
import Derived.Test.YtjbnfcljkmapeaaDoorYox0
import Derived.Test.YtjbnfcljkmapeaaDoorYox1
import Derived.Test.YtjbnfcljkmapeaaDoorYox5
import Derived.Test.YtjbnfcljkmapeaaDoorYox11
import Derived.Test.YtjbnfcljkmapeaaDoorYox19
import Derived.Test.YtjbnfcljkmapeaaDoorYoGivK
namespace Go.Proofs.YtjbnfcljkmapeaaDoor.Yo
open Go.RowKit Go.Proofs.YtjbnfcljkmapeaaDoorW.PrintWords Go.Proofs.YtjbnfcljkmapeaaDoorW.PrintLast Go.Proofs.YtjbnfcljkmapeaaDoorW.PrintMore
attribute [local go_sem] max2_int min2_int max_two min_two max_three min_three max_four min_four   -- for this text's walks alone
set_option linter.unusedVariables false
set_option linter.unusedSimpArgs false

/-! ### laws_FnKnwOpen: function 10 -/
mutual
def laws_FnKnwOpen.l0 : Nat → List ByteArray → List (S45) → List ByteArray → Int → Option (Bool)
  | 0, _, _, _, _ => none
  | k + 1, x3, x4, x5, x6 => if x6 < (x3.length : Int) then (if 0 ≤ x6 then ((spec_SecOk.f k (rdOf ByteArray.empty x3 x6)).bind fun t323 => (if t323 = true then (laws_FnKnwOpen.l0 k x3 x4 x5 (wrap64 (x6 + 1))) else (if (x5.length : Int) = 0 then ((laws_keOk.f).bind fun t324 => (some t324)) else (some false)))) else (none)) else (laws_FnKnwOpen.l1 k x3 x4 x5 0)
def laws_FnKnwOpen.l1 : Nat → List ByteArray → List (S45) → List ByteArray → Int → Option (Bool)
  | 0, _, _, _, _ => none
  | k + 1, x3, x4, x5, x7 => if x7 < (x4.length : Int) then (if 0 ≤ x7 then ((spec_SecOk.f k ((rd_T45 x4 x7).f0)).bind fun t326 => (if t326 = true then ((spec_SecOk.f k ((rd_T45 x4 x7).f1)).bind fun t328 => (if t328 = true then (laws_FnKnwOpen.l1 k x3 x4 x5 (wrap64 (x7 + 1))) else (if (x5.length : Int) = 0 then ((laws_keOk.f).bind fun t329 => (some t329)) else (some false)))) else (if (x5.length : Int) = 0 then ((laws_keOk.f).bind fun t330 => (some t330)) else (some false)))) else (none)) else (laws_FnKnwOpen.l2 k x3 x4 x5 0)
def laws_FnKnwOpen.l2 : Nat → List ByteArray → List (S45) → List ByteArray → Int → Option (Bool)
  | 0, _, _, _, _ => none
  | k + 1, x3, x4, x5, x8 => if x8 < (x3.length : Int) then (if 0 ≤ x8 then ((laws_keHas.f k x5 (rdOf ByteArray.empty x3 x8)).bind fun t332 => (if t332 = true then (laws_FnKnwOpen.l2 k x3 x4 x5 (wrap64 (x8 + 1))) else (some false))) else (none)) else (laws_FnKnwOpen.l3 k x3 x4 x5 0)
def laws_FnKnwOpen.l3 : Nat → List ByteArray → List (S45) → List ByteArray → Int → Option (Bool)
  | 0, _, _, _, _ => none
  | k + 1, x3, x4, x5, x9 => if x9 < (x5.length : Int) then (if 0 ≤ x9 then ((laws_keHas.f k x3 (rdOf ByteArray.empty x5 x9)).bind fun t334 => (laws_FnKnwOpen.l4 k x3 x4 x5 x9 t334 0)) else (none)) else (laws_FnKnwOpen.l5 k x4 x5 0)
def laws_FnKnwOpen.l4 : Nat → List ByteArray → List (S45) → List ByteArray → Int → Bool → Int → Option (Bool)
  | 0, _, _, _, _, _, _ => none
  | k + 1, x3, x4, x5, x9, x10, x11 => if x11 < (x4.length : Int) then (if x10 = true then (laws_FnKnwOpen.l4 k x3 x4 x5 x9 true (wrap64 (x11 + 1))) else (if 0 ≤ x11 then (if 0 ≤ x9 then (if x9 < (x5.length : Int) then (if ((rd_T45 x4 x11).f1).toList = (rdOf ByteArray.empty x5 x9).toList then ((impl_KnwMake.f x5 ((rd_T45 x4 x11).f0)).bind fun t338 => (laws_FnKnwOpen.l4 k x3 x4 x5 x9 t338 (wrap64 (x11 + 1)))) else (laws_FnKnwOpen.l4 k x3 x4 x5 x9 false (wrap64 (x11 + 1)))) else (none)) else (none)) else (none))) else (if x10 = true then (if 0 ≤ x9 then (if x9 ≤ (x5.length : Int) then (if x9 < (x5.length : Int) then ((laws_keHas.f k (x5.take (x9 : Int).toNat) (rdOf ByteArray.empty x5 x9)).bind fun t344 => (if t344 = true then (some false) else (laws_FnKnwOpen.l3 k x3 x4 x5 (wrap64 (x9 + 1))))) else (none)) else (none)) else (none)) else (some false))
def laws_FnKnwOpen.l5 : Nat → List (S45) → List ByteArray → Int → Option (Bool)
  | 0, _, _, _ => none
  | k + 1, x4, x5, x12 => if x12 < (x4.length : Int) then (if 0 ≤ x12 then ((impl_KnwMake.f x5 ((rd_T45 x4 x12).f0)).bind fun t346 => (if t346 = true then ((laws_keHas.f k x5 ((rd_T45 x4 x12).f1)).bind fun t348 => (if t348 = true then (laws_FnKnwOpen.l5 k x4 x5 (wrap64 (x12 + 1))) else (some false))) else (laws_FnKnwOpen.l5 k x4 x5 (wrap64 (x12 + 1))))) else (none)) else ((impl_KnwOpen.f x5 x4).bind fun t349 => ((laws_keTexts.f k t349 x5).bind fun t352 => (if t352 = true then ((laws_keOk.f).bind fun t353 => (some t353)) else (some false))))
end
def laws_FnKnwOpen.f (k : Nat) (l0 : List Int) : Option (Bool) := if (l0.length : Int) > 1048576 then (some true) else ((spec_DrawKnwOpen.f k l0).bind fun bt309 => ((impl_KnwOpen.f bt309.1 bt309.2).bind fun t315 => ((spec_KnwOpen.f k bt309.1 bt309.2).bind fun t318 => ((laws_keTexts.f k t315 t318).bind fun t321 => (if t321 = true then (laws_FnKnwOpen.l0 k bt309.1 bt309.2 t315 0) else (some false))))))
theorem laws_FnKnwOpen.mono_l : ∀ k, (∀ y0 y1 y2 y3, LeO (laws_FnKnwOpen.l0 k y0 y1 y2 y3) (laws_FnKnwOpen.l0 (k + 1) y0 y1 y2 y3)) ∧ (∀ y0 y1 y2 y3, LeO (laws_FnKnwOpen.l1 k y0 y1 y2 y3) (laws_FnKnwOpen.l1 (k + 1) y0 y1 y2 y3)) ∧ (∀ y0 y1 y2 y3, LeO (laws_FnKnwOpen.l2 k y0 y1 y2 y3) (laws_FnKnwOpen.l2 (k + 1) y0 y1 y2 y3)) ∧ (∀ y0 y1 y2 y3, LeO (laws_FnKnwOpen.l3 k y0 y1 y2 y3) (laws_FnKnwOpen.l3 (k + 1) y0 y1 y2 y3)) ∧ (∀ y0 y1 y2 y3 y4 y5, LeO (laws_FnKnwOpen.l4 k y0 y1 y2 y3 y4 y5) (laws_FnKnwOpen.l4 (k + 1) y0 y1 y2 y3 y4 y5)) ∧ (∀ y0 y1 y2, LeO (laws_FnKnwOpen.l5 k y0 y1 y2) (laws_FnKnwOpen.l5 (k + 1) y0 y1 y2))
  | 0 => ⟨fun _ _ _ _ r h => by simp [laws_FnKnwOpen.l0] at h, fun _ _ _ _ r h => by simp [laws_FnKnwOpen.l1] at h, fun _ _ _ _ r h => by simp [laws_FnKnwOpen.l2] at h, fun _ _ _ _ r h => by simp [laws_FnKnwOpen.l3] at h, fun _ _ _ _ _ _ r h => by simp [laws_FnKnwOpen.l4] at h, fun _ _ _ r h => by simp [laws_FnKnwOpen.l5] at h⟩
  | k + 1 => by
    obtain ⟨ih0, ih1, ih2, ih3, ih4, ih5⟩ := laws_FnKnwOpen.mono_l k
    refine ⟨?_, ?_, ?_, ?_, ?_, ?_⟩
    · intro y0 y1 y2 y3
      unfold laws_FnKnwOpen.l0
      repeat' first
      | (with_reducible exact ih0 _ _ _ _)
      | (with_reducible exact ih1 _ _ _ _)
      | (with_reducible exact ih2 _ _ _ _)
      | (with_reducible exact ih3 _ _ _ _)
      | (with_reducible exact ih4 _ _ _ _ _ _)
      | (with_reducible exact ih5 _ _ _)
      | (with_reducible exact laws_keHas.mono _ _ _)
      | (with_reducible exact laws_keTexts.mono _ _ _)
      | (with_reducible exact spec_DrawKnwOpen.mono _ _)
      | (with_reducible exact spec_KnwOpen.mono _ _ _)
      | (with_reducible exact spec_SecOk.mono _ _)
      | (with_reducible exact LeO.refl _)
      | (with_reducible exact LeO.none _)
      | (with_reducible refine LeO.ite ?_ ?_)
      | (with_reducible refine LeO.bind ?_ (fun _ => ?_))
      | exact LeO.none _
      | refine LeO.ite ?_ ?_
      | refine LeO.bind ?_ (fun _ => ?_)
    · intro y0 y1 y2 y3
      unfold laws_FnKnwOpen.l1
      repeat' first
      | (with_reducible exact ih0 _ _ _ _)
      | (with_reducible exact ih1 _ _ _ _)
      | (with_reducible exact ih2 _ _ _ _)
      | (with_reducible exact ih3 _ _ _ _)
      | (with_reducible exact ih4 _ _ _ _ _ _)
      | (with_reducible exact ih5 _ _ _)
      | (with_reducible exact laws_keHas.mono _ _ _)
      | (with_reducible exact laws_keTexts.mono _ _ _)
      | (with_reducible exact spec_DrawKnwOpen.mono _ _)
      | (with_reducible exact spec_KnwOpen.mono _ _ _)
      | (with_reducible exact spec_SecOk.mono _ _)
      | (with_reducible exact LeO.refl _)
      | (with_reducible exact LeO.none _)
      | (with_reducible refine LeO.ite ?_ ?_)
      | (with_reducible refine LeO.bind ?_ (fun _ => ?_))
      | exact LeO.none _
      | refine LeO.ite ?_ ?_
      | refine LeO.bind ?_ (fun _ => ?_)
    · intro y0 y1 y2 y3
      unfold laws_FnKnwOpen.l2
      repeat' first
      | (with_reducible exact ih0 _ _ _ _)
      | (with_reducible exact ih1 _ _ _ _)
      | (with_reducible exact ih2 _ _ _ _)
      | (with_reducible exact ih3 _ _ _ _)
      | (with_reducible exact ih4 _ _ _ _ _ _)
      | (with_reducible exact ih5 _ _ _)
      | (with_reducible exact laws_keHas.mono _ _ _)
      | (with_reducible exact laws_keTexts.mono _ _ _)
      | (with_reducible exact spec_DrawKnwOpen.mono _ _)
      | (with_reducible exact spec_KnwOpen.mono _ _ _)
      | (with_reducible exact spec_SecOk.mono _ _)
      | (with_reducible exact LeO.refl _)
      | (with_reducible exact LeO.none _)
      | (with_reducible refine LeO.ite ?_ ?_)
      | (with_reducible refine LeO.bind ?_ (fun _ => ?_))
      | exact LeO.none _
      | refine LeO.ite ?_ ?_
      | refine LeO.bind ?_ (fun _ => ?_)
    · intro y0 y1 y2 y3
      unfold laws_FnKnwOpen.l3
      repeat' first
      | (with_reducible exact ih0 _ _ _ _)
      | (with_reducible exact ih1 _ _ _ _)
      | (with_reducible exact ih2 _ _ _ _)
      | (with_reducible exact ih3 _ _ _ _)
      | (with_reducible exact ih4 _ _ _ _ _ _)
      | (with_reducible exact ih5 _ _ _)
      | (with_reducible exact laws_keHas.mono _ _ _)
      | (with_reducible exact laws_keTexts.mono _ _ _)
      | (with_reducible exact spec_DrawKnwOpen.mono _ _)
      | (with_reducible exact spec_KnwOpen.mono _ _ _)
      | (with_reducible exact spec_SecOk.mono _ _)
      | (with_reducible exact LeO.refl _)
      | (with_reducible exact LeO.none _)
      | (with_reducible refine LeO.ite ?_ ?_)
      | (with_reducible refine LeO.bind ?_ (fun _ => ?_))
      | exact LeO.none _
      | refine LeO.ite ?_ ?_
      | refine LeO.bind ?_ (fun _ => ?_)
    · intro y0 y1 y2 y3 y4 y5
      unfold laws_FnKnwOpen.l4
      repeat' first
      | (with_reducible exact ih0 _ _ _ _)
      | (with_reducible exact ih1 _ _ _ _)
      | (with_reducible exact ih2 _ _ _ _)
      | (with_reducible exact ih3 _ _ _ _)
      | (with_reducible exact ih4 _ _ _ _ _ _)
      | (with_reducible exact ih5 _ _ _)
      | (with_reducible exact laws_keHas.mono _ _ _)
      | (with_reducible exact laws_keTexts.mono _ _ _)
      | (with_reducible exact spec_DrawKnwOpen.mono _ _)
      | (with_reducible exact spec_KnwOpen.mono _ _ _)
      | (with_reducible exact spec_SecOk.mono _ _)
      | (with_reducible exact LeO.refl _)
      | (with_reducible exact LeO.none _)
      | (with_reducible refine LeO.ite ?_ ?_)
      | (with_reducible refine LeO.bind ?_ (fun _ => ?_))
      | exact LeO.none _
      | refine LeO.ite ?_ ?_
      | refine LeO.bind ?_ (fun _ => ?_)
    intro y0 y1 y2
    unfold laws_FnKnwOpen.l5
    repeat' first
    | (with_reducible exact ih0 _ _ _ _)
    | (with_reducible exact ih1 _ _ _ _)
    | (with_reducible exact ih2 _ _ _ _)
    | (with_reducible exact ih3 _ _ _ _)
    | (with_reducible exact ih4 _ _ _ _ _ _)
    | (with_reducible exact ih5 _ _ _)
    | (with_reducible exact laws_keHas.mono _ _ _)
    | (with_reducible exact laws_keTexts.mono _ _ _)
    | (with_reducible exact spec_DrawKnwOpen.mono _ _)
    | (with_reducible exact spec_KnwOpen.mono _ _ _)
    | (with_reducible exact spec_SecOk.mono _ _)
    | (with_reducible exact LeO.refl _)
    | (with_reducible exact LeO.none _)
    | (with_reducible refine LeO.ite ?_ ?_)
    | (with_reducible refine LeO.bind ?_ (fun _ => ?_))
    | exact LeO.none _
    | refine LeO.ite ?_ ?_
    | refine LeO.bind ?_ (fun _ => ?_)
theorem laws_FnKnwOpen.mono : ∀ a0 k, LeO (laws_FnKnwOpen.f k a0) (laws_FnKnwOpen.f (k + 1) a0) := by
  intro a0 k
  obtain ⟨ih0, ih1, ih2, ih3, ih4, ih5⟩ := laws_FnKnwOpen.mono_l k
  unfold laws_FnKnwOpen.f
  repeat' first
      | (with_reducible exact ih0 _ _ _ _)
      | (with_reducible exact ih1 _ _ _ _)
      | (with_reducible exact ih2 _ _ _ _)
      | (with_reducible exact ih3 _ _ _ _)
      | (with_reducible exact ih4 _ _ _ _ _ _)
      | (with_reducible exact ih5 _ _ _)
      | (with_reducible exact laws_keHas.mono _ _ _)
      | (with_reducible exact laws_keTexts.mono _ _ _)
      | (with_reducible exact spec_DrawKnwOpen.mono _ _)
      | (with_reducible exact spec_KnwOpen.mono _ _ _)
      | (with_reducible exact spec_SecOk.mono _ _)
      | (with_reducible exact LeO.refl _)
      | (with_reducible exact LeO.none _)
      | (with_reducible refine LeO.ite ?_ ?_)
      | (with_reducible refine LeO.bind ?_ (fun _ => ?_))
      | exact LeO.none _
      | refine LeO.ite ?_ ?_
      | refine LeO.bind ?_ (fun _ => ?_)
def laws_FnKnwOpen.T29 : Bool × List (List Nat × List Nat) := (true, [([], []), ([0], [0]), ([1], [1]), ([1], [1]), ([2, 3, 1], [1, 2, 3]), ([4, 1], [1, 4]), ([5, 1], [1, 5]), ([1], [1]), ([1], [1]), ([7, 8, 1], [1, 7, 8]), ([9, 1], [1, 9]), ([6, 10, 1], [1, 6, 10]), ([11, 1, 1], [1, 11]), ([12], [12]), ([12], [12]), ([12], [12]), ([14, 15, 12], [12, 14, 15]), ([16, 12], [12, 16]), ([17, 12], [12, 17]), ([13, 18, 12, 12], [12, 13, 18]), ([12, 19, 1], [1, 12, 19]), ([1, 20], [1, 20]), ([21, 19, 0, 1, 2, 3, 4, 5, 6, 7, 8, 9, 10, 11, 12, 13, 14, 15, 16, 17, 18, 19, 20, 21], [0, 21])])
def laws_FnKnwOpen.B29 : List Nat := [0, 1, 3, 3, 15, 31, 63, 3, 3, 387, 899, 2047, 4095, 8191, 8191, 8191, 57343, 122879, 253951, 524287, 1048575, 2097151, 4194303]
theorem laws_FnKnwOpen.tab29 : rtab .any (opsOf Tryd.f10 29) = laws_FnKnwOpen.T29 := by kernel_rfl
theorem laws_FnKnwOpen.bits29 : waitsOk laws_FnKnwOpen.T29.2 laws_FnKnwOpen.B29 = true := by kernel_rfl
def laws_FnKnwOpen.T30 : Bool × List (List Nat × List Nat) := (true, [([], []), ([0], [0]), ([1], [1]), ([2], [2]), ([2], [2]), ([3, 4, 2], [2, 3, 4]), ([2], [2]), ([2], [2]), ([6, 7, 2], [2, 6, 7]), ([8, 2], [2, 8]), ([5, 9, 2, 2], [2, 5, 9]), ([2, 10], [2, 10])])
def laws_FnKnwOpen.B30 : List Nat := [0, 1, 3, 7, 7, 31, 7, 7, 199, 455, 1023, 2047]
theorem laws_FnKnwOpen.tab30 : rtab .any (opsOf Tryd.f10 30) = laws_FnKnwOpen.T30 := by kernel_rfl
theorem laws_FnKnwOpen.bits30 : waitsOk laws_FnKnwOpen.T30.2 laws_FnKnwOpen.B30 = true := by kernel_rfl
set_option maxHeartbeats 8000000 in
set_option maxRecDepth 100000 in
theorem laws_FnKnwOpen.calls (k : Nat) (A0 : Option Addr) (c0 : Nat) (l0 : List Int) (r : Bool) (w : World) (hr0 : Kd.C (Kd.int .u8) w A0 l0.length l0) (hc0 : l0.length ≤ c0) (hG : GlobOk w) (h : laws_FnKnwOpen.f k l0 = some r) :
    Calls Tryd.prog 10 #[.slice A0 l0.length c0] w fun e w' => e = .returned (.bool r) ∧ Below w.heap.size w w' := by
  have HR0 := Aside0.mk hr0
  have HC0 := Aside0.mk hc0
  clear hr0 hc0
  have HB := Aside0.mk (Below.refl w.heap.size w)
  have HGL := Aside0.mk hG
  clear hG
  have H : (if (l0.length : Int) > 1048576 then (some true) else ((spec_DrawKnwOpen.f k l0).bind fun bt309 => ((impl_KnwOpen.f bt309.1 bt309.2).bind fun t315 => ((spec_KnwOpen.f k bt309.1 bt309.2).bind fun t318 => ((laws_keTexts.f k t315 t318).bind fun t321 => (if t321 = true then (laws_FnKnwOpen.l0 k bt309.1 bt309.2 t315 0) else (some false))))))) = some r := h
  clear h
  by_cases c2 : (l0.length : Int) > 1048576
  · rw [if_pos c2] at H
    have c2b0 : decide (1048576 < (l0.length : Int)) = true := decide_eq_true c2
    have c2b1 : decide (1048576 < l0.length) = true := decide_eq_true (by omega)
    clear c2
    obtain rfl := Option.some.inj H
    go_enter Tryd.func10, Tryd.ntmps10
    go_wp2
    go_ret
    exact ⟨y6_, y7_ HB.out⟩
  rw [if_neg c2] at H
  have c2b0 : decide (1048576 < (l0.length : Int)) = false := decide_eq_false c2
  have c2b1 : decide (1048576 < l0.length) = false := decide_eq_false (by omega)
  clear c2
  replace H := Option.bind_eq_some_iff.mp H
  obtain ⟨⟨t309, t310⟩, A30, H⟩ := H
  replace H : ((impl_KnwOpen.f t309 t310).bind fun t315 => ((spec_KnwOpen.f k t309 t310).bind fun t318 => ((laws_keTexts.f k t315 t318).bind fun t321 => (if t321 = true then (laws_FnKnwOpen.l0 k t309 t310 t315 0) else (some false))))) = some r := H
  have A3 := Aside0.mk A30
  clear A30
  replace H := Option.bind_eq_some_iff.mp H
  obtain ⟨t315, A40, H⟩ := H
  replace H : ((spec_KnwOpen.f k t309 t310).bind fun t318 => ((laws_keTexts.f k t315 t318).bind fun t321 => (if t321 = true then (laws_FnKnwOpen.l0 k t309 t310 t315 0) else (some false)))) = some r := H
  have A4 := Aside0.mk A40
  clear A40
  replace H := Option.bind_eq_some_iff.mp H
  obtain ⟨t318, A50, H⟩ := H
  replace H : ((laws_keTexts.f k t315 t318).bind fun t321 => (if t321 = true then (laws_FnKnwOpen.l0 k t309 t310 t315 0) else (some false))) = some r := H
  have A5 := Aside0.mk A50
  clear A50
  replace H := Option.bind_eq_some_iff.mp H
  obtain ⟨t321, A60, H⟩ := H
  replace H : (if t321 = true then (laws_FnKnwOpen.l0 k t309 t310 t315 0) else (some false)) = some r := H
  have A6 := Aside0.mk A60
  clear A60
  by_cases c7 : t321 = true
  · subst c7
    have H1 : (laws_FnKnwOpen.l0 k t309 t310 t315 0) = some r := by rw [if_pos rfl] at H; exact H
    clear H
    have H := H1
    clear H1
    have H' := Aside0.mk H
    clear H
    go_enter Tryd.func10, Tryd.ntmps10
    go_wp2_with (first | ((with_reducible refine gate_callee (f := 32) rfl ?_); refine goesL_ (some 18) rfl rfl Tryd.func32 (by kernel_rfl) rfl #[.slice A0 l0.length c0] rfl y1_ ?_; (with_reducible refine (spec_DrawKnwOpen.calls k _ _ l0 t309 t310 _ ?side1 ?side2 A3.out).mono ?_); (case side1 => repeat (first | exact HR0.out | (with_reducible refine Kd.C_alloc ?_ _) | (with_reducible refine Kd.C_drewN ?_ _) | (with_reducible refine Kd.C_drew ?_))); (case side2 => exact HC0.out); rintro e w8 ⟨v311, v313, rfl, ho0, ho1, hb⟩; refine ⟨_, rfl, ?_⟩; have HO312 := Aside0.mk (Kd.R_lower ho0 (below_size (y7_ HB.out))); have HO314 := Aside0.mk (Kd.R_lower ho1 (below_size (y7_ HB.out))); replace HB := Aside0.mk (below_step (y7_ HB.out) hb); (try clear hb); (try clear hb2); (try clear hk); (try clear hi); (try clear ho0); (try clear ho1); obtain ⟨Ao9, co9, eo9⟩ := Kd.R_slice HO312.out; subst eo9; obtain ⟨Ao10, co10, eo10⟩ := Kd.R_slice HO314.out; subst eo10) | ((with_reducible refine gate_callee (f := 12) rfl ?_); refine goesL_ (some 23) rfl rfl Tryd.func12 (by kernel_rfl) rfl #[.slice Ao9 t309.length co9, .slice Ao10 t310.length co10] rfl y1_ ?_; (with_reducible refine (impl_KnwOpen.calls _ _ t309 _ _ t310 t315 _ ?side1 ?side2 ?side3 ?side4 ?side5 A4.out).mono ?_); (case side1 => repeat (first | exact (Kd.R_reads' HO312.out).2.2 | (with_reducible refine Kd.C_alloc ?_ _) | (with_reducible refine Kd.C_drewN ?_ _) | (with_reducible refine Kd.C_drew ?_))); (case side2 => exact (Kd.R_reads' HO312.out).2.1); (case side3 => repeat (first | exact (Kd.R_reads' HO314.out).2.2 | (with_reducible refine Kd.C_alloc ?_ _) | (with_reducible refine Kd.C_drewN ?_ _) | (with_reducible refine Kd.C_drew ?_))); (case side4 => exact (Kd.R_reads' HO314.out).2.1); (case side5 => exact GlobOk.below HGL.out (y7_ HB.out)); rintro e w11 ⟨v316, rfl, ho0, hb⟩; refine ⟨_, rfl, ?_⟩; replace HO314 := Aside0.mk (Kd.R_below (y11_ HO314.out) hb); have HO317 := Aside0.mk (Kd.Q_lower (Kd.Q_new' ho0 (Kd.R_lt (y11_ HO312.out))) (below_size (y7_ HB.out))); replace HO312 := Aside0.mk (Kd.R_elder' (y11_ HO312.out) (Kd.Q_base ho0) hb); replace HB := Aside0.mk (below_step (y7_ HB.out) hb); (try clear hb); (try clear hb2); (try clear hk); (try clear hi); (try clear ho0)) | ((with_reducible refine gate_callee (f := 30) rfl ?_); refine goesL_ (some 27) rfl rfl Tryd.func30 (by kernel_rfl) rfl #[.slice Ao9 t309.length co9, .slice Ao10 t310.length co10] rfl y1_ ?_; (with_reducible refine (spec_KnwOpen.calls k _ _ t309 _ _ t310 t318 _ ?side1 ?side2 ?side3 ?side4 A5.out).mono ?_); (case side1 => repeat (first | exact (Kd.R_reads' HO312.out).2.2 | (with_reducible refine Kd.C_alloc ?_ _) | (with_reducible refine Kd.C_drewN ?_ _) | (with_reducible refine Kd.C_drew ?_))); (case side2 => exact (Kd.R_reads' HO312.out).2.1); (case side3 => repeat (first | exact (Kd.R_reads' HO314.out).2.2 | (with_reducible refine Kd.C_alloc ?_ _) | (with_reducible refine Kd.C_drewN ?_ _) | (with_reducible refine Kd.C_drew ?_))); (case side4 => exact (Kd.R_reads' HO314.out).2.1); rintro e w12 ⟨v319, rfl, ho0, hb⟩; refine ⟨_, rfl, ?_⟩; replace HO314 := Aside0.mk (Kd.R_below (y11_ HO314.out) hb); have HO320 := Aside0.mk (Kd.R_lower (Kd.R_new' (Kd.R_new' ho0 (Kd.R_lt (y11_ HO312.out))) (Kd.Q_lt (y13_ HO317.out))) (below_size (y7_ HB.out))); replace HO312 := Aside0.mk (Kd.R_elder' (y11_ HO312.out) (Kd.R_base ho0) hb); replace HO317 := Aside0.mk (Kd.Q_elder' (y13_ HO317.out) (Kd.R_base ho0) hb); replace HB := Aside0.mk (below_step (y7_ HB.out) hb); (try clear hb); (try clear hb2); (try clear hk); (try clear hi); (try clear ho0); obtain ⟨Ao13, co13, eo13, _⟩ := Kd.Q_slice HO317.out; subst eo13; obtain ⟨Ao14, co14, eo14⟩ := Kd.R_slice HO320.out; subst eo14) | ((with_reducible refine gate_callee (f := 29) rfl ?_); refine goesL_ (some 28) rfl rfl Tryd.func29 (by kernel_rfl) rfl #[.slice Ao13 t315.length co13, .slice Ao14 t318.length co14] rfl y1_ ?_; (with_reducible refine (laws_keTexts.calls k _ _ t315 _ _ t318 true _ ?side1 ?side2 ?side3 ?side4 A6.out).mono ?_); (case side1 => repeat (first | exact (Kd.Q_reads' HO317.out).2.2 | (with_reducible refine Kd.C_alloc ?_ _) | (with_reducible refine Kd.C_drewN ?_ _) | (with_reducible refine Kd.C_drew ?_))); (case side2 => exact (Kd.Q_reads' HO317.out).2.1); (case side3 => repeat (first | exact (Kd.R_reads' HO320.out).2.2 | (with_reducible refine Kd.C_alloc ?_ _) | (with_reducible refine Kd.C_drewN ?_ _) | (with_reducible refine Kd.C_drew ?_))); (case side4 => exact (Kd.R_reads' HO320.out).2.1); rintro e w' ⟨rfl, ⟨nd, rfl⟩⟩; refine ⟨_, rfl, ?_⟩))
    go_loopg [6] k (fun kq v6 w' => ∃ (x6_1 : Int), v6 = .int .i64 x6_1 ∧ Aside0 (laws_FnKnwOpen.l0 kq t309 t310 t315 x6_1 = some r) ∧ Aside0 (kq ≤ k) ∧ Aside0 (Kd.R Kd.string 9 w' w.heap.size (fun k_ => some k_ ≠ ((.slice Ao13 t315.length co13) : Value).ownBlock) (.slice Ao9 t309.length co9) t309) ∧ Aside0 (Kd.R k45 45 w' w.heap.size (fun _ => True) (.slice Ao10 t310.length co10) t310) ∧ Aside0 (Kd.Q Kd.string 9 w' w.heap.size (fun k_ => some k_ ≠ ((.slice Ao9 t309.length co9) : Value).ownBlock) (.slice Ao13 t315.length co13) t315) ∧ Aside0 (Below w.heap.size w w'))
    case atStart => exact ⟨(0), y4_, H', ⟨Nat.le_refl _⟩, ⟨by (with_reducible repeat (first | apply Kd.R_alloc | apply Kd.R_drewN | apply Kd.R_drew)); exact Kd.R_mono HO312.out (fun _ hk => hk.1.2)⟩, ⟨by (with_reducible repeat (first | apply Kd.R_alloc | apply Kd.R_drewN | apply Kd.R_drew)); exact HO314.out⟩, ⟨by (with_reducible repeat (first | apply Kd.Q_alloc | apply Kd.Q_drewN | apply Kd.Q_drew)); exact Kd.Q_mono HO317.out (fun _ hk => hk.1.2)⟩, ⟨y7_ HB.out⟩⟩
    case round =>
      clear H'
      try clear c1
      try clear c2
      try clear c2b0
      try clear c2b1
      try clear p2
      try clear c3
      try clear c7
      try clear c10
      try clear c12
      obtain ⟨x6_1, rfl, HA, HK1, HO_3, HO_4, HO_5, HB⟩ := hrel
      cases gk with
      | zero => exact absurd HA.out (by simp [laws_FnKnwOpen.l0])
      | succ k1 =>
        have H := HA.out
        clear HA
        simp only [laws_FnKnwOpen.l0] at H
        by_cases c15 : x6_1 < (t309.length : Int)
        · rw [if_pos c15] at H
          have c15b0 : decide (x6_1 < (t309.length : Int)) = true := decide_eq_true c15
          clear c15
          by_cases c16 : 0 ≤ x6_1
          · rw [if_pos c16] at H
            have c16b0 : decide (0 ≤ x6_1) = true := decide_eq_true c16
            clear c16
            replace H := Option.bind_eq_some_iff.mp H
            obtain ⟨t323, A170, H⟩ := H
            replace H : (if t323 = true then (laws_FnKnwOpen.l0 k1 t309 t310 t315 (wrap64 (x6_1 + 1))) else (if (t315.length : Int) = 0 then ((laws_keOk.f).bind fun t324 => (some t324)) else (some false))) = some r := H
            have A17 := Aside0.mk A170
            clear A170
            by_cases c18 : t323 = true
            · subst c18
              have H1 : (laws_FnKnwOpen.l0 k1 t309 t310 t315 (wrap64 (x6_1 + 1))) = some r := by rw [if_pos rfl] at H; exact H
              clear H
              have H := H1
              clear H1
              have H' := Aside0.mk H
              clear H
              have p322 : 0 ≤ (x6_1 : Int) := of_decide_eq_true y3_
              have q322 : x6_1 < (t309.length : Int) := of_decide_eq_true y3_
              obtain ⟨ad322, e322, hx322_0⟩ := Kd.at_string (Kd.R_reads' HO_3.out).2.2 x6_1 p322 q322
              cases e322
              replace p322 := eq_true p322
              replace q322 := eq_true q322
              go_wp2_with (first | ((with_reducible refine gate_callee (f := 21) rfl ?_); refine goesL_ (some 40) rfl rfl Tryd.func21 (by kernel_rfl) rfl #[.string (rdOf ByteArray.empty t309 x6_1)] rfl y1_ ?_; (with_reducible refine (spec_SecOk.calls k1 (rdOf ByteArray.empty t309 x6_1) true _ A17.out).mono ?_); rintro e w19 ⟨rfl, hb⟩; refine ⟨_, rfl, ?_⟩; replace HO_3 := Aside0.mk (Kd.R_below (y11_ HO_3.out) hb); replace HO_4 := Aside0.mk (Kd.R_below (y11_ HO_4.out) hb); replace HO_5 := Aside0.mk (Kd.Q_below (y13_ HO_5.out) hb); replace HB := Aside0.mk (below_step (y7_ HB.out) hb); clear hb))
              go_roundg k1
              case measure => have := HK1.out; omega
              case rel => exact ⟨(wrap64 (x6_1 + 1)), y4_, H', ⟨by have := HK1.out; omega⟩, ⟨by (with_reducible repeat (first | apply Kd.R_alloc | apply Kd.R_drewN | apply Kd.R_drew)); exact HO_3.out⟩, ⟨by (with_reducible repeat (first | apply Kd.R_alloc | apply Kd.R_drewN | apply Kd.R_drew)); exact HO_4.out⟩, ⟨by (with_reducible repeat (first | apply Kd.Q_alloc | apply Kd.Q_drewN | apply Kd.Q_drew)); exact HO_5.out⟩, ⟨y7_ HB.out⟩⟩
            replace c18 := Bool.eq_false_iff.mpr c18
            subst c18
            have H1 : (if (t315.length : Int) = 0 then ((laws_keOk.f).bind fun t324 => (some t324)) else (some false)) = some r := by rw [if_neg (show ¬ (false = true) by decide)] at H; exact H
            clear H
            have H := H1
            clear H1
            by_cases c20 : (t315.length : Int) = 0
            · rw [if_pos c20] at H
              have c20b0 : ((t315.length : Int) == 0) = true := beq_iff_eq.mpr c20
              have c20b1 : ((t315.length : Int) != 0) = false := bne_eq_false_iff_eq.mpr c20
              clear c20
              replace H := Option.bind_eq_some_iff.mp H
              obtain ⟨t324, A210, H⟩ := H
              replace H : (some t324) = some r := H
              have A21 := Aside0.mk A210
              clear A210
              obtain rfl := Option.some.inj H
              have p322 : 0 ≤ (x6_1 : Int) := of_decide_eq_true y3_
              have q322 : x6_1 < (t309.length : Int) := of_decide_eq_true y3_
              obtain ⟨ad322, e322, hx322_0⟩ := Kd.at_string (Kd.R_reads' HO_3.out).2.2 x6_1 p322 q322
              cases e322
              replace p322 := eq_true p322
              replace q322 := eq_true q322
              go_wp2_with (first | ((with_reducible refine gate_callee (f := 21) rfl ?_); refine goesL_ (some 40) rfl rfl Tryd.func21 (by kernel_rfl) rfl #[.string (rdOf ByteArray.empty t309 x6_1)] rfl y1_ ?_; (with_reducible refine (spec_SecOk.calls k1 (rdOf ByteArray.empty t309 x6_1) false _ A17.out).mono ?_); rintro e w22 ⟨rfl, hb⟩; refine ⟨_, rfl, ?_⟩; replace HO_3 := Aside0.mk (Kd.R_below (y11_ HO_3.out) hb); replace HO_4 := Aside0.mk (Kd.R_below (y11_ HO_4.out) hb); replace HO_5 := Aside0.mk (Kd.Q_below (y13_ HO_5.out) hb); replace HB := Aside0.mk (below_step (y7_ HB.out) hb); clear hb) | (go_at_call 15; (with_reducible refine (laws_keOk.calls  t324 _ ?side1 A21.out).mono ?_); (case side1 => exact GlobOk.below HGL.out (y7_ HB.out)); rintro e w23 ⟨rfl, hb⟩; replace HO_3 := Aside0.mk (Kd.R_below (y11_ HO_3.out) hb); replace HO_4 := Aside0.mk (Kd.R_below (y11_ HO_4.out) hb); replace HO_5 := Aside0.mk (Kd.Q_below (y13_ HO_5.out) hb); replace HB := Aside0.mk (below_step (y7_ HB.out) hb); clear hb))
              go_ret
              exact ⟨y6_, y7_ HB.out⟩
            rw [if_neg c20] at H
            have c20b0 : ((t315.length : Int) == 0) = false := beq_eq_false_iff_ne.mpr c20
            have c20b1 : ((t315.length : Int) != 0) = true := bne_iff_ne.mpr c20
            have c20b2 : ¬ (t315 = []) := fun h_ => c20 (by rw [h_]; rfl)
            obtain rfl := Option.some.inj H
            have p322 : 0 ≤ (x6_1 : Int) := of_decide_eq_true y3_
            have q322 : x6_1 < (t309.length : Int) := of_decide_eq_true y3_
            obtain ⟨ad322, e322, hx322_0⟩ := Kd.at_string (Kd.R_reads' HO_3.out).2.2 x6_1 p322 q322
            cases e322
            replace p322 := eq_true p322
            replace q322 := eq_true q322
            go_wp2_with (first | ((with_reducible refine gate_callee (f := 21) rfl ?_); refine goesL_ (some 40) rfl rfl Tryd.func21 (by kernel_rfl) rfl #[.string (rdOf ByteArray.empty t309 x6_1)] rfl y1_ ?_; (with_reducible refine (spec_SecOk.calls k1 (rdOf ByteArray.empty t309 x6_1) false _ A17.out).mono ?_); rintro e w24 ⟨rfl, hb⟩; refine ⟨_, rfl, ?_⟩; replace HO_3 := Aside0.mk (Kd.R_below (y11_ HO_3.out) hb); replace HO_4 := Aside0.mk (Kd.R_below (y11_ HO_4.out) hb); replace HO_5 := Aside0.mk (Kd.Q_below (y13_ HO_5.out) hb); replace HB := Aside0.mk (below_step (y7_ HB.out) hb); clear hb))
            go_ret
            exact ⟨y6_, y7_ HB.out⟩
          rw [if_neg c16] at H
          exact absurd H (by simp)
        rw [if_neg c15] at H
        have c15b0 : decide (x6_1 < (t309.length : Int)) = false := decide_eq_false c15
        clear c15
        have H' := Aside0.mk H
        clear H
        go_wp2
        go_loopg [7] k1 (fun kq v7 w' => ∃ (x7_2 : Int), v7 = .int .i64 x7_2 ∧ Aside0 (laws_FnKnwOpen.l1 kq t309 t310 t315 x7_2 = some r) ∧ Aside0 (kq ≤ k1) ∧ Aside0 (Kd.R Kd.string 9 w' w.heap.size (fun k_ => some k_ ≠ ((.slice Ao13 t315.length co13) : Value).ownBlock) (.slice Ao9 t309.length co9) t309) ∧ Aside0 (Kd.R k45 45 w' w.heap.size (fun _ => True) (.slice Ao10 t310.length co10) t310) ∧ Aside0 (Kd.Q Kd.string 9 w' w.heap.size (fun k_ => some k_ ≠ ((.slice Ao9 t309.length co9) : Value).ownBlock) (.slice Ao13 t315.length co13) t315) ∧ Aside0 (Below w.heap.size w w'))
        case atStart => exact ⟨(0), y4_, H', ⟨Nat.le_refl _⟩, ⟨by (with_reducible repeat (first | apply Kd.R_alloc | apply Kd.R_drewN | apply Kd.R_drew)); exact HO_3.out⟩, ⟨by (with_reducible repeat (first | apply Kd.R_alloc | apply Kd.R_drewN | apply Kd.R_drew)); exact HO_4.out⟩, ⟨by (with_reducible repeat (first | apply Kd.Q_alloc | apply Kd.Q_drewN | apply Kd.Q_drew)); exact HO_5.out⟩, ⟨y7_ HB.out⟩⟩
        case round =>
          clear H'
          try clear c1
          try clear c2
          try clear c2b0
          try clear c2b1
          try clear p2
          try clear c3
          try clear p3
          try clear q3
          try clear hx3
          try clear p6
          try clear c7
          try clear c10
          try clear c12
          try clear c15
          try clear c15b0
          try clear c16
          try clear c16b0
          try clear c18
          try clear c20
          try clear c20b0
          try clear c20b1
          try clear c20b2
          try clear c21
          try clear hx322_0
          try clear p2
          try clear p322
          try clear q322
          obtain ⟨x7_2, rfl, HA, HK2, HO_3, HO_4, HO_5, HB⟩ := hrel
          cases gk with
          | zero => exact absurd HA.out (by simp [laws_FnKnwOpen.l1])
          | succ k2 =>
            have H := HA.out
            clear HA
            simp only [laws_FnKnwOpen.l1] at H
            by_cases c25 : x7_2 < (t310.length : Int)
            · rw [if_pos c25] at H
              have c25b0 : decide (x7_2 < (t310.length : Int)) = true := decide_eq_true c25
              clear c25
              by_cases c26 : 0 ≤ x7_2
              · rw [if_pos c26] at H
                have c26b0 : decide (0 ≤ x7_2) = true := decide_eq_true c26
                clear c26
                replace H := Option.bind_eq_some_iff.mp H
                obtain ⟨t326, A270, H⟩ := H
                replace H : (if t326 = true then ((spec_SecOk.f k2 ((rd_T45 t310 x7_2).f1)).bind fun t328 => (if t328 = true then (laws_FnKnwOpen.l1 k2 t309 t310 t315 (wrap64 (x7_2 + 1))) else (if (t315.length : Int) = 0 then ((laws_keOk.f).bind fun t329 => (some t329)) else (some false)))) else (if (t315.length : Int) = 0 then ((laws_keOk.f).bind fun t330 => (some t330)) else (some false))) = some r := H
                have A27 := Aside0.mk A270
                clear A270
                by_cases c28 : t326 = true
                · subst c28
                  have H1 : ((spec_SecOk.f k2 ((rd_T45 t310 x7_2).f1)).bind fun t328 => (if t328 = true then (laws_FnKnwOpen.l1 k2 t309 t310 t315 (wrap64 (x7_2 + 1))) else (if (t315.length : Int) = 0 then ((laws_keOk.f).bind fun t329 => (some t329)) else (some false)))) = some r := by rw [if_pos rfl] at H; exact H
                  clear H
                  have H := H1
                  clear H1
                  replace H := Option.bind_eq_some_iff.mp H
                  obtain ⟨t328, A290, H⟩ := H
                  replace H : (if t328 = true then (laws_FnKnwOpen.l1 k2 t309 t310 t315 (wrap64 (x7_2 + 1))) else (if (t315.length : Int) = 0 then ((laws_keOk.f).bind fun t329 => (some t329)) else (some false))) = some r := H
                  have A29 := Aside0.mk A290
                  clear A290
                  by_cases c30 : t328 = true
                  · subst c30
                    have H1 : (laws_FnKnwOpen.l1 k2 t309 t310 t315 (wrap64 (x7_2 + 1))) = some r := by rw [if_pos rfl] at H; exact H
                    clear H
                    have H := H1
                    clear H1
                    have H' := Aside0.mk H
                    clear H
                    have p325 : 0 ≤ (x7_2 : Int) := of_decide_eq_true y3_
                    have q325 : x7_2 < (t310.length : Int) := of_decide_eq_true y3_
                    obtain ⟨ad325, e325, hx325_0, hx325_1⟩ := at_T45 (Kd.R_reads' HO_4.out).2.2 x7_2 p325 q325
                    cases e325
                    replace p325 := eq_true p325
                    replace q325 := eq_true q325
                    go_wp2_with (first | ((with_reducible refine gate_callee (f := 21) rfl ?_); refine goesL_ (some 59) rfl rfl Tryd.func21 (by kernel_rfl) rfl #[.string ((rd_T45 t310 x7_2).f0)] rfl y1_ ?_; (with_reducible refine (spec_SecOk.calls k2 ((rd_T45 t310 x7_2).f0) true _ A27.out).mono ?_); rintro e w31 ⟨rfl, hb⟩; refine ⟨_, rfl, ?_⟩; replace HO_3 := Aside0.mk (Kd.R_below (y11_ HO_3.out) hb); replace HO_4 := Aside0.mk (Kd.R_below (y11_ HO_4.out) hb); replace HO_5 := Aside0.mk (Kd.Q_below (y13_ HO_5.out) hb); replace HB := Aside0.mk (below_step (y7_ HB.out) hb); clear hb; have p327 : 0 ≤ (x7_2 : Int) := of_decide_eq_true y3_; have q327 : x7_2 < (t310.length : Int) := of_decide_eq_true y3_; obtain ⟨ad327, e327, hx327_0, hx327_1⟩ := at_T45 (Kd.R_reads' HO_4.out).2.2 x7_2 p327 q327; obtain rfl : ad325 = ad327 := (by injection e327); replace p327 := eq_true p327; replace q327 := eq_true q327) | (go_at_call 21; (with_reducible refine (spec_SecOk.calls k2 ((rd_T45 t310 x7_2).f1) true _ A29.out).mono ?_); rintro e w32 ⟨rfl, hb⟩; replace HO_3 := Aside0.mk (Kd.R_below (y11_ HO_3.out) hb); replace HO_4 := Aside0.mk (Kd.R_below (y11_ HO_4.out) hb); replace HO_5 := Aside0.mk (Kd.Q_below (y13_ HO_5.out) hb); replace HB := Aside0.mk (below_step (y7_ HB.out) hb); clear hb))
                    go_roundg k2
                    case measure => have := HK1.out; have := HK2.out; omega
                    case rel => exact ⟨(wrap64 (x7_2 + 1)), y4_, H', ⟨by have := HK1.out; have := HK2.out; omega⟩, ⟨by (with_reducible repeat (first | apply Kd.R_alloc | apply Kd.R_drewN | apply Kd.R_drew)); exact HO_3.out⟩, ⟨by (with_reducible repeat (first | apply Kd.R_alloc | apply Kd.R_drewN | apply Kd.R_drew)); exact HO_4.out⟩, ⟨by (with_reducible repeat (first | apply Kd.Q_alloc | apply Kd.Q_drewN | apply Kd.Q_drew)); exact HO_5.out⟩, ⟨y7_ HB.out⟩⟩
                  replace c30 := Bool.eq_false_iff.mpr c30
                  subst c30
                  have H1 : (if (t315.length : Int) = 0 then ((laws_keOk.f).bind fun t329 => (some t329)) else (some false)) = some r := by rw [if_neg (show ¬ (false = true) by decide)] at H; exact H
                  clear H
                  have H := H1
                  clear H1
                  by_cases c33 : (t315.length : Int) = 0
                  · rw [if_pos c33] at H
                    have c33b0 : ((t315.length : Int) == 0) = true := beq_iff_eq.mpr c33
                    have c33b1 : ((t315.length : Int) != 0) = false := bne_eq_false_iff_eq.mpr c33
                    clear c33
                    replace H := Option.bind_eq_some_iff.mp H
                    obtain ⟨t329, A340, H⟩ := H
                    replace H : (some t329) = some r := H
                    have A34 := Aside0.mk A340
                    clear A340
                    obtain rfl := Option.some.inj H
                    have p325 : 0 ≤ (x7_2 : Int) := of_decide_eq_true y3_
                    have q325 : x7_2 < (t310.length : Int) := of_decide_eq_true y3_
                    obtain ⟨ad325, e325, hx325_0, hx325_1⟩ := at_T45 (Kd.R_reads' HO_4.out).2.2 x7_2 p325 q325
                    cases e325
                    replace p325 := eq_true p325
                    replace q325 := eq_true q325
                    go_wp2_with (first | ((with_reducible refine gate_callee (f := 21) rfl ?_); refine goesL_ (some 59) rfl rfl Tryd.func21 (by kernel_rfl) rfl #[.string ((rd_T45 t310 x7_2).f0)] rfl y1_ ?_; (with_reducible refine (spec_SecOk.calls k2 ((rd_T45 t310 x7_2).f0) true _ A27.out).mono ?_); rintro e w35 ⟨rfl, hb⟩; refine ⟨_, rfl, ?_⟩; replace HO_3 := Aside0.mk (Kd.R_below (y11_ HO_3.out) hb); replace HO_4 := Aside0.mk (Kd.R_below (y11_ HO_4.out) hb); replace HO_5 := Aside0.mk (Kd.Q_below (y13_ HO_5.out) hb); replace HB := Aside0.mk (below_step (y7_ HB.out) hb); clear hb; have p327 : 0 ≤ (x7_2 : Int) := of_decide_eq_true y3_; have q327 : x7_2 < (t310.length : Int) := of_decide_eq_true y3_; obtain ⟨ad327, e327, hx327_0, hx327_1⟩ := at_T45 (Kd.R_reads' HO_4.out).2.2 x7_2 p327 q327; obtain rfl : ad325 = ad327 := (by injection e327); replace p327 := eq_true p327; replace q327 := eq_true q327) | (go_at_call 21; (with_reducible refine (spec_SecOk.calls k2 ((rd_T45 t310 x7_2).f1) false _ A29.out).mono ?_); rintro e w36 ⟨rfl, hb⟩; replace HO_3 := Aside0.mk (Kd.R_below (y11_ HO_3.out) hb); replace HO_4 := Aside0.mk (Kd.R_below (y11_ HO_4.out) hb); replace HO_5 := Aside0.mk (Kd.Q_below (y13_ HO_5.out) hb); replace HB := Aside0.mk (below_step (y7_ HB.out) hb); clear hb) | (go_at_call 15; (with_reducible refine (laws_keOk.calls  t329 _ ?side1 A34.out).mono ?_); (case side1 => exact GlobOk.below HGL.out (y7_ HB.out)); rintro e w37 ⟨rfl, hb⟩; replace HO_3 := Aside0.mk (Kd.R_below (y11_ HO_3.out) hb); replace HO_4 := Aside0.mk (Kd.R_below (y11_ HO_4.out) hb); replace HO_5 := Aside0.mk (Kd.Q_below (y13_ HO_5.out) hb); replace HB := Aside0.mk (below_step (y7_ HB.out) hb); clear hb))
                    go_ret
                    exact ⟨y6_, y7_ HB.out⟩
                  rw [if_neg c33] at H
                  have c33b0 : ((t315.length : Int) == 0) = false := beq_eq_false_iff_ne.mpr c33
                  have c33b1 : ((t315.length : Int) != 0) = true := bne_iff_ne.mpr c33
                  have c33b2 : ¬ (t315 = []) := fun h_ => c33 (by rw [h_]; rfl)
                  obtain rfl := Option.some.inj H
                  have p325 : 0 ≤ (x7_2 : Int) := of_decide_eq_true y3_
                  have q325 : x7_2 < (t310.length : Int) := of_decide_eq_true y3_
                  obtain ⟨ad325, e325, hx325_0, hx325_1⟩ := at_T45 (Kd.R_reads' HO_4.out).2.2 x7_2 p325 q325
                  cases e325
                  replace p325 := eq_true p325
                  replace q325 := eq_true q325
                  go_wp2_with (first | ((with_reducible refine gate_callee (f := 21) rfl ?_); refine goesL_ (some 59) rfl rfl Tryd.func21 (by kernel_rfl) rfl #[.string ((rd_T45 t310 x7_2).f0)] rfl y1_ ?_; (with_reducible refine (spec_SecOk.calls k2 ((rd_T45 t310 x7_2).f0) true _ A27.out).mono ?_); rintro e w38 ⟨rfl, hb⟩; refine ⟨_, rfl, ?_⟩; replace HO_3 := Aside0.mk (Kd.R_below (y11_ HO_3.out) hb); replace HO_4 := Aside0.mk (Kd.R_below (y11_ HO_4.out) hb); replace HO_5 := Aside0.mk (Kd.Q_below (y13_ HO_5.out) hb); replace HB := Aside0.mk (below_step (y7_ HB.out) hb); clear hb; have p327 : 0 ≤ (x7_2 : Int) := of_decide_eq_true y3_; have q327 : x7_2 < (t310.length : Int) := of_decide_eq_true y3_; obtain ⟨ad327, e327, hx327_0, hx327_1⟩ := at_T45 (Kd.R_reads' HO_4.out).2.2 x7_2 p327 q327; obtain rfl : ad325 = ad327 := (by injection e327); replace p327 := eq_true p327; replace q327 := eq_true q327) | (go_at_call 21; (with_reducible refine (spec_SecOk.calls k2 ((rd_T45 t310 x7_2).f1) false _ A29.out).mono ?_); rintro e w39 ⟨rfl, hb⟩; replace HO_3 := Aside0.mk (Kd.R_below (y11_ HO_3.out) hb); replace HO_4 := Aside0.mk (Kd.R_below (y11_ HO_4.out) hb); replace HO_5 := Aside0.mk (Kd.Q_below (y13_ HO_5.out) hb); replace HB := Aside0.mk (below_step (y7_ HB.out) hb); clear hb))
                  go_ret
                  exact ⟨y6_, y7_ HB.out⟩
                replace c28 := Bool.eq_false_iff.mpr c28
                subst c28
                have H1 : (if (t315.length : Int) = 0 then ((laws_keOk.f).bind fun t330 => (some t330)) else (some false)) = some r := by rw [if_neg (show ¬ (false = true) by decide)] at H; exact H
                clear H
                have H := H1
                clear H1
                by_cases c40 : (t315.length : Int) = 0
                · rw [if_pos c40] at H
                  have c40b0 : ((t315.length : Int) == 0) = true := beq_iff_eq.mpr c40
                  have c40b1 : ((t315.length : Int) != 0) = false := bne_eq_false_iff_eq.mpr c40
                  clear c40
                  replace H := Option.bind_eq_some_iff.mp H
                  obtain ⟨t330, A410, H⟩ := H
                  replace H : (some t330) = some r := H
                  have A41 := Aside0.mk A410
                  clear A410
                  obtain rfl := Option.some.inj H
                  have p325 : 0 ≤ (x7_2 : Int) := of_decide_eq_true y3_
                  have q325 : x7_2 < (t310.length : Int) := of_decide_eq_true y3_
                  obtain ⟨ad325, e325, hx325_0, hx325_1⟩ := at_T45 (Kd.R_reads' HO_4.out).2.2 x7_2 p325 q325
                  cases e325
                  replace p325 := eq_true p325
                  replace q325 := eq_true q325
                  go_wp2_with (first | ((with_reducible refine gate_callee (f := 21) rfl ?_); refine goesL_ (some 59) rfl rfl Tryd.func21 (by kernel_rfl) rfl #[.string ((rd_T45 t310 x7_2).f0)] rfl y1_ ?_; (with_reducible refine (spec_SecOk.calls k2 ((rd_T45 t310 x7_2).f0) false _ A27.out).mono ?_); rintro e w42 ⟨rfl, hb⟩; refine ⟨_, rfl, ?_⟩; replace HO_3 := Aside0.mk (Kd.R_below (y11_ HO_3.out) hb); replace HO_4 := Aside0.mk (Kd.R_below (y11_ HO_4.out) hb); replace HO_5 := Aside0.mk (Kd.Q_below (y13_ HO_5.out) hb); replace HB := Aside0.mk (below_step (y7_ HB.out) hb); clear hb) | (go_at_call 15; (with_reducible refine (laws_keOk.calls  t330 _ ?side1 A41.out).mono ?_); (case side1 => exact GlobOk.below HGL.out (y7_ HB.out)); rintro e w43 ⟨rfl, hb⟩; replace HO_3 := Aside0.mk (Kd.R_below (y11_ HO_3.out) hb); replace HO_4 := Aside0.mk (Kd.R_below (y11_ HO_4.out) hb); replace HO_5 := Aside0.mk (Kd.Q_below (y13_ HO_5.out) hb); replace HB := Aside0.mk (below_step (y7_ HB.out) hb); clear hb))
                  go_ret
                  exact ⟨y6_, y7_ HB.out⟩
                rw [if_neg c40] at H
                have c40b0 : ((t315.length : Int) == 0) = false := beq_eq_false_iff_ne.mpr c40
                have c40b1 : ((t315.length : Int) != 0) = true := bne_iff_ne.mpr c40
                have c40b2 : ¬ (t315 = []) := fun h_ => c40 (by rw [h_]; rfl)
                obtain rfl := Option.some.inj H
                have p325 : 0 ≤ (x7_2 : Int) := of_decide_eq_true y3_
                have q325 : x7_2 < (t310.length : Int) := of_decide_eq_true y3_
                obtain ⟨ad325, e325, hx325_0, hx325_1⟩ := at_T45 (Kd.R_reads' HO_4.out).2.2 x7_2 p325 q325
                cases e325
                replace p325 := eq_true p325
                replace q325 := eq_true q325
                go_wp2_with (first | ((with_reducible refine gate_callee (f := 21) rfl ?_); refine goesL_ (some 59) rfl rfl Tryd.func21 (by kernel_rfl) rfl #[.string ((rd_T45 t310 x7_2).f0)] rfl y1_ ?_; (with_reducible refine (spec_SecOk.calls k2 ((rd_T45 t310 x7_2).f0) false _ A27.out).mono ?_); rintro e w44 ⟨rfl, hb⟩; refine ⟨_, rfl, ?_⟩; replace HO_3 := Aside0.mk (Kd.R_below (y11_ HO_3.out) hb); replace HO_4 := Aside0.mk (Kd.R_below (y11_ HO_4.out) hb); replace HO_5 := Aside0.mk (Kd.Q_below (y13_ HO_5.out) hb); replace HB := Aside0.mk (below_step (y7_ HB.out) hb); clear hb))
                go_ret
                exact ⟨y6_, y7_ HB.out⟩
              rw [if_neg c26] at H
              exact absurd H (by simp)
            rw [if_neg c25] at H
            have c25b0 : decide (x7_2 < (t310.length : Int)) = false := decide_eq_false c25
            clear c25
            have H' := Aside0.mk H
            clear H
            go_wp2
            go_loopg [8] k2 (fun kq v8 w' => ∃ (x8_3 : Int), v8 = .int .i64 x8_3 ∧ Aside0 (laws_FnKnwOpen.l2 kq t309 t310 t315 x8_3 = some r) ∧ Aside0 (kq ≤ k2) ∧ Aside0 (Kd.R Kd.string 9 w' w.heap.size (fun k_ => some k_ ≠ ((.slice Ao13 t315.length co13) : Value).ownBlock) (.slice Ao9 t309.length co9) t309) ∧ Aside0 (Kd.R k45 45 w' w.heap.size (fun _ => True) (.slice Ao10 t310.length co10) t310) ∧ Aside0 (Kd.Q Kd.string 9 w' w.heap.size (fun k_ => some k_ ≠ ((.slice Ao9 t309.length co9) : Value).ownBlock) (.slice Ao13 t315.length co13) t315) ∧ Aside0 (Below w.heap.size w w'))
            case atStart => exact ⟨(0), y4_, H', ⟨Nat.le_refl _⟩, ⟨by (with_reducible repeat (first | apply Kd.R_alloc | apply Kd.R_drewN | apply Kd.R_drew)); exact HO_3.out⟩, ⟨by (with_reducible repeat (first | apply Kd.R_alloc | apply Kd.R_drewN | apply Kd.R_drew)); exact HO_4.out⟩, ⟨by (with_reducible repeat (first | apply Kd.Q_alloc | apply Kd.Q_drewN | apply Kd.Q_drew)); exact HO_5.out⟩, ⟨y7_ HB.out⟩⟩
            case round =>
              clear H'
              try clear c1
              try clear c2
              try clear c2b0
              try clear c2b1
              try clear p2
              try clear c3
              try clear p3
              try clear q3
              try clear hx3
              try clear c4
              try clear p6
              try clear c7
              try clear c10
              try clear c12
              try clear c15
              try clear c15b0
              try clear c16
              try clear c16b0
              try clear c18
              try clear c20
              try clear c20b0
              try clear c20b1
              try clear c20b2
              try clear c21
              try clear c25
              try clear c25b0
              try clear c26
              try clear c26b0
              try clear c28
              try clear c29
              try clear c30
              try clear c32
              try clear p32
              try clear q32
              try clear hx32
              try clear c33
              try clear c33b0
              try clear c33b1
              try clear c33b2
              try clear c40
              try clear c40b0
              try clear c40b1
              try clear c40b2
              try clear hx322_0
              try clear hx325_0
              try clear hx325_1
              try clear hx327_0
              try clear hx327_1
              try clear p2
              try clear p3
              try clear p322
              try clear p325
              try clear p327
              try clear p6
              try clear q3
              try clear q322
              try clear q325
              try clear q327
              obtain ⟨x8_3, rfl, HA, HK3, HO_3, HO_4, HO_5, HB⟩ := hrel
              cases gk with
              | zero => exact absurd HA.out (by simp [laws_FnKnwOpen.l2])
              | succ k3 =>
                have H := HA.out
                clear HA
                simp only [laws_FnKnwOpen.l2] at H
                by_cases c45 : x8_3 < (t309.length : Int)
                · rw [if_pos c45] at H
                  have c45b0 : decide (x8_3 < (t309.length : Int)) = true := decide_eq_true c45
                  clear c45
                  by_cases c46 : 0 ≤ x8_3
                  · rw [if_pos c46] at H
                    have c46b0 : decide (0 ≤ x8_3) = true := decide_eq_true c46
                    clear c46
                    replace H := Option.bind_eq_some_iff.mp H
                    obtain ⟨t332, A470, H⟩ := H
                    replace H : (if t332 = true then (laws_FnKnwOpen.l2 k3 t309 t310 t315 (wrap64 (x8_3 + 1))) else (some false)) = some r := H
                    have A47 := Aside0.mk A470
                    clear A470
                    by_cases c48 : t332 = true
                    · subst c48
                      have H1 : (laws_FnKnwOpen.l2 k3 t309 t310 t315 (wrap64 (x8_3 + 1))) = some r := by rw [if_pos rfl] at H; exact H
                      clear H
                      have H := H1
                      clear H1
                      have H' := Aside0.mk H
                      clear H
                      have p331 : 0 ≤ (x8_3 : Int) := of_decide_eq_true y3_
                      have q331 : x8_3 < (t309.length : Int) := of_decide_eq_true y3_
                      obtain ⟨ad331, e331, hx331_0⟩ := Kd.at_string (Kd.R_reads' HO_3.out).2.2 x8_3 p331 q331
                      cases e331
                      replace p331 := eq_true p331
                      replace q331 := eq_true q331
                      go_wp2_with (first | ((with_reducible refine gate_callee (f := 18) rfl ?_); refine goesL_ (some 87) rfl rfl Tryd.func18 (by kernel_rfl) rfl #[.slice Ao13 t315.length co13, .string (rdOf ByteArray.empty t309 x8_3)] rfl y1_ ?_; (with_reducible refine (laws_keHas.calls k3 _ _ t315 (rdOf ByteArray.empty t309 x8_3) true _ ?side1 ?side2 A47.out).mono ?_); (case side1 => repeat (first | exact (Kd.Q_reads' HO_5.out).2.2 | (with_reducible refine Kd.C_alloc ?_ _) | (with_reducible refine Kd.C_drewN ?_ _) | (with_reducible refine Kd.C_drew ?_))); (case side2 => exact (Kd.Q_reads' HO_5.out).2.1); rintro e w' ⟨rfl, ⟨nd, rfl⟩⟩; refine ⟨_, rfl, ?_⟩))
                      go_roundg k3
                      case measure => have := HK1.out; have := HK2.out; have := HK3.out; omega
                      case rel => exact ⟨(wrap64 (x8_3 + 1)), y4_, H', ⟨by have := HK1.out; have := HK2.out; have := HK3.out; omega⟩, ⟨by (with_reducible repeat (first | apply Kd.R_alloc | apply Kd.R_drewN | apply Kd.R_drew)); exact HO_3.out⟩, ⟨by (with_reducible repeat (first | apply Kd.R_alloc | apply Kd.R_drewN | apply Kd.R_drew)); exact HO_4.out⟩, ⟨by (with_reducible repeat (first | apply Kd.Q_alloc | apply Kd.Q_drewN | apply Kd.Q_drew)); exact HO_5.out⟩, ⟨y7_ HB.out⟩⟩
                    replace c48 := Bool.eq_false_iff.mpr c48
                    subst c48
                    have H1 : (some false) = some r := by rw [if_neg (show ¬ (false = true) by decide)] at H; exact H
                    clear H
                    have H := H1
                    clear H1
                    obtain rfl := Option.some.inj H
                    have p331 : 0 ≤ (x8_3 : Int) := of_decide_eq_true y3_
                    have q331 : x8_3 < (t309.length : Int) := of_decide_eq_true y3_
                    obtain ⟨ad331, e331, hx331_0⟩ := Kd.at_string (Kd.R_reads' HO_3.out).2.2 x8_3 p331 q331
                    cases e331
                    replace p331 := eq_true p331
                    replace q331 := eq_true q331
                    go_wp2_with (first | ((with_reducible refine gate_callee (f := 18) rfl ?_); refine goesL_ (some 87) rfl rfl Tryd.func18 (by kernel_rfl) rfl #[.slice Ao13 t315.length co13, .string (rdOf ByteArray.empty t309 x8_3)] rfl y1_ ?_; (with_reducible refine (laws_keHas.calls k3 _ _ t315 (rdOf ByteArray.empty t309 x8_3) false _ ?side1 ?side2 A47.out).mono ?_); (case side1 => repeat (first | exact (Kd.Q_reads' HO_5.out).2.2 | (with_reducible refine Kd.C_alloc ?_ _) | (with_reducible refine Kd.C_drewN ?_ _) | (with_reducible refine Kd.C_drew ?_))); (case side2 => exact (Kd.Q_reads' HO_5.out).2.1); rintro e w' ⟨rfl, ⟨nd, rfl⟩⟩; refine ⟨_, rfl, ?_⟩))
                    go_ret
                    exact ⟨y6_, y7_ HB.out⟩
                  rw [if_neg c46] at H
                  exact absurd H (by simp)
                rw [if_neg c45] at H
                have c45b0 : decide (x8_3 < (t309.length : Int)) = false := decide_eq_false c45
                clear c45
                have H' := Aside0.mk H
                clear H
                go_wp2
                go_loopg [9] k3 (fun kq v9 w' => ∃ (x9_4 : Int), v9 = .int .i64 x9_4 ∧ Aside0 (laws_FnKnwOpen.l3 kq t309 t310 t315 x9_4 = some r) ∧ Aside0 (kq ≤ k3) ∧ Aside0 (Kd.R Kd.string 9 w' w.heap.size (fun k_ => some k_ ≠ ((.slice Ao13 t315.length co13) : Value).ownBlock) (.slice Ao9 t309.length co9) t309) ∧ Aside0 (Kd.R k45 45 w' w.heap.size (fun _ => True) (.slice Ao10 t310.length co10) t310) ∧ Aside0 (Kd.Q Kd.string 9 w' w.heap.size (fun k_ => some k_ ≠ ((.slice Ao9 t309.length co9) : Value).ownBlock) (.slice Ao13 t315.length co13) t315) ∧ Aside0 (Below w.heap.size w w'))
                case atStart => exact ⟨(0), y4_, H', ⟨Nat.le_refl _⟩, ⟨by (with_reducible repeat (first | apply Kd.R_alloc | apply Kd.R_drewN | apply Kd.R_drew)); exact HO_3.out⟩, ⟨by (with_reducible repeat (first | apply Kd.R_alloc | apply Kd.R_drewN | apply Kd.R_drew)); exact HO_4.out⟩, ⟨by (with_reducible repeat (first | apply Kd.Q_alloc | apply Kd.Q_drewN | apply Kd.Q_drew)); exact HO_5.out⟩, ⟨y7_ HB.out⟩⟩
                case round =>
                  clear H'
                  try clear c1
                  try clear c2
                  try clear c2b0
                  try clear c2b1
                  try clear p2
                  try clear c3
                  try clear p3
                  try clear q3
                  try clear hx3
                  try clear c4
                  try clear p6
                  try clear c7
                  try clear c10
                  try clear c12
                  try clear c15
                  try clear c15b0
                  try clear c16
                  try clear c16b0
                  try clear c18
                  try clear c20
                  try clear c20b0
                  try clear c20b1
                  try clear c20b2
                  try clear c21
                  try clear c25
                  try clear c25b0
                  try clear c26
                  try clear c26b0
                  try clear c28
                  try clear c29
                  try clear c30
                  try clear c32
                  try clear p32
                  try clear q32
                  try clear hx32
                  try clear c33
                  try clear c33b0
                  try clear c33b1
                  try clear c33b2
                  try clear p33
                  try clear q33
                  try clear hx33
                  try clear c40
                  try clear c40b0
                  try clear c40b1
                  try clear c40b2
                  try clear c45
                  try clear c45b0
                  try clear c46
                  try clear c46b0
                  try clear c48
                  try clear hx322_0
                  try clear hx325_0
                  try clear hx325_1
                  try clear hx327_0
                  try clear hx327_1
                  try clear hx331_0
                  try clear p2
                  try clear p3
                  try clear p32
                  try clear p322
                  try clear p325
                  try clear p327
                  try clear p331
                  try clear p6
                  try clear q3
                  try clear q32
                  try clear q322
                  try clear q325
                  try clear q327
                  try clear q331
                  obtain ⟨x9_4, rfl, HA, HK4, HO_3, HO_4, HO_5, HB⟩ := hrel
                  cases gk with
                  | zero => exact absurd HA.out (by simp [laws_FnKnwOpen.l3])
                  | succ k4 =>
                    have H := HA.out
                    clear HA
                    simp only [laws_FnKnwOpen.l3] at H
                    by_cases c49 : x9_4 < (t315.length : Int)
                    · rw [if_pos c49] at H
                      have c49b0 : decide (x9_4 < (t315.length : Int)) = true := decide_eq_true c49
                      clear c49
                      by_cases c50 : 0 ≤ x9_4
                      · rw [if_pos c50] at H
                        have c50b0 : decide (0 ≤ x9_4) = true := decide_eq_true c50
                        clear c50
                        replace H := Option.bind_eq_some_iff.mp H
                        obtain ⟨t334, A510, H⟩ := H
                        replace H : (laws_FnKnwOpen.l4 k4 t309 t310 t315 x9_4 t334 0) = some r := H
                        have A51 := Aside0.mk A510
                        clear A510
                        have H' := Aside0.mk H
                        clear H
                        have p333 : 0 ≤ (x9_4 : Int) := of_decide_eq_true y3_
                        have q333 : x9_4 < (t315.length : Int) := of_decide_eq_true y3_
                        obtain ⟨ad333, e333, hx333_0⟩ := Kd.at_string (Kd.Q_reads' HO_5.out).2.2 x9_4 p333 q333
                        cases e333
                        replace p333 := eq_true p333
                        replace q333 := eq_true q333
                        go_wp2_with (first | ((with_reducible refine gate_callee (f := 18) rfl ?_); refine goesL_ (some 100) rfl rfl Tryd.func18 (by kernel_rfl) rfl #[.slice Ao9 t309.length co9, .string (rdOf ByteArray.empty t315 x9_4)] rfl y1_ ?_; (with_reducible refine (laws_keHas.calls k4 _ _ t309 (rdOf ByteArray.empty t315 x9_4) t334 _ ?side1 ?side2 A51.out).mono ?_); (case side1 => repeat (first | exact (Kd.R_reads' HO_3.out).2.2 | (with_reducible refine Kd.C_alloc ?_ _) | (with_reducible refine Kd.C_drewN ?_ _) | (with_reducible refine Kd.C_drew ?_))); (case side2 => exact (Kd.R_reads' HO_3.out).2.1); rintro e w' ⟨rfl, ⟨nd, rfl⟩⟩; refine ⟨_, rfl, ?_⟩))
                        go_loopg [10, 11] k4 (fun kq v10 v11 w' => ∃ (x10_5 : Bool) (x11_5 : Int), v10 = .bool x10_5 ∧ v11 = .int .i64 x11_5 ∧ Aside0 (laws_FnKnwOpen.l4 kq t309 t310 t315 x9_4 x10_5 x11_5 = some r) ∧ Aside0 (kq ≤ k4) ∧ Aside0 (Kd.R Kd.string 9 w' w.heap.size (fun k_ => some k_ ≠ ((.slice (some ad333) t315.length co13) : Value).ownBlock) (.slice Ao9 t309.length co9) t309) ∧ Aside0 (Kd.R k45 45 w' w.heap.size (fun _ => True) (.slice Ao10 t310.length co10) t310) ∧ Aside0 (Kd.Q Kd.string 9 w' w.heap.size (fun k_ => some k_ ≠ ((.slice Ao9 t309.length co9) : Value).ownBlock) (.slice (some ad333) t315.length co13) t315) ∧ Aside0 (Below w.heap.size w w'))
                        case atStart => exact ⟨(t334), (0), y4_, y4_, H', ⟨Nat.le_refl _⟩, ⟨by (with_reducible repeat (first | apply Kd.R_alloc | apply Kd.R_drewN | apply Kd.R_drew)); exact HO_3.out⟩, ⟨by (with_reducible repeat (first | apply Kd.R_alloc | apply Kd.R_drewN | apply Kd.R_drew)); exact HO_4.out⟩, ⟨by (with_reducible repeat (first | apply Kd.Q_alloc | apply Kd.Q_drewN | apply Kd.Q_drew)); exact HO_5.out⟩, ⟨y7_ HB.out⟩⟩
                        case round =>
                          clear H'
                          try clear c1
                          try clear c2
                          try clear c2b0
                          try clear c2b1
                          try clear p2
                          try clear c3
                          try clear p3
                          try clear q3
                          try clear hx3
                          try clear c4
                          try clear c5
                          try clear p6
                          try clear c7
                          try clear c10
                          try clear c12
                          try clear c15
                          try clear c15b0
                          try clear c16
                          try clear c16b0
                          try clear c18
                          try clear c20
                          try clear c20b0
                          try clear c20b1
                          try clear c20b2
                          try clear c21
                          try clear c25
                          try clear c25b0
                          try clear c26
                          try clear c26b0
                          try clear c28
                          try clear c29
                          try clear c30
                          try clear c32
                          try clear p32
                          try clear q32
                          try clear hx32
                          try clear c33
                          try clear c33b0
                          try clear c33b1
                          try clear c33b2
                          try clear p33
                          try clear q33
                          try clear hx33
                          try clear c40
                          try clear c40b0
                          try clear c40b1
                          try clear c40b2
                          try clear c45
                          try clear c45b0
                          try clear c46
                          try clear c46b0
                          try clear c48
                          try clear c49
                          try clear c49b0
                          try clear c50
                          try clear c50b0
                          try clear hx322_0
                          try clear hx325_0
                          try clear hx325_1
                          try clear hx327_0
                          try clear hx327_1
                          try clear hx331_0
                          try clear hx333_0
                          try clear p2
                          try clear p3
                          try clear p32
                          try clear p322
                          try clear p325
                          try clear p327
                          try clear p33
                          try clear p331
                          try clear p333
                          try clear p6
                          try clear q3
                          try clear q32
                          try clear q322
                          try clear q325
                          try clear q327
                          try clear q33
                          try clear q331
                          try clear q333
                          obtain ⟨x10_5, x11_5, rfl, rfl, HA, HK5, HO_3, HO_4, HO_5, HB⟩ := hrel
                          cases gk with
                          | zero => exact absurd HA.out (by simp [laws_FnKnwOpen.l4])
                          | succ k5 =>
                            have H := HA.out
                            clear HA
                            simp only [laws_FnKnwOpen.l4] at H
                            by_cases c52 : x11_5 < (t310.length : Int)
                            · rw [if_pos c52] at H
                              have c52b0 : decide (x11_5 < (t310.length : Int)) = true := decide_eq_true c52
                              clear c52
                              by_cases c53 : x10_5 = true
                              · subst c53
                                have H1 : (laws_FnKnwOpen.l4 k5 t309 t310 t315 x9_4 true (wrap64 (x11_5 + 1))) = some r := by rw [if_pos rfl] at H; exact H
                                clear H
                                have H := H1
                                clear H1
                                have H' := Aside0.mk H
                                clear H
                                try go_wp2
                                have n0_ := Aside0.mk (Kd.R_drew HO_3.out)
                                have n1_ := Aside0.mk (Kd.R_drew HO_4.out)
                                have n2_ := Aside0.mk (Kd.Q_drew HO_5.out)
                                have n3_ := Aside0.mk (below_drew1 HB.out)
                                clear HO_3
                                clear HO_4
                                clear HO_5
                                clear HB
                                have HO_3 := n0_
                                have HO_4 := n1_
                                have HO_5 := n2_
                                have HB := n3_
                                clear n0_ n1_ n2_ n3_
                                refine start_ (n := 23) (S := fun w' => True) (ds := []) #[false, false, false, false, false, false, false, false, false, false, false, false, false, false, false, false, false, false, false, false, false, false, false] (by kernel_rfl) rfl rfl trivial (fun hHeld => ?_); refine with_tabW laws_FnKnwOpen.tab29 laws_FnKnwOpen.bits29 (fun HT_ HW_ => ?_)
                                generalize wr.drew = w54 at HO_3 HO_4 HO_5 HB hHeld ⊢
                                refine pure_ (i := 0) (N := some 107) (v := ?_) (a' := ?_) #[true, false, false, false, false, false, false, false, false, false, false, false, false, false, false, false, false, false, false, false, false, false, false] rfl rfl (any_of HT_.out (by kernel_rfl)) (fun _ _ _ h => h) (Or.inl ⟨by rfl, ?_⟩) ?_ ?_
                                rotate_left
                                · intro w'
                                  go_simp
                                  with_reducible rfl
                                rotate_left
                                · simp only [Act.put, List.setIfInBounds_toArray, List.set_cons_zero, List.set_cons_succ, i64_w, i32_w]
                                  rfl
                                refine pure_ (i := 1) (N := some 108) (v := ?_) (a' := ?_) #[true, true, false, false, false, false, false, false, false, false, false, false, false, false, false, false, false, false, false, false, false, false, false] rfl rfl (any_of HT_.out (by kernel_rfl)) (fun _ _ _ h => h) (Or.inl ⟨by rfl, ?_⟩) ?_ ?_
                                rotate_left
                                · intro w'
                                  go_simp
                                  with_reducible rfl
                                rotate_left
                                · simp only [Act.put, List.setIfInBounds_toArray, List.set_cons_zero, List.set_cons_succ, i64_w, i32_w]
                                  rfl
                                refine pure_ (i := 2) (N := some 109) (v := undef) (a' := ?_) #[true, true, true, false, false, false, false, false, false, false, false, false, false, false, false, false, false, false, false, false, false, false, false] rfl rfl (any_of HT_.out (by kernel_rfl)) (fun _ _ _ h => h) (Or.inr ⟨by rfl, rfl⟩) ?_ ?_
                                rotate_left
                                · simp only [Act.put, List.setIfInBounds_toArray, List.set_cons_zero, List.set_cons_succ, i64_w, i32_w]
                                  rfl
                                refine pure_ (i := 3) (N := some 110) (v := undef) (a' := ?_) #[true, true, true, true, false, false, false, false, false, false, false, false, false, false, false, false, false, false, false, false, false, false, false] rfl rfl (any_of HT_.out (by kernel_rfl)) (fun _ _ _ h => h) (Or.inr ⟨by rfl, rfl⟩) ?_ ?_
                                rotate_left
                                · simp only [Act.put, List.setIfInBounds_toArray, List.set_cons_zero, List.set_cons_succ, i64_w, i32_w]
                                  rfl
                                refine pure_ (i := 4) (N := some 111) (v := undef) (a' := ?_) #[true, true, true, true, true, false, false, false, false, false, false, false, false, false, false, false, false, false, false, false, false, false, false] rfl rfl (any_of HT_.out (by kernel_rfl)) (fun _ _ _ h => h) (Or.inr ⟨by rfl, rfl⟩) ?_ ?_
                                rotate_left
                                · simp only [Act.put, List.setIfInBounds_toArray, List.set_cons_zero, List.set_cons_succ, i64_w, i32_w]
                                  rfl
                                refine pure_ (i := 5) (N := some 112) (v := undef) (a' := ?_) #[true, true, true, true, true, true, false, false, false, false, false, false, false, false, false, false, false, false, false, false, false, false, false] rfl rfl (any_of HT_.out (by kernel_rfl)) (fun _ _ _ h => h) (Or.inr ⟨by rfl, rfl⟩) ?_ ?_
                                rotate_left
                                · simp only [Act.put, List.setIfInBounds_toArray, List.set_cons_zero, List.set_cons_succ, i64_w, i32_w]
                                  rfl
                                refine pure_ (i := 6) (N := some 113) (v := undef) (a' := ?_) #[true, true, true, true, true, true, true, false, false, false, false, false, false, false, false, false, false, false, false, false, false, false, false] rfl rfl (any_of HT_.out (by kernel_rfl)) (fun _ _ _ h => h) (Or.inr ⟨by rfl, rfl⟩) ?_ ?_
                                rotate_left
                                · simp only [Act.put, List.setIfInBounds_toArray, List.set_cons_zero, List.set_cons_succ, i64_w, i32_w]
                                  rfl
                                refine pure_ (i := 7) (N := some 114) (v := undef) (a' := ?_) #[true, true, true, true, true, true, true, true, false, false, false, false, false, false, false, false, false, false, false, false, false, false, false] rfl rfl (any_of HT_.out (by kernel_rfl)) (fun _ _ _ h => h) (Or.inr ⟨by rfl, rfl⟩) ?_ ?_
                                rotate_left
                                · simp only [Act.put, List.setIfInBounds_toArray, List.set_cons_zero, List.set_cons_succ, i64_w, i32_w]
                                  rfl
                                refine pure_ (i := 8) (N := some 115) (v := undef) (a' := ?_) #[true, true, true, true, true, true, true, true, true, false, false, false, false, false, false, false, false, false, false, false, false, false, false] rfl rfl (any_of HT_.out (by kernel_rfl)) (fun _ _ _ h => h) (Or.inr ⟨by rfl, rfl⟩) ?_ ?_
                                rotate_left
                                · simp only [Act.put, List.setIfInBounds_toArray, List.set_cons_zero, List.set_cons_succ, i64_w, i32_w]
                                  rfl
                                refine pure_ (i := 9) (N := some 116) (v := undef) (a' := ?_) #[true, true, true, true, true, true, true, true, true, true, false, false, false, false, false, false, false, false, false, false, false, false, false] rfl rfl (any_of HT_.out (by kernel_rfl)) (fun _ _ _ h => h) (Or.inr ⟨by rfl, rfl⟩) ?_ ?_
                                rotate_left
                                · simp only [Act.put, List.setIfInBounds_toArray, List.set_cons_zero, List.set_cons_succ, i64_w, i32_w]
                                  rfl
                                refine pure_ (i := 10) (N := some 117) (v := undef) (a' := ?_) #[true, true, true, true, true, true, true, true, true, true, true, false, false, false, false, false, false, false, false, false, false, false, false] rfl rfl (any_of HT_.out (by kernel_rfl)) (fun _ _ _ h => h) (Or.inr ⟨by rfl, rfl⟩) ?_ ?_
                                rotate_left
                                · simp only [Act.put, List.setIfInBounds_toArray, List.set_cons_zero, List.set_cons_succ, i64_w, i32_w]
                                  rfl
                                refine pure_ (i := 11) (N := some 118) (v := undef) (a' := ?_) #[true, true, true, true, true, true, true, true, true, true, true, true, false, false, false, false, false, false, false, false, false, false, false] rfl rfl (any_of HT_.out (by kernel_rfl)) (fun _ _ _ h => h) (Or.inr ⟨by rfl, rfl⟩) ?_ ?_
                                rotate_left
                                · simp only [Act.put, List.setIfInBounds_toArray, List.set_cons_zero, List.set_cons_succ, i64_w, i32_w]
                                  rfl
                                refine pure_ (i := 12) (N := some 119) (v := undef) (a' := ?_) #[true, true, true, true, true, true, true, true, true, true, true, true, true, false, false, false, false, false, false, false, false, false, false] rfl rfl (any_of HT_.out (by kernel_rfl)) (fun _ _ _ h => h) (Or.inr ⟨by rfl, rfl⟩) ?_ ?_
                                rotate_left
                                · simp only [Act.put, List.setIfInBounds_toArray, List.set_cons_zero, List.set_cons_succ, i64_w, i32_w]
                                  rfl
                                refine pure_ (i := 13) (N := some 120) (v := undef) (a' := ?_) #[true, true, true, true, true, true, true, true, true, true, true, true, true, true, false, false, false, false, false, false, false, false, false] rfl rfl (any_of HT_.out (by kernel_rfl)) (fun _ _ _ h => h) (Or.inr ⟨by rfl, rfl⟩) ?_ ?_
                                rotate_left
                                · simp only [Act.put, List.setIfInBounds_toArray, List.set_cons_zero, List.set_cons_succ, i64_w, i32_w]
                                  rfl
                                refine pure_ (i := 14) (N := some 121) (v := undef) (a' := ?_) #[true, true, true, true, true, true, true, true, true, true, true, true, true, true, true, false, false, false, false, false, false, false, false] rfl rfl (any_of HT_.out (by kernel_rfl)) (fun _ _ _ h => h) (Or.inr ⟨by rfl, rfl⟩) ?_ ?_
                                rotate_left
                                · simp only [Act.put, List.setIfInBounds_toArray, List.set_cons_zero, List.set_cons_succ, i64_w, i32_w]
                                  rfl
                                refine pure_ (i := 15) (N := some 122) (v := undef) (a' := ?_) #[true, true, true, true, true, true, true, true, true, true, true, true, true, true, true, true, false, false, false, false, false, false, false] rfl rfl (any_of HT_.out (by kernel_rfl)) (fun _ _ _ h => h) (Or.inr ⟨by rfl, rfl⟩) ?_ ?_
                                rotate_left
                                · simp only [Act.put, List.setIfInBounds_toArray, List.set_cons_zero, List.set_cons_succ, i64_w, i32_w]
                                  rfl
                                refine pure_ (i := 16) (N := some 123) (v := undef) (a' := ?_) #[true, true, true, true, true, true, true, true, true, true, true, true, true, true, true, true, true, false, false, false, false, false, false] rfl rfl (any_of HT_.out (by kernel_rfl)) (fun _ _ _ h => h) (Or.inr ⟨by rfl, rfl⟩) ?_ ?_
                                rotate_left
                                · simp only [Act.put, List.setIfInBounds_toArray, List.set_cons_zero, List.set_cons_succ, i64_w, i32_w]
                                  rfl
                                refine pure_ (i := 17) (N := some 124) (v := undef) (a' := ?_) #[true, true, true, true, true, true, true, true, true, true, true, true, true, true, true, true, true, true, false, false, false, false, false] rfl rfl (any_of HT_.out (by kernel_rfl)) (fun _ _ _ h => h) (Or.inr ⟨by rfl, rfl⟩) ?_ ?_
                                rotate_left
                                · simp only [Act.put, List.setIfInBounds_toArray, List.set_cons_zero, List.set_cons_succ, i64_w, i32_w]
                                  rfl
                                refine pure_ (i := 18) (N := some 125) (v := undef) (a' := ?_) #[true, true, true, true, true, true, true, true, true, true, true, true, true, true, true, true, true, true, true, false, false, false, false] rfl rfl (any_of HT_.out (by kernel_rfl)) (fun _ _ _ h => h) (Or.inr ⟨by rfl, rfl⟩) ?_ ?_
                                rotate_left
                                · simp only [Act.put, List.setIfInBounds_toArray, List.set_cons_zero, List.set_cons_succ, i64_w, i32_w]
                                  rfl
                                refine pure_ (i := 19) (N := some 126) (v := undef) (a' := ?_) #[true, true, true, true, true, true, true, true, true, true, true, true, true, true, true, true, true, true, true, true, false, false, false] rfl rfl (any_of HT_.out (by kernel_rfl)) (fun _ _ _ h => h) (Or.inr ⟨by rfl, rfl⟩) ?_ ?_
                                rotate_left
                                · simp only [Act.put, List.setIfInBounds_toArray, List.set_cons_zero, List.set_cons_succ, i64_w, i32_w]
                                  rfl
                                refine pure_ (i := 20) (N := some 127) (v := undef) (a' := ?_) #[true, true, true, true, true, true, true, true, true, true, true, true, true, true, true, true, true, true, true, true, true, false, false] rfl rfl (any_of HT_.out (by kernel_rfl)) (fun _ _ _ h => h) (Or.inr ⟨by rfl, rfl⟩) ?_ ?_
                                rotate_left
                                · simp only [Act.put, List.setIfInBounds_toArray, List.set_cons_zero, List.set_cons_succ, i64_w, i32_w]
                                  rfl
                                refine pure_ (i := 21) (N := some 128) (v := ?_) (a' := ?_) #[true, true, true, true, true, true, true, true, true, true, true, true, true, true, true, true, true, true, true, true, true, true, false] rfl rfl (any_of HT_.out (by kernel_rfl)) (fun _ _ _ h => h) (Or.inl ⟨by rfl, ?_⟩) ?_ ?_
                                rotate_left
                                · intro w'
                                  go_simp
                                  with_reducible rfl
                                rotate_left
                                · simp only [Act.put, List.setIfInBounds_toArray, List.set_cons_zero, List.set_cons_succ, i64_w, i32_w]
                                  rfl
                                refine pure_ (i := 22) (N := some 10) (v := ?_) (a' := ?_) #[true, true, true, true, true, true, true, true, true, true, true, true, true, true, true, true, true, true, true, true, true, true, true] rfl rfl (any_of HT_.out (by kernel_rfl)) (fun _ _ _ h => h) (Or.inl ⟨by rfl, ?_⟩) ?_ ?_
                                rotate_left
                                · intro w'
                                  go_simp
                                  with_reducible rfl
                                rotate_left
                                · simp only [Act.put, List.setIfInBounds_toArray, List.set_cons_zero, List.set_cons_succ, i64_w, i32_w]
                                  rfl
                                refine done_ (done_of HT_.out (by kernel_rfl)) ?_
                                try go_wp2
                                go_roundg k5
                                case measure => have := HK1.out; have := HK2.out; have := HK3.out; have := HK4.out; have := HK5.out; omega
                                case rel => exact ⟨(true), (wrap64 (x11_5 + 1)), y4_, y4_, H', ⟨by have := HK1.out; have := HK2.out; have := HK3.out; have := HK4.out; have := HK5.out; omega⟩, ⟨by (with_reducible repeat (first | apply Kd.R_alloc | apply Kd.R_drewN | apply Kd.R_drew)); exact HO_3.out⟩, ⟨by (with_reducible repeat (first | apply Kd.R_alloc | apply Kd.R_drewN | apply Kd.R_drew)); exact HO_4.out⟩, ⟨by (with_reducible repeat (first | apply Kd.Q_alloc | apply Kd.Q_drewN | apply Kd.Q_drew)); exact HO_5.out⟩, ⟨y7_ HB.out⟩⟩
                              replace c53 := Bool.eq_false_iff.mpr c53
                              subst c53
                              have H1 : (if 0 ≤ x11_5 then (if 0 ≤ x9_4 then (if x9_4 < (t315.length : Int) then (if ((rd_T45 t310 x11_5).f1).toList = (rdOf ByteArray.empty t315 x9_4).toList then ((impl_KnwMake.f t315 ((rd_T45 t310 x11_5).f0)).bind fun t338 => (laws_FnKnwOpen.l4 k5 t309 t310 t315 x9_4 t338 (wrap64 (x11_5 + 1)))) else (laws_FnKnwOpen.l4 k5 t309 t310 t315 x9_4 false (wrap64 (x11_5 + 1)))) else (none)) else (none)) else (none)) = some r := by rw [if_neg (show ¬ (false = true) by decide)] at H; exact H
                              clear H
                              have H := H1
                              clear H1
                              by_cases c55 : 0 ≤ x11_5
                              · rw [if_pos c55] at H
                                have c55b0 : decide (0 ≤ x11_5) = true := decide_eq_true c55
                                clear c55
                                by_cases c56 : 0 ≤ x9_4
                                · rw [if_pos c56] at H
                                  have c56b0 : decide (0 ≤ x9_4) = true := decide_eq_true c56
                                  clear c56
                                  by_cases c57 : x9_4 < (t315.length : Int)
                                  · rw [if_pos c57] at H
                                    have c57b0 : decide (x9_4 < (t315.length : Int)) = true := decide_eq_true c57
                                    clear c57
                                    by_cases c58 : ((rd_T45 t310 x11_5).f1).toList = (rdOf ByteArray.empty t315 x9_4).toList
                                    · rw [if_pos c58] at H
                                      have c58b0 : (((rd_T45 t310 x11_5).f1).toList == (rdOf ByteArray.empty t315 x9_4).toList) = true := beq_iff_eq.mpr c58
                                      have c58b1 : (((rd_T45 t310 x11_5).f1).toList != (rdOf ByteArray.empty t315 x9_4).toList) = false := bne_eq_false_iff_eq.mpr c58
                                      clear c58
                                      replace H := Option.bind_eq_some_iff.mp H
                                      obtain ⟨t338, A590, H⟩ := H
                                      replace H : (laws_FnKnwOpen.l4 k5 t309 t310 t315 x9_4 t338 (wrap64 (x11_5 + 1))) = some r := H
                                      have A59 := Aside0.mk A590
                                      clear A590
                                      have H' := Aside0.mk H
                                      clear H
                                      try go_wp2
                                      have n0_ := Aside0.mk (Kd.R_drew HO_3.out)
                                      have n1_ := Aside0.mk (Kd.R_drew HO_4.out)
                                      have n2_ := Aside0.mk (Kd.Q_drew HO_5.out)
                                      have n3_ := Aside0.mk (below_drew1 HB.out)
                                      clear HO_3
                                      clear HO_4
                                      clear HO_5
                                      clear HB
                                      have HO_3 := n0_
                                      have HO_4 := n1_
                                      have HO_5 := n2_
                                      have HB := n3_
                                      clear n0_ n1_ n2_ n3_
                                      have p335 : 0 ≤ (x11_5 : Int) := of_decide_eq_true y3_
                                      have q335 : x11_5 < (t310.length : Int) := of_decide_eq_true y3_
                                      obtain ⟨ad335, e335, hx335_0, hx335_1⟩ := at_T45 (Kd.R_reads' HO_4.out).2.2 x11_5 p335 q335
                                      cases e335
                                      replace p335 := eq_true p335
                                      replace q335 := eq_true q335
                                      have p336 : 0 ≤ (x9_4 : Int) := of_decide_eq_true y3_
                                      have q336 : x9_4 < (t315.length : Int) := of_decide_eq_true y3_
                                      obtain ⟨ad336, e336, hx336_0⟩ := Kd.at_string (Kd.Q_reads' HO_5.out).2.2 x9_4 p336 q336
                                      obtain rfl : ad333 = ad336 := (by injection e336)
                                      replace p336 := eq_true p336
                                      replace q336 := eq_true q336
                                      have p337 : 0 ≤ (x11_5 : Int) := of_decide_eq_true y3_
                                      have q337 : x11_5 < (t310.length : Int) := of_decide_eq_true y3_
                                      obtain ⟨ad337, e337, hx337_0, hx337_1⟩ := at_T45 (Kd.R_reads' HO_4.out).2.2 x11_5 p337 q337
                                      obtain rfl : ad335 = ad337 := (by injection e337)
                                      replace p337 := eq_true p337
                                      replace q337 := eq_true q337
                                      refine start_ (n := 23) (S := fun w' => w'.cell? (ad335.add ((x11_5).toNat * 2)) = some (.string ((rd_T45 t310 x11_5).f0)) ∧ w'.cell? ⟨(ad335.add ((x11_5).toNat * 2)).block, (ad335.add ((x11_5).toNat * 2)).off + 1, none⟩ = some (.string ((rd_T45 t310 x11_5).f1)) ∧ w'.cell? (ad333.add (x9_4).toNat) = some (.string (rdOf ByteArray.empty t315 x9_4)) ∧ w'.cell? (ad335.add ((x11_5).toNat * 2)) = some (.string ((rd_T45 t310 x11_5).f0)) ∧ w'.cell? ⟨(ad335.add ((x11_5).toNat * 2)).block, (ad335.add ((x11_5).toNat * 2)).off + 1, none⟩ = some (.string ((rd_T45 t310 x11_5).f1))) (ds := []) #[false, false, false, false, false, false, false, false, false, false, false, false, false, false, false, false, false, false, false, false, false, false, false] (by kernel_rfl) rfl rfl ⟨hx335_0, hx335_1, hx336_0, hx337_0, hx337_1⟩ (fun hHeld => ?_); refine with_tabW laws_FnKnwOpen.tab29 laws_FnKnwOpen.bits29 (fun HT_ HW_ => ?_)
                                      generalize wr.drew = w60 at HO_3 HO_4 HO_5 HB hx335_0 hx335_1 hx336_0 hx337_0 hx337_1 hHeld ⊢
                                      refine pure_ (i := 0) (N := some 107) (v := ?_) (a' := ?_) #[true, false, false, false, false, false, false, false, false, false, false, false, false, false, false, false, false, false, false, false, false, false, false] rfl rfl (any_of HT_.out (by kernel_rfl)) (fun _ _ _ h => h) (Or.inl ⟨by rfl, ?_⟩) ?_ ?_
                                      rotate_left
                                      · intro w'
                                        go_simp
                                        with_reducible rfl
                                      rotate_left
                                      · simp only [Act.put, List.setIfInBounds_toArray, List.set_cons_zero, List.set_cons_succ, i64_w, i32_w]
                                        rfl
                                      refine pure_ (i := 1) (N := some 108) (v := ?_) (a' := ?_) #[true, true, false, false, false, false, false, false, false, false, false, false, false, false, false, false, false, false, false, false, false, false, false] rfl rfl (any_of HT_.out (by kernel_rfl)) (fun _ _ _ h => h) (Or.inl ⟨by rfl, ?_⟩) ?_ ?_
                                      rotate_left
                                      · intro w'
                                        go_simp
                                        with_reducible rfl
                                      rotate_left
                                      · simp only [Act.put, List.setIfInBounds_toArray, List.set_cons_zero, List.set_cons_succ, i64_w, i32_w]
                                        rfl
                                      refine pure_ (i := 2) (N := some 109) (v := ?_) (a' := ?_) #[true, true, true, false, false, false, false, false, false, false, false, false, false, false, false, false, false, false, false, false, false, false, false] rfl rfl (any_of HT_.out (by kernel_rfl)) (fun _ _ _ h => h) (Or.inl ⟨by rfl, ?_⟩) ?_ ?_
                                      rotate_left
                                      · intro w'
                                        go_simp
                                        with_reducible rfl
                                      rotate_left
                                      · simp only [Act.put, List.setIfInBounds_toArray, List.set_cons_zero, List.set_cons_succ, i64_w, i32_w]
                                        rfl
                                      refine pure_ (i := 3) (N := some 110) (v := ?_) (a' := ?_) #[true, true, true, true, false, false, false, false, false, false, false, false, false, false, false, false, false, false, false, false, false, false, false] rfl rfl (any_of HT_.out (by kernel_rfl)) (fun _ _ _ h => h) (Or.inl ⟨by rfl, ?_⟩) ?_ ?_
                                      rotate_left
                                      · intro w'
                                        go_simp
                                        with_reducible rfl
                                      rotate_left
                                      · simp only [Act.put, List.setIfInBounds_toArray, List.set_cons_zero, List.set_cons_succ, i64_w, i32_w]
                                        rfl
                                      refine pure_ (i := 4) (N := some 111) (v := ?_) (a' := ?_) #[true, true, true, true, true, false, false, false, false, false, false, false, false, false, false, false, false, false, false, false, false, false, false] rfl rfl (any_of HT_.out (by kernel_rfl)) (fun _ _ _ h => h) (Or.inl ⟨by rfl, ?_⟩) ?_ ?_
                                      rotate_left
                                      · intro w'
                                        go_simp
                                        with_reducible rfl
                                      rotate_left
                                      · simp only [Act.put, List.setIfInBounds_toArray, List.set_cons_zero, List.set_cons_succ, i64_w, i32_w]
                                        rfl
                                      refine pure_ (i := 5) (N := some 112) (v := ?_) (a' := ?_) #[true, true, true, true, true, true, false, false, false, false, false, false, false, false, false, false, false, false, false, false, false, false, false] rfl rfl (any_of HT_.out (by kernel_rfl)) (fun _ _ _ h => h) (Or.inl ⟨by rfl, ?_⟩) ?_ ?_
                                      rotate_left
                                      · intro w'
                                        go_simp
                                        with_reducible rfl
                                      rotate_left
                                      · simp only [Act.put, List.setIfInBounds_toArray, List.set_cons_zero, List.set_cons_succ, i64_w, i32_w]
                                        rfl
                                      refine pure_ (i := 7) (N := some 114) (v := ?_) (a' := ?_) #[true, true, true, true, true, true, false, true, false, false, false, false, false, false, false, false, false, false, false, false, false, false, false] rfl rfl (any_of HT_.out (by kernel_rfl)) (fun _ _ _ h => h) (Or.inl ⟨by rfl, ?_⟩) ?_ ?_
                                      rotate_left
                                      · intro w'
                                        go_simp
                                        with_reducible rfl
                                      rotate_left
                                      · simp only [Act.put, List.setIfInBounds_toArray, List.set_cons_zero, List.set_cons_succ, i64_w, i32_w]
                                        rfl
                                      refine pure_ (i := 8) (N := some 115) (v := ?_) (a' := ?_) #[true, true, true, true, true, true, false, true, true, false, false, false, false, false, false, false, false, false, false, false, false, false, false] rfl rfl (any_of HT_.out (by kernel_rfl)) (fun _ _ _ h => h) (Or.inl ⟨by rfl, ?_⟩) ?_ ?_
                                      rotate_left
                                      · intro w'
                                        go_simp
                                        with_reducible rfl
                                      rotate_left
                                      · simp only [Act.put, List.setIfInBounds_toArray, List.set_cons_zero, List.set_cons_succ, i64_w, i32_w]
                                        rfl
                                      refine pure_ (i := 9) (N := some 116) (v := ?_) (a' := ?_) #[true, true, true, true, true, true, false, true, true, true, false, false, false, false, false, false, false, false, false, false, false, false, false] rfl rfl (any_of HT_.out (by kernel_rfl)) (fun _ _ _ h => h) (Or.inl ⟨by rfl, ?_⟩) ?_ ?_
                                      rotate_left
                                      · intro w'
                                        go_simp
                                        with_reducible rfl
                                      rotate_left
                                      · simp only [Act.put, List.setIfInBounds_toArray, List.set_cons_zero, List.set_cons_succ, i64_w, i32_w]
                                        rfl
                                      refine take_ (i := 6) (N := some 113) (v := ?_) (a' := ?_) #[true, true, true, true, true, true, true, true, true, true, false, false, false, false, false, false, false, false, false, false, false, false, false] rfl rfl (take_ofW HT_.out HW_.out (by kernel_rfl)) (fun _ _ _ h => h) (Or.inl ⟨by rfl, ?_⟩) hHeld ?_ ?_
                                      rotate_left
                                      · rintro w' ⟨s0, s1, s2, s3, s4⟩
                                        go_simp
                                        with_reducible rfl
                                      rotate_left
                                      · simp only [Act.put, List.setIfInBounds_toArray, List.set_cons_zero, List.set_cons_succ, i64_w, i32_w]
                                        rfl
                                      refine take_ (i := 10) (N := some 117) (v := ?_) (a' := ?_) #[true, true, true, true, true, true, true, true, true, true, true, false, false, false, false, false, false, false, false, false, false, false, false] rfl rfl (take_ofW HT_.out HW_.out (by kernel_rfl)) (fun _ _ _ h => h) (Or.inl ⟨by rfl, ?_⟩) hHeld ?_ ?_
                                      rotate_left
                                      · rintro w' ⟨s0, s1, s2, s3, s4⟩
                                        go_simp
                                        with_reducible rfl
                                      rotate_left
                                      · simp only [Act.put, List.setIfInBounds_toArray, List.set_cons_zero, List.set_cons_succ, i64_w, i32_w]
                                        rfl
                                      refine pure_ (i := 11) (N := some 118) (v := ?_) (a' := ?_) #[true, true, true, true, true, true, true, true, true, true, true, true, false, false, false, false, false, false, false, false, false, false, false] rfl rfl (any_of HT_.out (by kernel_rfl)) (fun _ _ _ h => h) (Or.inl ⟨by rfl, ?_⟩) ?_ ?_
                                      rotate_left
                                      · intro w'
                                        go_simp
                                        with_reducible rfl
                                      rotate_left
                                      · simp only [Act.put, List.setIfInBounds_toArray, List.set_cons_zero, List.set_cons_succ, i64_w, i32_w]
                                        rfl
                                      refine pure_ (i := 12) (N := some 119) (v := ?_) (a' := ?_) #[true, true, true, true, true, true, true, true, true, true, true, true, true, false, false, false, false, false, false, false, false, false, false] rfl rfl (any_of HT_.out (by kernel_rfl)) (fun _ _ _ h => h) (Or.inl ⟨by rfl, ?_⟩) ?_ ?_
                                      rotate_left
                                      · intro w'
                                        go_simp
                                        with_reducible rfl
                                      rotate_left
                                      · simp only [Act.put, List.setIfInBounds_toArray, List.set_cons_zero, List.set_cons_succ, i64_w, i32_w]
                                        rfl
                                      refine pure_ (i := 13) (N := some 120) (v := ?_) (a' := ?_) #[true, true, true, true, true, true, true, true, true, true, true, true, true, true, false, false, false, false, false, false, false, false, false] rfl rfl (any_of HT_.out (by kernel_rfl)) (fun _ _ _ h => h) (Or.inl ⟨by rfl, ?_⟩) ?_ ?_
                                      rotate_left
                                      · intro w'
                                        go_simp
                                        with_reducible rfl
                                      rotate_left
                                      · simp only [Act.put, List.setIfInBounds_toArray, List.set_cons_zero, List.set_cons_succ, i64_w, i32_w]
                                        rfl
                                      refine pure_ (i := 14) (N := some 121) (v := ?_) (a' := ?_) #[true, true, true, true, true, true, true, true, true, true, true, true, true, true, true, false, false, false, false, false, false, false, false] rfl rfl (any_of HT_.out (by kernel_rfl)) (fun _ _ _ h => h) (Or.inl ⟨by rfl, ?_⟩) ?_ ?_
                                      rotate_left
                                      · intro w'
                                        go_simp
                                        with_reducible rfl
                                      rotate_left
                                      · simp only [Act.put, List.setIfInBounds_toArray, List.set_cons_zero, List.set_cons_succ, i64_w, i32_w]
                                        rfl
                                      refine pure_ (i := 15) (N := some 122) (v := ?_) (a' := ?_) #[true, true, true, true, true, true, true, true, true, true, true, true, true, true, true, true, false, false, false, false, false, false, false] rfl rfl (any_of HT_.out (by kernel_rfl)) (fun _ _ _ h => h) (Or.inl ⟨by rfl, ?_⟩) ?_ ?_
                                      rotate_left
                                      · intro w'
                                        go_simp
                                        with_reducible rfl
                                      rotate_left
                                      · simp only [Act.put, List.setIfInBounds_toArray, List.set_cons_zero, List.set_cons_succ, i64_w, i32_w]
                                        rfl
                                      refine pure_ (i := 16) (N := some 123) (v := ?_) (a' := ?_) #[true, true, true, true, true, true, true, true, true, true, true, true, true, true, true, true, true, false, false, false, false, false, false] rfl rfl (any_of HT_.out (by kernel_rfl)) (fun _ _ _ h => h) (Or.inl ⟨by rfl, ?_⟩) ?_ ?_
                                      rotate_left
                                      · intro w'
                                        go_simp
                                        with_reducible rfl
                                      rotate_left
                                      · simp only [Act.put, List.setIfInBounds_toArray, List.set_cons_zero, List.set_cons_succ, i64_w, i32_w]
                                        rfl
                                      refine pure_ (i := 17) (N := some 124) (v := ?_) (a' := ?_) #[true, true, true, true, true, true, true, true, true, true, true, true, true, true, true, true, true, true, false, false, false, false, false] rfl rfl (any_of HT_.out (by kernel_rfl)) (fun _ _ _ h => h) (Or.inl ⟨by rfl, ?_⟩) ?_ ?_
                                      rotate_left
                                      · intro w'
                                        go_simp
                                        with_reducible rfl
                                      rotate_left
                                      · simp only [Act.put, List.setIfInBounds_toArray, List.set_cons_zero, List.set_cons_succ, i64_w, i32_w]
                                        rfl
                                      refine take_ (i := 18) (N := some 125) (v := ?_) (a' := ?_) #[true, true, true, true, true, true, true, true, true, true, true, true, true, true, true, true, true, true, true, false, false, false, false] rfl rfl (take_ofW HT_.out HW_.out (by kernel_rfl)) (fun _ _ _ h => h) (Or.inl ⟨by rfl, ?_⟩) hHeld ?_ ?_
                                      rotate_left
                                      · rintro w' ⟨s0, s1, s2, s3, s4⟩
                                        go_simp
                                        with_reducible rfl
                                      rotate_left
                                      · simp only [Act.put, List.setIfInBounds_toArray, List.set_cons_zero, List.set_cons_succ, i64_w, i32_w]
                                        rfl
                                      refine one_ (i := 19) (N := some 126) #[true, true, true, true, true, true, true, true, true, true, true, true, true, true, true, true, true, true, true, true, false, false, false] rfl rfl (one_of HT_.out (by kernel_rfl)) (by decide) (fun K hK => ?_)
                                      refine goes_ Tryd.func14 (by kernel_rfl) rfl #[.slice (some ad333) t315.length co13, .string ((rd_T45 t310 x11_5).f0)] (by rfl) rfl rfl y1_ ?_
                                      with_reducible refine (impl_KnwMake.calls _ _ t315 ((rd_T45 t310 x11_5).f0) t338 _ ?side1 ?side2 ?side3 A59.out).mono ?_
                                      (case side1 => repeat (first | exact (Kd.Q_reads' HO_5.out).2.2 | (with_reducible refine Kd.C_alloc ?_ _) | (with_reducible refine Kd.C_drewN ?_ _) | (with_reducible refine Kd.C_drew ?_)))
                                      (case side2 => exact (Kd.Q_reads' HO_5.out).2.1)
                                      (case side3 => exact GlobOk.below HGL.out (y7_ HB.out))
                                      rintro e w61 ⟨rfl, hb⟩
                                      have HS0_ := (hb.cell (World.block_lt_of_cell? _ _ (hHeld.1))).trans (hHeld.1)
                                      have HS1_ := (hb.cell (World.block_lt_of_cell? _ _ (hHeld.2.1))).trans (hHeld.2.1)
                                      have HS2_ := (hb.cell (World.block_lt_of_cell? _ _ (hHeld.2.2.1))).trans (hHeld.2.2.1)
                                      have HS3_ := (hb.cell (World.block_lt_of_cell? _ _ (hHeld.2.2.2.1))).trans (hHeld.2.2.2.1)
                                      have HS4_ := (hb.cell (World.block_lt_of_cell? _ _ (hHeld.2.2.2.2))).trans (hHeld.2.2.2.2)
                                      refine ⟨_, rfl, ?_⟩
                                      have n0_ := Aside0.mk (Kd.R_below (y11_ HO_3.out) hb)
                                      have n1_ := Aside0.mk (Kd.R_below (y11_ HO_4.out) hb)
                                      have n2_ := Aside0.mk (Kd.Q_below (y13_ HO_5.out) hb)
                                      have n3_ := Aside0.mk (below_step (y7_ HB.out) hb)
                                      clear HO_3
                                      clear HO_4
                                      clear HO_5
                                      clear HB
                                      have HO_3 := n0_
                                      have HO_4 := n1_
                                      have HO_5 := n2_
                                      have HB := n3_
                                      clear n0_ n1_ n2_ n3_
                                      (try clear hb)
                                      (try clear hb2)
                                      (try clear hk)
                                      (try clear hi)
                                      refine hK.out _ _ ⟨HS0_, HS1_, HS2_, HS3_, HS4_⟩ (fun hHeld => ?_)
                                      clear hK K
                                      refine norm_ (a' := ?_) ?_ ?_
                                      rotate_left
                                      · show Act.put _ (some 126) _ = _
                                        simp only [Act.put, List.setIfInBounds_toArray, List.set_cons_zero, List.set_cons_succ, i64_w, i32_w]
                                        rfl
                                      refine pure_ (i := 20) (N := some 127) (v := ?_) (a' := ?_) #[true, true, true, true, true, true, true, true, true, true, true, true, true, true, true, true, true, true, true, true, true, false, false] rfl rfl (any_of HT_.out (by kernel_rfl)) (fun _ _ _ h => h) (Or.inl ⟨by rfl, ?_⟩) ?_ ?_
                                      rotate_left
                                      · intro w'
                                        go_simp
                                        with_reducible rfl
                                      rotate_left
                                      · simp only [Act.put, List.setIfInBounds_toArray, List.set_cons_zero, List.set_cons_succ, i64_w, i32_w]
                                        rfl
                                      refine pure_ (i := 21) (N := some 128) (v := ?_) (a' := ?_) #[true, true, true, true, true, true, true, true, true, true, true, true, true, true, true, true, true, true, true, true, true, true, false] rfl rfl (any_of HT_.out (by kernel_rfl)) (fun _ _ _ h => h) (Or.inl ⟨by rfl, ?_⟩) ?_ ?_
                                      rotate_left
                                      · intro w'
                                        go_simp
                                        with_reducible rfl
                                      rotate_left
                                      · simp only [Act.put, List.setIfInBounds_toArray, List.set_cons_zero, List.set_cons_succ, i64_w, i32_w]
                                        rfl
                                      refine pure_ (i := 22) (N := some 10) (v := ?_) (a' := ?_) #[true, true, true, true, true, true, true, true, true, true, true, true, true, true, true, true, true, true, true, true, true, true, true] rfl rfl (any_of HT_.out (by kernel_rfl)) (fun _ _ _ h => h) (Or.inl ⟨by rfl, ?_⟩) ?_ ?_
                                      rotate_left
                                      · intro w'
                                        go_simp
                                        with_reducible rfl
                                      rotate_left
                                      · simp only [Act.put, List.setIfInBounds_toArray, List.set_cons_zero, List.set_cons_succ, i64_w, i32_w]
                                        rfl
                                      refine done_ (done_of HT_.out (by kernel_rfl)) ?_
                                      try go_wp2
                                      go_roundg k5
                                      case measure => have := HK1.out; have := HK2.out; have := HK3.out; have := HK4.out; have := HK5.out; omega
                                      case rel => exact ⟨(t338), (wrap64 (x11_5 + 1)), y4_, y4_, H', ⟨by have := HK1.out; have := HK2.out; have := HK3.out; have := HK4.out; have := HK5.out; omega⟩, ⟨by (with_reducible repeat (first | apply Kd.R_alloc | apply Kd.R_drewN | apply Kd.R_drew)); exact HO_3.out⟩, ⟨by (with_reducible repeat (first | apply Kd.R_alloc | apply Kd.R_drewN | apply Kd.R_drew)); exact HO_4.out⟩, ⟨by (with_reducible repeat (first | apply Kd.Q_alloc | apply Kd.Q_drewN | apply Kd.Q_drew)); exact HO_5.out⟩, ⟨y7_ HB.out⟩⟩
                                    rw [if_neg c58] at H
                                    have c58b0 : (((rd_T45 t310 x11_5).f1).toList == (rdOf ByteArray.empty t315 x9_4).toList) = false := beq_eq_false_iff_ne.mpr c58
                                    have c58b1 : (((rd_T45 t310 x11_5).f1).toList != (rdOf ByteArray.empty t315 x9_4).toList) = true := bne_iff_ne.mpr c58
                                    have H' := Aside0.mk H
                                    clear H
                                    try go_wp2
                                    have n0_ := Aside0.mk (Kd.R_drew HO_3.out)
                                    have n1_ := Aside0.mk (Kd.R_drew HO_4.out)
                                    have n2_ := Aside0.mk (Kd.Q_drew HO_5.out)
                                    have n3_ := Aside0.mk (below_drew1 HB.out)
                                    clear HO_3
                                    clear HO_4
                                    clear HO_5
                                    clear HB
                                    have HO_3 := n0_
                                    have HO_4 := n1_
                                    have HO_5 := n2_
                                    have HB := n3_
                                    clear n0_ n1_ n2_ n3_
                                    have p335 : 0 ≤ (x11_5 : Int) := of_decide_eq_true y3_
                                    have q335 : x11_5 < (t310.length : Int) := of_decide_eq_true y3_
                                    obtain ⟨ad335, e335, hx335_0, hx335_1⟩ := at_T45 (Kd.R_reads' HO_4.out).2.2 x11_5 p335 q335
                                    cases e335
                                    replace p335 := eq_true p335
                                    replace q335 := eq_true q335
                                    have p336 : 0 ≤ (x9_4 : Int) := of_decide_eq_true y3_
                                    have q336 : x9_4 < (t315.length : Int) := of_decide_eq_true y3_
                                    obtain ⟨ad336, e336, hx336_0⟩ := Kd.at_string (Kd.Q_reads' HO_5.out).2.2 x9_4 p336 q336
                                    obtain rfl : ad333 = ad336 := (by injection e336)
                                    replace p336 := eq_true p336
                                    replace q336 := eq_true q336
                                    refine start_ (n := 23) (S := fun w' => w'.cell? (ad335.add ((x11_5).toNat * 2)) = some (.string ((rd_T45 t310 x11_5).f0)) ∧ w'.cell? ⟨(ad335.add ((x11_5).toNat * 2)).block, (ad335.add ((x11_5).toNat * 2)).off + 1, none⟩ = some (.string ((rd_T45 t310 x11_5).f1)) ∧ w'.cell? (ad333.add (x9_4).toNat) = some (.string (rdOf ByteArray.empty t315 x9_4))) (ds := []) #[false, false, false, false, false, false, false, false, false, false, false, false, false, false, false, false, false, false, false, false, false, false, false] (by kernel_rfl) rfl rfl ⟨hx335_0, hx335_1, hx336_0⟩ (fun hHeld => ?_); refine with_tabW laws_FnKnwOpen.tab29 laws_FnKnwOpen.bits29 (fun HT_ HW_ => ?_)
                                    generalize wr.drew = w62 at HO_3 HO_4 HO_5 HB hx335_0 hx335_1 hx336_0 hHeld ⊢
                                    refine pure_ (i := 0) (N := some 107) (v := ?_) (a' := ?_) #[true, false, false, false, false, false, false, false, false, false, false, false, false, false, false, false, false, false, false, false, false, false, false] rfl rfl (any_of HT_.out (by kernel_rfl)) (fun _ _ _ h => h) (Or.inl ⟨by rfl, ?_⟩) ?_ ?_
                                    rotate_left
                                    · intro w'
                                      go_simp
                                      with_reducible rfl
                                    rotate_left
                                    · simp only [Act.put, List.setIfInBounds_toArray, List.set_cons_zero, List.set_cons_succ, i64_w, i32_w]
                                      rfl
                                    refine pure_ (i := 1) (N := some 108) (v := ?_) (a' := ?_) #[true, true, false, false, false, false, false, false, false, false, false, false, false, false, false, false, false, false, false, false, false, false, false] rfl rfl (any_of HT_.out (by kernel_rfl)) (fun _ _ _ h => h) (Or.inl ⟨by rfl, ?_⟩) ?_ ?_
                                    rotate_left
                                    · intro w'
                                      go_simp
                                      with_reducible rfl
                                    rotate_left
                                    · simp only [Act.put, List.setIfInBounds_toArray, List.set_cons_zero, List.set_cons_succ, i64_w, i32_w]
                                      rfl
                                    refine pure_ (i := 2) (N := some 109) (v := ?_) (a' := ?_) #[true, true, true, false, false, false, false, false, false, false, false, false, false, false, false, false, false, false, false, false, false, false, false] rfl rfl (any_of HT_.out (by kernel_rfl)) (fun _ _ _ h => h) (Or.inl ⟨by rfl, ?_⟩) ?_ ?_
                                    rotate_left
                                    · intro w'
                                      go_simp
                                      with_reducible rfl
                                    rotate_left
                                    · simp only [Act.put, List.setIfInBounds_toArray, List.set_cons_zero, List.set_cons_succ, i64_w, i32_w]
                                      rfl
                                    refine pure_ (i := 3) (N := some 110) (v := ?_) (a' := ?_) #[true, true, true, true, false, false, false, false, false, false, false, false, false, false, false, false, false, false, false, false, false, false, false] rfl rfl (any_of HT_.out (by kernel_rfl)) (fun _ _ _ h => h) (Or.inl ⟨by rfl, ?_⟩) ?_ ?_
                                    rotate_left
                                    · intro w'
                                      go_simp
                                      with_reducible rfl
                                    rotate_left
                                    · simp only [Act.put, List.setIfInBounds_toArray, List.set_cons_zero, List.set_cons_succ, i64_w, i32_w]
                                      rfl
                                    refine pure_ (i := 4) (N := some 111) (v := ?_) (a' := ?_) #[true, true, true, true, true, false, false, false, false, false, false, false, false, false, false, false, false, false, false, false, false, false, false] rfl rfl (any_of HT_.out (by kernel_rfl)) (fun _ _ _ h => h) (Or.inl ⟨by rfl, ?_⟩) ?_ ?_
                                    rotate_left
                                    · intro w'
                                      go_simp
                                      with_reducible rfl
                                    rotate_left
                                    · simp only [Act.put, List.setIfInBounds_toArray, List.set_cons_zero, List.set_cons_succ, i64_w, i32_w]
                                      rfl
                                    refine pure_ (i := 5) (N := some 112) (v := ?_) (a' := ?_) #[true, true, true, true, true, true, false, false, false, false, false, false, false, false, false, false, false, false, false, false, false, false, false] rfl rfl (any_of HT_.out (by kernel_rfl)) (fun _ _ _ h => h) (Or.inl ⟨by rfl, ?_⟩) ?_ ?_
                                    rotate_left
                                    · intro w'
                                      go_simp
                                      with_reducible rfl
                                    rotate_left
                                    · simp only [Act.put, List.setIfInBounds_toArray, List.set_cons_zero, List.set_cons_succ, i64_w, i32_w]
                                      rfl
                                    refine pure_ (i := 7) (N := some 114) (v := ?_) (a' := ?_) #[true, true, true, true, true, true, false, true, false, false, false, false, false, false, false, false, false, false, false, false, false, false, false] rfl rfl (any_of HT_.out (by kernel_rfl)) (fun _ _ _ h => h) (Or.inl ⟨by rfl, ?_⟩) ?_ ?_
                                    rotate_left
                                    · intro w'
                                      go_simp
                                      with_reducible rfl
                                    rotate_left
                                    · simp only [Act.put, List.setIfInBounds_toArray, List.set_cons_zero, List.set_cons_succ, i64_w, i32_w]
                                      rfl
                                    refine pure_ (i := 8) (N := some 115) (v := ?_) (a' := ?_) #[true, true, true, true, true, true, false, true, true, false, false, false, false, false, false, false, false, false, false, false, false, false, false] rfl rfl (any_of HT_.out (by kernel_rfl)) (fun _ _ _ h => h) (Or.inl ⟨by rfl, ?_⟩) ?_ ?_
                                    rotate_left
                                    · intro w'
                                      go_simp
                                      with_reducible rfl
                                    rotate_left
                                    · simp only [Act.put, List.setIfInBounds_toArray, List.set_cons_zero, List.set_cons_succ, i64_w, i32_w]
                                      rfl
                                    refine pure_ (i := 9) (N := some 116) (v := ?_) (a' := ?_) #[true, true, true, true, true, true, false, true, true, true, false, false, false, false, false, false, false, false, false, false, false, false, false] rfl rfl (any_of HT_.out (by kernel_rfl)) (fun _ _ _ h => h) (Or.inl ⟨by rfl, ?_⟩) ?_ ?_
                                    rotate_left
                                    · intro w'
                                      go_simp
                                      with_reducible rfl
                                    rotate_left
                                    · simp only [Act.put, List.setIfInBounds_toArray, List.set_cons_zero, List.set_cons_succ, i64_w, i32_w]
                                      rfl
                                    refine take_ (i := 6) (N := some 113) (v := ?_) (a' := ?_) #[true, true, true, true, true, true, true, true, true, true, false, false, false, false, false, false, false, false, false, false, false, false, false] rfl rfl (take_ofW HT_.out HW_.out (by kernel_rfl)) (fun _ _ _ h => h) (Or.inl ⟨by rfl, ?_⟩) hHeld ?_ ?_
                                    rotate_left
                                    · rintro w' ⟨s0, s1, s2⟩
                                      go_simp
                                      with_reducible rfl
                                    rotate_left
                                    · simp only [Act.put, List.setIfInBounds_toArray, List.set_cons_zero, List.set_cons_succ, i64_w, i32_w]
                                      rfl
                                    refine take_ (i := 10) (N := some 117) (v := ?_) (a' := ?_) #[true, true, true, true, true, true, true, true, true, true, true, false, false, false, false, false, false, false, false, false, false, false, false] rfl rfl (take_ofW HT_.out HW_.out (by kernel_rfl)) (fun _ _ _ h => h) (Or.inl ⟨by rfl, ?_⟩) hHeld ?_ ?_
                                    rotate_left
                                    · rintro w' ⟨s0, s1, s2⟩
                                      go_simp
                                      with_reducible rfl
                                    rotate_left
                                    · simp only [Act.put, List.setIfInBounds_toArray, List.set_cons_zero, List.set_cons_succ, i64_w, i32_w]
                                      rfl
                                    refine pure_ (i := 11) (N := some 118) (v := ?_) (a' := ?_) #[true, true, true, true, true, true, true, true, true, true, true, true, false, false, false, false, false, false, false, false, false, false, false] rfl rfl (any_of HT_.out (by kernel_rfl)) (fun _ _ _ h => h) (Or.inl ⟨by rfl, ?_⟩) ?_ ?_
                                    rotate_left
                                    · intro w'
                                      go_simp
                                      with_reducible rfl
                                    rotate_left
                                    · simp only [Act.put, List.setIfInBounds_toArray, List.set_cons_zero, List.set_cons_succ, i64_w, i32_w]
                                      rfl
                                    refine pure_ (i := 12) (N := some 119) (v := ?_) (a' := ?_) #[true, true, true, true, true, true, true, true, true, true, true, true, true, false, false, false, false, false, false, false, false, false, false] rfl rfl (any_of HT_.out (by kernel_rfl)) (fun _ _ _ h => h) (Or.inl ⟨by rfl, ?_⟩) ?_ ?_
                                    rotate_left
                                    · intro w'
                                      go_simp
                                      with_reducible rfl
                                    rotate_left
                                    · simp only [Act.put, List.setIfInBounds_toArray, List.set_cons_zero, List.set_cons_succ, i64_w, i32_w]
                                      rfl
                                    refine pure_ (i := 13) (N := some 120) (v := undef) (a' := ?_) #[true, true, true, true, true, true, true, true, true, true, true, true, true, true, false, false, false, false, false, false, false, false, false] rfl rfl (any_of HT_.out (by kernel_rfl)) (fun _ _ _ h => h) (Or.inr ⟨by rfl, rfl⟩) ?_ ?_
                                    rotate_left
                                    · simp only [Act.put, List.setIfInBounds_toArray, List.set_cons_zero, List.set_cons_succ, i64_w, i32_w]
                                      rfl
                                    refine pure_ (i := 14) (N := some 121) (v := undef) (a' := ?_) #[true, true, true, true, true, true, true, true, true, true, true, true, true, true, true, false, false, false, false, false, false, false, false] rfl rfl (any_of HT_.out (by kernel_rfl)) (fun _ _ _ h => h) (Or.inr ⟨by rfl, rfl⟩) ?_ ?_
                                    rotate_left
                                    · simp only [Act.put, List.setIfInBounds_toArray, List.set_cons_zero, List.set_cons_succ, i64_w, i32_w]
                                      rfl
                                    refine pure_ (i := 15) (N := some 122) (v := undef) (a' := ?_) #[true, true, true, true, true, true, true, true, true, true, true, true, true, true, true, true, false, false, false, false, false, false, false] rfl rfl (any_of HT_.out (by kernel_rfl)) (fun _ _ _ h => h) (Or.inr ⟨by rfl, rfl⟩) ?_ ?_
                                    rotate_left
                                    · simp only [Act.put, List.setIfInBounds_toArray, List.set_cons_zero, List.set_cons_succ, i64_w, i32_w]
                                      rfl
                                    refine pure_ (i := 16) (N := some 123) (v := undef) (a' := ?_) #[true, true, true, true, true, true, true, true, true, true, true, true, true, true, true, true, true, false, false, false, false, false, false] rfl rfl (any_of HT_.out (by kernel_rfl)) (fun _ _ _ h => h) (Or.inr ⟨by rfl, rfl⟩) ?_ ?_
                                    rotate_left
                                    · simp only [Act.put, List.setIfInBounds_toArray, List.set_cons_zero, List.set_cons_succ, i64_w, i32_w]
                                      rfl
                                    refine pure_ (i := 17) (N := some 124) (v := undef) (a' := ?_) #[true, true, true, true, true, true, true, true, true, true, true, true, true, true, true, true, true, true, false, false, false, false, false] rfl rfl (any_of HT_.out (by kernel_rfl)) (fun _ _ _ h => h) (Or.inr ⟨by rfl, rfl⟩) ?_ ?_
                                    rotate_left
                                    · simp only [Act.put, List.setIfInBounds_toArray, List.set_cons_zero, List.set_cons_succ, i64_w, i32_w]
                                      rfl
                                    refine pure_ (i := 18) (N := some 125) (v := undef) (a' := ?_) #[true, true, true, true, true, true, true, true, true, true, true, true, true, true, true, true, true, true, true, false, false, false, false] rfl rfl (any_of HT_.out (by kernel_rfl)) (fun _ _ _ h => h) (Or.inr ⟨by rfl, rfl⟩) ?_ ?_
                                    rotate_left
                                    · simp only [Act.put, List.setIfInBounds_toArray, List.set_cons_zero, List.set_cons_succ, i64_w, i32_w]
                                      rfl
                                    refine pure_ (i := 19) (N := some 126) (v := undef) (a' := ?_) #[true, true, true, true, true, true, true, true, true, true, true, true, true, true, true, true, true, true, true, true, false, false, false] rfl rfl (any_of HT_.out (by kernel_rfl)) (fun _ _ _ h => h) (Or.inr ⟨by rfl, rfl⟩) ?_ ?_
                                    rotate_left
                                    · simp only [Act.put, List.setIfInBounds_toArray, List.set_cons_zero, List.set_cons_succ, i64_w, i32_w]
                                      rfl
                                    refine pure_ (i := 20) (N := some 127) (v := ?_) (a' := ?_) #[true, true, true, true, true, true, true, true, true, true, true, true, true, true, true, true, true, true, true, true, true, false, false] rfl rfl (any_of HT_.out (by kernel_rfl)) (fun _ _ _ h => h) (Or.inl ⟨by rfl, ?_⟩) ?_ ?_
                                    rotate_left
                                    · intro w'
                                      go_simp
                                      with_reducible rfl
                                    rotate_left
                                    · simp only [Act.put, List.setIfInBounds_toArray, List.set_cons_zero, List.set_cons_succ, i64_w, i32_w]
                                      rfl
                                    refine pure_ (i := 21) (N := some 128) (v := ?_) (a' := ?_) #[true, true, true, true, true, true, true, true, true, true, true, true, true, true, true, true, true, true, true, true, true, true, false] rfl rfl (any_of HT_.out (by kernel_rfl)) (fun _ _ _ h => h) (Or.inl ⟨by rfl, ?_⟩) ?_ ?_
                                    rotate_left
                                    · intro w'
                                      go_simp
                                      with_reducible rfl
                                    rotate_left
                                    · simp only [Act.put, List.setIfInBounds_toArray, List.set_cons_zero, List.set_cons_succ, i64_w, i32_w]
                                      rfl
                                    refine pure_ (i := 22) (N := some 10) (v := ?_) (a' := ?_) #[true, true, true, true, true, true, true, true, true, true, true, true, true, true, true, true, true, true, true, true, true, true, true] rfl rfl (any_of HT_.out (by kernel_rfl)) (fun _ _ _ h => h) (Or.inl ⟨by rfl, ?_⟩) ?_ ?_
                                    rotate_left
                                    · intro w'
                                      go_simp
                                      with_reducible rfl
                                    rotate_left
                                    · simp only [Act.put, List.setIfInBounds_toArray, List.set_cons_zero, List.set_cons_succ, i64_w, i32_w]
                                      rfl
                                    refine done_ (done_of HT_.out (by kernel_rfl)) ?_
                                    try go_wp2
                                    go_roundg k5
                                    case measure => have := HK1.out; have := HK2.out; have := HK3.out; have := HK4.out; have := HK5.out; omega
                                    case rel => exact ⟨(false), (wrap64 (x11_5 + 1)), y4_, y4_, H', ⟨by have := HK1.out; have := HK2.out; have := HK3.out; have := HK4.out; have := HK5.out; omega⟩, ⟨by (with_reducible repeat (first | apply Kd.R_alloc | apply Kd.R_drewN | apply Kd.R_drew)); exact HO_3.out⟩, ⟨by (with_reducible repeat (first | apply Kd.R_alloc | apply Kd.R_drewN | apply Kd.R_drew)); exact HO_4.out⟩, ⟨by (with_reducible repeat (first | apply Kd.Q_alloc | apply Kd.Q_drewN | apply Kd.Q_drew)); exact HO_5.out⟩, ⟨y7_ HB.out⟩⟩
                                  rw [if_neg c57] at H
                                  exact absurd H (by simp)
                                rw [if_neg c56] at H
                                exact absurd H (by simp)
                              rw [if_neg c55] at H
                              exact absurd H (by simp)
                            rw [if_neg c52] at H
                            have c52b0 : decide (x11_5 < (t310.length : Int)) = false := decide_eq_false c52
                            clear c52
                            by_cases c63 : x10_5 = true
                            · subst c63
                              have H1 : (if 0 ≤ x9_4 then (if x9_4 ≤ (t315.length : Int) then (if x9_4 < (t315.length : Int) then ((laws_keHas.f k5 (t315.take (x9_4 : Int).toNat) (rdOf ByteArray.empty t315 x9_4)).bind fun t344 => (if t344 = true then (some false) else (laws_FnKnwOpen.l3 k5 t309 t310 t315 (wrap64 (x9_4 + 1))))) else (none)) else (none)) else (none)) = some r := by rw [if_pos rfl] at H; exact H
                              clear H
                              have H := H1
                              clear H1
                              by_cases c64 : 0 ≤ x9_4
                              · rw [if_pos c64] at H
                                have c64b0 := eq_true c64
                                have c64b1 : decide (0 ≤ x9_4) = true := decide_eq_true c64
                                clear c64
                                by_cases c65 : x9_4 ≤ (t315.length : Int)
                                · rw [if_pos c65] at H
                                  have c65b0 := eq_true c65
                                  have c65b1 : decide (x9_4 ≤ (t315.length : Int)) = true := decide_eq_true c65
                                  clear c65
                                  obtain ⟨y339, hy339⟩ : ∃ y_ : List ByteArray, y_ = (t315.take (x9_4 : Int).toNat) := ⟨_, rfl⟩
                                  replace H : (if x9_4 < (t315.length : Int) then ((laws_keHas.f k5 y339 (rdOf ByteArray.empty t315 x9_4)).bind fun t344 => (if t344 = true then (some false) else (laws_FnKnwOpen.l3 k5 t309 t310 t315 (wrap64 (x9_4 + 1))))) else (none)) = some r := by first | (rw [hy339]; with_reducible exact H) | (have H2_ := (Option.bind_some _ _).symm.trans H; rw [hy339]; with_reducible exact H2_) | (have H2_ := (Option.bind_some _ _).symm.trans H; with_reducible exact H2_) | with_reducible exact H | (rw [hy339]; exact H) | exact H
                                  have Ny339 := Aside0.mk hy339
                                  clear hy339
                                  by_cases c66 : x9_4 < (t315.length : Int)
                                  · rw [if_pos c66] at H
                                    have c66b0 : decide (x9_4 < (t315.length : Int)) = true := decide_eq_true c66
                                    clear c66
                                    replace H := Option.bind_eq_some_iff.mp H
                                    obtain ⟨t344, A670, H⟩ := H
                                    replace H : (if t344 = true then (some false) else (laws_FnKnwOpen.l3 k5 t309 t310 t315 (wrap64 (x9_4 + 1)))) = some r := H
                                    have A67 := Aside0.mk A670
                                    clear A670
                                    by_cases c68 : t344 = true
                                    · subst c68
                                      have H1 : (some false) = some r := by rw [if_pos rfl] at H; exact H
                                      clear H
                                      have H := H1
                                      clear H1
                                      obtain rfl := Option.some.inj H
                                      try go_wp2
                                      have n0_ := Aside0.mk (Kd.R_drew HO_3.out)
                                      have n1_ := Aside0.mk (Kd.R_drew HO_4.out)
                                      have n2_ := Aside0.mk (Kd.Q_drew HO_5.out)
                                      have n3_ := Aside0.mk (below_drew1 HB.out)
                                      clear HO_3
                                      clear HO_4
                                      clear HO_5
                                      clear HB
                                      have HO_3 := n0_
                                      have HO_4 := n1_
                                      have HO_5 := n2_
                                      have HB := n3_
                                      clear n0_ n1_ n2_ n3_
                                      have q70 : (x9_4 : Int) ≤ ((t315.length : Int) : Int) := of_decide_eq_true y3_
                                      obtain ⟨i070, hi070, _, hsz70, _⟩ := info_parts info9
                                      have hroom70 : t315.length ≤ co13 := (Kd.Q_reads' HO_5.out).2.1
                                      have hC70 : Kd.C Kd.string _ (some ad333) t315.length t315 := (Kd.Q_reads' HO_5.out).2.2
                                      have hcut70 := cut_to (P := Tryd.prog) 23 9 .i64 Tryd.underlying23 hi070 (some ad333) t315.length co13 x9_4 (of_decide_eq_true y3_) q70 hroom70
                                      have hr70 := Kd.C_take (m := (x9_4 : Int).toNat) hC70 (by omega)
                                      have hy70 : y339.length = (x9_4 : Int).toNat := (by rw [Ny339.out, List.length_take]; omega)
                                      rw [← Ny339.out] at hr70
                                      rw [← hy70] at hcut70
                                      have HR342 := Aside0.mk hr70
                                      have HC342 := Aside0.mk (show y339.length ≤ co13 from by omega)
                                      clear hr70 hC70 hroom70 hi070 hsz70
                                      have KY70 := Aside0.mk hy70
                                      clear hy70
                                      have KL70 := Aside0.mk (show (x9_4 : Int).toNat ≤ t315.length from by omega)
                                      replace q70 := eq_true q70
                                      have p343 : 0 ≤ (x9_4 : Int) := of_decide_eq_true y3_
                                      have q343 : x9_4 < (t315.length : Int) := of_decide_eq_true y3_
                                      obtain ⟨ad343, e343, hx343_0⟩ := Kd.at_string (Kd.Q_reads' HO_5.out).2.2 x9_4 p343 q343
                                      obtain rfl : ad333 = ad343 := (by injection e343)
                                      replace p343 := eq_true p343
                                      replace q343 := eq_true q343
                                      refine start_ (n := 12) (S := fun w' => w'.cell? (ad333.add (x9_4).toNat) = some (.string (rdOf ByteArray.empty t315 x9_4))) (ds := []) #[false, false, false, false, false, false, false, false, false, false, false, false] (by kernel_rfl) rfl rfl (hx343_0) (fun hHeld => ?_); refine with_tabW laws_FnKnwOpen.tab30 laws_FnKnwOpen.bits30 (fun HT_ HW_ => ?_)
                                      generalize wr.drew = w69 at HO_3 HO_4 HO_5 HB HR342 hx343_0 hHeld ⊢
                                      refine pure_ (i := 0) (N := some 129) (v := ?_) (a' := ?_) #[true, false, false, false, false, false, false, false, false, false, false, false] rfl rfl (any_of HT_.out (by kernel_rfl)) (fun _ _ _ h => h) (Or.inl ⟨by rfl, ?_⟩) ?_ ?_
                                      rotate_left
                                      · intro w'
                                        go_simp
                                        with_reducible rfl
                                      rotate_left
                                      · simp only [Act.put, List.setIfInBounds_toArray, List.set_cons_zero, List.set_cons_succ, i64_w, i32_w]
                                        rfl
                                      refine pure_ (i := 1) (N := some 130) (v := ?_) (a' := ?_) #[true, true, false, false, false, false, false, false, false, false, false, false] rfl rfl (any_of HT_.out (by kernel_rfl)) (fun _ _ _ h => h) (Or.inl ⟨by rfl, ?_⟩) ?_ ?_
                                      rotate_left
                                      · intro w'
                                        go_simp
                                        with_reducible rfl
                                      rotate_left
                                      · simp only [Act.put, List.setIfInBounds_toArray, List.set_cons_zero, List.set_cons_succ, i64_w, i32_w]
                                        rfl
                                      refine pure_ (i := 2) (N := some 131) (v := ?_) (a' := ?_) #[true, true, true, false, false, false, false, false, false, false, false, false] rfl rfl (any_of HT_.out (by kernel_rfl)) (fun _ _ _ h => h) (Or.inl ⟨by rfl, ?_⟩) ?_ ?_
                                      rotate_left
                                      · intro w'
                                        go_simp
                                        with_reducible rfl
                                      rotate_left
                                      · simp only [Act.put, List.setIfInBounds_toArray, List.set_cons_zero, List.set_cons_succ, i64_w, i32_w]
                                        rfl
                                      refine pure_ (i := 3) (N := some 132) (v := ?_) (a' := ?_) #[true, true, true, true, false, false, false, false, false, false, false, false] rfl rfl (any_of HT_.out (by kernel_rfl)) (fun _ _ _ h => h) (Or.inl ⟨by rfl, ?_⟩) ?_ ?_
                                      rotate_left
                                      · intro w'
                                        go_simp
                                        with_reducible rfl
                                      rotate_left
                                      · simp only [Act.put, List.setIfInBounds_toArray, List.set_cons_zero, List.set_cons_succ, i64_w, i32_w]
                                        rfl
                                      refine pure_ (i := 4) (N := some 133) (v := ?_) (a' := ?_) #[true, true, true, true, true, false, false, false, false, false, false, false] rfl rfl (any_of HT_.out (by kernel_rfl)) (fun _ _ _ h => h) (Or.inl ⟨by rfl, ?_⟩) ?_ ?_
                                      rotate_left
                                      · intro w'
                                        go_simp
                                        with_reducible rfl
                                      rotate_left
                                      · simp only [Act.put, List.setIfInBounds_toArray, List.set_cons_zero, List.set_cons_succ, i64_w, i32_w]
                                        rfl
                                      refine pure_ (i := 5) (N := some 134) (v := ?_) (a' := ?_) #[true, true, true, true, true, true, false, false, false, false, false, false] rfl rfl (any_of HT_.out (by kernel_rfl)) (fun _ _ _ h => h) (Or.inl ⟨by rfl, ?_⟩) ?_ ?_
                                      rotate_left
                                      · intro w'
                                        go_simp
                                        with_reducible rfl
                                      rotate_left
                                      · simp only [Act.put, List.setIfInBounds_toArray, List.set_cons_zero, List.set_cons_succ, i64_w, i32_w]
                                        rfl
                                      refine pure_ (i := 6) (N := some 135) (v := ?_) (a' := ?_) #[true, true, true, true, true, true, true, false, false, false, false, false] rfl rfl (any_of HT_.out (by kernel_rfl)) (fun _ _ _ h => h) (Or.inl ⟨by rfl, ?_⟩) ?_ ?_
                                      rotate_left
                                      · intro w'
                                        go_simp
                                        with_reducible rfl
                                      rotate_left
                                      · simp only [Act.put, List.setIfInBounds_toArray, List.set_cons_zero, List.set_cons_succ, i64_w, i32_w]
                                        rfl
                                      refine pure_ (i := 7) (N := some 136) (v := ?_) (a' := ?_) #[true, true, true, true, true, true, true, true, false, false, false, false] rfl rfl (any_of HT_.out (by kernel_rfl)) (fun _ _ _ h => h) (Or.inl ⟨by rfl, ?_⟩) ?_ ?_
                                      rotate_left
                                      · intro w'
                                        go_simp
                                        with_reducible rfl
                                      rotate_left
                                      · simp only [Act.put, List.setIfInBounds_toArray, List.set_cons_zero, List.set_cons_succ, i64_w, i32_w]
                                        rfl
                                      refine pure_ (i := 8) (N := some 137) (v := ?_) (a' := ?_) #[true, true, true, true, true, true, true, true, true, false, false, false] rfl rfl (any_of HT_.out (by kernel_rfl)) (fun _ _ _ h => h) (Or.inl ⟨by rfl, ?_⟩) ?_ ?_
                                      rotate_left
                                      · intro w'
                                        go_simp
                                        with_reducible rfl
                                      rotate_left
                                      · simp only [Act.put, List.setIfInBounds_toArray, List.set_cons_zero, List.set_cons_succ, i64_w, i32_w]
                                        rfl
                                      refine take_ (i := 9) (N := some 138) (v := ?_) (a' := ?_) #[true, true, true, true, true, true, true, true, true, true, false, false] rfl rfl (take_ofW HT_.out HW_.out (by kernel_rfl)) (fun _ _ _ h => h) (Or.inl ⟨by rfl, ?_⟩) hHeld ?_ ?_
                                      rotate_left
                                      · intro w' s0
                                        go_simp
                                        with_reducible rfl
                                      rotate_left
                                      · simp only [Act.put, List.setIfInBounds_toArray, List.set_cons_zero, List.set_cons_succ, i64_w, i32_w]
                                        rfl
                                      refine one_ (i := 10) (N := some 139) #[true, true, true, true, true, true, true, true, true, true, true, false] rfl rfl (one_of HT_.out (by kernel_rfl)) (by decide) (fun K hK => ?_)
                                      refine goes_ Tryd.func18 (by kernel_rfl) rfl #[.slice (some ad333) y339.length co13, .string (rdOf ByteArray.empty t315 x9_4)] (by rfl) rfl rfl y1_ ?_
                                      with_reducible refine (laws_keHas.calls k5 _ _ y339 (rdOf ByteArray.empty t315 x9_4) true _ ?side1 ?side2 A67.out).mono ?_
                                      (case side1 => repeat (first | exact (y14_ HR342.out) | (with_reducible refine Kd.C_alloc ?_ _) | (with_reducible refine Kd.C_drewN ?_ _) | (with_reducible refine Kd.C_drew ?_)))
                                      (case side2 => exact HC342.out)
                                      rintro e w' ⟨rfl, ⟨nd, rfl⟩⟩
                                      refine ⟨_, rfl, ?_⟩
                                      refine hK.out _ _ (hHeld) (fun hHeld => ?_)
                                      clear hK K
                                      refine norm_ (a' := ?_) ?_ ?_
                                      rotate_left
                                      · show Act.put _ (some 139) _ = _
                                        simp only [Act.put, List.setIfInBounds_toArray, List.set_cons_zero, List.set_cons_succ, i64_w, i32_w]
                                        rfl
                                      refine pure_ (i := 11) (N := some 140) (v := ?_) (a' := ?_) #[true, true, true, true, true, true, true, true, true, true, true, true] rfl rfl (any_of HT_.out (by kernel_rfl)) (fun _ _ _ h => h) (Or.inl ⟨by rfl, ?_⟩) ?_ ?_
                                      rotate_left
                                      · intro w'
                                        go_simp
                                        with_reducible rfl
                                      rotate_left
                                      · simp only [Act.put, List.setIfInBounds_toArray, List.set_cons_zero, List.set_cons_succ, i64_w, i32_w]
                                        rfl
                                      refine done_ (done_of HT_.out (by kernel_rfl)) ?_
                                      try go_wp2
                                      go_ret
                                      exact ⟨y6_, y7_ HB.out⟩
                                    replace c68 := Bool.eq_false_iff.mpr c68
                                    subst c68
                                    have H1 : (laws_FnKnwOpen.l3 k5 t309 t310 t315 (wrap64 (x9_4 + 1))) = some r := by rw [if_neg (show ¬ (false = true) by decide)] at H; exact H
                                    clear H
                                    have H := H1
                                    clear H1
                                    have H' := Aside0.mk H
                                    clear H
                                    try go_wp2
                                    have n0_ := Aside0.mk (Kd.R_drew HO_3.out)
                                    have n1_ := Aside0.mk (Kd.R_drew HO_4.out)
                                    have n2_ := Aside0.mk (Kd.Q_drew HO_5.out)
                                    have n3_ := Aside0.mk (below_drew1 HB.out)
                                    clear HO_3
                                    clear HO_4
                                    clear HO_5
                                    clear HB
                                    have HO_3 := n0_
                                    have HO_4 := n1_
                                    have HO_5 := n2_
                                    have HB := n3_
                                    clear n0_ n1_ n2_ n3_
                                    have q72 : (x9_4 : Int) ≤ ((t315.length : Int) : Int) := of_decide_eq_true y3_
                                    obtain ⟨i072, hi072, _, hsz72, _⟩ := info_parts info9
                                    have hroom72 : t315.length ≤ co13 := (Kd.Q_reads' HO_5.out).2.1
                                    have hC72 : Kd.C Kd.string _ (some ad333) t315.length t315 := (Kd.Q_reads' HO_5.out).2.2
                                    have hcut72 := cut_to (P := Tryd.prog) 23 9 .i64 Tryd.underlying23 hi072 (some ad333) t315.length co13 x9_4 (of_decide_eq_true y3_) q72 hroom72
                                    have hr72 := Kd.C_take (m := (x9_4 : Int).toNat) hC72 (by omega)
                                    have hy72 : y339.length = (x9_4 : Int).toNat := (by rw [Ny339.out, List.length_take]; omega)
                                    rw [← Ny339.out] at hr72
                                    rw [← hy72] at hcut72
                                    have HR342 := Aside0.mk hr72
                                    have HC342 := Aside0.mk (show y339.length ≤ co13 from by omega)
                                    clear hr72 hC72 hroom72 hi072 hsz72
                                    have KY72 := Aside0.mk hy72
                                    clear hy72
                                    have KL72 := Aside0.mk (show (x9_4 : Int).toNat ≤ t315.length from by omega)
                                    replace q72 := eq_true q72
                                    have p343 : 0 ≤ (x9_4 : Int) := of_decide_eq_true y3_
                                    have q343 : x9_4 < (t315.length : Int) := of_decide_eq_true y3_
                                    obtain ⟨ad343, e343, hx343_0⟩ := Kd.at_string (Kd.Q_reads' HO_5.out).2.2 x9_4 p343 q343
                                    obtain rfl : ad333 = ad343 := (by injection e343)
                                    replace p343 := eq_true p343
                                    replace q343 := eq_true q343
                                    refine start_ (n := 12) (S := fun w' => w'.cell? (ad333.add (x9_4).toNat) = some (.string (rdOf ByteArray.empty t315 x9_4))) (ds := []) #[false, false, false, false, false, false, false, false, false, false, false, false] (by kernel_rfl) rfl rfl (hx343_0) (fun hHeld => ?_); refine with_tabW laws_FnKnwOpen.tab30 laws_FnKnwOpen.bits30 (fun HT_ HW_ => ?_)
                                    generalize wr.drew = w71 at HO_3 HO_4 HO_5 HB HR342 hx343_0 hHeld ⊢
                                    refine pure_ (i := 0) (N := some 129) (v := ?_) (a' := ?_) #[true, false, false, false, false, false, false, false, false, false, false, false] rfl rfl (any_of HT_.out (by kernel_rfl)) (fun _ _ _ h => h) (Or.inl ⟨by rfl, ?_⟩) ?_ ?_
                                    rotate_left
                                    · intro w'
                                      go_simp
                                      with_reducible rfl
                                    rotate_left
                                    · simp only [Act.put, List.setIfInBounds_toArray, List.set_cons_zero, List.set_cons_succ, i64_w, i32_w]
                                      rfl
                                    refine pure_ (i := 1) (N := some 130) (v := ?_) (a' := ?_) #[true, true, false, false, false, false, false, false, false, false, false, false] rfl rfl (any_of HT_.out (by kernel_rfl)) (fun _ _ _ h => h) (Or.inl ⟨by rfl, ?_⟩) ?_ ?_
                                    rotate_left
                                    · intro w'
                                      go_simp
                                      with_reducible rfl
                                    rotate_left
                                    · simp only [Act.put, List.setIfInBounds_toArray, List.set_cons_zero, List.set_cons_succ, i64_w, i32_w]
                                      rfl
                                    refine pure_ (i := 2) (N := some 131) (v := ?_) (a' := ?_) #[true, true, true, false, false, false, false, false, false, false, false, false] rfl rfl (any_of HT_.out (by kernel_rfl)) (fun _ _ _ h => h) (Or.inl ⟨by rfl, ?_⟩) ?_ ?_
                                    rotate_left
                                    · intro w'
                                      go_simp
                                      with_reducible rfl
                                    rotate_left
                                    · simp only [Act.put, List.setIfInBounds_toArray, List.set_cons_zero, List.set_cons_succ, i64_w, i32_w]
                                      rfl
                                    refine pure_ (i := 3) (N := some 132) (v := ?_) (a' := ?_) #[true, true, true, true, false, false, false, false, false, false, false, false] rfl rfl (any_of HT_.out (by kernel_rfl)) (fun _ _ _ h => h) (Or.inl ⟨by rfl, ?_⟩) ?_ ?_
                                    rotate_left
                                    · intro w'
                                      go_simp
                                      with_reducible rfl
                                    rotate_left
                                    · simp only [Act.put, List.setIfInBounds_toArray, List.set_cons_zero, List.set_cons_succ, i64_w, i32_w]
                                      rfl
                                    refine pure_ (i := 4) (N := some 133) (v := ?_) (a' := ?_) #[true, true, true, true, true, false, false, false, false, false, false, false] rfl rfl (any_of HT_.out (by kernel_rfl)) (fun _ _ _ h => h) (Or.inl ⟨by rfl, ?_⟩) ?_ ?_
                                    rotate_left
                                    · intro w'
                                      go_simp
                                      with_reducible rfl
                                    rotate_left
                                    · simp only [Act.put, List.setIfInBounds_toArray, List.set_cons_zero, List.set_cons_succ, i64_w, i32_w]
                                      rfl
                                    refine pure_ (i := 5) (N := some 134) (v := ?_) (a' := ?_) #[true, true, true, true, true, true, false, false, false, false, false, false] rfl rfl (any_of HT_.out (by kernel_rfl)) (fun _ _ _ h => h) (Or.inl ⟨by rfl, ?_⟩) ?_ ?_
                                    rotate_left
                                    · intro w'
                                      go_simp
                                      with_reducible rfl
                                    rotate_left
                                    · simp only [Act.put, List.setIfInBounds_toArray, List.set_cons_zero, List.set_cons_succ, i64_w, i32_w]
                                      rfl
                                    refine pure_ (i := 6) (N := some 135) (v := ?_) (a' := ?_) #[true, true, true, true, true, true, true, false, false, false, false, false] rfl rfl (any_of HT_.out (by kernel_rfl)) (fun _ _ _ h => h) (Or.inl ⟨by rfl, ?_⟩) ?_ ?_
                                    rotate_left
                                    · intro w'
                                      go_simp
                                      with_reducible rfl
                                    rotate_left
                                    · simp only [Act.put, List.setIfInBounds_toArray, List.set_cons_zero, List.set_cons_succ, i64_w, i32_w]
                                      rfl
                                    refine pure_ (i := 7) (N := some 136) (v := ?_) (a' := ?_) #[true, true, true, true, true, true, true, true, false, false, false, false] rfl rfl (any_of HT_.out (by kernel_rfl)) (fun _ _ _ h => h) (Or.inl ⟨by rfl, ?_⟩) ?_ ?_
                                    rotate_left
                                    · intro w'
                                      go_simp
                                      with_reducible rfl
                                    rotate_left
                                    · simp only [Act.put, List.setIfInBounds_toArray, List.set_cons_zero, List.set_cons_succ, i64_w, i32_w]
                                      rfl
                                    refine pure_ (i := 8) (N := some 137) (v := ?_) (a' := ?_) #[true, true, true, true, true, true, true, true, true, false, false, false] rfl rfl (any_of HT_.out (by kernel_rfl)) (fun _ _ _ h => h) (Or.inl ⟨by rfl, ?_⟩) ?_ ?_
                                    rotate_left
                                    · intro w'
                                      go_simp
                                      with_reducible rfl
                                    rotate_left
                                    · simp only [Act.put, List.setIfInBounds_toArray, List.set_cons_zero, List.set_cons_succ, i64_w, i32_w]
                                      rfl
                                    refine take_ (i := 9) (N := some 138) (v := ?_) (a' := ?_) #[true, true, true, true, true, true, true, true, true, true, false, false] rfl rfl (take_ofW HT_.out HW_.out (by kernel_rfl)) (fun _ _ _ h => h) (Or.inl ⟨by rfl, ?_⟩) hHeld ?_ ?_
                                    rotate_left
                                    · intro w' s0
                                      go_simp
                                      with_reducible rfl
                                    rotate_left
                                    · simp only [Act.put, List.setIfInBounds_toArray, List.set_cons_zero, List.set_cons_succ, i64_w, i32_w]
                                      rfl
                                    refine one_ (i := 10) (N := some 139) #[true, true, true, true, true, true, true, true, true, true, true, false] rfl rfl (one_of HT_.out (by kernel_rfl)) (by decide) (fun K hK => ?_)
                                    refine goes_ Tryd.func18 (by kernel_rfl) rfl #[.slice (some ad333) y339.length co13, .string (rdOf ByteArray.empty t315 x9_4)] (by rfl) rfl rfl y1_ ?_
                                    with_reducible refine (laws_keHas.calls k5 _ _ y339 (rdOf ByteArray.empty t315 x9_4) false _ ?side1 ?side2 A67.out).mono ?_
                                    (case side1 => repeat (first | exact (y14_ HR342.out) | (with_reducible refine Kd.C_alloc ?_ _) | (with_reducible refine Kd.C_drewN ?_ _) | (with_reducible refine Kd.C_drew ?_)))
                                    (case side2 => exact HC342.out)
                                    rintro e w' ⟨rfl, ⟨nd, rfl⟩⟩
                                    refine ⟨_, rfl, ?_⟩
                                    refine hK.out _ _ (hHeld) (fun hHeld => ?_)
                                    clear hK K
                                    refine norm_ (a' := ?_) ?_ ?_
                                    rotate_left
                                    · show Act.put _ (some 139) _ = _
                                      simp only [Act.put, List.setIfInBounds_toArray, List.set_cons_zero, List.set_cons_succ, i64_w, i32_w]
                                      rfl
                                    refine pure_ (i := 11) (N := some 140) (v := ?_) (a' := ?_) #[true, true, true, true, true, true, true, true, true, true, true, true] rfl rfl (any_of HT_.out (by kernel_rfl)) (fun _ _ _ h => h) (Or.inl ⟨by rfl, ?_⟩) ?_ ?_
                                    rotate_left
                                    · intro w'
                                      go_simp
                                      with_reducible rfl
                                    rotate_left
                                    · simp only [Act.put, List.setIfInBounds_toArray, List.set_cons_zero, List.set_cons_succ, i64_w, i32_w]
                                      rfl
                                    refine done_ (done_of HT_.out (by kernel_rfl)) ?_
                                    try go_wp2
                                    go_roundg k5
                                    case measure => have := HK1.out; have := HK2.out; have := HK3.out; have := HK4.out; have := HK5.out; omega
                                    case rel => exact ⟨(wrap64 (x9_4 + 1)), y4_, H', ⟨by have := HK1.out; have := HK2.out; have := HK3.out; have := HK4.out; have := HK5.out; omega⟩, ⟨by (with_reducible repeat (first | apply Kd.R_alloc | apply Kd.R_drewN | apply Kd.R_drew)); exact HO_3.out⟩, ⟨by (with_reducible repeat (first | apply Kd.R_alloc | apply Kd.R_drewN | apply Kd.R_drew)); exact HO_4.out⟩, ⟨by (with_reducible repeat (first | apply Kd.Q_alloc | apply Kd.Q_drewN | apply Kd.Q_drew)); exact HO_5.out⟩, ⟨y7_ HB.out⟩⟩
                                  rw [if_neg c66] at H
                                  exact absurd H (by simp)
                                rw [if_neg c65] at H
                                exact absurd H (by simp)
                              rw [if_neg c64] at H
                              exact absurd H (by simp)
                            replace c63 := Bool.eq_false_iff.mpr c63
                            subst c63
                            have H1 : (some false) = some r := by rw [if_neg (show ¬ (false = true) by decide)] at H; exact H
                            clear H
                            have H := H1
                            clear H1
                            obtain rfl := Option.some.inj H
                            try go_wp2
                            have n0_ := Aside0.mk (Kd.R_drew HO_3.out)
                            have n1_ := Aside0.mk (Kd.R_drew HO_4.out)
                            have n2_ := Aside0.mk (Kd.Q_drew HO_5.out)
                            have n3_ := Aside0.mk (below_drew1 HB.out)
                            clear HO_3
                            clear HO_4
                            clear HO_5
                            clear HB
                            have HO_3 := n0_
                            have HO_4 := n1_
                            have HO_5 := n2_
                            have HB := n3_
                            clear n0_ n1_ n2_ n3_
                            refine start_ (n := 12) (S := fun w' => True) (ds := []) #[false, false, false, false, false, false, false, false, false, false, false, false] (by kernel_rfl) rfl rfl trivial (fun hHeld => ?_); refine with_tabW laws_FnKnwOpen.tab30 laws_FnKnwOpen.bits30 (fun HT_ HW_ => ?_)
                            generalize wr.drew = w73 at HO_3 HO_4 HO_5 HB hHeld ⊢
                            refine pure_ (i := 0) (N := some 129) (v := ?_) (a' := ?_) #[true, false, false, false, false, false, false, false, false, false, false, false] rfl rfl (any_of HT_.out (by kernel_rfl)) (fun _ _ _ h => h) (Or.inl ⟨by rfl, ?_⟩) ?_ ?_
                            rotate_left
                            · intro w'
                              go_simp
                              with_reducible rfl
                            rotate_left
                            · simp only [Act.put, List.setIfInBounds_toArray, List.set_cons_zero, List.set_cons_succ, i64_w, i32_w]
                              rfl
                            refine pure_ (i := 1) (N := some 130) (v := ?_) (a' := ?_) #[true, true, false, false, false, false, false, false, false, false, false, false] rfl rfl (any_of HT_.out (by kernel_rfl)) (fun _ _ _ h => h) (Or.inl ⟨by rfl, ?_⟩) ?_ ?_
                            rotate_left
                            · intro w'
                              go_simp
                              with_reducible rfl
                            rotate_left
                            · simp only [Act.put, List.setIfInBounds_toArray, List.set_cons_zero, List.set_cons_succ, i64_w, i32_w]
                              rfl
                            refine pure_ (i := 2) (N := some 131) (v := ?_) (a' := ?_) #[true, true, true, false, false, false, false, false, false, false, false, false] rfl rfl (any_of HT_.out (by kernel_rfl)) (fun _ _ _ h => h) (Or.inl ⟨by rfl, ?_⟩) ?_ ?_
                            rotate_left
                            · intro w'
                              go_simp
                              with_reducible rfl
                            rotate_left
                            · simp only [Act.put, List.setIfInBounds_toArray, List.set_cons_zero, List.set_cons_succ, i64_w, i32_w]
                              rfl
                            refine pure_ (i := 3) (N := some 132) (v := undef) (a' := ?_) #[true, true, true, true, false, false, false, false, false, false, false, false] rfl rfl (any_of HT_.out (by kernel_rfl)) (fun _ _ _ h => h) (Or.inr ⟨by rfl, rfl⟩) ?_ ?_
                            rotate_left
                            · simp only [Act.put, List.setIfInBounds_toArray, List.set_cons_zero, List.set_cons_succ, i64_w, i32_w]
                              rfl
                            refine pure_ (i := 4) (N := some 133) (v := undef) (a' := ?_) #[true, true, true, true, true, false, false, false, false, false, false, false] rfl rfl (any_of HT_.out (by kernel_rfl)) (fun _ _ _ h => h) (Or.inr ⟨by rfl, rfl⟩) ?_ ?_
                            rotate_left
                            · simp only [Act.put, List.setIfInBounds_toArray, List.set_cons_zero, List.set_cons_succ, i64_w, i32_w]
                              rfl
                            refine pure_ (i := 5) (N := some 134) (v := undef) (a' := ?_) #[true, true, true, true, true, true, false, false, false, false, false, false] rfl rfl (any_of HT_.out (by kernel_rfl)) (fun _ _ _ h => h) (Or.inr ⟨by rfl, rfl⟩) ?_ ?_
                            rotate_left
                            · simp only [Act.put, List.setIfInBounds_toArray, List.set_cons_zero, List.set_cons_succ, i64_w, i32_w]
                              rfl
                            refine pure_ (i := 6) (N := some 135) (v := undef) (a' := ?_) #[true, true, true, true, true, true, true, false, false, false, false, false] rfl rfl (any_of HT_.out (by kernel_rfl)) (fun _ _ _ h => h) (Or.inr ⟨by rfl, rfl⟩) ?_ ?_
                            rotate_left
                            · simp only [Act.put, List.setIfInBounds_toArray, List.set_cons_zero, List.set_cons_succ, i64_w, i32_w]
                              rfl
                            refine pure_ (i := 7) (N := some 136) (v := undef) (a' := ?_) #[true, true, true, true, true, true, true, true, false, false, false, false] rfl rfl (any_of HT_.out (by kernel_rfl)) (fun _ _ _ h => h) (Or.inr ⟨by rfl, rfl⟩) ?_ ?_
                            rotate_left
                            · simp only [Act.put, List.setIfInBounds_toArray, List.set_cons_zero, List.set_cons_succ, i64_w, i32_w]
                              rfl
                            refine pure_ (i := 8) (N := some 137) (v := undef) (a' := ?_) #[true, true, true, true, true, true, true, true, true, false, false, false] rfl rfl (any_of HT_.out (by kernel_rfl)) (fun _ _ _ h => h) (Or.inr ⟨by rfl, rfl⟩) ?_ ?_
                            rotate_left
                            · simp only [Act.put, List.setIfInBounds_toArray, List.set_cons_zero, List.set_cons_succ, i64_w, i32_w]
                              rfl
                            refine pure_ (i := 9) (N := some 138) (v := undef) (a' := ?_) #[true, true, true, true, true, true, true, true, true, true, false, false] rfl rfl (any_of HT_.out (by kernel_rfl)) (fun _ _ _ h => h) (Or.inr ⟨by rfl, rfl⟩) ?_ ?_
                            rotate_left
                            · simp only [Act.put, List.setIfInBounds_toArray, List.set_cons_zero, List.set_cons_succ, i64_w, i32_w]
                              rfl
                            refine pure_ (i := 10) (N := some 139) (v := undef) (a' := ?_) #[true, true, true, true, true, true, true, true, true, true, true, false] rfl rfl (any_of HT_.out (by kernel_rfl)) (fun _ _ _ h => h) (Or.inr ⟨by rfl, rfl⟩) ?_ ?_
                            rotate_left
                            · simp only [Act.put, List.setIfInBounds_toArray, List.set_cons_zero, List.set_cons_succ, i64_w, i32_w]
                              rfl
                            refine pure_ (i := 11) (N := some 140) (v := ?_) (a' := ?_) #[true, true, true, true, true, true, true, true, true, true, true, true] rfl rfl (any_of HT_.out (by kernel_rfl)) (fun _ _ _ h => h) (Or.inl ⟨by rfl, ?_⟩) ?_ ?_
                            rotate_left
                            · intro w'
                              go_simp
                              with_reducible rfl
                            rotate_left
                            · simp only [Act.put, List.setIfInBounds_toArray, List.set_cons_zero, List.set_cons_succ, i64_w, i32_w]
                              rfl
                            refine done_ (done_of HT_.out (by kernel_rfl)) ?_
                            try go_wp2
                            go_ret
                            exact ⟨y6_, y7_ HB.out⟩
                      rw [if_neg c50] at H
                      exact absurd H (by simp)
                    rw [if_neg c49] at H
                    have c49b0 : decide (x9_4 < (t315.length : Int)) = false := decide_eq_false c49
                    clear c49
                    have H' := Aside0.mk H
                    clear H
                    go_wp2
                    go_loopg [12] k4 (fun kq v12 w' => ∃ (x12_5 : Int), v12 = .int .i64 x12_5 ∧ Aside0 (laws_FnKnwOpen.l5 kq t310 t315 x12_5 = some r) ∧ Aside0 (kq ≤ k4) ∧ Aside0 (Kd.R k45 45 w' w.heap.size (fun _ => True) (.slice Ao10 t310.length co10) t310) ∧ Aside0 (Kd.Q Kd.string 9 w' w.heap.size (fun _ => True) (.slice Ao13 t315.length co13) t315) ∧ Aside0 (Below w.heap.size w w'))
                    case atStart => exact ⟨(0), y4_, H', ⟨Nat.le_refl _⟩, ⟨by (with_reducible repeat (first | apply Kd.R_alloc | apply Kd.R_drewN | apply Kd.R_drew)); exact HO_4.out⟩, ⟨by (with_reducible repeat (first | apply Kd.Q_alloc | apply Kd.Q_drewN | apply Kd.Q_drew)); exact Kd.Q_mono HO_5.out (fun _ hk => trivial)⟩, ⟨y7_ HB.out⟩⟩
                    case round =>
                      clear H'
                      try clear c1
                      try clear p2
                      try clear p3
                      try clear q3
                      try clear hx3
                      try clear c4
                      try clear c5
                      try clear c6
                      try clear p6
                      try clear q7
                      try clear c18
                      try clear p34
                      try clear q34
                      try clear hx34
                      try clear c49
                      try clear c49b0
                      try clear c50
                      try clear c52
                      try clear c52b0
                      try clear c55
                      try clear c56
                      try clear c57
                      try clear c63
                      try clear c64
                      try clear c64b0
                      try clear c64b1
                      try clear p64
                      try clear c65
                      try clear c65b0
                      try clear c65b1
                      try clear c66
                      try clear c66b0
                      try clear c68
                      try clear q70
                      try clear q72
                      try clear hx343_0
                      try clear p343
                      try clear q343
                      try clear q70
                      try clear q72
                      obtain ⟨x12_5, rfl, HA, HK5, HO_4, HO_5, HB⟩ := hrel
                      cases gk with
                      | zero => exact absurd HA.out (by simp [laws_FnKnwOpen.l5])
                      | succ k5 =>
                        have H := HA.out
                        clear HA
                        simp only [laws_FnKnwOpen.l5] at H
                        by_cases c74 : x12_5 < (t310.length : Int)
                        · rw [if_pos c74] at H
                          have c74b0 : decide (x12_5 < (t310.length : Int)) = true := decide_eq_true c74
                          clear c74
                          by_cases c75 : 0 ≤ x12_5
                          · rw [if_pos c75] at H
                            have c75b0 : decide (0 ≤ x12_5) = true := decide_eq_true c75
                            clear c75
                            replace H := Option.bind_eq_some_iff.mp H
                            obtain ⟨t346, A760, H⟩ := H
                            replace H : (if t346 = true then ((laws_keHas.f k5 t315 ((rd_T45 t310 x12_5).f1)).bind fun t348 => (if t348 = true then (laws_FnKnwOpen.l5 k5 t310 t315 (wrap64 (x12_5 + 1))) else (some false))) else (laws_FnKnwOpen.l5 k5 t310 t315 (wrap64 (x12_5 + 1)))) = some r := H
                            have A76 := Aside0.mk A760
                            clear A760
                            by_cases c77 : t346 = true
                            · subst c77
                              have H1 : ((laws_keHas.f k5 t315 ((rd_T45 t310 x12_5).f1)).bind fun t348 => (if t348 = true then (laws_FnKnwOpen.l5 k5 t310 t315 (wrap64 (x12_5 + 1))) else (some false))) = some r := by rw [if_pos rfl] at H; exact H
                              clear H
                              have H := H1
                              clear H1
                              replace H := Option.bind_eq_some_iff.mp H
                              obtain ⟨t348, A780, H⟩ := H
                              replace H : (if t348 = true then (laws_FnKnwOpen.l5 k5 t310 t315 (wrap64 (x12_5 + 1))) else (some false)) = some r := H
                              have A78 := Aside0.mk A780
                              clear A780
                              by_cases c79 : t348 = true
                              · subst c79
                                have H1 : (laws_FnKnwOpen.l5 k5 t310 t315 (wrap64 (x12_5 + 1))) = some r := by rw [if_pos rfl] at H; exact H
                                clear H
                                have H := H1
                                clear H1
                                have H' := Aside0.mk H
                                clear H
                                have p345 : 0 ≤ (x12_5 : Int) := of_decide_eq_true y3_
                                have q345 : x12_5 < (t310.length : Int) := of_decide_eq_true y3_
                                obtain ⟨ad345, e345, hx345_0, hx345_1⟩ := at_T45 (Kd.R_reads' HO_4.out).2.2 x12_5 p345 q345
                                cases e345
                                replace p345 := eq_true p345
                                replace q345 := eq_true q345
                                go_wp2_with (first | ((with_reducible refine gate_callee (f := 14) rfl ?_); refine goesL_ (some 153) rfl rfl Tryd.func14 (by kernel_rfl) rfl #[.slice Ao13 t315.length co13, .string ((rd_T45 t310 x12_5).f0)] rfl y1_ ?_; (with_reducible refine (impl_KnwMake.calls _ _ t315 ((rd_T45 t310 x12_5).f0) true _ ?side1 ?side2 ?side3 A76.out).mono ?_); (case side1 => repeat (first | exact (Kd.Q_reads' HO_5.out).2.2 | (with_reducible refine Kd.C_alloc ?_ _) | (with_reducible refine Kd.C_drewN ?_ _) | (with_reducible refine Kd.C_drew ?_))); (case side2 => exact (Kd.Q_reads' HO_5.out).2.1); (case side3 => exact GlobOk.below HGL.out (y7_ HB.out)); rintro e w80 ⟨rfl, hb⟩; refine ⟨_, rfl, ?_⟩; replace HO_4 := Aside0.mk (Kd.R_below (y11_ HO_4.out) hb); replace HO_5 := Aside0.mk (Kd.Q_below (y13_ HO_5.out) hb); replace HB := Aside0.mk (below_step (y7_ HB.out) hb); clear hb; have p347 : 0 ≤ (x12_5 : Int) := of_decide_eq_true y3_; have q347 : x12_5 < (t310.length : Int) := of_decide_eq_true y3_; obtain ⟨ad347, e347, hx347_0, hx347_1⟩ := at_T45 (Kd.R_reads' HO_4.out).2.2 x12_5 p347 q347; obtain rfl : ad345 = ad347 := (by injection e347); replace p347 := eq_true p347; replace q347 := eq_true q347) | (go_at_call 18; (with_reducible refine (laws_keHas.calls k5 _ _ t315 ((rd_T45 t310 x12_5).f1) true _ ?side1 ?side2 A78.out).mono ?_); (case side1 => repeat (first | exact (Kd.Q_reads' HO_5.out).2.2 | (with_reducible refine Kd.C_alloc ?_ _) | (with_reducible refine Kd.C_drewN ?_ _) | (with_reducible refine Kd.C_drew ?_))); (case side2 => exact (Kd.Q_reads' HO_5.out).2.1); rintro e w' ⟨rfl, ⟨nd, rfl⟩⟩))
                                go_roundg k5
                                case measure => have := HK1.out; have := HK2.out; have := HK3.out; have := HK4.out; have := HK5.out; omega
                                case rel => exact ⟨(wrap64 (x12_5 + 1)), y4_, H', ⟨by have := HK1.out; have := HK2.out; have := HK3.out; have := HK4.out; have := HK5.out; omega⟩, ⟨by (with_reducible repeat (first | apply Kd.R_alloc | apply Kd.R_drewN | apply Kd.R_drew)); exact HO_4.out⟩, ⟨by (with_reducible repeat (first | apply Kd.Q_alloc | apply Kd.Q_drewN | apply Kd.Q_drew)); exact HO_5.out⟩, ⟨y7_ HB.out⟩⟩
                              replace c79 := Bool.eq_false_iff.mpr c79
                              subst c79
                              have H1 : (some false) = some r := by rw [if_neg (show ¬ (false = true) by decide)] at H; exact H
                              clear H
                              have H := H1
                              clear H1
                              obtain rfl := Option.some.inj H
                              have p345 : 0 ≤ (x12_5 : Int) := of_decide_eq_true y3_
                              have q345 : x12_5 < (t310.length : Int) := of_decide_eq_true y3_
                              obtain ⟨ad345, e345, hx345_0, hx345_1⟩ := at_T45 (Kd.R_reads' HO_4.out).2.2 x12_5 p345 q345
                              cases e345
                              replace p345 := eq_true p345
                              replace q345 := eq_true q345
                              go_wp2_with (first | ((with_reducible refine gate_callee (f := 14) rfl ?_); refine goesL_ (some 153) rfl rfl Tryd.func14 (by kernel_rfl) rfl #[.slice Ao13 t315.length co13, .string ((rd_T45 t310 x12_5).f0)] rfl y1_ ?_; (with_reducible refine (impl_KnwMake.calls _ _ t315 ((rd_T45 t310 x12_5).f0) true _ ?side1 ?side2 ?side3 A76.out).mono ?_); (case side1 => repeat (first | exact (Kd.Q_reads' HO_5.out).2.2 | (with_reducible refine Kd.C_alloc ?_ _) | (with_reducible refine Kd.C_drewN ?_ _) | (with_reducible refine Kd.C_drew ?_))); (case side2 => exact (Kd.Q_reads' HO_5.out).2.1); (case side3 => exact GlobOk.below HGL.out (y7_ HB.out)); rintro e w81 ⟨rfl, hb⟩; refine ⟨_, rfl, ?_⟩; replace HO_4 := Aside0.mk (Kd.R_below (y11_ HO_4.out) hb); replace HO_5 := Aside0.mk (Kd.Q_below (y13_ HO_5.out) hb); replace HB := Aside0.mk (below_step (y7_ HB.out) hb); clear hb; have p347 : 0 ≤ (x12_5 : Int) := of_decide_eq_true y3_; have q347 : x12_5 < (t310.length : Int) := of_decide_eq_true y3_; obtain ⟨ad347, e347, hx347_0, hx347_1⟩ := at_T45 (Kd.R_reads' HO_4.out).2.2 x12_5 p347 q347; obtain rfl : ad345 = ad347 := (by injection e347); replace p347 := eq_true p347; replace q347 := eq_true q347) | (go_at_call 18; (with_reducible refine (laws_keHas.calls k5 _ _ t315 ((rd_T45 t310 x12_5).f1) false _ ?side1 ?side2 A78.out).mono ?_); (case side1 => repeat (first | exact (Kd.Q_reads' HO_5.out).2.2 | (with_reducible refine Kd.C_alloc ?_ _) | (with_reducible refine Kd.C_drewN ?_ _) | (with_reducible refine Kd.C_drew ?_))); (case side2 => exact (Kd.Q_reads' HO_5.out).2.1); rintro e w' ⟨rfl, ⟨nd, rfl⟩⟩))
                              go_ret
                              exact ⟨y6_, y7_ HB.out⟩
                            replace c77 := Bool.eq_false_iff.mpr c77
                            subst c77
                            have H1 : (laws_FnKnwOpen.l5 k5 t310 t315 (wrap64 (x12_5 + 1))) = some r := by rw [if_neg (show ¬ (false = true) by decide)] at H; exact H
                            clear H
                            have H := H1
                            clear H1
                            have H' := Aside0.mk H
                            clear H
                            have p345 : 0 ≤ (x12_5 : Int) := of_decide_eq_true y3_
                            have q345 : x12_5 < (t310.length : Int) := of_decide_eq_true y3_
                            obtain ⟨ad345, e345, hx345_0, hx345_1⟩ := at_T45 (Kd.R_reads' HO_4.out).2.2 x12_5 p345 q345
                            cases e345
                            replace p345 := eq_true p345
                            replace q345 := eq_true q345
                            go_wp2_with (first | ((with_reducible refine gate_callee (f := 14) rfl ?_); refine goesL_ (some 153) rfl rfl Tryd.func14 (by kernel_rfl) rfl #[.slice Ao13 t315.length co13, .string ((rd_T45 t310 x12_5).f0)] rfl y1_ ?_; (with_reducible refine (impl_KnwMake.calls _ _ t315 ((rd_T45 t310 x12_5).f0) false _ ?side1 ?side2 ?side3 A76.out).mono ?_); (case side1 => repeat (first | exact (Kd.Q_reads' HO_5.out).2.2 | (with_reducible refine Kd.C_alloc ?_ _) | (with_reducible refine Kd.C_drewN ?_ _) | (with_reducible refine Kd.C_drew ?_))); (case side2 => exact (Kd.Q_reads' HO_5.out).2.1); (case side3 => exact GlobOk.below HGL.out (y7_ HB.out)); rintro e w82 ⟨rfl, hb⟩; refine ⟨_, rfl, ?_⟩; replace HO_4 := Aside0.mk (Kd.R_below (y11_ HO_4.out) hb); replace HO_5 := Aside0.mk (Kd.Q_below (y13_ HO_5.out) hb); replace HB := Aside0.mk (below_step (y7_ HB.out) hb); clear hb))
                            go_roundg k5
                            case measure => have := HK1.out; have := HK2.out; have := HK3.out; have := HK4.out; have := HK5.out; omega
                            case rel => exact ⟨(wrap64 (x12_5 + 1)), y4_, H', ⟨by have := HK1.out; have := HK2.out; have := HK3.out; have := HK4.out; have := HK5.out; omega⟩, ⟨by (with_reducible repeat (first | apply Kd.R_alloc | apply Kd.R_drewN | apply Kd.R_drew)); exact HO_4.out⟩, ⟨by (with_reducible repeat (first | apply Kd.Q_alloc | apply Kd.Q_drewN | apply Kd.Q_drew)); exact HO_5.out⟩, ⟨y7_ HB.out⟩⟩
                          rw [if_neg c75] at H
                          exact absurd H (by simp)
                        rw [if_neg c74] at H
                        have c74b0 : decide (x12_5 < (t310.length : Int)) = false := decide_eq_false c74
                        clear c74
                        replace H := Option.bind_eq_some_iff.mp H
                        obtain ⟨t349, A830, H⟩ := H
                        replace H : ((laws_keTexts.f k5 t349 t315).bind fun t352 => (if t352 = true then ((laws_keOk.f).bind fun t353 => (some t353)) else (some false))) = some r := H
                        have A83 := Aside0.mk A830
                        clear A830
                        replace H := Option.bind_eq_some_iff.mp H
                        obtain ⟨t352, A840, H⟩ := H
                        replace H : (if t352 = true then ((laws_keOk.f).bind fun t353 => (some t353)) else (some false)) = some r := H
                        have A84 := Aside0.mk A840
                        clear A840
                        by_cases c85 : t352 = true
                        · subst c85
                          have H1 : ((laws_keOk.f).bind fun t353 => (some t353)) = some r := by rw [if_pos rfl] at H; exact H
                          clear H
                          have H := H1
                          clear H1
                          replace H := Option.bind_eq_some_iff.mp H
                          obtain ⟨t353, A860, H⟩ := H
                          replace H : (some t353) = some r := H
                          have A86 := Aside0.mk A860
                          clear A860
                          obtain rfl := Option.some.inj H
                          go_wp2_with (first | ((with_reducible refine gate_callee (f := 12) rfl ?_); refine goesL_ (some 166) rfl rfl Tryd.func12 (by kernel_rfl) rfl #[.slice Ao13 t315.length co13, .slice Ao10 t310.length co10] rfl y1_ ?_; (with_reducible refine (impl_KnwOpen.calls _ _ t315 _ _ t310 t349 _ ?side1 ?side2 ?side3 ?side4 ?side5 A83.out).mono ?_); (case side1 => repeat (first | exact (Kd.Q_reads' HO_5.out).2.2 | (with_reducible refine Kd.C_alloc ?_ _) | (with_reducible refine Kd.C_drewN ?_ _) | (with_reducible refine Kd.C_drew ?_))); (case side2 => exact (Kd.Q_reads' HO_5.out).2.1); (case side3 => repeat (first | exact (Kd.R_reads' HO_4.out).2.2 | (with_reducible refine Kd.C_alloc ?_ _) | (with_reducible refine Kd.C_drewN ?_ _) | (with_reducible refine Kd.C_drew ?_))); (case side4 => exact (Kd.R_reads' HO_4.out).2.1); (case side5 => exact GlobOk.below HGL.out (y7_ HB.out)); rintro e w87 ⟨v350, rfl, ho0, hb⟩; refine ⟨_, rfl, ?_⟩; replace HO_4 := Aside0.mk (Kd.R_below (y11_ HO_4.out) hb); have HO351 := Aside0.mk (Kd.Q_lower (Kd.Q_new' ho0 (Kd.Q_lt (y13_ HO_5.out))) (below_size (y7_ HB.out))); replace HO_5 := Aside0.mk (Kd.Q_elder' (y13_ HO_5.out) (Kd.Q_base ho0) hb); replace HB := Aside0.mk (below_step (y7_ HB.out) hb); (try clear hb); (try clear hb2); (try clear hk); (try clear hi); (try clear ho0); obtain ⟨Ao88, co88, eo88, _⟩ := Kd.Q_slice HO351.out; subst eo88) | ((with_reducible refine gate_callee (f := 29) rfl ?_); refine goesL_ (some 168) rfl rfl Tryd.func29 (by kernel_rfl) rfl #[.slice Ao88 t349.length co88, .slice Ao13 t315.length co13] rfl y1_ ?_; (with_reducible refine (laws_keTexts.calls k5 _ _ t349 _ _ t315 true _ ?side1 ?side2 ?side3 ?side4 A84.out).mono ?_); (case side1 => repeat (first | exact (Kd.Q_reads' HO351.out).2.2 | (with_reducible refine Kd.C_alloc ?_ _) | (with_reducible refine Kd.C_drewN ?_ _) | (with_reducible refine Kd.C_drew ?_))); (case side2 => exact (Kd.Q_reads' HO351.out).2.1); (case side3 => repeat (first | exact (Kd.Q_reads' HO_5.out).2.2 | (with_reducible refine Kd.C_alloc ?_ _) | (with_reducible refine Kd.C_drewN ?_ _) | (with_reducible refine Kd.C_drew ?_))); (case side4 => exact (Kd.Q_reads' HO_5.out).2.1); rintro e w' ⟨rfl, ⟨nd, rfl⟩⟩; refine ⟨_, rfl, ?_⟩) | (go_at_call 15; (with_reducible refine (laws_keOk.calls  t353 _ ?side1 A86.out).mono ?_); (case side1 => exact GlobOk.below HGL.out (y7_ HB.out)); rintro e w89 ⟨rfl, hb⟩; replace HO_4 := Aside0.mk (Kd.R_below (y11_ HO_4.out) hb); replace HO_5 := Aside0.mk (Kd.Q_below (y13_ HO_5.out) hb); replace HO351 := Aside0.mk (Kd.Q_below (y13_ HO351.out) hb); replace HB := Aside0.mk (below_step (y7_ HB.out) hb); clear hb))
                          go_ret
                          exact ⟨y6_, y7_ HB.out⟩
                        replace c85 := Bool.eq_false_iff.mpr c85
                        subst c85
                        have H1 : (some false) = some r := by rw [if_neg (show ¬ (false = true) by decide)] at H; exact H
                        clear H
                        have H := H1
                        clear H1
                        obtain rfl := Option.some.inj H
                        go_wp2_with (first | ((with_reducible refine gate_callee (f := 12) rfl ?_); refine goesL_ (some 166) rfl rfl Tryd.func12 (by kernel_rfl) rfl #[.slice Ao13 t315.length co13, .slice Ao10 t310.length co10] rfl y1_ ?_; (with_reducible refine (impl_KnwOpen.calls _ _ t315 _ _ t310 t349 _ ?side1 ?side2 ?side3 ?side4 ?side5 A83.out).mono ?_); (case side1 => repeat (first | exact (Kd.Q_reads' HO_5.out).2.2 | (with_reducible refine Kd.C_alloc ?_ _) | (with_reducible refine Kd.C_drewN ?_ _) | (with_reducible refine Kd.C_drew ?_))); (case side2 => exact (Kd.Q_reads' HO_5.out).2.1); (case side3 => repeat (first | exact (Kd.R_reads' HO_4.out).2.2 | (with_reducible refine Kd.C_alloc ?_ _) | (with_reducible refine Kd.C_drewN ?_ _) | (with_reducible refine Kd.C_drew ?_))); (case side4 => exact (Kd.R_reads' HO_4.out).2.1); (case side5 => exact GlobOk.below HGL.out (y7_ HB.out)); rintro e w90 ⟨v350, rfl, ho0, hb⟩; refine ⟨_, rfl, ?_⟩; replace HO_4 := Aside0.mk (Kd.R_below (y11_ HO_4.out) hb); have HO351 := Aside0.mk (Kd.Q_lower (Kd.Q_new' ho0 (Kd.Q_lt (y13_ HO_5.out))) (below_size (y7_ HB.out))); replace HO_5 := Aside0.mk (Kd.Q_elder' (y13_ HO_5.out) (Kd.Q_base ho0) hb); replace HB := Aside0.mk (below_step (y7_ HB.out) hb); (try clear hb); (try clear hb2); (try clear hk); (try clear hi); (try clear ho0); obtain ⟨Ao91, co91, eo91, _⟩ := Kd.Q_slice HO351.out; subst eo91) | ((with_reducible refine gate_callee (f := 29) rfl ?_); refine goesL_ (some 168) rfl rfl Tryd.func29 (by kernel_rfl) rfl #[.slice Ao91 t349.length co91, .slice Ao13 t315.length co13] rfl y1_ ?_; (with_reducible refine (laws_keTexts.calls k5 _ _ t349 _ _ t315 false _ ?side1 ?side2 ?side3 ?side4 A84.out).mono ?_); (case side1 => repeat (first | exact (Kd.Q_reads' HO351.out).2.2 | (with_reducible refine Kd.C_alloc ?_ _) | (with_reducible refine Kd.C_drewN ?_ _) | (with_reducible refine Kd.C_drew ?_))); (case side2 => exact (Kd.Q_reads' HO351.out).2.1); (case side3 => repeat (first | exact (Kd.Q_reads' HO_5.out).2.2 | (with_reducible refine Kd.C_alloc ?_ _) | (with_reducible refine Kd.C_drewN ?_ _) | (with_reducible refine Kd.C_drew ?_))); (case side4 => exact (Kd.Q_reads' HO_5.out).2.1); rintro e w' ⟨rfl, ⟨nd, rfl⟩⟩; refine ⟨_, rfl, ?_⟩))
                        go_ret
                        exact ⟨y6_, y7_ HB.out⟩
  replace c7 := Bool.eq_false_iff.mpr c7
  subst c7
  have H1 : (some false) = some r := by rw [if_neg (show ¬ (false = true) by decide)] at H; exact H
  clear H
  have H := H1
  clear H1
  obtain rfl := Option.some.inj H
  go_enter Tryd.func10, Tryd.ntmps10
  go_wp2_with (first | ((with_reducible refine gate_callee (f := 32) rfl ?_); refine goesL_ (some 18) rfl rfl Tryd.func32 (by kernel_rfl) rfl #[.slice A0 l0.length c0] rfl y1_ ?_; (with_reducible refine (spec_DrawKnwOpen.calls k _ _ l0 t309 t310 _ ?side1 ?side2 A3.out).mono ?_); (case side1 => repeat (first | exact HR0.out | (with_reducible refine Kd.C_alloc ?_ _) | (with_reducible refine Kd.C_drewN ?_ _) | (with_reducible refine Kd.C_drew ?_))); (case side2 => exact HC0.out); rintro e w92 ⟨v311, v313, rfl, ho0, ho1, hb⟩; refine ⟨_, rfl, ?_⟩; have HO312 := Aside0.mk (Kd.R_lower ho0 (below_size (y7_ HB.out))); have HO314 := Aside0.mk (Kd.R_lower ho1 (below_size (y7_ HB.out))); replace HB := Aside0.mk (below_step (y7_ HB.out) hb); (try clear hb); (try clear hb2); (try clear hk); (try clear hi); (try clear ho0); (try clear ho1); obtain ⟨Ao93, co93, eo93⟩ := Kd.R_slice HO312.out; subst eo93; obtain ⟨Ao94, co94, eo94⟩ := Kd.R_slice HO314.out; subst eo94) | ((with_reducible refine gate_callee (f := 12) rfl ?_); refine goesL_ (some 23) rfl rfl Tryd.func12 (by kernel_rfl) rfl #[.slice Ao93 t309.length co93, .slice Ao94 t310.length co94] rfl y1_ ?_; (with_reducible refine (impl_KnwOpen.calls _ _ t309 _ _ t310 t315 _ ?side1 ?side2 ?side3 ?side4 ?side5 A4.out).mono ?_); (case side1 => repeat (first | exact (Kd.R_reads' HO312.out).2.2 | (with_reducible refine Kd.C_alloc ?_ _) | (with_reducible refine Kd.C_drewN ?_ _) | (with_reducible refine Kd.C_drew ?_))); (case side2 => exact (Kd.R_reads' HO312.out).2.1); (case side3 => repeat (first | exact (Kd.R_reads' HO314.out).2.2 | (with_reducible refine Kd.C_alloc ?_ _) | (with_reducible refine Kd.C_drewN ?_ _) | (with_reducible refine Kd.C_drew ?_))); (case side4 => exact (Kd.R_reads' HO314.out).2.1); (case side5 => exact GlobOk.below HGL.out (y7_ HB.out)); rintro e w95 ⟨v316, rfl, ho0, hb⟩; refine ⟨_, rfl, ?_⟩; replace HO314 := Aside0.mk (Kd.R_below (y11_ HO314.out) hb); have HO317 := Aside0.mk (Kd.Q_lower (Kd.Q_new' ho0 (Kd.R_lt (y11_ HO312.out))) (below_size (y7_ HB.out))); replace HO312 := Aside0.mk (Kd.R_elder' (y11_ HO312.out) (Kd.Q_base ho0) hb); replace HB := Aside0.mk (below_step (y7_ HB.out) hb); (try clear hb); (try clear hb2); (try clear hk); (try clear hi); (try clear ho0)) | ((with_reducible refine gate_callee (f := 30) rfl ?_); refine goesL_ (some 27) rfl rfl Tryd.func30 (by kernel_rfl) rfl #[.slice Ao93 t309.length co93, .slice Ao94 t310.length co94] rfl y1_ ?_; (with_reducible refine (spec_KnwOpen.calls k _ _ t309 _ _ t310 t318 _ ?side1 ?side2 ?side3 ?side4 A5.out).mono ?_); (case side1 => repeat (first | exact (Kd.R_reads' HO312.out).2.2 | (with_reducible refine Kd.C_alloc ?_ _) | (with_reducible refine Kd.C_drewN ?_ _) | (with_reducible refine Kd.C_drew ?_))); (case side2 => exact (Kd.R_reads' HO312.out).2.1); (case side3 => repeat (first | exact (Kd.R_reads' HO314.out).2.2 | (with_reducible refine Kd.C_alloc ?_ _) | (with_reducible refine Kd.C_drewN ?_ _) | (with_reducible refine Kd.C_drew ?_))); (case side4 => exact (Kd.R_reads' HO314.out).2.1); rintro e w96 ⟨v319, rfl, ho0, hb⟩; refine ⟨_, rfl, ?_⟩; replace HO314 := Aside0.mk (Kd.R_below (y11_ HO314.out) hb); have HO320 := Aside0.mk (Kd.R_lower (Kd.R_new' (Kd.R_new' ho0 (Kd.R_lt (y11_ HO312.out))) (Kd.Q_lt (y13_ HO317.out))) (below_size (y7_ HB.out))); replace HO312 := Aside0.mk (Kd.R_elder' (y11_ HO312.out) (Kd.R_base ho0) hb); replace HO317 := Aside0.mk (Kd.Q_elder' (y13_ HO317.out) (Kd.R_base ho0) hb); replace HB := Aside0.mk (below_step (y7_ HB.out) hb); (try clear hb); (try clear hb2); (try clear hk); (try clear hi); (try clear ho0); obtain ⟨Ao97, co97, eo97, _⟩ := Kd.Q_slice HO317.out; subst eo97; obtain ⟨Ao98, co98, eo98⟩ := Kd.R_slice HO320.out; subst eo98) | ((with_reducible refine gate_callee (f := 29) rfl ?_); refine goesL_ (some 28) rfl rfl Tryd.func29 (by kernel_rfl) rfl #[.slice Ao97 t315.length co97, .slice Ao98 t318.length co98] rfl y1_ ?_; (with_reducible refine (laws_keTexts.calls k _ _ t315 _ _ t318 false _ ?side1 ?side2 ?side3 ?side4 A6.out).mono ?_); (case side1 => repeat (first | exact (Kd.Q_reads' HO317.out).2.2 | (with_reducible refine Kd.C_alloc ?_ _) | (with_reducible refine Kd.C_drewN ?_ _) | (with_reducible refine Kd.C_drew ?_))); (case side2 => exact (Kd.Q_reads' HO317.out).2.1); (case side3 => repeat (first | exact (Kd.R_reads' HO320.out).2.2 | (with_reducible refine Kd.C_alloc ?_ _) | (with_reducible refine Kd.C_drewN ?_ _) | (with_reducible refine Kd.C_drew ?_))); (case side4 => exact (Kd.R_reads' HO320.out).2.1); rintro e w' ⟨rfl, ⟨nd, rfl⟩⟩; refine ⟨_, rfl, ?_⟩))
  go_ret
  exact ⟨y6_, y7_ HB.out⟩

/-- THE ONE PURE STATEMENT of laws_FnKnwOpen: yours. -/
def laws_FnKnwOpen.Pure : Prop := ∀ (l0 : List Int), l0.length ≤ maxLen → l0.length * 1 ≤ 140737488351232 → (∀ x ∈ l0, (Lit.int .u8 x).wf = true) → ∃ k, laws_FnKnwOpen.f k l0 = some true
theorem laws_FnKnwOpen.walk (P : laws_FnKnwOpen.Pure) (a0 : Option Addr) (len0 cap0 : Nat) (z0 : List Int) (w : World) (w0 : (a0 = none ∧ len0 = 0 ∧ cap0 = 0 ∧ z0 = []) ∨ ∃ x, a0 = some x ∧ len0 ≤ cap0 ∧ cap0 ≤ maxLen ∧ z0.length = cap0 ∧ (∀ i, i < z0.length → w.cell? (x.add i) = some (.int .u8 (z0.getD i 0))) ∧ ∀ n ∈ z0, (Lit.int .u8 n).wf = true) (y0 : len0 * 1 ≤ 140737488351232) (hG : GlobOk w) :
    Calls Tryd.prog 10 #[.slice a0 len0 cap0] w fun e w' => e = .returned (.bool true) ∧ Below w.heap.size w w' := by
  obtain ⟨l0, rfl, hr0, hm0, hw0, hc0⟩ := ReadsInt.ofRowC w0
  obtain ⟨k, h⟩ := P l0 hm0 y0 hw0
  refine (laws_FnKnwOpen.calls k _ _ l0 true w (Kd.C_of_reads (d := (0 : Int)) (h1 := fun _ => rfl) hr0) hc0 hG h).mono ?_
  rintro e w' ⟨rfl, hd⟩
  exact ⟨rfl, hd⟩

end Go.Proofs.YtjbnfcljkmapeaaDoor.Yo
