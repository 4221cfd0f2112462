-- Written by this session's own program (wip/tools/pp.py) out of the translation, over functions given by hand. Lean checks it.
import Derived.Test.YtjbnfcljkmapeaaDoorYmx0
import Derived.Test.YtjbnfcljkmapeaaDoorYmx1
import Derived.Test.YtjbnfcljkmapeaaDoorYmx6
import Derived.Test.YtjbnfcljkmapeaaDoorYmx11
import Derived.Test.YtjbnfcljkmapeaaDoorYmx15
import Derived.Test.YtjbnfcljkmapeaaDoorYmGivK
namespace Go.Proofs.YtjbnfcljkmapeaaDoor.Ym
open Go.RowKit Go.Proofs.YtjbnfcljkmapeaaDoorW.PrintWords Go.Proofs.YtjbnfcljkmapeaaDoorW.PrintLast Go.Proofs.YtjbnfcljkmapeaaDoorW.PrintMore
attribute [local go_sem] max2_int min2_int max_two min_two max_three min_three max_four min_four   -- for this text's walks alone
set_option linter.unusedVariables false
set_option linter.unusedSimpArgs false

/-! ### laws_FnKnwMake: function 8 -/
mutual
def laws_FnKnwMake.j0 : Nat → List Int → List Int → Bool → Option (Bool)
  | 0, _, _, _ => none
  | k + 1, x0, x1, x21 => if x21 = true then (some true) else ((spec_DrawKnwMake.f k x0).bind fun bt265 => ((spec_DrawKnwMake.f k x1).bind fun bt269 => ((impl_KnwMake.f bt265.1 bt265.2).bind fun t273 => ((spec_KnwMake.f k bt265.1 bt265.2).bind fun t274 => (if (t273 != t274) = true then (some false) else (laws_FnKnwMake.l0 k bt265.1 bt265.2 bt269.1 t273 0))))))
def laws_FnKnwMake.l0 : Nat → List ByteArray → ByteArray → List ByteArray → Bool → Int → Option (Bool)
  | 0, _, _, _, _, _ => none
  | k + 1, x5, x6, x7, x9, x10 => if x10 < (x5.length : Int) then (if 0 ≤ x10 then ((spec_SecOk.f k (rdOf ByteArray.empty x5 x10)).bind fun t276 => (if t276 = true then (laws_FnKnwMake.l0 k x5 x6 x7 x9 (wrap64 (x10 + 1))) else (if x9 = true then (some false) else ((laws_keOk.f).bind fun t277 => (some t277))))) else (none)) else (laws_FnKnwMake.l1 k x5 x6 x7 x9 0)
def laws_FnKnwMake.l1 : Nat → List ByteArray → ByteArray → List ByteArray → Bool → Int → Option (Bool)
  | 0, _, _, _, _, _ => none
  | k + 1, x5, x6, x7, x9, x11 => if x11 < (x7.length : Int) then (if 0 ≤ x11 then ((spec_SecOk.f k (rdOf ByteArray.empty x7 x11)).bind fun t279 => (if t279 = true then (laws_FnKnwMake.l1 k x5 x6 x7 x9 (wrap64 (x11 + 1))) else ((laws_keOk.f).bind fun t280 => (some t280)))) else (none)) else ((some (([] : List ByteArray) : List ByteArray)).bind fun y281 => (if y281.length + x5.length < 8796093022208 then ((some (y281 ++ x5 : List ByteArray)).bind fun y284 => (if y284.length + x7.length < 8796093022208 then (laws_FnKnwMake.l2 k x5 x6 x9 (y284 ++ x7) 0) else (none))) else (none)))
def laws_FnKnwMake.l2 : Nat → List ByteArray → ByteArray → Bool → List ByteArray → Int → Option (Bool)
  | 0, _, _, _, _, _ => none
  | k + 1, x5, x6, x9, x12, x13 => if x13 < (x5.length : Int) then (if 0 ≤ x13 then ((impl_KnwMake.f x5 (rdOf ByteArray.empty x5 x13)).bind fun t291 => (if t291 = true then (laws_FnKnwMake.l2 k x5 x6 x9 x12 (wrap64 (x13 + 1))) else (some false))) else (none)) else (if x9 = true then ((impl_KnwMake.f x12 x6).bind fun t293 => (if t293 = true then (if (x6.size : Int) ≥ 300 then (some true) else ((impl_MakNext.f k x6).bind fun t294 => ((impl_KnwMake.f x5 t294).bind fun t295 => (if t295 = true then ((impl_MakKey.f k x6).bind fun t296 => ((impl_KnwMake.f x5 t296).bind fun t297 => (some t297))) else (some false))))) else (some false))) else ((laws_keOk.f).bind fun t292 => (some t292)))
end
def laws_FnKnwMake.f (k : Nat) (l0 : List Int) (l1 : List Int) : Option (Bool) := if (l0.length : Int) > 1048576 then (laws_FnKnwMake.j0 k l0 l1 true) else (laws_FnKnwMake.j0 k l0 l1 (decide ((l1.length : Int) > 1048576)))
theorem laws_FnKnwMake.mono_l : ∀ k, (∀ y0 y1 y2, LeO (laws_FnKnwMake.j0 k y0 y1 y2) (laws_FnKnwMake.j0 (k + 1) y0 y1 y2)) ∧ (∀ y0 y1 y2 y3 y4, LeO (laws_FnKnwMake.l0 k y0 y1 y2 y3 y4) (laws_FnKnwMake.l0 (k + 1) y0 y1 y2 y3 y4)) ∧ (∀ y0 y1 y2 y3 y4, LeO (laws_FnKnwMake.l1 k y0 y1 y2 y3 y4) (laws_FnKnwMake.l1 (k + 1) y0 y1 y2 y3 y4)) ∧ (∀ y0 y1 y2 y3 y4, LeO (laws_FnKnwMake.l2 k y0 y1 y2 y3 y4) (laws_FnKnwMake.l2 (k + 1) y0 y1 y2 y3 y4))
  | 0 => ⟨fun _ _ _ r h => by simp [laws_FnKnwMake.j0] at h, fun _ _ _ _ _ r h => by simp [laws_FnKnwMake.l0] at h, fun _ _ _ _ _ r h => by simp [laws_FnKnwMake.l1] at h, fun _ _ _ _ _ r h => by simp [laws_FnKnwMake.l2] at h⟩
  | k + 1 => by
    obtain ⟨ih0, ih1, ih2, ih3⟩ := laws_FnKnwMake.mono_l k
    refine ⟨?_, ?_, ?_, ?_⟩
    · intro y0 y1 y2
      unfold laws_FnKnwMake.j0
      repeat' first
      | (with_reducible exact ih0 _ _ _)
      | (with_reducible exact ih1 _ _ _ _ _)
      | (with_reducible exact ih2 _ _ _ _ _)
      | (with_reducible exact ih3 _ _ _ _ _)
      | (with_reducible exact impl_MakKey.mono _ _)
      | (with_reducible exact impl_MakNext.mono _ _)
      | (with_reducible exact spec_DrawKnwMake.mono _ _)
      | (with_reducible exact spec_KnwMake.mono _ _ _)
      | (with_reducible exact spec_SecOk.mono _ _)
      | (with_reducible exact LeO.refl _)
      | (with_reducible exact LeO.none _)
      | (with_reducible refine LeO.ite ?_ ?_)
      | (with_reducible refine LeO.bind ?_ (fun _ => ?_))
      | exact LeO.none _
      | refine LeO.ite ?_ ?_
      | refine LeO.bind ?_ (fun _ => ?_)
    · intro y0 y1 y2 y3 y4
      unfold laws_FnKnwMake.l0
      repeat' first
      | (with_reducible exact ih0 _ _ _)
      | (with_reducible exact ih1 _ _ _ _ _)
      | (with_reducible exact ih2 _ _ _ _ _)
      | (with_reducible exact ih3 _ _ _ _ _)
      | (with_reducible exact impl_MakKey.mono _ _)
      | (with_reducible exact impl_MakNext.mono _ _)
      | (with_reducible exact spec_DrawKnwMake.mono _ _)
      | (with_reducible exact spec_KnwMake.mono _ _ _)
      | (with_reducible exact spec_SecOk.mono _ _)
      | (with_reducible exact LeO.refl _)
      | (with_reducible exact LeO.none _)
      | (with_reducible refine LeO.ite ?_ ?_)
      | (with_reducible refine LeO.bind ?_ (fun _ => ?_))
      | exact LeO.none _
      | refine LeO.ite ?_ ?_
      | refine LeO.bind ?_ (fun _ => ?_)
    · intro y0 y1 y2 y3 y4
      unfold laws_FnKnwMake.l1
      repeat' first
      | (with_reducible exact ih0 _ _ _)
      | (with_reducible exact ih1 _ _ _ _ _)
      | (with_reducible exact ih2 _ _ _ _ _)
      | (with_reducible exact ih3 _ _ _ _ _)
      | (with_reducible exact impl_MakKey.mono _ _)
      | (with_reducible exact impl_MakNext.mono _ _)
      | (with_reducible exact spec_DrawKnwMake.mono _ _)
      | (with_reducible exact spec_KnwMake.mono _ _ _)
      | (with_reducible exact spec_SecOk.mono _ _)
      | (with_reducible exact LeO.refl _)
      | (with_reducible exact LeO.none _)
      | (with_reducible refine LeO.ite ?_ ?_)
      | (with_reducible refine LeO.bind ?_ (fun _ => ?_))
      | exact LeO.none _
      | refine LeO.ite ?_ ?_
      | refine LeO.bind ?_ (fun _ => ?_)
    intro y0 y1 y2 y3 y4
    unfold laws_FnKnwMake.l2
    repeat' first
    | (with_reducible exact ih0 _ _ _)
    | (with_reducible exact ih1 _ _ _ _ _)
    | (with_reducible exact ih2 _ _ _ _ _)
    | (with_reducible exact ih3 _ _ _ _ _)
    | (with_reducible exact impl_MakKey.mono _ _)
    | (with_reducible exact impl_MakNext.mono _ _)
    | (with_reducible exact spec_DrawKnwMake.mono _ _)
    | (with_reducible exact spec_KnwMake.mono _ _ _)
    | (with_reducible exact spec_SecOk.mono _ _)
    | (with_reducible exact LeO.refl _)
    | (with_reducible exact LeO.none _)
    | (with_reducible refine LeO.ite ?_ ?_)
    | (with_reducible refine LeO.bind ?_ (fun _ => ?_))
    | exact LeO.none _
    | refine LeO.ite ?_ ?_
    | refine LeO.bind ?_ (fun _ => ?_)
theorem laws_FnKnwMake.mono : ∀ a0 a1 k, LeO (laws_FnKnwMake.f k a0 a1) (laws_FnKnwMake.f (k + 1) a0 a1) := by
  intro a0 a1 k
  obtain ⟨ih0, ih1, ih2, ih3⟩ := laws_FnKnwMake.mono_l k
  unfold laws_FnKnwMake.f
  repeat' first
      | (with_reducible exact ih0 _ _ _)
      | (with_reducible exact ih1 _ _ _ _ _)
      | (with_reducible exact ih2 _ _ _ _ _)
      | (with_reducible exact ih3 _ _ _ _ _)
      | (with_reducible exact impl_MakKey.mono _ _)
      | (with_reducible exact impl_MakNext.mono _ _)
      | (with_reducible exact spec_DrawKnwMake.mono _ _)
      | (with_reducible exact spec_KnwMake.mono _ _ _)
      | (with_reducible exact spec_SecOk.mono _ _)
      | (with_reducible exact LeO.refl _)
      | (with_reducible exact LeO.none _)
      | (with_reducible refine LeO.ite ?_ ?_)
      | (with_reducible refine LeO.bind ?_ (fun _ => ?_))
      | exact LeO.none _
      | refine LeO.ite ?_ ?_
      | refine LeO.bind ?_ (fun _ => ?_)
set_option maxHeartbeats 8000000 in
set_option maxRecDepth 100000 in
theorem laws_FnKnwMake.calls (k : Nat) (A0 : Option Addr) (c0 : Nat) (l0 : List Int) (A1 : Option Addr) (c1 : Nat) (l1 : List Int) (r : Bool) (w : World) (hr0 : Kd.C (Kd.int .u8) w A0 l0.length l0) (hc0 : l0.length ≤ c0) (hr1 : Kd.C (Kd.int .u8) w A1 l1.length l1) (hc1 : l1.length ≤ c1) (hG : GlobOk w) (h : laws_FnKnwMake.f k l0 l1 = some r) :
    Calls Tryd.prog 8 #[.slice A0 l0.length c0, .slice A1 l1.length c1] w fun e w' => e = .returned (.bool r) ∧ Below w.heap.size w w' := by
  have HR0 := Aside0.mk hr0
  have HC0 := Aside0.mk hc0
  clear hr0 hc0
  have HR1 := Aside0.mk hr1
  have HC1 := Aside0.mk hc1
  clear hr1 hc1
  have HB := Aside0.mk (Below.refl w.heap.size w)
  have HGL := Aside0.mk hG
  clear hG
  have H : (if (l0.length : Int) > 1048576 then (laws_FnKnwMake.j0 k l0 l1 true) else (laws_FnKnwMake.j0 k l0 l1 (decide ((l1.length : Int) > 1048576)))) = some r := h
  clear h
  have HC3 := Aside0.mk H
  clear H
  go_enter Tryd.func8, Tryd.ntmps8
  go_upto_region 1 with (fail)
  go_cut [21] (fun v21 wc => ∃ (kq : Nat) (x21_2 : Bool), v21 = .bool x21_2 ∧ Aside0 (laws_FnKnwMake.j0 kq l0 l1 x21_2 = some r) ∧ Aside0 (kq ≤ k) ∧ Aside0 (Below w.heap.size w wc))
  case first =>
    have H := HC3.out
    clear HC3
    by_cases c4 : (l0.length : Int) > 1048576
    · rw [if_pos c4] at H
      have c4b0 : decide (1048576 < (l0.length : Int)) = true := decide_eq_true c4
      have c4b1 : decide (1048576 < l0.length) = true := decide_eq_true (by omega)
      clear c4
      (first | rw [c4b0] | (simp only [i64_w, i32_w]; rw [c4b0]) | skip)
      have H' := Aside0.mk H
      clear H
      go_wp2
      go_meet
      case rel => exact ⟨_, (true), y4_, H', ⟨by first | omega | exact Nat.le_refl _⟩, ⟨y7_ HB.out⟩⟩
    rw [if_neg c4] at H
    have c4b0 : decide (1048576 < (l0.length : Int)) = false := decide_eq_false c4
    have c4b1 : decide (1048576 < l0.length) = false := decide_eq_false (by omega)
    clear c4
    (first | rw [c4b0] | (simp only [i64_w, i32_w]; rw [c4b0]) | skip)
    have H' := Aside0.mk H
    clear H
    go_wp2
    go_meet
    case rel => exact ⟨_, (decide ((l1.length : Int) > 1048576)), y4_, H', ⟨by first | omega | exact Nat.le_refl _⟩, ⟨y7_ HB.out⟩⟩
  case rest =>
    clear HC3
    try clear c1
    try clear p2
    try clear c4
    try clear c4b0
    try clear c4b1
    obtain ⟨kq, x21_2, rfl, HA, HJ2, HB⟩ := hcut
    cases kq with
    | zero => exact absurd HA.out (by simp [laws_FnKnwMake.j0])
    | succ kj2 =>
      have H := HA.out
      clear HA
      simp only [laws_FnKnwMake.j0] at H
      by_cases c5 : x21_2 = true
      · subst c5
        have H1 : (some true) = some r := by rw [if_pos rfl] at H; exact H
        clear H
        have H := H1
        clear H1
        obtain rfl := Option.some.inj H
        go_wp2
        go_ret
        exact ⟨y6_, y7_ HB.out⟩
      replace c5 := Bool.eq_false_iff.mpr c5
      subst c5
      have H1 : ((spec_DrawKnwMake.f kj2 l0).bind fun bt265 => ((spec_DrawKnwMake.f kj2 l1).bind fun bt269 => ((impl_KnwMake.f bt265.1 bt265.2).bind fun t273 => ((spec_KnwMake.f kj2 bt265.1 bt265.2).bind fun t274 => (if (t273 != t274) = true then (some false) else (laws_FnKnwMake.l0 kj2 bt265.1 bt265.2 bt269.1 t273 0)))))) = some r := by rw [if_neg (show ¬ (false = true) by decide)] at H; exact H
      clear H
      have H := H1
      clear H1
      replace H := Option.bind_eq_some_iff.mp H
      obtain ⟨⟨t265, t266⟩, A60, H⟩ := H
      replace H : ((spec_DrawKnwMake.f kj2 l1).bind fun bt269 => ((impl_KnwMake.f t265 t266).bind fun t273 => ((spec_KnwMake.f kj2 t265 t266).bind fun t274 => (if (t273 != t274) = true then (some false) else (laws_FnKnwMake.l0 kj2 t265 t266 bt269.1 t273 0))))) = some r := H
      have A6 := Aside0.mk A60
      clear A60
      replace H := Option.bind_eq_some_iff.mp H
      obtain ⟨⟨t269, t270⟩, A70, H⟩ := H
      replace H : ((impl_KnwMake.f t265 t266).bind fun t273 => ((spec_KnwMake.f kj2 t265 t266).bind fun t274 => (if (t273 != t274) = true then (some false) else (laws_FnKnwMake.l0 kj2 t265 t266 t269 t273 0)))) = some r := H
      have A7 := Aside0.mk A70
      clear A70
      replace H := Option.bind_eq_some_iff.mp H
      obtain ⟨t273, A80, H⟩ := H
      replace H : ((spec_KnwMake.f kj2 t265 t266).bind fun t274 => (if (t273 != t274) = true then (some false) else (laws_FnKnwMake.l0 kj2 t265 t266 t269 t273 0))) = some r := H
      have A8 := Aside0.mk A80
      clear A80
      replace H := Option.bind_eq_some_iff.mp H
      obtain ⟨t274, A90, H⟩ := H
      replace H : (if (t273 != t274) = true then (some false) else (laws_FnKnwMake.l0 kj2 t265 t266 t269 t273 0)) = some r := H
      have A9 := Aside0.mk A90
      clear A90
      by_cases c10 : (t273 != t274) = true
      · rw [if_pos c10] at H
        have c10b0 : (t273 != t274) = true := c10
        (try (have c10b1 : decide (t273 = t274) = false := by simpa using c10))
        (try (have c10b2 : (t273 == t274) = false := by simpa using c10))
        (try (have c10b3 : ¬ (t273 = t274) := by simpa using c10))
        clear c10
        obtain rfl := Option.some.inj H
        go_wp2_with (first | ((with_reducible refine gate_callee (f := 16) rfl ?_); refine goesL_ (some 24) rfl rfl Tryd.func16 (by kernel_rfl) rfl #[.slice A0 l0.length c0] rfl y1_ ?_; (with_reducible refine (spec_DrawKnwMake.calls kj2 _ _ l0 t265 t266 _ ?side1 ?side2 A6.out).mono ?_); (case side1 => repeat (first | exact (Kd.C_below HR0.out HB.out) | (with_reducible refine Kd.C_alloc ?_ _) | (with_reducible refine Kd.C_drewN ?_ _) | (with_reducible refine Kd.C_drew ?_))); (case side2 => exact HC0.out); rintro e w11 ⟨v267, rfl, ho0, hb⟩; refine ⟨_, rfl, ?_⟩; have HO268 := Aside0.mk (Kd.R_lower ho0 (below_size (y7_ HB.out))); replace HB := Aside0.mk (below_step (y7_ HB.out) hb); (try clear hb); (try clear hb2); (try clear hk); (try clear hi); (try clear ho0)) | ((with_reducible refine gate_callee (f := 16) rfl ?_); refine goesL_ (some 29) rfl rfl Tryd.func16 (by kernel_rfl) rfl #[.slice A1 l1.length c1] rfl y1_ ?_; (with_reducible refine (spec_DrawKnwMake.calls kj2 _ _ l1 t269 t270 _ ?side1 ?side2 A7.out).mono ?_); (case side1 => repeat (first | exact (Kd.C_below HR1.out HB.out) | (with_reducible refine Kd.C_alloc ?_ _) | (with_reducible refine Kd.C_drewN ?_ _) | (with_reducible refine Kd.C_drew ?_))); (case side2 => exact HC1.out); rintro e w12 ⟨v271, rfl, ho0, hb⟩; refine ⟨_, rfl, ?_⟩; have HO272 := Aside0.mk (Kd.R_lower (Kd.R_new' ho0 (Kd.R_lt (y11_ HO268.out))) (below_size (y7_ HB.out))); replace HO268 := Aside0.mk (Kd.R_elder' (y11_ HO268.out) (Kd.R_base ho0) hb); replace HB := Aside0.mk (below_step (y7_ HB.out) hb); (try clear hb); (try clear hb2); (try clear hk); (try clear hi); (try clear ho0); obtain ⟨Ao13, co13, eo13⟩ := Kd.R_slice HO268.out; subst eo13) | ((with_reducible refine gate_callee (f := 14) rfl ?_); refine goesL_ (some 34) rfl rfl Tryd.func14 (by kernel_rfl) rfl #[.slice Ao13 t265.length co13, .string t266] rfl y1_ ?_; (with_reducible refine (impl_KnwMake.calls _ _ t265 t266 t273 _ ?side1 ?side2 ?side3 A8.out).mono ?_); (case side1 => repeat (first | exact (Kd.R_reads' HO268.out).2.2 | (with_reducible refine Kd.C_alloc ?_ _) | (with_reducible refine Kd.C_drewN ?_ _) | (with_reducible refine Kd.C_drew ?_))); (case side2 => exact (Kd.R_reads' HO268.out).2.1); (case side3 => exact GlobOk.below HGL.out (y7_ HB.out)); rintro e w14 ⟨rfl, hb⟩; refine ⟨_, rfl, ?_⟩; replace HO268 := Aside0.mk (Kd.R_below (y11_ HO268.out) hb); replace HO272 := Aside0.mk (Kd.R_below (y11_ HO272.out) hb); replace HB := Aside0.mk (below_step (y7_ HB.out) hb); clear hb) | ((with_reducible refine gate_callee (f := 17) rfl ?_); refine goesL_ (some 38) rfl rfl Tryd.func17 (by kernel_rfl) rfl #[.slice Ao13 t265.length co13, .string t266] rfl y1_ ?_; (with_reducible refine (spec_KnwMake.calls kj2 _ _ t265 t266 t274 _ ?side1 ?side2 A9.out).mono ?_); (case side1 => repeat (first | exact (Kd.R_reads' HO268.out).2.2 | (with_reducible refine Kd.C_alloc ?_ _) | (with_reducible refine Kd.C_drewN ?_ _) | (with_reducible refine Kd.C_drew ?_))); (case side2 => exact (Kd.R_reads' HO268.out).2.1); rintro e w15 ⟨rfl, hb⟩; refine ⟨_, rfl, ?_⟩; replace HO268 := Aside0.mk (Kd.R_below (y11_ HO268.out) hb); replace HO272 := Aside0.mk (Kd.R_below (y11_ HO272.out) hb); replace HB := Aside0.mk (below_step (y7_ HB.out) hb); clear hb))
        go_ret
        exact ⟨y6_, y7_ HB.out⟩
      rw [if_neg c10] at H
      have c10b0 : (t273 != t274) = false := by simpa using c10
      (try (have c10b1 : decide (t273 = t274) = true := by simpa using c10))
      (try (have c10b2 : (t273 == t274) = true := by simpa using c10))
      clear c10
      have H' := Aside0.mk H
      clear H
      go_wp2_with (first | ((with_reducible refine gate_callee (f := 16) rfl ?_); refine goesL_ (some 24) rfl rfl Tryd.func16 (by kernel_rfl) rfl #[.slice A0 l0.length c0] rfl y1_ ?_; (with_reducible refine (spec_DrawKnwMake.calls kj2 _ _ l0 t265 t266 _ ?side1 ?side2 A6.out).mono ?_); (case side1 => repeat (first | exact (Kd.C_below HR0.out HB.out) | (with_reducible refine Kd.C_alloc ?_ _) | (with_reducible refine Kd.C_drewN ?_ _) | (with_reducible refine Kd.C_drew ?_))); (case side2 => exact HC0.out); rintro e w16 ⟨v267, rfl, ho0, hb⟩; refine ⟨_, rfl, ?_⟩; have HO268 := Aside0.mk (Kd.R_lower ho0 (below_size (y7_ HB.out))); replace HB := Aside0.mk (below_step (y7_ HB.out) hb); (try clear hb); (try clear hb2); (try clear hk); (try clear hi); (try clear ho0)) | ((with_reducible refine gate_callee (f := 16) rfl ?_); refine goesL_ (some 29) rfl rfl Tryd.func16 (by kernel_rfl) rfl #[.slice A1 l1.length c1] rfl y1_ ?_; (with_reducible refine (spec_DrawKnwMake.calls kj2 _ _ l1 t269 t270 _ ?side1 ?side2 A7.out).mono ?_); (case side1 => repeat (first | exact (Kd.C_below HR1.out HB.out) | (with_reducible refine Kd.C_alloc ?_ _) | (with_reducible refine Kd.C_drewN ?_ _) | (with_reducible refine Kd.C_drew ?_))); (case side2 => exact HC1.out); rintro e w17 ⟨v271, rfl, ho0, hb⟩; refine ⟨_, rfl, ?_⟩; have HO272 := Aside0.mk (Kd.R_lower (Kd.R_new' ho0 (Kd.R_lt (y11_ HO268.out))) (below_size (y7_ HB.out))); replace HO268 := Aside0.mk (Kd.R_elder' (y11_ HO268.out) (Kd.R_base ho0) hb); replace HB := Aside0.mk (below_step (y7_ HB.out) hb); (try clear hb); (try clear hb2); (try clear hk); (try clear hi); (try clear ho0); obtain ⟨Ao18, co18, eo18⟩ := Kd.R_slice HO268.out; subst eo18) | ((with_reducible refine gate_callee (f := 14) rfl ?_); refine goesL_ (some 34) rfl rfl Tryd.func14 (by kernel_rfl) rfl #[.slice Ao18 t265.length co18, .string t266] rfl y1_ ?_; (with_reducible refine (impl_KnwMake.calls _ _ t265 t266 t273 _ ?side1 ?side2 ?side3 A8.out).mono ?_); (case side1 => repeat (first | exact (Kd.R_reads' HO268.out).2.2 | (with_reducible refine Kd.C_alloc ?_ _) | (with_reducible refine Kd.C_drewN ?_ _) | (with_reducible refine Kd.C_drew ?_))); (case side2 => exact (Kd.R_reads' HO268.out).2.1); (case side3 => exact GlobOk.below HGL.out (y7_ HB.out)); rintro e w19 ⟨rfl, hb⟩; refine ⟨_, rfl, ?_⟩; replace HO268 := Aside0.mk (Kd.R_below (y11_ HO268.out) hb); replace HO272 := Aside0.mk (Kd.R_below (y11_ HO272.out) hb); replace HB := Aside0.mk (below_step (y7_ HB.out) hb); clear hb) | ((with_reducible refine gate_callee (f := 17) rfl ?_); refine goesL_ (some 38) rfl rfl Tryd.func17 (by kernel_rfl) rfl #[.slice Ao18 t265.length co18, .string t266] rfl y1_ ?_; (with_reducible refine (spec_KnwMake.calls kj2 _ _ t265 t266 t274 _ ?side1 ?side2 A9.out).mono ?_); (case side1 => repeat (first | exact (Kd.R_reads' HO268.out).2.2 | (with_reducible refine Kd.C_alloc ?_ _) | (with_reducible refine Kd.C_drewN ?_ _) | (with_reducible refine Kd.C_drew ?_))); (case side2 => exact (Kd.R_reads' HO268.out).2.1); rintro e w20 ⟨rfl, hb⟩; refine ⟨_, rfl, ?_⟩; replace HO268 := Aside0.mk (Kd.R_below (y11_ HO268.out) hb); replace HO272 := Aside0.mk (Kd.R_below (y11_ HO272.out) hb); replace HB := Aside0.mk (below_step (y7_ HB.out) hb); clear hb))
      go_loopg [10] kj2 (fun kq v10 w' => ∃ (x10_2 : Int), v10 = .int .i64 x10_2 ∧ Aside0 (laws_FnKnwMake.l0 kq t265 t266 t269 t273 x10_2 = some r) ∧ Aside0 (kq ≤ kj2) ∧ Aside0 (Kd.R Kd.string 9 w' w.heap.size (fun k_ => some k_ ≠ (v271 : Value).ownBlock) (.slice Ao18 t265.length co18) t265) ∧ Aside0 (Kd.R Kd.string 9 w' w.heap.size (fun k_ => some k_ ≠ ((.slice Ao18 t265.length co18) : Value).ownBlock) v271 t269) ∧ Aside0 (Below w.heap.size w w'))
      case atStart => exact ⟨(0), y4_, H', ⟨Nat.le_refl _⟩, ⟨by (with_reducible repeat (first | apply Kd.R_alloc | apply Kd.R_drewN | apply Kd.R_drew)); exact Kd.R_mono HO268.out (fun _ hk => hk.2)⟩, ⟨by (with_reducible repeat (first | apply Kd.R_alloc | apply Kd.R_drewN | apply Kd.R_drew)); exact Kd.R_mono HO272.out (fun _ hk => hk.2)⟩, ⟨y7_ HB.out⟩⟩
      case round =>
        clear H'
        try clear c1
        try clear p2
        try clear c4
        try clear c4b0
        try clear c4b1
        try clear c5
        try clear c8
        try clear c10
        try clear c10b0
        try clear c10b1
        try clear c10b2
        try clear c14
        try clear c16
        try clear c17
        try clear p2
        obtain ⟨x10_2, rfl, HA, HK2, HO_5, HO_7, HB⟩ := hrel
        cases gk with
        | zero => exact absurd HA.out (by simp [laws_FnKnwMake.l0])
        | succ k2 =>
          have H := HA.out
          clear HA
          simp only [laws_FnKnwMake.l0] at H
          by_cases c21 : x10_2 < (t265.length : Int)
          · rw [if_pos c21] at H
            have c21b0 : decide (x10_2 < (t265.length : Int)) = true := decide_eq_true c21
            clear c21
            by_cases c22 : 0 ≤ x10_2
            · rw [if_pos c22] at H
              have c22b0 : decide (0 ≤ x10_2) = true := decide_eq_true c22
              clear c22
              replace H := Option.bind_eq_some_iff.mp H
              obtain ⟨t276, A230, H⟩ := H
              replace H : (if t276 = true then (laws_FnKnwMake.l0 k2 t265 t266 t269 t273 (wrap64 (x10_2 + 1))) else (if t273 = true then (some false) else ((laws_keOk.f).bind fun t277 => (some t277)))) = some r := H
              have A23 := Aside0.mk A230
              clear A230
              by_cases c24 : t276 = true
              · subst c24
                have H1 : (laws_FnKnwMake.l0 k2 t265 t266 t269 t273 (wrap64 (x10_2 + 1))) = some r := by rw [if_pos rfl] at H; exact H
                clear H
                have H := H1
                clear H1
                have H' := Aside0.mk H
                clear H
                have p275 : 0 ≤ (x10_2 : Int) := of_decide_eq_true y3_
                have q275 : x10_2 < (t265.length : Int) := of_decide_eq_true y3_
                obtain ⟨ad275, e275, hx275_0⟩ := Kd.at_string (Kd.R_reads' HO_5.out).2.2 x10_2 p275 q275
                cases e275
                replace p275 := eq_true p275
                replace q275 := eq_true q275
                go_wp2_with (first | ((with_reducible refine gate_callee (f := 21) rfl ?_); refine goesL_ (some 50) rfl rfl Tryd.func21 (by kernel_rfl) rfl #[.string (rdOf ByteArray.empty t265 x10_2)] rfl y1_ ?_; (with_reducible refine (spec_SecOk.calls k2 (rdOf ByteArray.empty t265 x10_2) true _ A23.out).mono ?_); rintro e w25 ⟨rfl, hb⟩; refine ⟨_, rfl, ?_⟩; replace HO_5 := Aside0.mk (Kd.R_below (y11_ HO_5.out) hb); replace HO_7 := Aside0.mk (Kd.R_below (y11_ HO_7.out) hb); replace HB := Aside0.mk (below_step (y7_ HB.out) hb); clear hb))
                go_roundg k2
                case measure => have := HJ2.out; have := HK2.out; omega
                case rel => exact ⟨(wrap64 (x10_2 + 1)), y4_, H', ⟨by have := HJ2.out; have := HK2.out; omega⟩, ⟨by (with_reducible repeat (first | apply Kd.R_alloc | apply Kd.R_drewN | apply Kd.R_drew)); exact HO_5.out⟩, ⟨by (with_reducible repeat (first | apply Kd.R_alloc | apply Kd.R_drewN | apply Kd.R_drew)); exact HO_7.out⟩, ⟨y7_ HB.out⟩⟩
              replace c24 := Bool.eq_false_iff.mpr c24
              subst c24
              have H1 : (if t273 = true then (some false) else ((laws_keOk.f).bind fun t277 => (some t277))) = some r := by rw [if_neg (show ¬ (false = true) by decide)] at H; exact H
              clear H
              have H := H1
              clear H1
              by_cases c26 : t273 = true
              · subst c26
                have H1 : (some false) = some r := by rw [if_pos rfl] at H; exact H
                clear H
                have H := H1
                clear H1
                obtain rfl := Option.some.inj H
                have p275 : 0 ≤ (x10_2 : Int) := of_decide_eq_true y3_
                have q275 : x10_2 < (t265.length : Int) := of_decide_eq_true y3_
                obtain ⟨ad275, e275, hx275_0⟩ := Kd.at_string (Kd.R_reads' HO_5.out).2.2 x10_2 p275 q275
                cases e275
                replace p275 := eq_true p275
                replace q275 := eq_true q275
                go_wp2_with (first | ((with_reducible refine gate_callee (f := 21) rfl ?_); refine goesL_ (some 50) rfl rfl Tryd.func21 (by kernel_rfl) rfl #[.string (rdOf ByteArray.empty t265 x10_2)] rfl y1_ ?_; (with_reducible refine (spec_SecOk.calls k2 (rdOf ByteArray.empty t265 x10_2) false _ A23.out).mono ?_); rintro e w27 ⟨rfl, hb⟩; refine ⟨_, rfl, ?_⟩; replace HO_5 := Aside0.mk (Kd.R_below (y11_ HO_5.out) hb); replace HO_7 := Aside0.mk (Kd.R_below (y11_ HO_7.out) hb); replace HB := Aside0.mk (below_step (y7_ HB.out) hb); clear hb))
                go_ret
                exact ⟨y6_, y7_ HB.out⟩
              replace c26 := Bool.eq_false_iff.mpr c26
              subst c26
              have H1 : ((laws_keOk.f).bind fun t277 => (some t277)) = some r := by rw [if_neg (show ¬ (false = true) by decide)] at H; exact H
              clear H
              have H := H1
              clear H1
              replace H := Option.bind_eq_some_iff.mp H
              obtain ⟨t277, A280, H⟩ := H
              replace H : (some t277) = some r := H
              have A28 := Aside0.mk A280
              clear A280
              obtain rfl := Option.some.inj H
              have p275 : 0 ≤ (x10_2 : Int) := of_decide_eq_true y3_
              have q275 : x10_2 < (t265.length : Int) := of_decide_eq_true y3_
              obtain ⟨ad275, e275, hx275_0⟩ := Kd.at_string (Kd.R_reads' HO_5.out).2.2 x10_2 p275 q275
              cases e275
              replace p275 := eq_true p275
              replace q275 := eq_true q275
              go_wp2_with (first | ((with_reducible refine gate_callee (f := 21) rfl ?_); refine goesL_ (some 50) rfl rfl Tryd.func21 (by kernel_rfl) rfl #[.string (rdOf ByteArray.empty t265 x10_2)] rfl y1_ ?_; (with_reducible refine (spec_SecOk.calls k2 (rdOf ByteArray.empty t265 x10_2) false _ A23.out).mono ?_); rintro e w29 ⟨rfl, hb⟩; refine ⟨_, rfl, ?_⟩; replace HO_5 := Aside0.mk (Kd.R_below (y11_ HO_5.out) hb); replace HO_7 := Aside0.mk (Kd.R_below (y11_ HO_7.out) hb); replace HB := Aside0.mk (below_step (y7_ HB.out) hb); clear hb) | (go_at_call 15; (with_reducible refine (laws_keOk.calls  t277 _ ?side1 A28.out).mono ?_); (case side1 => exact GlobOk.below HGL.out (y7_ HB.out)); rintro e w30 ⟨rfl, hb⟩; replace HO_5 := Aside0.mk (Kd.R_below (y11_ HO_5.out) hb); replace HO_7 := Aside0.mk (Kd.R_below (y11_ HO_7.out) hb); replace HB := Aside0.mk (below_step (y7_ HB.out) hb); clear hb))
              go_ret
              exact ⟨y6_, y7_ HB.out⟩
            rw [if_neg c22] at H
            exact absurd H (by simp)
          rw [if_neg c21] at H
          have c21b0 : decide (x10_2 < (t265.length : Int)) = false := decide_eq_false c21
          clear c21
          have H' := Aside0.mk H
          clear H
          go_wp2
          go_loopg [11] k2 (fun kq v11 w' => ∃ (x11_3 : Int), v11 = .int .i64 x11_3 ∧ Aside0 (laws_FnKnwMake.l1 kq t265 t266 t269 t273 x11_3 = some r) ∧ Aside0 (kq ≤ k2) ∧ Aside0 (Kd.R Kd.string 9 w' w.heap.size (fun k_ => some k_ ≠ (v271 : Value).ownBlock) (.slice Ao18 t265.length co18) t265) ∧ Aside0 (Kd.R Kd.string 9 w' w.heap.size (fun k_ => some k_ ≠ ((.slice Ao18 t265.length co18) : Value).ownBlock) v271 t269) ∧ Aside0 (Below w.heap.size w w'))
          case atStart => exact ⟨(0), y4_, H', ⟨Nat.le_refl _⟩, ⟨by (with_reducible repeat (first | apply Kd.R_alloc | apply Kd.R_drewN | apply Kd.R_drew)); exact HO_5.out⟩, ⟨by (with_reducible repeat (first | apply Kd.R_alloc | apply Kd.R_drewN | apply Kd.R_drew)); exact HO_7.out⟩, ⟨y7_ HB.out⟩⟩
          case round =>
            clear H'
            try clear c1
            try clear c2
            try clear p2
            try clear q2
            try clear hx2
            try clear c4
            try clear c4b0
            try clear c4b1
            try clear c5
            try clear p6
            try clear c8
            try clear c10
            try clear c10b0
            try clear c10b1
            try clear c10b2
            try clear c14
            try clear c16
            try clear c17
            try clear c21
            try clear c21b0
            try clear c22
            try clear c22b0
            try clear c24
            try clear c26
            try clear p27
            try clear q27
            try clear hx27
            try clear hx275_0
            try clear p2
            try clear p275
            try clear q275
            obtain ⟨x11_3, rfl, HA, HK3, HO_5, HO_7, HB⟩ := hrel
            cases gk with
            | zero => exact absurd HA.out (by simp [laws_FnKnwMake.l1])
            | succ k3 =>
              have H := HA.out
              clear HA
              simp only [laws_FnKnwMake.l1] at H
              by_cases c31 : x11_3 < (t269.length : Int)
              · rw [if_pos c31] at H
                have c31b0 : decide (x11_3 < (t269.length : Int)) = true := decide_eq_true c31
                clear c31
                by_cases c32 : 0 ≤ x11_3
                · rw [if_pos c32] at H
                  have c32b0 : decide (0 ≤ x11_3) = true := decide_eq_true c32
                  clear c32
                  replace H := Option.bind_eq_some_iff.mp H
                  obtain ⟨t279, A330, H⟩ := H
                  replace H : (if t279 = true then (laws_FnKnwMake.l1 k3 t265 t266 t269 t273 (wrap64 (x11_3 + 1))) else ((laws_keOk.f).bind fun t280 => (some t280))) = some r := H
                  have A33 := Aside0.mk A330
                  clear A330
                  by_cases c34 : t279 = true
                  · subst c34
                    have H1 : (laws_FnKnwMake.l1 k3 t265 t266 t269 t273 (wrap64 (x11_3 + 1))) = some r := by rw [if_pos rfl] at H; exact H
                    clear H
                    have H := H1
                    clear H1
                    have H' := Aside0.mk H
                    clear H
                    obtain ⟨Ao35, co35, eo35⟩ := Kd.R_slice HO_7.out
                    subst eo35
                    have p278 : 0 ≤ (x11_3 : Int) := of_decide_eq_true y3_
                    have q278 : x11_3 < (t269.length : Int) := of_decide_eq_true y3_
                    obtain ⟨ad278, e278, hx278_0⟩ := Kd.at_string (Kd.R_reads' HO_7.out).2.2 x11_3 p278 q278
                    cases e278
                    replace p278 := eq_true p278
                    replace q278 := eq_true q278
                    go_wp2_with (first | ((with_reducible refine gate_callee (f := 21) rfl ?_); refine goesL_ (some 67) rfl rfl Tryd.func21 (by kernel_rfl) rfl #[.string (rdOf ByteArray.empty t269 x11_3)] rfl y1_ ?_; (with_reducible refine (spec_SecOk.calls k3 (rdOf ByteArray.empty t269 x11_3) true _ A33.out).mono ?_); rintro e w36 ⟨rfl, hb⟩; refine ⟨_, rfl, ?_⟩; replace HO_5 := Aside0.mk (Kd.R_below (y11_ HO_5.out) hb); replace HO_7 := Aside0.mk (Kd.R_below (y11_ HO_7.out) hb); replace HB := Aside0.mk (below_step (y7_ HB.out) hb); clear hb))
                    go_roundg k3
                    case measure => have := HJ2.out; have := HK2.out; have := HK3.out; omega
                    case rel => exact ⟨(wrap64 (x11_3 + 1)), y4_, H', ⟨by have := HJ2.out; have := HK2.out; have := HK3.out; omega⟩, ⟨by (with_reducible repeat (first | apply Kd.R_alloc | apply Kd.R_drewN | apply Kd.R_drew)); exact HO_5.out⟩, ⟨by (with_reducible repeat (first | apply Kd.R_alloc | apply Kd.R_drewN | apply Kd.R_drew)); exact HO_7.out⟩, ⟨y7_ HB.out⟩⟩
                  replace c34 := Bool.eq_false_iff.mpr c34
                  subst c34
                  have H1 : ((laws_keOk.f).bind fun t280 => (some t280)) = some r := by rw [if_neg (show ¬ (false = true) by decide)] at H; exact H
                  clear H
                  have H := H1
                  clear H1
                  replace H := Option.bind_eq_some_iff.mp H
                  obtain ⟨t280, A370, H⟩ := H
                  replace H : (some t280) = some r := H
                  have A37 := Aside0.mk A370
                  clear A370
                  obtain rfl := Option.some.inj H
                  obtain ⟨Ao38, co38, eo38⟩ := Kd.R_slice HO_7.out
                  subst eo38
                  have p278 : 0 ≤ (x11_3 : Int) := of_decide_eq_true y3_
                  have q278 : x11_3 < (t269.length : Int) := of_decide_eq_true y3_
                  obtain ⟨ad278, e278, hx278_0⟩ := Kd.at_string (Kd.R_reads' HO_7.out).2.2 x11_3 p278 q278
                  cases e278
                  replace p278 := eq_true p278
                  replace q278 := eq_true q278
                  go_wp2_with (first | ((with_reducible refine gate_callee (f := 21) rfl ?_); refine goesL_ (some 67) rfl rfl Tryd.func21 (by kernel_rfl) rfl #[.string (rdOf ByteArray.empty t269 x11_3)] rfl y1_ ?_; (with_reducible refine (spec_SecOk.calls k3 (rdOf ByteArray.empty t269 x11_3) false _ A33.out).mono ?_); rintro e w39 ⟨rfl, hb⟩; refine ⟨_, rfl, ?_⟩; replace HO_5 := Aside0.mk (Kd.R_below (y11_ HO_5.out) hb); replace HO_7 := Aside0.mk (Kd.R_below (y11_ HO_7.out) hb); replace HB := Aside0.mk (below_step (y7_ HB.out) hb); clear hb) | ((with_reducible refine gate_callee (f := 15) rfl ?_); refine goesL_ (some 69) rfl rfl Tryd.func15 (by kernel_rfl) rfl #[] rfl y1_ ?_; (with_reducible refine (laws_keOk.calls  t280 _ ?side1 A37.out).mono ?_); (case side1 => exact GlobOk.below HGL.out (y7_ HB.out)); rintro e w40 ⟨rfl, hb⟩; refine ⟨_, rfl, ?_⟩; replace HO_5 := Aside0.mk (Kd.R_below (y11_ HO_5.out) hb); replace HO_7 := Aside0.mk (Kd.R_below (y11_ HO_7.out) hb); replace HB := Aside0.mk (below_step (y7_ HB.out) hb); clear hb))
                  go_ret
                  exact ⟨y6_, y7_ HB.out⟩
                rw [if_neg c32] at H
                exact absurd H (by simp)
              rw [if_neg c31] at H
              have c31b0 : decide (x11_3 < (t269.length : Int)) = false := decide_eq_false c31
              clear c31
              obtain ⟨y281, hy281⟩ : ∃ y_ : List ByteArray, y_ = (([] : List ByteArray)) := ⟨_, rfl⟩
              replace H : (if y281.length + t265.length < 8796093022208 then ((some (y281 ++ t265 : List ByteArray)).bind fun y284 => (if y284.length + t269.length < 8796093022208 then (laws_FnKnwMake.l2 k3 t265 t266 t273 (y284 ++ t269) 0) else (none))) else (none)) = some r := by first | (rw [hy281]; with_reducible exact H) | (have H2_ := (Option.bind_some _ _).symm.trans H; rw [hy281]; with_reducible exact H2_) | (have H2_ := (Option.bind_some _ _).symm.trans H; with_reducible exact H2_) | with_reducible exact H | (rw [hy281]; exact H) | exact H
              have Ny281 := Aside0.mk hy281
              clear hy281
              by_cases c41 : y281.length + t265.length < 8796093022208
              · rw [if_pos c41] at H
                have LMc41 := Aside0.mk c41
                clear c41
                obtain ⟨y284, hy284⟩ : ∃ y_ : List ByteArray, y_ = (y281 ++ t265) := ⟨_, rfl⟩
                replace H : (if y284.length + t269.length < 8796093022208 then (laws_FnKnwMake.l2 k3 t265 t266 t273 (y284 ++ t269) 0) else (none)) = some r := by first | (rw [hy284]; with_reducible exact H) | (have H2_ := (Option.bind_some _ _).symm.trans H; rw [hy284]; with_reducible exact H2_) | (have H2_ := (Option.bind_some _ _).symm.trans H; with_reducible exact H2_) | with_reducible exact H | (rw [hy284]; exact H) | exact H
                have Ny284 := Aside0.mk hy284
                clear hy284
                by_cases c42 : y284.length + t269.length < 8796093022208
                · rw [if_pos c42] at H
                  have LMc42 := Aside0.mk c42
                  clear c42
                  obtain ⟨y287, hy287⟩ : ∃ y_ : List ByteArray, y_ = (y284 ++ t269) := ⟨_, rfl⟩
                  replace H : (laws_FnKnwMake.l2 k3 t265 t266 t273 y287 0) = some r := by first | (rw [hy287]; with_reducible exact H) | (have H2_ := (Option.bind_some _ _).symm.trans H; rw [hy287]; with_reducible exact H2_) | (have H2_ := (Option.bind_some _ _).symm.trans H; with_reducible exact H2_) | with_reducible exact H | (rw [hy287]; exact H) | exact H
                  have Ny287 := Aside0.mk hy287
                  clear hy287
                  have H' := Aside0.mk H
                  clear H
                  obtain ⟨Ao43, co43, eo43⟩ := Kd.R_slice HO_7.out
                  subst eo43
                  go_wp2_with (first | ((with_reducible refine gate_dst (N := 70) rfl ?_); (try (refine gate_guard (by rfl) ?_; dsimp only)); refine Kd.R_lit Kd.string _ 9 ?hg (N := 70) ?hd (xs := ([] : List ByteArray)) (inner := []) (ok := fun _ => True) (okp := fun _ => True) ?hr ?hp (fun _ hk => hk) trivial (Below.refl _ _) (Nat.le_refl _) (by simp) ?_; (case hd => rfl); (case hg => rfl); (case hr => first | (go_simp; done) | (go_simp; rfl)); (case hp => exact (Reps.none _ _)); intro v282 w44 ho45 hb hg_ hnew_; clear hg_ hnew_; (first | rw [← Ny281.out] at ho45 | (simp only [Int.reduceToNat] at ho45; rw [← Ny281.out] at ho45)); have HO283 := Aside0.mk (Kd.R_lower (Kd.R_new' (Kd.R_new' ho45 (Kd.R_lt (y11_ HO_5.out))) (Kd.R_lt (y11_ HO_7.out))) (below_size (y7_ HB.out))); replace HO_5 := Aside0.mk (Kd.R_elder' (y11_ HO_5.out) (Kd.R_base ho45) hb); replace HO_7 := Aside0.mk (Kd.R_elder' (y11_ HO_7.out) (Kd.R_base ho45) hb); replace HB := Aside0.mk (below_step (y7_ HB.out) hb); clear hb ho45) | ((with_reducible refine gate_builtin (b := .append) (xs := #[.tmp 70, .tmp 71]) rfl ?_); (try (refine gate_guard (by rfl) ?_; dsimp only)); at_builtin; refine Kd.R_append_rows Kd.string (w0 := w) w.heap.size rfl (.tmp 70) (.tmp 71) 23 9 (.string ⟨#[]⟩) 16 rfl Tryd.underlying23 info9 rfl (by decide) (by omega) v282 y281 t265 _ _ _ (fun k_ => some k_ ≠ (.slice Ao18 t265.length co18 : Value).ownBlock ∧ some k_ ≠ (.slice Ao43 t269.length co43 : Value).ownBlock) (fun _ => False) rfl rfl ?aO ?aR (fun _ _ h => h) (fun _ h => h.elim) ?aF ?aB ?aS ?aL ?_; (case aR => repeat (first | exact (Kd.R_reads' HO_5.out).2.2 | (with_reducible refine Kd.C_alloc ?_ _) | (with_reducible refine Kd.C_drewN ?_ _) | (with_reducible refine Kd.C_drew ?_))); (case aB => exact (y7_ HB.out)); (case aF => exact (fun k_ hk => ⟨Kd.fresh' (Kd.R_lt (y11_ HO_5.out)) k_ hk, Kd.fresh' (Kd.R_lt (y11_ HO_7.out)) k_ hk⟩)); (case aO => exact (by (with_reducible repeat (first | apply Kd.R_alloc | apply Kd.R_drewN | apply Kd.R_drew)); exact Kd.R_mono HO283.out (fun _ hk => ⟨hk.1.2, hk.2⟩))); (case aS => exact (below_size (y7_ HB.out))); (case aL => have := LMc41.out; omega); intro v285 w46 ho hb hg hat; rw [← Ny284.out] at ho; replace HO_5 := Aside0.mk (Kd.R_after (ok := (fun k_ => some k_ ≠ (.slice Ao43 t269.length co43 : Value).ownBlock)) (y11_ HO_5.out) hg hat); replace HO_7 := Aside0.mk (Kd.R_after (ok := (fun k_ => some k_ ≠ (.slice Ao18 t265.length co18 : Value).ownBlock)) (y11_ HO_7.out) hg hat); replace HB := Aside0.mk (hb); have HO286 := Aside0.mk (ho); clear HO283; clear ho hb hg hat) | ((with_reducible refine gate_builtin (b := .append) (xs := #[.tmp 72, .tmp 73]) rfl ?_); (try (refine gate_guard (by rfl) ?_; dsimp only)); at_builtin; refine Kd.R_append_rows Kd.string (w0 := w) w.heap.size rfl (.tmp 72) (.tmp 73) 23 9 (.string ⟨#[]⟩) 16 rfl Tryd.underlying23 info9 rfl (by decide) (by omega) v285 y284 t269 _ _ _ (fun k_ => some k_ ≠ (.slice Ao18 t265.length co18 : Value).ownBlock ∧ some k_ ≠ (.slice Ao43 t269.length co43 : Value).ownBlock) (fun _ => False) rfl rfl ?aO ?aR (fun _ _ h => h) (fun _ h => h.elim) ?aF ?aB ?aS ?aL ?_; (case aR => repeat (first | exact (Kd.R_reads' HO_7.out).2.2 | (with_reducible refine Kd.C_alloc ?_ _) | (with_reducible refine Kd.C_drewN ?_ _) | (with_reducible refine Kd.C_drew ?_))); (case aB => exact (y7_ HB.out)); (case aF => exact (fun k_ hk => ⟨Kd.fresh' (Kd.R_lt (y11_ HO_5.out)) k_ hk, Kd.fresh' (Kd.R_lt (y11_ HO_7.out)) k_ hk⟩)); (case aO => exact (y11_ HO286.out)); (case aS => exact (below_size (y7_ HB.out))); (case aL => have := LMc42.out; omega); intro v288 w47 ho hb hg hat; rw [← Ny287.out] at ho; replace HO_5 := Aside0.mk (Kd.R_after (ok := (fun k_ => some k_ ≠ (.slice Ao43 t269.length co43 : Value).ownBlock)) (y11_ HO_5.out) hg hat); replace HO_7 := Aside0.mk (Kd.R_after (ok := (fun k_ => some k_ ≠ (.slice Ao18 t265.length co18 : Value).ownBlock)) (y11_ HO_7.out) hg hat); replace HB := Aside0.mk (hb); have HO289 := Aside0.mk (ho); clear HO286; clear ho hb hg hat))
                  go_loopg [13] k3 (fun kq v13 w' => ∃ (x13_4 : Int), v13 = .int .i64 x13_4 ∧ Aside0 (laws_FnKnwMake.l2 kq t265 t266 t273 y287 x13_4 = some r) ∧ Aside0 (kq ≤ k3) ∧ Aside0 (Kd.R Kd.string 9 w' w.heap.size (fun k_ => some k_ ≠ (v288 : Value).ownBlock) (.slice Ao18 t265.length co18) t265) ∧ Aside0 (Kd.R Kd.string 9 w' w.heap.size (fun k_ => some k_ ≠ ((.slice Ao18 t265.length co18) : Value).ownBlock) v288 y287) ∧ Aside0 (Below w.heap.size w w'))
                  case atStart => exact ⟨(0), y4_, H', ⟨Nat.le_refl _⟩, ⟨by (with_reducible repeat (first | apply Kd.R_alloc | apply Kd.R_drewN | apply Kd.R_drew)); exact Kd.R_mono HO_5.out (fun _ hk => hk.2)⟩, ⟨by (with_reducible repeat (first | apply Kd.R_alloc | apply Kd.R_drewN | apply Kd.R_drew)); exact Kd.R_mono HO289.out (fun _ hk => hk.1)⟩, ⟨y7_ HB.out⟩⟩
                  case round =>
                    clear H'
                    try clear c1
                    try clear c2
                    try clear p2
                    try clear q2
                    try clear hx2
                    try clear c3
                    try clear c4
                    try clear c4b0
                    try clear c4b1
                    try clear c5
                    try clear p6
                    try clear c8
                    try clear c10
                    try clear c10b0
                    try clear c10b1
                    try clear c10b2
                    try clear c14
                    try clear c15
                    try clear c16
                    try clear c17
                    try clear c21
                    try clear c21b0
                    try clear c22
                    try clear c22b0
                    try clear c24
                    try clear c26
                    try clear p27
                    try clear q27
                    try clear hx27
                    try clear c31
                    try clear c31b0
                    try clear c32
                    try clear c32b0
                    try clear c34
                    try clear c41
                    try clear c42
                    try clear hx275_0
                    try clear hx278_0
                    try clear p2
                    try clear p27
                    try clear p275
                    try clear p278
                    try clear p6
                    try clear q2
                    try clear q27
                    try clear q275
                    try clear q278
                    obtain ⟨x13_4, rfl, HA, HK4, HO_5, HO_12, HB⟩ := hrel
                    cases gk with
                    | zero => exact absurd HA.out (by simp [laws_FnKnwMake.l2])
                    | succ k4 =>
                      have H := HA.out
                      clear HA
                      simp only [laws_FnKnwMake.l2] at H
                      by_cases c48 : x13_4 < (t265.length : Int)
                      · rw [if_pos c48] at H
                        have c48b0 : decide (x13_4 < (t265.length : Int)) = true := decide_eq_true c48
                        clear c48
                        by_cases c49 : 0 ≤ x13_4
                        · rw [if_pos c49] at H
                          have c49b0 : decide (0 ≤ x13_4) = true := decide_eq_true c49
                          clear c49
                          replace H := Option.bind_eq_some_iff.mp H
                          obtain ⟨t291, A500, H⟩ := H
                          replace H : (if t291 = true then (laws_FnKnwMake.l2 k4 t265 t266 t273 y287 (wrap64 (x13_4 + 1))) else (some false)) = some r := H
                          have A50 := Aside0.mk A500
                          clear A500
                          by_cases c51 : t291 = true
                          · subst c51
                            have H1 : (laws_FnKnwMake.l2 k4 t265 t266 t273 y287 (wrap64 (x13_4 + 1))) = some r := by rw [if_pos rfl] at H; exact H
                            clear H
                            have H := H1
                            clear H1
                            have H' := Aside0.mk H
                            clear H
                            have p290 : 0 ≤ (x13_4 : Int) := of_decide_eq_true y3_
                            have q290 : x13_4 < (t265.length : Int) := of_decide_eq_true y3_
                            obtain ⟨ad290, e290, hx290_0⟩ := Kd.at_string (Kd.R_reads' HO_5.out).2.2 x13_4 p290 q290
                            cases e290
                            replace p290 := eq_true p290
                            replace q290 := eq_true q290
                            go_wp2_with (first | ((with_reducible refine gate_callee (f := 14) rfl ?_); refine goesL_ (some 86) rfl rfl Tryd.func14 (by kernel_rfl) rfl #[.slice (some ad290) t265.length co18, .string (rdOf ByteArray.empty t265 x13_4)] rfl y1_ ?_; (with_reducible refine (impl_KnwMake.calls _ _ t265 (rdOf ByteArray.empty t265 x13_4) true _ ?side1 ?side2 ?side3 A50.out).mono ?_); (case side1 => repeat (first | exact (Kd.R_reads' HO_5.out).2.2 | (with_reducible refine Kd.C_alloc ?_ _) | (with_reducible refine Kd.C_drewN ?_ _) | (with_reducible refine Kd.C_drew ?_))); (case side2 => exact (Kd.R_reads' HO_5.out).2.1); (case side3 => exact GlobOk.below HGL.out (y7_ HB.out)); rintro e w52 ⟨rfl, hb⟩; refine ⟨_, rfl, ?_⟩; replace HO_5 := Aside0.mk (Kd.R_below (y11_ HO_5.out) hb); replace HO_12 := Aside0.mk (Kd.R_below (y11_ HO_12.out) hb); replace HB := Aside0.mk (below_step (y7_ HB.out) hb); clear hb))
                            go_roundg k4
                            case measure => have := HJ2.out; have := HK2.out; have := HK3.out; have := HK4.out; omega
                            case rel => exact ⟨(wrap64 (x13_4 + 1)), y4_, H', ⟨by have := HJ2.out; have := HK2.out; have := HK3.out; have := HK4.out; omega⟩, ⟨by (with_reducible repeat (first | apply Kd.R_alloc | apply Kd.R_drewN | apply Kd.R_drew)); exact HO_5.out⟩, ⟨by (with_reducible repeat (first | apply Kd.R_alloc | apply Kd.R_drewN | apply Kd.R_drew)); exact HO_12.out⟩, ⟨y7_ HB.out⟩⟩
                          replace c51 := Bool.eq_false_iff.mpr c51
                          subst c51
                          have H1 : (some false) = some r := by rw [if_neg (show ¬ (false = true) by decide)] at H; exact H
                          clear H
                          have H := H1
                          clear H1
                          obtain rfl := Option.some.inj H
                          have p290 : 0 ≤ (x13_4 : Int) := of_decide_eq_true y3_
                          have q290 : x13_4 < (t265.length : Int) := of_decide_eq_true y3_
                          obtain ⟨ad290, e290, hx290_0⟩ := Kd.at_string (Kd.R_reads' HO_5.out).2.2 x13_4 p290 q290
                          cases e290
                          replace p290 := eq_true p290
                          replace q290 := eq_true q290
                          go_wp2_with (first | ((with_reducible refine gate_callee (f := 14) rfl ?_); refine goesL_ (some 86) rfl rfl Tryd.func14 (by kernel_rfl) rfl #[.slice (some ad290) t265.length co18, .string (rdOf ByteArray.empty t265 x13_4)] rfl y1_ ?_; (with_reducible refine (impl_KnwMake.calls _ _ t265 (rdOf ByteArray.empty t265 x13_4) false _ ?side1 ?side2 ?side3 A50.out).mono ?_); (case side1 => repeat (first | exact (Kd.R_reads' HO_5.out).2.2 | (with_reducible refine Kd.C_alloc ?_ _) | (with_reducible refine Kd.C_drewN ?_ _) | (with_reducible refine Kd.C_drew ?_))); (case side2 => exact (Kd.R_reads' HO_5.out).2.1); (case side3 => exact GlobOk.below HGL.out (y7_ HB.out)); rintro e w53 ⟨rfl, hb⟩; refine ⟨_, rfl, ?_⟩; replace HO_5 := Aside0.mk (Kd.R_below (y11_ HO_5.out) hb); replace HO_12 := Aside0.mk (Kd.R_below (y11_ HO_12.out) hb); replace HB := Aside0.mk (below_step (y7_ HB.out) hb); clear hb))
                          go_ret
                          exact ⟨y6_, y7_ HB.out⟩
                        rw [if_neg c49] at H
                        exact absurd H (by simp)
                      rw [if_neg c48] at H
                      have c48b0 : decide (x13_4 < (t265.length : Int)) = false := decide_eq_false c48
                      clear c48
                      by_cases c54 : t273 = true
                      · subst c54
                        have H1 : ((impl_KnwMake.f y287 t266).bind fun t293 => (if t293 = true then (if (t266.size : Int) ≥ 300 then (some true) else ((impl_MakNext.f k4 t266).bind fun t294 => ((impl_KnwMake.f t265 t294).bind fun t295 => (if t295 = true then ((impl_MakKey.f k4 t266).bind fun t296 => ((impl_KnwMake.f t265 t296).bind fun t297 => (some t297))) else (some false))))) else (some false))) = some r := by rw [if_pos rfl] at H; exact H
                        clear H
                        have H := H1
                        clear H1
                        replace H := Option.bind_eq_some_iff.mp H
                        obtain ⟨t293, A550, H⟩ := H
                        replace H : (if t293 = true then (if (t266.size : Int) ≥ 300 then (some true) else ((impl_MakNext.f k4 t266).bind fun t294 => ((impl_KnwMake.f t265 t294).bind fun t295 => (if t295 = true then ((impl_MakKey.f k4 t266).bind fun t296 => ((impl_KnwMake.f t265 t296).bind fun t297 => (some t297))) else (some false))))) else (some false)) = some r := H
                        have A55 := Aside0.mk A550
                        clear A550
                        by_cases c56 : t293 = true
                        · subst c56
                          have H1 : (if (t266.size : Int) ≥ 300 then (some true) else ((impl_MakNext.f k4 t266).bind fun t294 => ((impl_KnwMake.f t265 t294).bind fun t295 => (if t295 = true then ((impl_MakKey.f k4 t266).bind fun t296 => ((impl_KnwMake.f t265 t296).bind fun t297 => (some t297))) else (some false))))) = some r := by rw [if_pos rfl] at H; exact H
                          clear H
                          have H := H1
                          clear H1
                          by_cases c57 : (t266.size : Int) ≥ 300
                          · rw [if_pos c57] at H
                            have c57b0 : decide (300 ≤ (t266.size : Int)) = true := decide_eq_true c57
                            have c57b1 : decide (300 ≤ t266.size) = true := decide_eq_true (by omega)
                            clear c57
                            obtain rfl := Option.some.inj H
                            obtain ⟨Ao58, co58, eo58⟩ := Kd.R_slice HO_12.out
                            subst eo58
                            go_wp2_with (first | ((with_reducible refine gate_callee (f := 14) rfl ?_); refine goesL_ (some 93) rfl rfl Tryd.func14 (by kernel_rfl) rfl #[.slice Ao58 y287.length co58, .string t266] rfl y1_ ?_; (with_reducible refine (impl_KnwMake.calls _ _ y287 t266 true _ ?side1 ?side2 ?side3 A55.out).mono ?_); (case side1 => repeat (first | exact (Kd.R_reads' HO_12.out).2.2 | (with_reducible refine Kd.C_alloc ?_ _) | (with_reducible refine Kd.C_drewN ?_ _) | (with_reducible refine Kd.C_drew ?_))); (case side2 => exact (Kd.R_reads' HO_12.out).2.1); (case side3 => exact GlobOk.below HGL.out (y7_ HB.out)); rintro e w59 ⟨rfl, hb⟩; refine ⟨_, rfl, ?_⟩; replace HO_5 := Aside0.mk (Kd.R_below (y11_ HO_5.out) hb); replace HO_12 := Aside0.mk (Kd.R_below (y11_ HO_12.out) hb); replace HB := Aside0.mk (below_step (y7_ HB.out) hb); clear hb))
                            go_ret
                            exact ⟨y6_, y7_ HB.out⟩
                          rw [if_neg c57] at H
                          have c57b0 : decide (300 ≤ (t266.size : Int)) = false := decide_eq_false c57
                          have c57b1 : decide (300 ≤ t266.size) = false := decide_eq_false (by omega)
                          clear c57
                          replace H := Option.bind_eq_some_iff.mp H
                          obtain ⟨t294, A600, H⟩ := H
                          replace H : ((impl_KnwMake.f t265 t294).bind fun t295 => (if t295 = true then ((impl_MakKey.f k4 t266).bind fun t296 => ((impl_KnwMake.f t265 t296).bind fun t297 => (some t297))) else (some false))) = some r := H
                          have A60 := Aside0.mk A600
                          clear A600
                          replace H := Option.bind_eq_some_iff.mp H
                          obtain ⟨t295, A610, H⟩ := H
                          replace H : (if t295 = true then ((impl_MakKey.f k4 t266).bind fun t296 => ((impl_KnwMake.f t265 t296).bind fun t297 => (some t297))) else (some false)) = some r := H
                          have A61 := Aside0.mk A610
                          clear A610
                          by_cases c62 : t295 = true
                          · subst c62
                            have H1 : ((impl_MakKey.f k4 t266).bind fun t296 => ((impl_KnwMake.f t265 t296).bind fun t297 => (some t297))) = some r := by rw [if_pos rfl] at H; exact H
                            clear H
                            have H := H1
                            clear H1
                            replace H := Option.bind_eq_some_iff.mp H
                            obtain ⟨t296, A630, H⟩ := H
                            replace H : ((impl_KnwMake.f t265 t296).bind fun t297 => (some t297)) = some r := H
                            have A63 := Aside0.mk A630
                            clear A630
                            replace H := Option.bind_eq_some_iff.mp H
                            obtain ⟨t297, A640, H⟩ := H
                            replace H : (some t297) = some r := H
                            have A64 := Aside0.mk A640
                            clear A640
                            obtain rfl := Option.some.inj H
                            obtain ⟨Ao65, co65, eo65⟩ := Kd.R_slice HO_12.out
                            subst eo65
                            go_wp2_with (first | ((with_reducible refine gate_callee (f := 14) rfl ?_); refine goesL_ (some 93) rfl rfl Tryd.func14 (by kernel_rfl) rfl #[.slice Ao65 y287.length co65, .string t266] rfl y1_ ?_; (with_reducible refine (impl_KnwMake.calls _ _ y287 t266 true _ ?side1 ?side2 ?side3 A55.out).mono ?_); (case side1 => repeat (first | exact (Kd.R_reads' HO_12.out).2.2 | (with_reducible refine Kd.C_alloc ?_ _) | (with_reducible refine Kd.C_drewN ?_ _) | (with_reducible refine Kd.C_drew ?_))); (case side2 => exact (Kd.R_reads' HO_12.out).2.1); (case side3 => exact GlobOk.below HGL.out (y7_ HB.out)); rintro e w66 ⟨rfl, hb⟩; refine ⟨_, rfl, ?_⟩; replace HO_5 := Aside0.mk (Kd.R_below (y11_ HO_5.out) hb); replace HO_12 := Aside0.mk (Kd.R_below (y11_ HO_12.out) hb); replace HB := Aside0.mk (below_step (y7_ HB.out) hb); clear hb) | (go_at_call 23; (with_reducible refine (impl_MakNext.calls k4 t266 t294 _ ?side1 A60.out).mono ?_); (case side1 => exact GlobOk.below HGL.out (y7_ HB.out)); rintro e w67 ⟨rfl, hb⟩; replace HO_5 := Aside0.mk (Kd.R_below (y11_ HO_5.out) hb); replace HO_12 := Aside0.mk (Kd.R_below (y11_ HO_12.out) hb); replace HB := Aside0.mk (below_step (y7_ HB.out) hb); clear hb) | (go_at_call 14; (with_reducible refine (impl_KnwMake.calls _ _ t265 t294 true _ ?side1 ?side2 ?side3 A61.out).mono ?_); (case side1 => repeat (first | exact (Kd.R_reads' HO_5.out).2.2 | (with_reducible refine Kd.C_alloc ?_ _) | (with_reducible refine Kd.C_drewN ?_ _) | (with_reducible refine Kd.C_drew ?_))); (case side2 => exact (Kd.R_reads' HO_5.out).2.1); (case side3 => exact GlobOk.below HGL.out (y7_ HB.out)); rintro e w68 ⟨rfl, hb⟩; replace HO_5 := Aside0.mk (Kd.R_below (y11_ HO_5.out) hb); replace HO_12 := Aside0.mk (Kd.R_below (y11_ HO_12.out) hb); replace HB := Aside0.mk (below_step (y7_ HB.out) hb); clear hb) | (go_at_call 24; (with_reducible refine (impl_MakKey.calls k4 t266 t296 _ ?side1 A63.out).mono ?_); (case side1 => exact GlobOk.below HGL.out (y7_ HB.out)); rintro e w69 ⟨rfl, hb⟩; replace HO_5 := Aside0.mk (Kd.R_below (y11_ HO_5.out) hb); replace HO_12 := Aside0.mk (Kd.R_below (y11_ HO_12.out) hb); replace HB := Aside0.mk (below_step (y7_ HB.out) hb); clear hb) | (go_at_call 14; (with_reducible refine (impl_KnwMake.calls _ _ t265 t296 t297 _ ?side1 ?side2 ?side3 A64.out).mono ?_); (case side1 => repeat (first | exact (Kd.R_reads' HO_5.out).2.2 | (with_reducible refine Kd.C_alloc ?_ _) | (with_reducible refine Kd.C_drewN ?_ _) | (with_reducible refine Kd.C_drew ?_))); (case side2 => exact (Kd.R_reads' HO_5.out).2.1); (case side3 => exact GlobOk.below HGL.out (y7_ HB.out)); rintro e w70 ⟨rfl, hb⟩; replace HO_5 := Aside0.mk (Kd.R_below (y11_ HO_5.out) hb); replace HO_12 := Aside0.mk (Kd.R_below (y11_ HO_12.out) hb); replace HB := Aside0.mk (below_step (y7_ HB.out) hb); clear hb))
                            go_ret
                            exact ⟨y6_, y7_ HB.out⟩
                          replace c62 := Bool.eq_false_iff.mpr c62
                          subst c62
                          have H1 : (some false) = some r := by rw [if_neg (show ¬ (false = true) by decide)] at H; exact H
                          clear H
                          have H := H1
                          clear H1
                          obtain rfl := Option.some.inj H
                          obtain ⟨Ao71, co71, eo71⟩ := Kd.R_slice HO_12.out
                          subst eo71
                          go_wp2_with (first | ((with_reducible refine gate_callee (f := 14) rfl ?_); refine goesL_ (some 93) rfl rfl Tryd.func14 (by kernel_rfl) rfl #[.slice Ao71 y287.length co71, .string t266] rfl y1_ ?_; (with_reducible refine (impl_KnwMake.calls _ _ y287 t266 true _ ?side1 ?side2 ?side3 A55.out).mono ?_); (case side1 => repeat (first | exact (Kd.R_reads' HO_12.out).2.2 | (with_reducible refine Kd.C_alloc ?_ _) | (with_reducible refine Kd.C_drewN ?_ _) | (with_reducible refine Kd.C_drew ?_))); (case side2 => exact (Kd.R_reads' HO_12.out).2.1); (case side3 => exact GlobOk.below HGL.out (y7_ HB.out)); rintro e w72 ⟨rfl, hb⟩; refine ⟨_, rfl, ?_⟩; replace HO_5 := Aside0.mk (Kd.R_below (y11_ HO_5.out) hb); replace HO_12 := Aside0.mk (Kd.R_below (y11_ HO_12.out) hb); replace HB := Aside0.mk (below_step (y7_ HB.out) hb); clear hb) | (go_at_call 23; (with_reducible refine (impl_MakNext.calls k4 t266 t294 _ ?side1 A60.out).mono ?_); (case side1 => exact GlobOk.below HGL.out (y7_ HB.out)); rintro e w73 ⟨rfl, hb⟩; replace HO_5 := Aside0.mk (Kd.R_below (y11_ HO_5.out) hb); replace HO_12 := Aside0.mk (Kd.R_below (y11_ HO_12.out) hb); replace HB := Aside0.mk (below_step (y7_ HB.out) hb); clear hb) | (go_at_call 14; (with_reducible refine (impl_KnwMake.calls _ _ t265 t294 false _ ?side1 ?side2 ?side3 A61.out).mono ?_); (case side1 => repeat (first | exact (Kd.R_reads' HO_5.out).2.2 | (with_reducible refine Kd.C_alloc ?_ _) | (with_reducible refine Kd.C_drewN ?_ _) | (with_reducible refine Kd.C_drew ?_))); (case side2 => exact (Kd.R_reads' HO_5.out).2.1); (case side3 => exact GlobOk.below HGL.out (y7_ HB.out)); rintro e w74 ⟨rfl, hb⟩; replace HO_5 := Aside0.mk (Kd.R_below (y11_ HO_5.out) hb); replace HO_12 := Aside0.mk (Kd.R_below (y11_ HO_12.out) hb); replace HB := Aside0.mk (below_step (y7_ HB.out) hb); clear hb))
                          go_ret
                          exact ⟨y6_, y7_ HB.out⟩
                        replace c56 := Bool.eq_false_iff.mpr c56
                        subst c56
                        have H1 : (some false) = some r := by rw [if_neg (show ¬ (false = true) by decide)] at H; exact H
                        clear H
                        have H := H1
                        clear H1
                        obtain rfl := Option.some.inj H
                        obtain ⟨Ao75, co75, eo75⟩ := Kd.R_slice HO_12.out
                        subst eo75
                        go_wp2_with (first | ((with_reducible refine gate_callee (f := 14) rfl ?_); refine goesL_ (some 93) rfl rfl Tryd.func14 (by kernel_rfl) rfl #[.slice Ao75 y287.length co75, .string t266] rfl y1_ ?_; (with_reducible refine (impl_KnwMake.calls _ _ y287 t266 false _ ?side1 ?side2 ?side3 A55.out).mono ?_); (case side1 => repeat (first | exact (Kd.R_reads' HO_12.out).2.2 | (with_reducible refine Kd.C_alloc ?_ _) | (with_reducible refine Kd.C_drewN ?_ _) | (with_reducible refine Kd.C_drew ?_))); (case side2 => exact (Kd.R_reads' HO_12.out).2.1); (case side3 => exact GlobOk.below HGL.out (y7_ HB.out)); rintro e w76 ⟨rfl, hb⟩; refine ⟨_, rfl, ?_⟩; replace HO_5 := Aside0.mk (Kd.R_below (y11_ HO_5.out) hb); replace HO_12 := Aside0.mk (Kd.R_below (y11_ HO_12.out) hb); replace HB := Aside0.mk (below_step (y7_ HB.out) hb); clear hb))
                        go_ret
                        exact ⟨y6_, y7_ HB.out⟩
                      replace c54 := Bool.eq_false_iff.mpr c54
                      subst c54
                      have H1 : ((laws_keOk.f).bind fun t292 => (some t292)) = some r := by rw [if_neg (show ¬ (false = true) by decide)] at H; exact H
                      clear H
                      have H := H1
                      clear H1
                      replace H := Option.bind_eq_some_iff.mp H
                      obtain ⟨t292, A770, H⟩ := H
                      replace H : (some t292) = some r := H
                      have A77 := Aside0.mk A770
                      clear A770
                      obtain rfl := Option.some.inj H
                      go_wp2_with (first | ((with_reducible refine gate_callee (f := 15) rfl ?_); refine goesL_ (some 90) rfl rfl Tryd.func15 (by kernel_rfl) rfl #[] rfl y1_ ?_; (with_reducible refine (laws_keOk.calls  t292 _ ?side1 A77.out).mono ?_); (case side1 => exact GlobOk.below HGL.out (y7_ HB.out)); rintro e w78 ⟨rfl, hb⟩; refine ⟨_, rfl, ?_⟩; replace HO_5 := Aside0.mk (Kd.R_below (y11_ HO_5.out) hb); replace HO_12 := Aside0.mk (Kd.R_below (y11_ HO_12.out) hb); replace HB := Aside0.mk (below_step (y7_ HB.out) hb); clear hb))
                      go_ret
                      exact ⟨y6_, y7_ HB.out⟩
                rw [if_neg c42] at H
                exact absurd H (by simp)
              rw [if_neg c41] at H
              exact absurd H (by simp)

/-- THE ONE PURE STATEMENT of laws_FnKnwMake: yours. -/
def laws_FnKnwMake.Pure : Prop := ∀ (l0 : List Int) (l1 : List Int), l0.length ≤ maxLen → l0.length * 1 ≤ 140737488351232 → (∀ x ∈ l0, (Lit.int .u8 x).wf = true) → l1.length ≤ maxLen → l1.length * 1 ≤ 140737488351232 → (∀ x ∈ l1, (Lit.int .u8 x).wf = true) → ∃ k, laws_FnKnwMake.f k l0 l1 = some true
theorem laws_FnKnwMake.walk (P : laws_FnKnwMake.Pure) (a0 : Option Addr) (len0 cap0 : Nat) (z0 : List Int) (a1 : Option Addr) (len1 cap1 : Nat) (z1 : List Int) (w : World) (w0 : (a0 = none ∧ len0 = 0 ∧ cap0 = 0 ∧ z0 = []) ∨ ∃ x, a0 = some x ∧ len0 ≤ cap0 ∧ cap0 ≤ maxLen ∧ z0.length = cap0 ∧ (∀ i, i < z0.length → w.cell? (x.add i) = some (.int .u8 (z0.getD i 0))) ∧ ∀ n ∈ z0, (Lit.int .u8 n).wf = true) (y0 : len0 * 1 ≤ 140737488351232) (w1 : (a1 = none ∧ len1 = 0 ∧ cap1 = 0 ∧ z1 = []) ∨ ∃ x, a1 = some x ∧ len1 ≤ cap1 ∧ cap1 ≤ maxLen ∧ z1.length = cap1 ∧ (∀ i, i < z1.length → w.cell? (x.add i) = some (.int .u8 (z1.getD i 0))) ∧ ∀ n ∈ z1, (Lit.int .u8 n).wf = true) (y1 : len1 * 1 ≤ 140737488351232) (hG : GlobOk w) :
    Calls Tryd.prog 8 #[.slice a0 len0 cap0, .slice a1 len1 cap1] w fun e w' => e = .returned (.bool true) ∧ Below w.heap.size w w' := by
  obtain ⟨l0, rfl, hr0, hm0, hw0, hc0⟩ := ReadsInt.ofRowC w0
  obtain ⟨l1, rfl, hr1, hm1, hw1, hc1⟩ := ReadsInt.ofRowC w1
  obtain ⟨k, h⟩ := P l0 l1 hm0 y0 hw0 hm1 y1 hw1
  refine (laws_FnKnwMake.calls k _ _ l0 _ _ l1 true w (Kd.C_of_reads (d := (0 : Int)) (h1 := fun _ => rfl) hr0) hc0 (Kd.C_of_reads (d := (0 : Int)) (h1 := fun _ => rfl) hr1) hc1 hG h).mono ?_
  rintro e w' ⟨rfl, hd⟩
  exact ⟨rfl, hd⟩

end Go.Proofs.YtjbnfcljkmapeaaDoor.Ym
