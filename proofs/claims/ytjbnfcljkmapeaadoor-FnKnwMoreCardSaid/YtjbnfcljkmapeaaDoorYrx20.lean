-- Written by this session's own program (wip/tools/pp.py) out of the translation, over functions given by hand. Lean checks it.
import Derived.Test.YtjbnfcljkmapeaaDoorYrx0
import Derived.Test.YtjbnfcljkmapeaaDoorYrx1
import Derived.Test.YtjbnfcljkmapeaaDoorYrx5
import Derived.Test.YtjbnfcljkmapeaaDoorYrx11
import Derived.Test.YtjbnfcljkmapeaaDoorYrx19
import Derived.Test.YtjbnfcljkmapeaaDoorYrGivK
namespace Go.Proofs.YtjbnfcljkmapeaaDoor.Yr
open Go.RowKit Go.Proofs.YtjbnfcljkmapeaaDoorW.PrintWords Go.Proofs.YtjbnfcljkmapeaaDoorW.PrintLast Go.Proofs.YtjbnfcljkmapeaaDoorW.PrintMore
attribute [local go_sem] max2_int min2_int max_two min_two max_three min_three max_four min_four   -- for this text's walks alone
set_option linter.unusedVariables false
set_option linter.unusedSimpArgs false

/-! ### laws_FnKnwMore: function 9 -/
mutual
def laws_FnKnwMore.j0 : Nat → List Int → List Int → Bool → Option (Bool)
  | 0, _, _, _ => none
  | k + 1, x0, x1, x20 => if x20 = true then (some true) else ((spec_DrawKnwOpen.f k x0).bind fun bt309 => ((spec_DrawKnwOpen.f k x1).bind fun bt315 => ((impl_KnwOpen.f bt309.1 bt309.2).bind fun t321 => ((spec_KnwOpen.f k bt309.1 bt309.2).bind fun t324 => ((laws_keTexts.f k t321 t324).bind fun t327 => (if t327 = true then (laws_FnKnwMore.l0 k bt309.1 bt309.2 bt315.1 t321 0) else (some false)))))))
def laws_FnKnwMore.l0 : Nat → List ByteArray → List (S45) → List ByteArray → List ByteArray → Int → Option (Bool)
  | 0, _, _, _, _, _ => none
  | k + 1, x5, x6, x7, x9, x10 => if x10 < (x7.length : Int) then (if 0 ≤ x10 then ((spec_SecOk.f k (rdOf ByteArray.empty x7 x10)).bind fun t329 => (if t329 = true then (laws_FnKnwMore.l0 k x5 x6 x7 x9 (wrap64 (x10 + 1))) else ((laws_keOk.f).bind fun t330 => (some t330)))) else (none)) else ((some (([] : List ByteArray) : List ByteArray)).bind fun y331 => (if y331.length + x5.length < 8796093022208 then ((some (y331 ++ x5 : List ByteArray)).bind fun y334 => (if y334.length + x7.length < 8796093022208 then ((impl_KnwOpen.f (y334 ++ x7) x6).bind fun t340 => (laws_FnKnwMore.l1 k x5 x6 x9 t340 0)) else (none))) else (none)))
def laws_FnKnwMore.l1 : Nat → List ByteArray → List (S45) → List ByteArray → List ByteArray → Int → Option (Bool)
  | 0, _, _, _, _, _ => none
  | k + 1, x5, x6, x9, x11, x12 => if x12 < (x9.length : Int) then (if 0 ≤ x12 then ((laws_keHas.f k x11 (rdOf ByteArray.empty x9 x12)).bind fun t344 => (if t344 = true then (laws_FnKnwMore.l1 k x5 x6 x9 x11 (wrap64 (x12 + 1))) else (some false))) else (none)) else ((some (([] : List ByteArray) : List ByteArray)).bind fun y345 => (if y345.length + x5.length < 8796093022208 then ((some (y345 ++ x5 : List ByteArray)).bind fun y348 => (if y348.length + x5.length < 8796093022208 then ((impl_KnwOpen.f (y348 ++ x5) x6).bind fun t354 => ((laws_keTexts.f k t354 x9).bind fun t357 => (if t357 = true then ((laws_keOk.f).bind fun t358 => (some t358)) else (some false)))) else (none))) else (none)))
end
def laws_FnKnwMore.f (k : Nat) (l0 : List Int) (l1 : List Int) : Option (Bool) := if (l0.length : Int) > 1048576 then (laws_FnKnwMore.j0 k l0 l1 true) else (laws_FnKnwMore.j0 k l0 l1 (decide ((l1.length : Int) > 1048576)))
theorem laws_FnKnwMore.mono_l : ∀ k, (∀ y0 y1 y2, LeO (laws_FnKnwMore.j0 k y0 y1 y2) (laws_FnKnwMore.j0 (k + 1) y0 y1 y2)) ∧ (∀ y0 y1 y2 y3 y4, LeO (laws_FnKnwMore.l0 k y0 y1 y2 y3 y4) (laws_FnKnwMore.l0 (k + 1) y0 y1 y2 y3 y4)) ∧ (∀ y0 y1 y2 y3 y4, LeO (laws_FnKnwMore.l1 k y0 y1 y2 y3 y4) (laws_FnKnwMore.l1 (k + 1) y0 y1 y2 y3 y4))
  | 0 => ⟨fun _ _ _ r h => by simp [laws_FnKnwMore.j0] at h, fun _ _ _ _ _ r h => by simp [laws_FnKnwMore.l0] at h, fun _ _ _ _ _ r h => by simp [laws_FnKnwMore.l1] at h⟩
  | k + 1 => by
    obtain ⟨ih0, ih1, ih2⟩ := laws_FnKnwMore.mono_l k
    refine ⟨?_, ?_, ?_⟩
    · intro y0 y1 y2
      unfold laws_FnKnwMore.j0
      repeat' first
      | (with_reducible exact ih0 _ _ _)
      | (with_reducible exact ih1 _ _ _ _ _)
      | (with_reducible exact ih2 _ _ _ _ _)
      | (with_reducible exact laws_keHas.mono _ _ _)
      | (with_reducible exact laws_keTexts.mono _ _ _)
      | (with_reducible exact spec_DrawKnwOpen.mono _ _)
      | (with_reducible exact spec_KnwOpen.mono _ _ _)
      | (with_reducible exact spec_SecOk.mono _ _)
      | (with_reducible exact LeO.refl _)
      | (with_reducible exact LeO.none _)
      | (with_reducible refine LeO.ite ?_ ?_)
      | (with_reducible refine LeO.bind ?_ (fun _ => ?_))
      | exact LeO.none _
      | refine LeO.ite ?_ ?_
      | refine LeO.bind ?_ (fun _ => ?_)
    · intro y0 y1 y2 y3 y4
      unfold laws_FnKnwMore.l0
      repeat' first
      | (with_reducible exact ih0 _ _ _)
      | (with_reducible exact ih1 _ _ _ _ _)
      | (with_reducible exact ih2 _ _ _ _ _)
      | (with_reducible exact laws_keHas.mono _ _ _)
      | (with_reducible exact laws_keTexts.mono _ _ _)
      | (with_reducible exact spec_DrawKnwOpen.mono _ _)
      | (with_reducible exact spec_KnwOpen.mono _ _ _)
      | (with_reducible exact spec_SecOk.mono _ _)
      | (with_reducible exact LeO.refl _)
      | (with_reducible exact LeO.none _)
      | (with_reducible refine LeO.ite ?_ ?_)
      | (with_reducible refine LeO.bind ?_ (fun _ => ?_))
      | exact LeO.none _
      | refine LeO.ite ?_ ?_
      | refine LeO.bind ?_ (fun _ => ?_)
    intro y0 y1 y2 y3 y4
    unfold laws_FnKnwMore.l1
    repeat' first
    | (with_reducible exact ih0 _ _ _)
    | (with_reducible exact ih1 _ _ _ _ _)
    | (with_reducible exact ih2 _ _ _ _ _)
    | (with_reducible exact laws_keHas.mono _ _ _)
    | (with_reducible exact laws_keTexts.mono _ _ _)
    | (with_reducible exact spec_DrawKnwOpen.mono _ _)
    | (with_reducible exact spec_KnwOpen.mono _ _ _)
    | (with_reducible exact spec_SecOk.mono _ _)
    | (with_reducible exact LeO.refl _)
    | (with_reducible exact LeO.none _)
    | (with_reducible refine LeO.ite ?_ ?_)
    | (with_reducible refine LeO.bind ?_ (fun _ => ?_))
    | exact LeO.none _
    | refine LeO.ite ?_ ?_
    | refine LeO.bind ?_ (fun _ => ?_)
theorem laws_FnKnwMore.mono : ∀ a0 a1 k, LeO (laws_FnKnwMore.f k a0 a1) (laws_FnKnwMore.f (k + 1) a0 a1) := by
  intro a0 a1 k
  obtain ⟨ih0, ih1, ih2⟩ := laws_FnKnwMore.mono_l k
  unfold laws_FnKnwMore.f
  repeat' first
      | (with_reducible exact ih0 _ _ _)
      | (with_reducible exact ih1 _ _ _ _ _)
      | (with_reducible exact ih2 _ _ _ _ _)
      | (with_reducible exact laws_keHas.mono _ _ _)
      | (with_reducible exact laws_keTexts.mono _ _ _)
      | (with_reducible exact spec_DrawKnwOpen.mono _ _)
      | (with_reducible exact spec_KnwOpen.mono _ _ _)
      | (with_reducible exact spec_SecOk.mono _ _)
      | (with_reducible exact LeO.refl _)
      | (with_reducible exact LeO.none _)
      | (with_reducible refine LeO.ite ?_ ?_)
      | (with_reducible refine LeO.bind ?_ (fun _ => ?_))
      | exact LeO.none _
      | refine LeO.ite ?_ ?_
      | refine LeO.bind ?_ (fun _ => ?_)
set_option maxHeartbeats 8000000 in
set_option maxRecDepth 100000 in
theorem laws_FnKnwMore.calls (k : Nat) (A0 : Option Addr) (c0 : Nat) (l0 : List Int) (A1 : Option Addr) (c1 : Nat) (l1 : List Int) (r : Bool) (w : World) (hr0 : Kd.C (Kd.int .u8) w A0 l0.length l0) (hc0 : l0.length ≤ c0) (hr1 : Kd.C (Kd.int .u8) w A1 l1.length l1) (hc1 : l1.length ≤ c1) (hG : GlobOk w) (h : laws_FnKnwMore.f k l0 l1 = some r) :
    Calls Tryd.prog 9 #[.slice A0 l0.length c0, .slice A1 l1.length c1] w fun e w' => e = .returned (.bool r) ∧ Below w.heap.size w w' := by
  have HR0 := Aside0.mk hr0
  have HC0 := Aside0.mk hc0
  clear hr0 hc0
  have HR1 := Aside0.mk hr1
  have HC1 := Aside0.mk hc1
  clear hr1 hc1
  have HB := Aside0.mk (Below.refl w.heap.size w)
  have HGL := Aside0.mk hG
  clear hG
  have H : (if (l0.length : Int) > 1048576 then (laws_FnKnwMore.j0 k l0 l1 true) else (laws_FnKnwMore.j0 k l0 l1 (decide ((l1.length : Int) > 1048576)))) = some r := h
  clear h
  have HC3 := Aside0.mk H
  clear H
  go_enter Tryd.func9, Tryd.ntmps9
  go_upto_region 1 with (fail)
  go_cut [20] (fun v20 wc => ∃ (kq : Nat) (x20_2 : Bool), v20 = .bool x20_2 ∧ Aside0 (laws_FnKnwMore.j0 kq l0 l1 x20_2 = some r) ∧ Aside0 (kq ≤ k) ∧ Aside0 (Below w.heap.size w wc))
  case first =>
    have H := HC3.out
    clear HC3
    by_cases c4 : (l0.length : Int) > 1048576
    · rw [if_pos c4] at H
      have c4b0 : decide (1048576 < (l0.length : Int)) = true := decide_eq_true c4
      have c4b1 : decide (1048576 < l0.length) = true := decide_eq_true (by omega)
      clear c4
      (first | rw [c4b0] | (simp only [i64_w, i32_w]; rw [c4b0]) | skip)
      have H' := Aside0.mk H
      clear H
      go_wp2
      go_meet
      case rel => exact ⟨_, (true), y4_, H', ⟨by first | omega | exact Nat.le_refl _⟩, ⟨y7_ HB.out⟩⟩
    rw [if_neg c4] at H
    have c4b0 : decide (1048576 < (l0.length : Int)) = false := decide_eq_false c4
    have c4b1 : decide (1048576 < l0.length) = false := decide_eq_false (by omega)
    clear c4
    (first | rw [c4b0] | (simp only [i64_w, i32_w]; rw [c4b0]) | skip)
    have H' := Aside0.mk H
    clear H
    go_wp2
    go_meet
    case rel => exact ⟨_, (decide ((l1.length : Int) > 1048576)), y4_, H', ⟨by first | omega | exact Nat.le_refl _⟩, ⟨y7_ HB.out⟩⟩
  case rest =>
    clear HC3
    try clear c1
    try clear p2
    try clear c4
    try clear c4b0
    try clear c4b1
    obtain ⟨kq, x20_2, rfl, HA, HJ2, HB⟩ := hcut
    cases kq with
    | zero => exact absurd HA.out (by simp [laws_FnKnwMore.j0])
    | succ kj2 =>
      have H := HA.out
      clear HA
      simp only [laws_FnKnwMore.j0] at H
      by_cases c5 : x20_2 = true
      · subst c5
        have H1 : (some true) = some r := by rw [if_pos rfl] at H; exact H
        clear H
        have H := H1
        clear H1
        obtain rfl := Option.some.inj H
        go_wp2
        go_ret
        exact ⟨y6_, y7_ HB.out⟩
      replace c5 := Bool.eq_false_iff.mpr c5
      subst c5
      have H1 : ((spec_DrawKnwOpen.f kj2 l0).bind fun bt309 => ((spec_DrawKnwOpen.f kj2 l1).bind fun bt315 => ((impl_KnwOpen.f bt309.1 bt309.2).bind fun t321 => ((spec_KnwOpen.f kj2 bt309.1 bt309.2).bind fun t324 => ((laws_keTexts.f kj2 t321 t324).bind fun t327 => (if t327 = true then (laws_FnKnwMore.l0 kj2 bt309.1 bt309.2 bt315.1 t321 0) else (some false))))))) = some r := by rw [if_neg (show ¬ (false = true) by decide)] at H; exact H
      clear H
      have H := H1
      clear H1
      replace H := Option.bind_eq_some_iff.mp H
      obtain ⟨⟨t309, t310⟩, A60, H⟩ := H
      replace H : ((spec_DrawKnwOpen.f kj2 l1).bind fun bt315 => ((impl_KnwOpen.f t309 t310).bind fun t321 => ((spec_KnwOpen.f kj2 t309 t310).bind fun t324 => ((laws_keTexts.f kj2 t321 t324).bind fun t327 => (if t327 = true then (laws_FnKnwMore.l0 kj2 t309 t310 bt315.1 t321 0) else (some false)))))) = some r := H
      have A6 := Aside0.mk A60
      clear A60
      replace H := Option.bind_eq_some_iff.mp H
      obtain ⟨⟨t315, t316⟩, A70, H⟩ := H
      replace H : ((impl_KnwOpen.f t309 t310).bind fun t321 => ((spec_KnwOpen.f kj2 t309 t310).bind fun t324 => ((laws_keTexts.f kj2 t321 t324).bind fun t327 => (if t327 = true then (laws_FnKnwMore.l0 kj2 t309 t310 t315 t321 0) else (some false))))) = some r := H
      have A7 := Aside0.mk A70
      clear A70
      replace H := Option.bind_eq_some_iff.mp H
      obtain ⟨t321, A80, H⟩ := H
      replace H : ((spec_KnwOpen.f kj2 t309 t310).bind fun t324 => ((laws_keTexts.f kj2 t321 t324).bind fun t327 => (if t327 = true then (laws_FnKnwMore.l0 kj2 t309 t310 t315 t321 0) else (some false)))) = some r := H
      have A8 := Aside0.mk A80
      clear A80
      replace H := Option.bind_eq_some_iff.mp H
      obtain ⟨t324, A90, H⟩ := H
      replace H : ((laws_keTexts.f kj2 t321 t324).bind fun t327 => (if t327 = true then (laws_FnKnwMore.l0 kj2 t309 t310 t315 t321 0) else (some false))) = some r := H
      have A9 := Aside0.mk A90
      clear A90
      replace H := Option.bind_eq_some_iff.mp H
      obtain ⟨t327, A100, H⟩ := H
      replace H : (if t327 = true then (laws_FnKnwMore.l0 kj2 t309 t310 t315 t321 0) else (some false)) = some r := H
      have A10 := Aside0.mk A100
      clear A100
      by_cases c11 : t327 = true
      · subst c11
        have H1 : (laws_FnKnwMore.l0 kj2 t309 t310 t315 t321 0) = some r := by rw [if_pos rfl] at H; exact H
        clear H
        have H := H1
        clear H1
        have H' := Aside0.mk H
        clear H
        go_wp2_with (first | ((with_reducible refine gate_callee (f := 32) rfl ?_); refine goesL_ (some 23) rfl rfl Tryd.func32 (by kernel_rfl) rfl #[.slice A0 l0.length c0] rfl y1_ ?_; (with_reducible refine (spec_DrawKnwOpen.calls kj2 _ _ l0 t309 t310 _ ?side1 ?side2 A6.out).mono ?_); (case side1 => repeat (first | exact (Kd.C_below HR0.out HB.out) | (with_reducible refine Kd.C_alloc ?_ _) | (with_reducible refine Kd.C_drewN ?_ _) | (with_reducible refine Kd.C_drew ?_))); (case side2 => exact HC0.out); rintro e w12 ⟨v311, v313, rfl, ho0, ho1, hb⟩; refine ⟨_, rfl, ?_⟩; have HO312 := Aside0.mk (Kd.R_lower ho0 (below_size (y7_ HB.out))); have HO314 := Aside0.mk (Kd.R_lower ho1 (below_size (y7_ HB.out))); replace HB := Aside0.mk (below_step (y7_ HB.out) hb); (try clear hb); (try clear hb2); (try clear hk); (try clear hi); (try clear ho0); (try clear ho1)) | ((with_reducible refine gate_callee (f := 32) rfl ?_); refine goesL_ (some 28) rfl rfl Tryd.func32 (by kernel_rfl) rfl #[.slice A1 l1.length c1] rfl y1_ ?_; (with_reducible refine (spec_DrawKnwOpen.calls kj2 _ _ l1 t315 t316 _ ?side1 ?side2 A7.out).mono ?_); (case side1 => repeat (first | exact (Kd.C_below HR1.out HB.out) | (with_reducible refine Kd.C_alloc ?_ _) | (with_reducible refine Kd.C_drewN ?_ _) | (with_reducible refine Kd.C_drew ?_))); (case side2 => exact HC1.out); rintro e w13 ⟨v317, v319, rfl, ho0, ho1, hb⟩; refine ⟨_, rfl, ?_⟩; have HO318 := Aside0.mk (Kd.R_lower (Kd.R_new' ho0 (Kd.R_lt (y11_ HO312.out))) (below_size (y7_ HB.out))); replace HO312 := Aside0.mk (Kd.R_elder' (y11_ HO312.out) (Kd.R_base ho0) hb); have HO320 := Aside0.mk (Kd.R_lower (Kd.R_new' ho1 (Kd.R_lt (y11_ HO314.out))) (below_size (y7_ HB.out))); replace HO314 := Aside0.mk (Kd.R_elder' (y11_ HO314.out) (Kd.R_base ho1) hb); replace HB := Aside0.mk (below_step (y7_ HB.out) hb); (try clear hb); (try clear hb2); (try clear hk); (try clear hi); (try clear ho0); (try clear ho1); obtain ⟨Ao14, co14, eo14⟩ := Kd.R_slice HO312.out; subst eo14; obtain ⟨Ao15, co15, eo15⟩ := Kd.R_slice HO314.out; subst eo15) | ((with_reducible refine gate_callee (f := 12) rfl ?_); refine goesL_ (some 33) rfl rfl Tryd.func12 (by kernel_rfl) rfl #[.slice Ao14 t309.length co14, .slice Ao15 t310.length co15] rfl y1_ ?_; (with_reducible refine (impl_KnwOpen.calls _ _ t309 _ _ t310 t321 _ ?side1 ?side2 ?side3 ?side4 ?side5 A8.out).mono ?_); (case side1 => repeat (first | exact (Kd.R_reads' HO312.out).2.2 | (with_reducible refine Kd.C_alloc ?_ _) | (with_reducible refine Kd.C_drewN ?_ _) | (with_reducible refine Kd.C_drew ?_))); (case side2 => exact (Kd.R_reads' HO312.out).2.1); (case side3 => repeat (first | exact (Kd.R_reads' HO314.out).2.2 | (with_reducible refine Kd.C_alloc ?_ _) | (with_reducible refine Kd.C_drewN ?_ _) | (with_reducible refine Kd.C_drew ?_))); (case side4 => exact (Kd.R_reads' HO314.out).2.1); (case side5 => exact GlobOk.below HGL.out (y7_ HB.out)); rintro e w16 ⟨v322, rfl, ho0, hb⟩; refine ⟨_, rfl, ?_⟩; replace HO314 := Aside0.mk (Kd.R_below (y11_ HO314.out) hb); replace HO320 := Aside0.mk (Kd.R_below (y11_ HO320.out) hb); have HO323 := Aside0.mk (Kd.Q_lower (Kd.Q_new' (Kd.Q_new' ho0 (Kd.R_lt (y11_ HO312.out))) (Kd.R_lt (y11_ HO318.out))) (below_size (y7_ HB.out))); replace HO312 := Aside0.mk (Kd.R_elder' (y11_ HO312.out) (Kd.Q_base ho0) hb); replace HO318 := Aside0.mk (Kd.R_elder' (y11_ HO318.out) (Kd.Q_base ho0) hb); replace HB := Aside0.mk (below_step (y7_ HB.out) hb); (try clear hb); (try clear hb2); (try clear hk); (try clear hi); (try clear ho0)) | ((with_reducible refine gate_callee (f := 30) rfl ?_); refine goesL_ (some 37) rfl rfl Tryd.func30 (by kernel_rfl) rfl #[.slice Ao14 t309.length co14, .slice Ao15 t310.length co15] rfl y1_ ?_; (with_reducible refine (spec_KnwOpen.calls kj2 _ _ t309 _ _ t310 t324 _ ?side1 ?side2 ?side3 ?side4 A9.out).mono ?_); (case side1 => repeat (first | exact (Kd.R_reads' HO312.out).2.2 | (with_reducible refine Kd.C_alloc ?_ _) | (with_reducible refine Kd.C_drewN ?_ _) | (with_reducible refine Kd.C_drew ?_))); (case side2 => exact (Kd.R_reads' HO312.out).2.1); (case side3 => repeat (first | exact (Kd.R_reads' HO314.out).2.2 | (with_reducible refine Kd.C_alloc ?_ _) | (with_reducible refine Kd.C_drewN ?_ _) | (with_reducible refine Kd.C_drew ?_))); (case side4 => exact (Kd.R_reads' HO314.out).2.1); rintro e w17 ⟨v325, rfl, ho0, hb⟩; refine ⟨_, rfl, ?_⟩; replace HO314 := Aside0.mk (Kd.R_below (y11_ HO314.out) hb); replace HO320 := Aside0.mk (Kd.R_below (y11_ HO320.out) hb); have HO326 := Aside0.mk (Kd.R_lower (Kd.R_new' (Kd.R_new' (Kd.R_new' ho0 (Kd.R_lt (y11_ HO312.out))) (Kd.R_lt (y11_ HO318.out))) (Kd.Q_lt (y13_ HO323.out))) (below_size (y7_ HB.out))); replace HO312 := Aside0.mk (Kd.R_elder' (y11_ HO312.out) (Kd.R_base ho0) hb); replace HO318 := Aside0.mk (Kd.R_elder' (y11_ HO318.out) (Kd.R_base ho0) hb); replace HO323 := Aside0.mk (Kd.Q_elder' (y13_ HO323.out) (Kd.R_base ho0) hb); replace HB := Aside0.mk (below_step (y7_ HB.out) hb); (try clear hb); (try clear hb2); (try clear hk); (try clear hi); (try clear ho0); obtain ⟨Ao18, co18, eo18, _⟩ := Kd.Q_slice HO323.out; subst eo18; obtain ⟨Ao19, co19, eo19⟩ := Kd.R_slice HO326.out; subst eo19) | ((with_reducible refine gate_callee (f := 29) rfl ?_); refine goesL_ (some 38) rfl rfl Tryd.func29 (by kernel_rfl) rfl #[.slice Ao18 t321.length co18, .slice Ao19 t324.length co19] rfl y1_ ?_; (with_reducible refine (laws_keTexts.calls kj2 _ _ t321 _ _ t324 true _ ?side1 ?side2 ?side3 ?side4 A10.out).mono ?_); (case side1 => repeat (first | exact (Kd.Q_reads' HO323.out).2.2 | (with_reducible refine Kd.C_alloc ?_ _) | (with_reducible refine Kd.C_drewN ?_ _) | (with_reducible refine Kd.C_drew ?_))); (case side2 => exact (Kd.Q_reads' HO323.out).2.1); (case side3 => repeat (first | exact (Kd.R_reads' HO326.out).2.2 | (with_reducible refine Kd.C_alloc ?_ _) | (with_reducible refine Kd.C_drewN ?_ _) | (with_reducible refine Kd.C_drew ?_))); (case side4 => exact (Kd.R_reads' HO326.out).2.1); rintro e w' ⟨rfl, ⟨nd, rfl⟩⟩; refine ⟨_, rfl, ?_⟩))
        go_loopg [10] kj2 (fun kq v10 w' => ∃ (x10_2 : Int), v10 = .int .i64 x10_2 ∧ Aside0 (laws_FnKnwMore.l0 kq t309 t310 t315 t321 x10_2 = some r) ∧ Aside0 (kq ≤ kj2) ∧ Aside0 (Kd.R Kd.string 9 w' w.heap.size (fun k_ => some k_ ≠ (v317 : Value).ownBlock ∧ some k_ ≠ ((.slice Ao18 t321.length co18) : Value).ownBlock) (.slice Ao14 t309.length co14) t309) ∧ Aside0 (Kd.R k45 45 w' w.heap.size (fun _ => True) (.slice Ao15 t310.length co15) t310) ∧ Aside0 (Kd.R Kd.string 9 w' w.heap.size (fun k_ => some k_ ≠ ((.slice Ao14 t309.length co14) : Value).ownBlock ∧ some k_ ≠ ((.slice Ao18 t321.length co18) : Value).ownBlock) v317 t315) ∧ Aside0 (Kd.Q Kd.string 9 w' w.heap.size (fun k_ => some k_ ≠ ((.slice Ao14 t309.length co14) : Value).ownBlock ∧ some k_ ≠ (v317 : Value).ownBlock) (.slice Ao18 t321.length co18) t321) ∧ Aside0 (Below w.heap.size w w'))
        case atStart => exact ⟨(0), y4_, H', ⟨Nat.le_refl _⟩, ⟨by (with_reducible repeat (first | apply Kd.R_alloc | apply Kd.R_drewN | apply Kd.R_drew)); exact Kd.R_mono HO312.out (fun _ hk => ⟨hk.1.1.2, hk.1.2⟩)⟩, ⟨by (with_reducible repeat (first | apply Kd.R_alloc | apply Kd.R_drewN | apply Kd.R_drew)); exact Kd.R_mono HO314.out (fun _ hk => trivial)⟩, ⟨by (with_reducible repeat (first | apply Kd.R_alloc | apply Kd.R_drewN | apply Kd.R_drew)); exact Kd.R_mono HO318.out (fun _ hk => ⟨hk.1.1.2, hk.1.2⟩)⟩, ⟨by (with_reducible repeat (first | apply Kd.Q_alloc | apply Kd.Q_drewN | apply Kd.Q_drew)); exact Kd.Q_mono HO323.out (fun _ hk => ⟨hk.1.1.2, hk.1.2⟩)⟩, ⟨y7_ HB.out⟩⟩
        case round =>
          clear H'
          try clear c1
          try clear c2
          try clear p2
          try clear c3
          try clear c4
          try clear c4b0
          try clear c4b1
          try clear c5
          try clear c9
          try clear c11
          try clear c12
          try clear p2
          obtain ⟨x10_2, rfl, HA, HK2, HO_5, HO_6, HO_7, HO_9, HB⟩ := hrel
          cases gk with
          | zero => exact absurd HA.out (by simp [laws_FnKnwMore.l0])
          | succ k2 =>
            have H := HA.out
            clear HA
            simp only [laws_FnKnwMore.l0] at H
            by_cases c20 : x10_2 < (t315.length : Int)
            · rw [if_pos c20] at H
              have c20b0 : decide (x10_2 < (t315.length : Int)) = true := decide_eq_true c20
              clear c20
              by_cases c21 : 0 ≤ x10_2
              · rw [if_pos c21] at H
                have c21b0 : decide (0 ≤ x10_2) = true := decide_eq_true c21
                clear c21
                replace H := Option.bind_eq_some_iff.mp H
                obtain ⟨t329, A220, H⟩ := H
                replace H : (if t329 = true then (laws_FnKnwMore.l0 k2 t309 t310 t315 t321 (wrap64 (x10_2 + 1))) else ((laws_keOk.f).bind fun t330 => (some t330))) = some r := H
                have A22 := Aside0.mk A220
                clear A220
                by_cases c23 : t329 = true
                · subst c23
                  have H1 : (laws_FnKnwMore.l0 k2 t309 t310 t315 t321 (wrap64 (x10_2 + 1))) = some r := by rw [if_pos rfl] at H; exact H
                  clear H
                  have H := H1
                  clear H1
                  have H' := Aside0.mk H
                  clear H
                  obtain ⟨Ao24, co24, eo24⟩ := Kd.R_slice HO_7.out
                  subst eo24
                  have p328 : 0 ≤ (x10_2 : Int) := of_decide_eq_true y3_
                  have q328 : x10_2 < (t315.length : Int) := of_decide_eq_true y3_
                  obtain ⟨ad328, e328, hx328_0⟩ := Kd.at_string (Kd.R_reads' HO_7.out).2.2 x10_2 p328 q328
                  cases e328
                  replace p328 := eq_true p328
                  replace q328 := eq_true q328
                  go_wp2_with (first | ((with_reducible refine gate_callee (f := 21) rfl ?_); refine goesL_ (some 50) rfl rfl Tryd.func21 (by kernel_rfl) rfl #[.string (rdOf ByteArray.empty t315 x10_2)] rfl y1_ ?_; (with_reducible refine (spec_SecOk.calls k2 (rdOf ByteArray.empty t315 x10_2) true _ A22.out).mono ?_); rintro e w25 ⟨rfl, hb⟩; refine ⟨_, rfl, ?_⟩; replace HO_5 := Aside0.mk (Kd.R_below (y11_ HO_5.out) hb); replace HO_6 := Aside0.mk (Kd.R_below (y11_ HO_6.out) hb); replace HO_7 := Aside0.mk (Kd.R_below (y11_ HO_7.out) hb); replace HO_9 := Aside0.mk (Kd.Q_below (y13_ HO_9.out) hb); replace HB := Aside0.mk (below_step (y7_ HB.out) hb); clear hb))
                  go_roundg k2
                  case measure => have := HJ2.out; have := HK2.out; omega
                  case rel => exact ⟨(wrap64 (x10_2 + 1)), y4_, H', ⟨by have := HJ2.out; have := HK2.out; omega⟩, ⟨by (with_reducible repeat (first | apply Kd.R_alloc | apply Kd.R_drewN | apply Kd.R_drew)); exact HO_5.out⟩, ⟨by (with_reducible repeat (first | apply Kd.R_alloc | apply Kd.R_drewN | apply Kd.R_drew)); exact HO_6.out⟩, ⟨by (with_reducible repeat (first | apply Kd.R_alloc | apply Kd.R_drewN | apply Kd.R_drew)); exact HO_7.out⟩, ⟨by (with_reducible repeat (first | apply Kd.Q_alloc | apply Kd.Q_drewN | apply Kd.Q_drew)); exact HO_9.out⟩, ⟨y7_ HB.out⟩⟩
                replace c23 := Bool.eq_false_iff.mpr c23
                subst c23
                have H1 : ((laws_keOk.f).bind fun t330 => (some t330)) = some r := by rw [if_neg (show ¬ (false = true) by decide)] at H; exact H
                clear H
                have H := H1
                clear H1
                replace H := Option.bind_eq_some_iff.mp H
                obtain ⟨t330, A260, H⟩ := H
                replace H : (some t330) = some r := H
                have A26 := Aside0.mk A260
                clear A260
                obtain rfl := Option.some.inj H
                obtain ⟨Ao27, co27, eo27⟩ := Kd.R_slice HO_7.out
                subst eo27
                have p328 : 0 ≤ (x10_2 : Int) := of_decide_eq_true y3_
                have q328 : x10_2 < (t315.length : Int) := of_decide_eq_true y3_
                obtain ⟨ad328, e328, hx328_0⟩ := Kd.at_string (Kd.R_reads' HO_7.out).2.2 x10_2 p328 q328
                cases e328
                replace p328 := eq_true p328
                replace q328 := eq_true q328
                go_wp2_with (first | ((with_reducible refine gate_callee (f := 21) rfl ?_); refine goesL_ (some 50) rfl rfl Tryd.func21 (by kernel_rfl) rfl #[.string (rdOf ByteArray.empty t315 x10_2)] rfl y1_ ?_; (with_reducible refine (spec_SecOk.calls k2 (rdOf ByteArray.empty t315 x10_2) false _ A22.out).mono ?_); rintro e w28 ⟨rfl, hb⟩; refine ⟨_, rfl, ?_⟩; replace HO_5 := Aside0.mk (Kd.R_below (y11_ HO_5.out) hb); replace HO_6 := Aside0.mk (Kd.R_below (y11_ HO_6.out) hb); replace HO_7 := Aside0.mk (Kd.R_below (y11_ HO_7.out) hb); replace HO_9 := Aside0.mk (Kd.Q_below (y13_ HO_9.out) hb); replace HB := Aside0.mk (below_step (y7_ HB.out) hb); clear hb) | ((with_reducible refine gate_callee (f := 15) rfl ?_); refine goesL_ (some 52) rfl rfl Tryd.func15 (by kernel_rfl) rfl #[] rfl y1_ ?_; (with_reducible refine (laws_keOk.calls  t330 _ ?side1 A26.out).mono ?_); (case side1 => exact GlobOk.below HGL.out (y7_ HB.out)); rintro e w29 ⟨rfl, hb⟩; refine ⟨_, rfl, ?_⟩; replace HO_5 := Aside0.mk (Kd.R_below (y11_ HO_5.out) hb); replace HO_6 := Aside0.mk (Kd.R_below (y11_ HO_6.out) hb); replace HO_7 := Aside0.mk (Kd.R_below (y11_ HO_7.out) hb); replace HO_9 := Aside0.mk (Kd.Q_below (y13_ HO_9.out) hb); replace HB := Aside0.mk (below_step (y7_ HB.out) hb); clear hb))
                go_ret
                exact ⟨y6_, y7_ HB.out⟩
              rw [if_neg c21] at H
              exact absurd H (by simp)
            rw [if_neg c20] at H
            have c20b0 : decide (x10_2 < (t315.length : Int)) = false := decide_eq_false c20
            clear c20
            obtain ⟨y331, hy331⟩ : ∃ y_ : List ByteArray, y_ = (([] : List ByteArray)) := ⟨_, rfl⟩
            replace H : (if y331.length + t309.length < 8796093022208 then ((some (y331 ++ t309 : List ByteArray)).bind fun y334 => (if y334.length + t315.length < 8796093022208 then ((impl_KnwOpen.f (y334 ++ t315) t310).bind fun t340 => (laws_FnKnwMore.l1 k2 t309 t310 t321 t340 0)) else (none))) else (none)) = some r := by first | (rw [hy331]; with_reducible exact H) | (have H2_ := (Option.bind_some _ _).symm.trans H; rw [hy331]; with_reducible exact H2_) | (have H2_ := (Option.bind_some _ _).symm.trans H; with_reducible exact H2_) | with_reducible exact H | (rw [hy331]; exact H) | exact H
            have Ny331 := Aside0.mk hy331
            clear hy331
            by_cases c30 : y331.length + t309.length < 8796093022208
            · rw [if_pos c30] at H
              have LMc30 := Aside0.mk c30
              clear c30
              obtain ⟨y334, hy334⟩ : ∃ y_ : List ByteArray, y_ = (y331 ++ t309) := ⟨_, rfl⟩
              replace H : (if y334.length + t315.length < 8796093022208 then ((impl_KnwOpen.f (y334 ++ t315) t310).bind fun t340 => (laws_FnKnwMore.l1 k2 t309 t310 t321 t340 0)) else (none)) = some r := by first | (rw [hy334]; with_reducible exact H) | (have H2_ := (Option.bind_some _ _).symm.trans H; rw [hy334]; with_reducible exact H2_) | (have H2_ := (Option.bind_some _ _).symm.trans H; with_reducible exact H2_) | with_reducible exact H | (rw [hy334]; exact H) | exact H
              have Ny334 := Aside0.mk hy334
              clear hy334
              by_cases c31 : y334.length + t315.length < 8796093022208
              · rw [if_pos c31] at H
                have LMc31 := Aside0.mk c31
                clear c31
                obtain ⟨y337, hy337⟩ : ∃ y_ : List ByteArray, y_ = (y334 ++ t315) := ⟨_, rfl⟩
                replace H : ((impl_KnwOpen.f y337 t310).bind fun t340 => (laws_FnKnwMore.l1 k2 t309 t310 t321 t340 0)) = some r := by first | (rw [hy337]; with_reducible exact H) | (have H2_ := (Option.bind_some _ _).symm.trans H; rw [hy337]; with_reducible exact H2_) | (have H2_ := (Option.bind_some _ _).symm.trans H; with_reducible exact H2_) | with_reducible exact H | (rw [hy337]; exact H) | exact H
                have Ny337 := Aside0.mk hy337
                clear hy337
                replace H := Option.bind_eq_some_iff.mp H
                obtain ⟨t340, A320, H⟩ := H
                replace H : (laws_FnKnwMore.l1 k2 t309 t310 t321 t340 0) = some r := H
                have A32 := Aside0.mk A320
                clear A320
                have H' := Aside0.mk H
                clear H
                obtain ⟨Ao33, co33, eo33⟩ := Kd.R_slice HO_7.out
                subst eo33
                go_wp2_with (first | ((with_reducible refine gate_dst (N := 53) rfl ?_); (try (refine gate_guard (by rfl) ?_; dsimp only)); refine Kd.R_lit Kd.string _ 9 ?hg (N := 53) ?hd (xs := ([] : List ByteArray)) (inner := []) (ok := fun _ => True) (okp := fun _ => True) ?hr ?hp (fun _ hk => hk) trivial (Below.refl _ _) (Nat.le_refl _) (by simp) ?_; (case hd => rfl); (case hg => rfl); (case hr => first | (go_simp; done) | (go_simp; rfl)); (case hp => exact (Reps.none _ _)); intro v332 w34 ho35 hb hg_ hnew_; clear hg_ hnew_; (first | rw [← Ny331.out] at ho35 | (simp only [Int.reduceToNat] at ho35; rw [← Ny331.out] at ho35)); replace HO_6 := Aside0.mk (Kd.R_below (y11_ HO_6.out) hb); have HO333 := Aside0.mk (Kd.R_lower (Kd.R_new' (Kd.R_new' (Kd.R_new' ho35 (Kd.R_lt (y11_ HO_5.out))) (Kd.R_lt (y11_ HO_7.out))) (Kd.Q_lt (y13_ HO_9.out))) (below_size (y7_ HB.out))); replace HO_5 := Aside0.mk (Kd.R_elder' (y11_ HO_5.out) (Kd.R_base ho35) hb); replace HO_7 := Aside0.mk (Kd.R_elder' (y11_ HO_7.out) (Kd.R_base ho35) hb); replace HO_9 := Aside0.mk (Kd.Q_elder' (y13_ HO_9.out) (Kd.R_base ho35) hb); replace HB := Aside0.mk (below_step (y7_ HB.out) hb); clear hb ho35) | ((with_reducible refine gate_builtin (b := .append) (xs := #[.tmp 53, .tmp 54]) rfl ?_); (try (refine gate_guard (by rfl) ?_; dsimp only)); at_builtin; refine Kd.R_append_rows Kd.string (w0 := w) w.heap.size rfl (.tmp 53) (.tmp 54) 23 9 (.string ⟨#[]⟩) 16 rfl Tryd.underlying23 info9 rfl (by decide) (by omega) v332 y331 t309 _ _ _ (fun k_ => some k_ ≠ (.slice Ao14 t309.length co14 : Value).ownBlock ∧ some k_ ≠ (.slice Ao33 t315.length co33 : Value).ownBlock ∧ some k_ ≠ (.slice Ao18 t321.length co18 : Value).ownBlock) (fun _ => False) rfl rfl ?aO ?aR (fun _ _ h => h) (fun _ h => h.elim) ?aF ?aB ?aS ?aL ?_; (case aR => repeat (first | exact (Kd.R_reads' HO_5.out).2.2 | (with_reducible refine Kd.C_alloc ?_ _) | (with_reducible refine Kd.C_drewN ?_ _) | (with_reducible refine Kd.C_drew ?_))); (case aB => exact (y7_ HB.out)); (case aF => exact (fun k_ hk => ⟨Kd.fresh' (Kd.R_lt (y11_ HO_5.out)) k_ hk, Kd.fresh' (Kd.R_lt (y11_ HO_7.out)) k_ hk, Kd.fresh' (Kd.Q_lt (y13_ HO_9.out)) k_ hk⟩)); (case aO => exact (by (with_reducible repeat (first | apply Kd.R_alloc | apply Kd.R_drewN | apply Kd.R_drew)); exact Kd.R_mono HO333.out (fun _ hk => ⟨hk.1.1.2, ⟨hk.1.2, hk.2⟩⟩))); (case aS => exact (below_size (y7_ HB.out))); (case aL => have := LMc30.out; omega); intro v335 w36 ho hb hg hat; rw [← Ny334.out] at ho; replace HO_5 := Aside0.mk (Kd.R_after (ok := (fun k_ => some k_ ≠ (.slice Ao33 t315.length co33 : Value).ownBlock ∧ some k_ ≠ (.slice Ao18 t321.length co18 : Value).ownBlock)) (y11_ HO_5.out) hg hat); replace HO_6 := Aside0.mk (Kd.R_over' (y11_ HO_6.out) (Kd.R_typed (y11_ HO333.out)) (by decide) hg); replace HO_7 := Aside0.mk (Kd.R_after (ok := (fun k_ => some k_ ≠ (.slice Ao14 t309.length co14 : Value).ownBlock ∧ some k_ ≠ (.slice Ao18 t321.length co18 : Value).ownBlock)) (y11_ HO_7.out) hg hat); replace HO_9 := Aside0.mk (Kd.Q_after (ok := (fun k_ => some k_ ≠ (.slice Ao14 t309.length co14 : Value).ownBlock ∧ some k_ ≠ (.slice Ao33 t315.length co33 : Value).ownBlock)) (y13_ HO_9.out) hg hat); replace HB := Aside0.mk (hb); have HO336 := Aside0.mk (ho); clear HO333; clear ho hb hg hat) | ((with_reducible refine gate_builtin (b := .append) (xs := #[.tmp 55, .tmp 56]) rfl ?_); (try (refine gate_guard (by rfl) ?_; dsimp only)); at_builtin; refine Kd.R_append_rows Kd.string (w0 := w) w.heap.size rfl (.tmp 55) (.tmp 56) 23 9 (.string ⟨#[]⟩) 16 rfl Tryd.underlying23 info9 rfl (by decide) (by omega) v335 y334 t315 _ _ _ (fun k_ => some k_ ≠ (.slice Ao14 t309.length co14 : Value).ownBlock ∧ some k_ ≠ (.slice Ao33 t315.length co33 : Value).ownBlock ∧ some k_ ≠ (.slice Ao18 t321.length co18 : Value).ownBlock) (fun _ => False) rfl rfl ?aO ?aR (fun _ _ h => h) (fun _ h => h.elim) ?aF ?aB ?aS ?aL ?_; (case aR => repeat (first | exact (Kd.R_reads' HO_7.out).2.2 | (with_reducible refine Kd.C_alloc ?_ _) | (with_reducible refine Kd.C_drewN ?_ _) | (with_reducible refine Kd.C_drew ?_))); (case aB => exact (y7_ HB.out)); (case aF => exact (fun k_ hk => ⟨Kd.fresh' (Kd.R_lt (y11_ HO_5.out)) k_ hk, Kd.fresh' (Kd.R_lt (y11_ HO_7.out)) k_ hk, Kd.fresh' (Kd.Q_lt (y13_ HO_9.out)) k_ hk⟩)); (case aO => exact (y11_ HO336.out)); (case aS => exact (below_size (y7_ HB.out))); (case aL => have := LMc31.out; omega); intro v338 w37 ho hb hg hat; rw [← Ny337.out] at ho; replace HO_5 := Aside0.mk (Kd.R_after (ok := (fun k_ => some k_ ≠ (.slice Ao33 t315.length co33 : Value).ownBlock ∧ some k_ ≠ (.slice Ao18 t321.length co18 : Value).ownBlock)) (y11_ HO_5.out) hg hat); replace HO_6 := Aside0.mk (Kd.R_over' (y11_ HO_6.out) (Kd.R_typed (y11_ HO336.out)) (by decide) hg); replace HO_7 := Aside0.mk (Kd.R_after (ok := (fun k_ => some k_ ≠ (.slice Ao14 t309.length co14 : Value).ownBlock ∧ some k_ ≠ (.slice Ao18 t321.length co18 : Value).ownBlock)) (y11_ HO_7.out) hg hat); replace HO_9 := Aside0.mk (Kd.Q_after (ok := (fun k_ => some k_ ≠ (.slice Ao14 t309.length co14 : Value).ownBlock ∧ some k_ ≠ (.slice Ao33 t315.length co33 : Value).ownBlock)) (y13_ HO_9.out) hg hat); replace HB := Aside0.mk (hb); have HO339 := Aside0.mk (ho); clear HO336; clear ho hb hg hat; obtain ⟨Ao38, co38, eo38⟩ := Kd.R_slice HO339.out; subst eo38) | ((with_reducible refine gate_callee (f := 12) rfl ?_); refine goesL_ (some 59) rfl rfl Tryd.func12 (by kernel_rfl) rfl #[.slice Ao38 y337.length co38, .slice Ao15 t310.length co15] rfl y1_ ?_; (with_reducible refine (impl_KnwOpen.calls _ _ y337 _ _ t310 t340 _ ?side1 ?side2 ?side3 ?side4 ?side5 A32.out).mono ?_); (case side1 => repeat (first | exact (Kd.R_reads' HO339.out).2.2 | (with_reducible refine Kd.C_alloc ?_ _) | (with_reducible refine Kd.C_drewN ?_ _) | (with_reducible refine Kd.C_drew ?_))); (case side2 => exact (Kd.R_reads' HO339.out).2.1); (case side3 => repeat (first | exact (Kd.R_reads' HO_6.out).2.2 | (with_reducible refine Kd.C_alloc ?_ _) | (with_reducible refine Kd.C_drewN ?_ _) | (with_reducible refine Kd.C_drew ?_))); (case side4 => exact (Kd.R_reads' HO_6.out).2.1); (case side5 => exact GlobOk.below HGL.out (y7_ HB.out)); rintro e w39 ⟨v341, rfl, ho0, hb⟩; refine ⟨_, rfl, ?_⟩; replace HO_6 := Aside0.mk (Kd.R_below (y11_ HO_6.out) hb); have HO342 := Aside0.mk (Kd.Q_lower (Kd.Q_new' (Kd.Q_new' (Kd.Q_new' (Kd.Q_new' ho0 (Kd.R_lt (y11_ HO_5.out))) (Kd.R_lt (y11_ HO_7.out))) (Kd.Q_lt (y13_ HO_9.out))) (Kd.R_lt (y11_ HO339.out))) (below_size (y7_ HB.out))); replace HO_5 := Aside0.mk (Kd.R_elder' (y11_ HO_5.out) (Kd.Q_base ho0) hb); replace HO_7 := Aside0.mk (Kd.R_elder' (y11_ HO_7.out) (Kd.Q_base ho0) hb); replace HO_9 := Aside0.mk (Kd.Q_elder' (y13_ HO_9.out) (Kd.Q_base ho0) hb); replace HO339 := Aside0.mk (Kd.R_elder' (y11_ HO339.out) (Kd.Q_base ho0) hb); replace HB := Aside0.mk (below_step (y7_ HB.out) hb); (try clear hb); (try clear hb2); (try clear hk); (try clear hi); (try clear ho0)))
                go_loopg [12] k2 (fun kq v12 w' => ∃ (x12_3 : Int), v12 = .int .i64 x12_3 ∧ Aside0 (laws_FnKnwMore.l1 kq t309 t310 t321 t340 x12_3 = some r) ∧ Aside0 (kq ≤ k2) ∧ Aside0 (Kd.R Kd.string 9 w' w.heap.size (fun k_ => some k_ ≠ ((.slice Ao18 t321.length co18) : Value).ownBlock ∧ some k_ ≠ (v341 : Value).ownBlock) (.slice Ao14 t309.length co14) t309) ∧ Aside0 (Kd.R k45 45 w' w.heap.size (fun _ => True) (.slice Ao15 t310.length co15) t310) ∧ Aside0 (Kd.Q Kd.string 9 w' w.heap.size (fun k_ => some k_ ≠ ((.slice Ao14 t309.length co14) : Value).ownBlock ∧ some k_ ≠ (v341 : Value).ownBlock) (.slice Ao18 t321.length co18) t321) ∧ Aside0 (Kd.Q Kd.string 9 w' w.heap.size (fun k_ => some k_ ≠ ((.slice Ao14 t309.length co14) : Value).ownBlock ∧ some k_ ≠ ((.slice Ao18 t321.length co18) : Value).ownBlock) v341 t340) ∧ Aside0 (Below w.heap.size w w'))
                case atStart => exact ⟨(0), y4_, H', ⟨Nat.le_refl _⟩, ⟨by (with_reducible repeat (first | apply Kd.R_alloc | apply Kd.R_drewN | apply Kd.R_drew)); exact Kd.R_mono HO_5.out (fun _ hk => ⟨hk.1.1.2, hk.2⟩)⟩, ⟨by (with_reducible repeat (first | apply Kd.R_alloc | apply Kd.R_drewN | apply Kd.R_drew)); exact HO_6.out⟩, ⟨by (with_reducible repeat (first | apply Kd.Q_alloc | apply Kd.Q_drewN | apply Kd.Q_drew)); exact Kd.Q_mono HO_9.out (fun _ hk => ⟨hk.1.1.1, hk.2⟩)⟩, ⟨by (with_reducible repeat (first | apply Kd.Q_alloc | apply Kd.Q_drewN | apply Kd.Q_drew)); exact Kd.Q_mono HO342.out (fun _ hk => ⟨hk.1.1.1.2, hk.1.2⟩)⟩, ⟨y7_ HB.out⟩⟩
                case round =>
                  clear H'
                  try clear c1
                  try clear c2
                  try clear p2
                  try clear c3
                  try clear p3
                  try clear q3
                  try clear hx3
                  try clear c4
                  try clear c4b0
                  try clear c4b1
                  try clear c5
                  try clear p6
                  try clear c9
                  try clear c11
                  try clear c12
                  try clear c15
                  try clear c20
                  try clear c20b0
                  try clear c21
                  try clear c21b0
                  try clear c23
                  try clear c29
                  try clear c30
                  try clear c31
                  try clear c32
                  try clear p32
                  try clear q32
                  try clear hx32
                  try clear hx328_0
                  try clear p2
                  try clear p328
                  try clear q328
                  obtain ⟨x12_3, rfl, HA, HK3, HO_5, HO_6, HO_9, HO_11, HB⟩ := hrel
                  cases gk with
                  | zero => exact absurd HA.out (by simp [laws_FnKnwMore.l1])
                  | succ k3 =>
                    have H := HA.out
                    clear HA
                    simp only [laws_FnKnwMore.l1] at H
                    by_cases c40 : x12_3 < (t321.length : Int)
                    · rw [if_pos c40] at H
                      have c40b0 : decide (x12_3 < (t321.length : Int)) = true := decide_eq_true c40
                      clear c40
                      by_cases c41 : 0 ≤ x12_3
                      · rw [if_pos c41] at H
                        have c41b0 : decide (0 ≤ x12_3) = true := decide_eq_true c41
                        clear c41
                        replace H := Option.bind_eq_some_iff.mp H
                        obtain ⟨t344, A420, H⟩ := H
                        replace H : (if t344 = true then (laws_FnKnwMore.l1 k3 t309 t310 t321 t340 (wrap64 (x12_3 + 1))) else (some false)) = some r := H
                        have A42 := Aside0.mk A420
                        clear A420
                        by_cases c43 : t344 = true
                        · subst c43
                          have H1 : (laws_FnKnwMore.l1 k3 t309 t310 t321 t340 (wrap64 (x12_3 + 1))) = some r := by rw [if_pos rfl] at H; exact H
                          clear H
                          have H := H1
                          clear H1
                          have H' := Aside0.mk H
                          clear H
                          have p343 : 0 ≤ (x12_3 : Int) := of_decide_eq_true y3_
                          have q343 : x12_3 < (t321.length : Int) := of_decide_eq_true y3_
                          obtain ⟨ad343, e343, hx343_0⟩ := Kd.at_string (Kd.Q_reads' HO_9.out).2.2 x12_3 p343 q343
                          cases e343
                          replace p343 := eq_true p343
                          replace q343 := eq_true q343
                          obtain ⟨Ao44, co44, eo44, _⟩ := Kd.Q_slice HO_11.out
                          subst eo44
                          go_wp2_with (first | ((with_reducible refine gate_callee (f := 18) rfl ?_); refine goesL_ (some 71) rfl rfl Tryd.func18 (by kernel_rfl) rfl #[.slice Ao44 t340.length co44, .string (rdOf ByteArray.empty t321 x12_3)] rfl y1_ ?_; (with_reducible refine (laws_keHas.calls k3 _ _ t340 (rdOf ByteArray.empty t321 x12_3) true _ ?side1 ?side2 A42.out).mono ?_); (case side1 => repeat (first | exact (Kd.Q_reads' HO_11.out).2.2 | (with_reducible refine Kd.C_alloc ?_ _) | (with_reducible refine Kd.C_drewN ?_ _) | (with_reducible refine Kd.C_drew ?_))); (case side2 => exact (Kd.Q_reads' HO_11.out).2.1); rintro e w' ⟨rfl, ⟨nd, rfl⟩⟩; refine ⟨_, rfl, ?_⟩))
                          go_roundg k3
                          case measure => have := HJ2.out; have := HK2.out; have := HK3.out; omega
                          case rel => exact ⟨(wrap64 (x12_3 + 1)), y4_, H', ⟨by have := HJ2.out; have := HK2.out; have := HK3.out; omega⟩, ⟨by (with_reducible repeat (first | apply Kd.R_alloc | apply Kd.R_drewN | apply Kd.R_drew)); exact HO_5.out⟩, ⟨by (with_reducible repeat (first | apply Kd.R_alloc | apply Kd.R_drewN | apply Kd.R_drew)); exact HO_6.out⟩, ⟨by (with_reducible repeat (first | apply Kd.Q_alloc | apply Kd.Q_drewN | apply Kd.Q_drew)); exact HO_9.out⟩, ⟨by (with_reducible repeat (first | apply Kd.Q_alloc | apply Kd.Q_drewN | apply Kd.Q_drew)); exact HO_11.out⟩, ⟨y7_ HB.out⟩⟩
                        replace c43 := Bool.eq_false_iff.mpr c43
                        subst c43
                        have H1 : (some false) = some r := by rw [if_neg (show ¬ (false = true) by decide)] at H; exact H
                        clear H
                        have H := H1
                        clear H1
                        obtain rfl := Option.some.inj H
                        have p343 : 0 ≤ (x12_3 : Int) := of_decide_eq_true y3_
                        have q343 : x12_3 < (t321.length : Int) := of_decide_eq_true y3_
                        obtain ⟨ad343, e343, hx343_0⟩ := Kd.at_string (Kd.Q_reads' HO_9.out).2.2 x12_3 p343 q343
                        cases e343
                        replace p343 := eq_true p343
                        replace q343 := eq_true q343
                        obtain ⟨Ao45, co45, eo45, _⟩ := Kd.Q_slice HO_11.out
                        subst eo45
                        go_wp2_with (first | ((with_reducible refine gate_callee (f := 18) rfl ?_); refine goesL_ (some 71) rfl rfl Tryd.func18 (by kernel_rfl) rfl #[.slice Ao45 t340.length co45, .string (rdOf ByteArray.empty t321 x12_3)] rfl y1_ ?_; (with_reducible refine (laws_keHas.calls k3 _ _ t340 (rdOf ByteArray.empty t321 x12_3) false _ ?side1 ?side2 A42.out).mono ?_); (case side1 => repeat (first | exact (Kd.Q_reads' HO_11.out).2.2 | (with_reducible refine Kd.C_alloc ?_ _) | (with_reducible refine Kd.C_drewN ?_ _) | (with_reducible refine Kd.C_drew ?_))); (case side2 => exact (Kd.Q_reads' HO_11.out).2.1); rintro e w' ⟨rfl, ⟨nd, rfl⟩⟩; refine ⟨_, rfl, ?_⟩))
                        go_ret
                        exact ⟨y6_, y7_ HB.out⟩
                      rw [if_neg c41] at H
                      exact absurd H (by simp)
                    rw [if_neg c40] at H
                    have c40b0 : decide (x12_3 < (t321.length : Int)) = false := decide_eq_false c40
                    clear c40
                    obtain ⟨y345, hy345⟩ : ∃ y_ : List ByteArray, y_ = (([] : List ByteArray)) := ⟨_, rfl⟩
                    replace H : (if y345.length + t309.length < 8796093022208 then ((some (y345 ++ t309 : List ByteArray)).bind fun y348 => (if y348.length + t309.length < 8796093022208 then ((impl_KnwOpen.f (y348 ++ t309) t310).bind fun t354 => ((laws_keTexts.f k3 t354 t321).bind fun t357 => (if t357 = true then ((laws_keOk.f).bind fun t358 => (some t358)) else (some false)))) else (none))) else (none)) = some r := by first | (rw [hy345]; with_reducible exact H) | (have H2_ := (Option.bind_some _ _).symm.trans H; rw [hy345]; with_reducible exact H2_) | (have H2_ := (Option.bind_some _ _).symm.trans H; with_reducible exact H2_) | with_reducible exact H | (rw [hy345]; exact H) | exact H
                    have Ny345 := Aside0.mk hy345
                    clear hy345
                    by_cases c46 : y345.length + t309.length < 8796093022208
                    · rw [if_pos c46] at H
                      have LMc46 := Aside0.mk c46
                      clear c46
                      obtain ⟨y348, hy348⟩ : ∃ y_ : List ByteArray, y_ = (y345 ++ t309) := ⟨_, rfl⟩
                      replace H : (if y348.length + t309.length < 8796093022208 then ((impl_KnwOpen.f (y348 ++ t309) t310).bind fun t354 => ((laws_keTexts.f k3 t354 t321).bind fun t357 => (if t357 = true then ((laws_keOk.f).bind fun t358 => (some t358)) else (some false)))) else (none)) = some r := by first | (rw [hy348]; with_reducible exact H) | (have H2_ := (Option.bind_some _ _).symm.trans H; rw [hy348]; with_reducible exact H2_) | (have H2_ := (Option.bind_some _ _).symm.trans H; with_reducible exact H2_) | with_reducible exact H | (rw [hy348]; exact H) | exact H
                      have Ny348 := Aside0.mk hy348
                      clear hy348
                      by_cases c47 : y348.length + t309.length < 8796093022208
                      · rw [if_pos c47] at H
                        have LMc47 := Aside0.mk c47
                        clear c47
                        obtain ⟨y351, hy351⟩ : ∃ y_ : List ByteArray, y_ = (y348 ++ t309) := ⟨_, rfl⟩
                        replace H : ((impl_KnwOpen.f y351 t310).bind fun t354 => ((laws_keTexts.f k3 t354 t321).bind fun t357 => (if t357 = true then ((laws_keOk.f).bind fun t358 => (some t358)) else (some false)))) = some r := by first | (rw [hy351]; with_reducible exact H) | (have H2_ := (Option.bind_some _ _).symm.trans H; rw [hy351]; with_reducible exact H2_) | (have H2_ := (Option.bind_some _ _).symm.trans H; with_reducible exact H2_) | with_reducible exact H | (rw [hy351]; exact H) | exact H
                        have Ny351 := Aside0.mk hy351
                        clear hy351
                        replace H := Option.bind_eq_some_iff.mp H
                        obtain ⟨t354, A480, H⟩ := H
                        replace H : ((laws_keTexts.f k3 t354 t321).bind fun t357 => (if t357 = true then ((laws_keOk.f).bind fun t358 => (some t358)) else (some false))) = some r := H
                        have A48 := Aside0.mk A480
                        clear A480
                        replace H := Option.bind_eq_some_iff.mp H
                        obtain ⟨t357, A490, H⟩ := H
                        replace H : (if t357 = true then ((laws_keOk.f).bind fun t358 => (some t358)) else (some false)) = some r := H
                        have A49 := Aside0.mk A490
                        clear A490
                        by_cases c50 : t357 = true
                        · subst c50
                          have H1 : ((laws_keOk.f).bind fun t358 => (some t358)) = some r := by rw [if_pos rfl] at H; exact H
                          clear H
                          have H := H1
                          clear H1
                          replace H := Option.bind_eq_some_iff.mp H
                          obtain ⟨t358, A510, H⟩ := H
                          replace H : (some t358) = some r := H
                          have A51 := Aside0.mk A510
                          clear A510
                          obtain rfl := Option.some.inj H
                          go_wp2_with (first | ((with_reducible refine gate_dst (N := 73) rfl ?_); (try (refine gate_guard (by rfl) ?_; dsimp only)); refine Kd.R_lit Kd.string _ 9 ?hg (N := 73) ?hd (xs := ([] : List ByteArray)) (inner := []) (ok := fun _ => True) (okp := fun _ => True) ?hr ?hp (fun _ hk => hk) trivial (Below.refl _ _) (Nat.le_refl _) (by simp) ?_; (case hd => rfl); (case hg => rfl); (case hr => first | (go_simp; done) | (go_simp; rfl)); (case hp => exact (Reps.none _ _)); intro v346 w52 ho53 hb hg_ hnew_; clear hg_ hnew_; (first | rw [← Ny345.out] at ho53 | (simp only [Int.reduceToNat] at ho53; rw [← Ny345.out] at ho53)); replace HO_6 := Aside0.mk (Kd.R_below (y11_ HO_6.out) hb); have HO347 := Aside0.mk (Kd.R_lower (Kd.R_new' (Kd.R_new' (Kd.R_new' ho53 (Kd.R_lt (y11_ HO_5.out))) (Kd.Q_lt (y13_ HO_9.out))) (Kd.Q_lt (y13_ HO_11.out))) (below_size (y7_ HB.out))); replace HO_5 := Aside0.mk (Kd.R_elder' (y11_ HO_5.out) (Kd.R_base ho53) hb); replace HO_9 := Aside0.mk (Kd.Q_elder' (y13_ HO_9.out) (Kd.R_base ho53) hb); replace HO_11 := Aside0.mk (Kd.Q_elder' (y13_ HO_11.out) (Kd.R_base ho53) hb); replace HB := Aside0.mk (below_step (y7_ HB.out) hb); clear hb ho53) | ((with_reducible refine gate_builtin (b := .append) (xs := #[.tmp 73, .tmp 74]) rfl ?_); (try (refine gate_guard (by rfl) ?_; dsimp only)); at_builtin; refine Kd.R_append_rows Kd.string (w0 := w) w.heap.size rfl (.tmp 73) (.tmp 74) 23 9 (.string ⟨#[]⟩) 16 rfl Tryd.underlying23 info9 rfl (by decide) (by omega) v346 y345 t309 _ _ _ (fun k_ => some k_ ≠ (.slice Ao14 t309.length co14 : Value).ownBlock ∧ some k_ ≠ (.slice Ao18 t321.length co18 : Value).ownBlock ∧ some k_ ≠ (v341 : Value).ownBlock) (fun _ => False) rfl rfl ?aO ?aR (fun _ _ h => h) (fun _ h => h.elim) ?aF ?aB ?aS ?aL ?_; (case aR => repeat (first | exact (Kd.R_reads' HO_5.out).2.2 | (with_reducible refine Kd.C_alloc ?_ _) | (with_reducible refine Kd.C_drewN ?_ _) | (with_reducible refine Kd.C_drew ?_))); (case aB => exact (y7_ HB.out)); (case aF => exact (fun k_ hk => ⟨Kd.fresh' (Kd.R_lt (y11_ HO_5.out)) k_ hk, Kd.fresh' (Kd.Q_lt (y13_ HO_9.out)) k_ hk, Kd.fresh' (Kd.Q_lt (y13_ HO_11.out)) k_ hk⟩)); (case aO => exact (by (with_reducible repeat (first | apply Kd.R_alloc | apply Kd.R_drewN | apply Kd.R_drew)); exact Kd.R_mono HO347.out (fun _ hk => ⟨hk.1.1.2, ⟨hk.1.2, hk.2⟩⟩))); (case aS => exact (below_size (y7_ HB.out))); (case aL => have := LMc46.out; omega); intro v349 w54 ho hb hg hat; rw [← Ny348.out] at ho; replace HO_5 := Aside0.mk (Kd.R_after (ok := (fun k_ => some k_ ≠ (.slice Ao18 t321.length co18 : Value).ownBlock ∧ some k_ ≠ (v341 : Value).ownBlock)) (y11_ HO_5.out) hg hat); replace HO_6 := Aside0.mk (Kd.R_over' (y11_ HO_6.out) (Kd.R_typed (y11_ HO347.out)) (by decide) hg); replace HO_9 := Aside0.mk (Kd.Q_after (ok := (fun k_ => some k_ ≠ (.slice Ao14 t309.length co14 : Value).ownBlock ∧ some k_ ≠ (v341 : Value).ownBlock)) (y13_ HO_9.out) hg hat); replace HO_11 := Aside0.mk (Kd.Q_after (ok := (fun k_ => some k_ ≠ (.slice Ao14 t309.length co14 : Value).ownBlock ∧ some k_ ≠ (.slice Ao18 t321.length co18 : Value).ownBlock)) (y13_ HO_11.out) hg hat); replace HB := Aside0.mk (hb); have HO350 := Aside0.mk (ho); clear HO347; clear ho hb hg hat) | ((with_reducible refine gate_builtin (b := .append) (xs := #[.tmp 75, .tmp 76]) rfl ?_); (try (refine gate_guard (by rfl) ?_; dsimp only)); at_builtin; refine Kd.R_append_rows Kd.string (w0 := w) w.heap.size rfl (.tmp 75) (.tmp 76) 23 9 (.string ⟨#[]⟩) 16 rfl Tryd.underlying23 info9 rfl (by decide) (by omega) v349 y348 t309 _ _ _ (fun k_ => some k_ ≠ (.slice Ao14 t309.length co14 : Value).ownBlock ∧ some k_ ≠ (.slice Ao18 t321.length co18 : Value).ownBlock ∧ some k_ ≠ (v341 : Value).ownBlock) (fun _ => False) rfl rfl ?aO ?aR (fun _ _ h => h) (fun _ h => h.elim) ?aF ?aB ?aS ?aL ?_; (case aR => repeat (first | exact (Kd.R_reads' HO_5.out).2.2 | (with_reducible refine Kd.C_alloc ?_ _) | (with_reducible refine Kd.C_drewN ?_ _) | (with_reducible refine Kd.C_drew ?_))); (case aB => exact (y7_ HB.out)); (case aF => exact (fun k_ hk => ⟨Kd.fresh' (Kd.R_lt (y11_ HO_5.out)) k_ hk, Kd.fresh' (Kd.Q_lt (y13_ HO_9.out)) k_ hk, Kd.fresh' (Kd.Q_lt (y13_ HO_11.out)) k_ hk⟩)); (case aO => exact (y11_ HO350.out)); (case aS => exact (below_size (y7_ HB.out))); (case aL => have := LMc47.out; omega); intro v352 w55 ho hb hg hat; rw [← Ny351.out] at ho; replace HO_5 := Aside0.mk (Kd.R_after (ok := (fun k_ => some k_ ≠ (.slice Ao18 t321.length co18 : Value).ownBlock ∧ some k_ ≠ (v341 : Value).ownBlock)) (y11_ HO_5.out) hg hat); replace HO_6 := Aside0.mk (Kd.R_over' (y11_ HO_6.out) (Kd.R_typed (y11_ HO350.out)) (by decide) hg); replace HO_9 := Aside0.mk (Kd.Q_after (ok := (fun k_ => some k_ ≠ (.slice Ao14 t309.length co14 : Value).ownBlock ∧ some k_ ≠ (v341 : Value).ownBlock)) (y13_ HO_9.out) hg hat); replace HO_11 := Aside0.mk (Kd.Q_after (ok := (fun k_ => some k_ ≠ (.slice Ao14 t309.length co14 : Value).ownBlock ∧ some k_ ≠ (.slice Ao18 t321.length co18 : Value).ownBlock)) (y13_ HO_11.out) hg hat); replace HB := Aside0.mk (hb); have HO353 := Aside0.mk (ho); clear HO350; clear ho hb hg hat; obtain ⟨Ao56, co56, eo56⟩ := Kd.R_slice HO353.out; subst eo56) | ((with_reducible refine gate_callee (f := 12) rfl ?_); refine goesL_ (some 79) rfl rfl Tryd.func12 (by kernel_rfl) rfl #[.slice Ao56 y351.length co56, .slice Ao15 t310.length co15] rfl y1_ ?_; (with_reducible refine (impl_KnwOpen.calls _ _ y351 _ _ t310 t354 _ ?side1 ?side2 ?side3 ?side4 ?side5 A48.out).mono ?_); (case side1 => repeat (first | exact (Kd.R_reads' HO353.out).2.2 | (with_reducible refine Kd.C_alloc ?_ _) | (with_reducible refine Kd.C_drewN ?_ _) | (with_reducible refine Kd.C_drew ?_))); (case side2 => exact (Kd.R_reads' HO353.out).2.1); (case side3 => repeat (first | exact (Kd.R_reads' HO_6.out).2.2 | (with_reducible refine Kd.C_alloc ?_ _) | (with_reducible refine Kd.C_drewN ?_ _) | (with_reducible refine Kd.C_drew ?_))); (case side4 => exact (Kd.R_reads' HO_6.out).2.1); (case side5 => exact GlobOk.below HGL.out (y7_ HB.out)); rintro e w57 ⟨v355, rfl, ho0, hb⟩; refine ⟨_, rfl, ?_⟩; replace HO_6 := Aside0.mk (Kd.R_below (y11_ HO_6.out) hb); have HO356 := Aside0.mk (Kd.Q_lower (Kd.Q_new' (Kd.Q_new' (Kd.Q_new' (Kd.Q_new' ho0 (Kd.R_lt (y11_ HO_5.out))) (Kd.Q_lt (y13_ HO_9.out))) (Kd.Q_lt (y13_ HO_11.out))) (Kd.R_lt (y11_ HO353.out))) (below_size (y7_ HB.out))); replace HO_5 := Aside0.mk (Kd.R_elder' (y11_ HO_5.out) (Kd.Q_base ho0) hb); replace HO_9 := Aside0.mk (Kd.Q_elder' (y13_ HO_9.out) (Kd.Q_base ho0) hb); replace HO_11 := Aside0.mk (Kd.Q_elder' (y13_ HO_11.out) (Kd.Q_base ho0) hb); replace HO353 := Aside0.mk (Kd.R_elder' (y11_ HO353.out) (Kd.Q_base ho0) hb); replace HB := Aside0.mk (below_step (y7_ HB.out) hb); (try clear hb); (try clear hb2); (try clear hk); (try clear hi); (try clear ho0); obtain ⟨Ao58, co58, eo58, _⟩ := Kd.Q_slice HO356.out; subst eo58) | ((with_reducible refine gate_callee (f := 29) rfl ?_); refine goesL_ (some 81) rfl rfl Tryd.func29 (by kernel_rfl) rfl #[.slice Ao58 t354.length co58, .slice Ao18 t321.length co18] rfl y1_ ?_; (with_reducible refine (laws_keTexts.calls k3 _ _ t354 _ _ t321 true _ ?side1 ?side2 ?side3 ?side4 A49.out).mono ?_); (case side1 => repeat (first | exact (Kd.Q_reads' HO356.out).2.2 | (with_reducible refine Kd.C_alloc ?_ _) | (with_reducible refine Kd.C_drewN ?_ _) | (with_reducible refine Kd.C_drew ?_))); (case side2 => exact (Kd.Q_reads' HO356.out).2.1); (case side3 => repeat (first | exact (Kd.Q_reads' HO_9.out).2.2 | (with_reducible refine Kd.C_alloc ?_ _) | (with_reducible refine Kd.C_drewN ?_ _) | (with_reducible refine Kd.C_drew ?_))); (case side4 => exact (Kd.Q_reads' HO_9.out).2.1); rintro e w' ⟨rfl, ⟨nd, rfl⟩⟩; refine ⟨_, rfl, ?_⟩) | (go_at_call 15; (with_reducible refine (laws_keOk.calls  t358 _ ?side1 A51.out).mono ?_); (case side1 => exact GlobOk.below HGL.out (y7_ HB.out)); rintro e w59 ⟨rfl, hb⟩; replace HO_5 := Aside0.mk (Kd.R_below (y11_ HO_5.out) hb); replace HO_6 := Aside0.mk (Kd.R_below (y11_ HO_6.out) hb); replace HO_9 := Aside0.mk (Kd.Q_below (y13_ HO_9.out) hb); replace HO_11 := Aside0.mk (Kd.Q_below (y13_ HO_11.out) hb); replace HO353 := Aside0.mk (Kd.R_below (y11_ HO353.out) hb); replace HO356 := Aside0.mk (Kd.Q_below (y13_ HO356.out) hb); replace HB := Aside0.mk (below_step (y7_ HB.out) hb); clear hb))
                          go_ret
                          exact ⟨y6_, y7_ HB.out⟩
                        replace c50 := Bool.eq_false_iff.mpr c50
                        subst c50
                        have H1 : (some false) = some r := by rw [if_neg (show ¬ (false = true) by decide)] at H; exact H
                        clear H
                        have H := H1
                        clear H1
                        obtain rfl := Option.some.inj H
                        go_wp2_with (first | ((with_reducible refine gate_dst (N := 73) rfl ?_); (try (refine gate_guard (by rfl) ?_; dsimp only)); refine Kd.R_lit Kd.string _ 9 ?hg (N := 73) ?hd (xs := ([] : List ByteArray)) (inner := []) (ok := fun _ => True) (okp := fun _ => True) ?hr ?hp (fun _ hk => hk) trivial (Below.refl _ _) (Nat.le_refl _) (by simp) ?_; (case hd => rfl); (case hg => rfl); (case hr => first | (go_simp; done) | (go_simp; rfl)); (case hp => exact (Reps.none _ _)); intro v346 w60 ho61 hb hg_ hnew_; clear hg_ hnew_; (first | rw [← Ny345.out] at ho61 | (simp only [Int.reduceToNat] at ho61; rw [← Ny345.out] at ho61)); replace HO_6 := Aside0.mk (Kd.R_below (y11_ HO_6.out) hb); have HO347 := Aside0.mk (Kd.R_lower (Kd.R_new' (Kd.R_new' (Kd.R_new' ho61 (Kd.R_lt (y11_ HO_5.out))) (Kd.Q_lt (y13_ HO_9.out))) (Kd.Q_lt (y13_ HO_11.out))) (below_size (y7_ HB.out))); replace HO_5 := Aside0.mk (Kd.R_elder' (y11_ HO_5.out) (Kd.R_base ho61) hb); replace HO_9 := Aside0.mk (Kd.Q_elder' (y13_ HO_9.out) (Kd.R_base ho61) hb); replace HO_11 := Aside0.mk (Kd.Q_elder' (y13_ HO_11.out) (Kd.R_base ho61) hb); replace HB := Aside0.mk (below_step (y7_ HB.out) hb); clear hb ho61) | ((with_reducible refine gate_builtin (b := .append) (xs := #[.tmp 73, .tmp 74]) rfl ?_); (try (refine gate_guard (by rfl) ?_; dsimp only)); at_builtin; refine Kd.R_append_rows Kd.string (w0 := w) w.heap.size rfl (.tmp 73) (.tmp 74) 23 9 (.string ⟨#[]⟩) 16 rfl Tryd.underlying23 info9 rfl (by decide) (by omega) v346 y345 t309 _ _ _ (fun k_ => some k_ ≠ (.slice Ao14 t309.length co14 : Value).ownBlock ∧ some k_ ≠ (.slice Ao18 t321.length co18 : Value).ownBlock ∧ some k_ ≠ (v341 : Value).ownBlock) (fun _ => False) rfl rfl ?aO ?aR (fun _ _ h => h) (fun _ h => h.elim) ?aF ?aB ?aS ?aL ?_; (case aR => repeat (first | exact (Kd.R_reads' HO_5.out).2.2 | (with_reducible refine Kd.C_alloc ?_ _) | (with_reducible refine Kd.C_drewN ?_ _) | (with_reducible refine Kd.C_drew ?_))); (case aB => exact (y7_ HB.out)); (case aF => exact (fun k_ hk => ⟨Kd.fresh' (Kd.R_lt (y11_ HO_5.out)) k_ hk, Kd.fresh' (Kd.Q_lt (y13_ HO_9.out)) k_ hk, Kd.fresh' (Kd.Q_lt (y13_ HO_11.out)) k_ hk⟩)); (case aO => exact (by (with_reducible repeat (first | apply Kd.R_alloc | apply Kd.R_drewN | apply Kd.R_drew)); exact Kd.R_mono HO347.out (fun _ hk => ⟨hk.1.1.2, ⟨hk.1.2, hk.2⟩⟩))); (case aS => exact (below_size (y7_ HB.out))); (case aL => have := LMc46.out; omega); intro v349 w62 ho hb hg hat; rw [← Ny348.out] at ho; replace HO_5 := Aside0.mk (Kd.R_after (ok := (fun k_ => some k_ ≠ (.slice Ao18 t321.length co18 : Value).ownBlock ∧ some k_ ≠ (v341 : Value).ownBlock)) (y11_ HO_5.out) hg hat); replace HO_6 := Aside0.mk (Kd.R_over' (y11_ HO_6.out) (Kd.R_typed (y11_ HO347.out)) (by decide) hg); replace HO_9 := Aside0.mk (Kd.Q_after (ok := (fun k_ => some k_ ≠ (.slice Ao14 t309.length co14 : Value).ownBlock ∧ some k_ ≠ (v341 : Value).ownBlock)) (y13_ HO_9.out) hg hat); replace HO_11 := Aside0.mk (Kd.Q_after (ok := (fun k_ => some k_ ≠ (.slice Ao14 t309.length co14 : Value).ownBlock ∧ some k_ ≠ (.slice Ao18 t321.length co18 : Value).ownBlock)) (y13_ HO_11.out) hg hat); replace HB := Aside0.mk (hb); have HO350 := Aside0.mk (ho); clear HO347; clear ho hb hg hat) | ((with_reducible refine gate_builtin (b := .append) (xs := #[.tmp 75, .tmp 76]) rfl ?_); (try (refine gate_guard (by rfl) ?_; dsimp only)); at_builtin; refine Kd.R_append_rows Kd.string (w0 := w) w.heap.size rfl (.tmp 75) (.tmp 76) 23 9 (.string ⟨#[]⟩) 16 rfl Tryd.underlying23 info9 rfl (by decide) (by omega) v349 y348 t309 _ _ _ (fun k_ => some k_ ≠ (.slice Ao14 t309.length co14 : Value).ownBlock ∧ some k_ ≠ (.slice Ao18 t321.length co18 : Value).ownBlock ∧ some k_ ≠ (v341 : Value).ownBlock) (fun _ => False) rfl rfl ?aO ?aR (fun _ _ h => h) (fun _ h => h.elim) ?aF ?aB ?aS ?aL ?_; (case aR => repeat (first | exact (Kd.R_reads' HO_5.out).2.2 | (with_reducible refine Kd.C_alloc ?_ _) | (with_reducible refine Kd.C_drewN ?_ _) | (with_reducible refine Kd.C_drew ?_))); (case aB => exact (y7_ HB.out)); (case aF => exact (fun k_ hk => ⟨Kd.fresh' (Kd.R_lt (y11_ HO_5.out)) k_ hk, Kd.fresh' (Kd.Q_lt (y13_ HO_9.out)) k_ hk, Kd.fresh' (Kd.Q_lt (y13_ HO_11.out)) k_ hk⟩)); (case aO => exact (y11_ HO350.out)); (case aS => exact (below_size (y7_ HB.out))); (case aL => have := LMc47.out; omega); intro v352 w63 ho hb hg hat; rw [← Ny351.out] at ho; replace HO_5 := Aside0.mk (Kd.R_after (ok := (fun k_ => some k_ ≠ (.slice Ao18 t321.length co18 : Value).ownBlock ∧ some k_ ≠ (v341 : Value).ownBlock)) (y11_ HO_5.out) hg hat); replace HO_6 := Aside0.mk (Kd.R_over' (y11_ HO_6.out) (Kd.R_typed (y11_ HO350.out)) (by decide) hg); replace HO_9 := Aside0.mk (Kd.Q_after (ok := (fun k_ => some k_ ≠ (.slice Ao14 t309.length co14 : Value).ownBlock ∧ some k_ ≠ (v341 : Value).ownBlock)) (y13_ HO_9.out) hg hat); replace HO_11 := Aside0.mk (Kd.Q_after (ok := (fun k_ => some k_ ≠ (.slice Ao14 t309.length co14 : Value).ownBlock ∧ some k_ ≠ (.slice Ao18 t321.length co18 : Value).ownBlock)) (y13_ HO_11.out) hg hat); replace HB := Aside0.mk (hb); have HO353 := Aside0.mk (ho); clear HO350; clear ho hb hg hat; obtain ⟨Ao64, co64, eo64⟩ := Kd.R_slice HO353.out; subst eo64) | ((with_reducible refine gate_callee (f := 12) rfl ?_); refine goesL_ (some 79) rfl rfl Tryd.func12 (by kernel_rfl) rfl #[.slice Ao64 y351.length co64, .slice Ao15 t310.length co15] rfl y1_ ?_; (with_reducible refine (impl_KnwOpen.calls _ _ y351 _ _ t310 t354 _ ?side1 ?side2 ?side3 ?side4 ?side5 A48.out).mono ?_); (case side1 => repeat (first | exact (Kd.R_reads' HO353.out).2.2 | (with_reducible refine Kd.C_alloc ?_ _) | (with_reducible refine Kd.C_drewN ?_ _) | (with_reducible refine Kd.C_drew ?_))); (case side2 => exact (Kd.R_reads' HO353.out).2.1); (case side3 => repeat (first | exact (Kd.R_reads' HO_6.out).2.2 | (with_reducible refine Kd.C_alloc ?_ _) | (with_reducible refine Kd.C_drewN ?_ _) | (with_reducible refine Kd.C_drew ?_))); (case side4 => exact (Kd.R_reads' HO_6.out).2.1); (case side5 => exact GlobOk.below HGL.out (y7_ HB.out)); rintro e w65 ⟨v355, rfl, ho0, hb⟩; refine ⟨_, rfl, ?_⟩; replace HO_6 := Aside0.mk (Kd.R_below (y11_ HO_6.out) hb); have HO356 := Aside0.mk (Kd.Q_lower (Kd.Q_new' (Kd.Q_new' (Kd.Q_new' (Kd.Q_new' ho0 (Kd.R_lt (y11_ HO_5.out))) (Kd.Q_lt (y13_ HO_9.out))) (Kd.Q_lt (y13_ HO_11.out))) (Kd.R_lt (y11_ HO353.out))) (below_size (y7_ HB.out))); replace HO_5 := Aside0.mk (Kd.R_elder' (y11_ HO_5.out) (Kd.Q_base ho0) hb); replace HO_9 := Aside0.mk (Kd.Q_elder' (y13_ HO_9.out) (Kd.Q_base ho0) hb); replace HO_11 := Aside0.mk (Kd.Q_elder' (y13_ HO_11.out) (Kd.Q_base ho0) hb); replace HO353 := Aside0.mk (Kd.R_elder' (y11_ HO353.out) (Kd.Q_base ho0) hb); replace HB := Aside0.mk (below_step (y7_ HB.out) hb); (try clear hb); (try clear hb2); (try clear hk); (try clear hi); (try clear ho0); obtain ⟨Ao66, co66, eo66, _⟩ := Kd.Q_slice HO356.out; subst eo66) | ((with_reducible refine gate_callee (f := 29) rfl ?_); refine goesL_ (some 81) rfl rfl Tryd.func29 (by kernel_rfl) rfl #[.slice Ao66 t354.length co66, .slice Ao18 t321.length co18] rfl y1_ ?_; (with_reducible refine (laws_keTexts.calls k3 _ _ t354 _ _ t321 false _ ?side1 ?side2 ?side3 ?side4 A49.out).mono ?_); (case side1 => repeat (first | exact (Kd.Q_reads' HO356.out).2.2 | (with_reducible refine Kd.C_alloc ?_ _) | (with_reducible refine Kd.C_drewN ?_ _) | (with_reducible refine Kd.C_drew ?_))); (case side2 => exact (Kd.Q_reads' HO356.out).2.1); (case side3 => repeat (first | exact (Kd.Q_reads' HO_9.out).2.2 | (with_reducible refine Kd.C_alloc ?_ _) | (with_reducible refine Kd.C_drewN ?_ _) | (with_reducible refine Kd.C_drew ?_))); (case side4 => exact (Kd.Q_reads' HO_9.out).2.1); rintro e w' ⟨rfl, ⟨nd, rfl⟩⟩; refine ⟨_, rfl, ?_⟩))
                        go_ret
                        exact ⟨y6_, y7_ HB.out⟩
                      rw [if_neg c47] at H
                      exact absurd H (by simp)
                    rw [if_neg c46] at H
                    exact absurd H (by simp)
              rw [if_neg c31] at H
              exact absurd H (by simp)
            rw [if_neg c30] at H
            exact absurd H (by simp)
      replace c11 := Bool.eq_false_iff.mpr c11
      subst c11
      have H1 : (some false) = some r := by rw [if_neg (show ¬ (false = true) by decide)] at H; exact H
      clear H
      have H := H1
      clear H1
      obtain rfl := Option.some.inj H
      go_wp2_with (first | ((with_reducible refine gate_callee (f := 32) rfl ?_); refine goesL_ (some 23) rfl rfl Tryd.func32 (by kernel_rfl) rfl #[.slice A0 l0.length c0] rfl y1_ ?_; (with_reducible refine (spec_DrawKnwOpen.calls kj2 _ _ l0 t309 t310 _ ?side1 ?side2 A6.out).mono ?_); (case side1 => repeat (first | exact (Kd.C_below HR0.out HB.out) | (with_reducible refine Kd.C_alloc ?_ _) | (with_reducible refine Kd.C_drewN ?_ _) | (with_reducible refine Kd.C_drew ?_))); (case side2 => exact HC0.out); rintro e w67 ⟨v311, v313, rfl, ho0, ho1, hb⟩; refine ⟨_, rfl, ?_⟩; have HO312 := Aside0.mk (Kd.R_lower ho0 (below_size (y7_ HB.out))); have HO314 := Aside0.mk (Kd.R_lower ho1 (below_size (y7_ HB.out))); replace HB := Aside0.mk (below_step (y7_ HB.out) hb); (try clear hb); (try clear hb2); (try clear hk); (try clear hi); (try clear ho0); (try clear ho1)) | ((with_reducible refine gate_callee (f := 32) rfl ?_); refine goesL_ (some 28) rfl rfl Tryd.func32 (by kernel_rfl) rfl #[.slice A1 l1.length c1] rfl y1_ ?_; (with_reducible refine (spec_DrawKnwOpen.calls kj2 _ _ l1 t315 t316 _ ?side1 ?side2 A7.out).mono ?_); (case side1 => repeat (first | exact (Kd.C_below HR1.out HB.out) | (with_reducible refine Kd.C_alloc ?_ _) | (with_reducible refine Kd.C_drewN ?_ _) | (with_reducible refine Kd.C_drew ?_))); (case side2 => exact HC1.out); rintro e w68 ⟨v317, v319, rfl, ho0, ho1, hb⟩; refine ⟨_, rfl, ?_⟩; have HO318 := Aside0.mk (Kd.R_lower (Kd.R_new' ho0 (Kd.R_lt (y11_ HO312.out))) (below_size (y7_ HB.out))); replace HO312 := Aside0.mk (Kd.R_elder' (y11_ HO312.out) (Kd.R_base ho0) hb); have HO320 := Aside0.mk (Kd.R_lower (Kd.R_new' ho1 (Kd.R_lt (y11_ HO314.out))) (below_size (y7_ HB.out))); replace HO314 := Aside0.mk (Kd.R_elder' (y11_ HO314.out) (Kd.R_base ho1) hb); replace HB := Aside0.mk (below_step (y7_ HB.out) hb); (try clear hb); (try clear hb2); (try clear hk); (try clear hi); (try clear ho0); (try clear ho1); obtain ⟨Ao69, co69, eo69⟩ := Kd.R_slice HO312.out; subst eo69; obtain ⟨Ao70, co70, eo70⟩ := Kd.R_slice HO314.out; subst eo70) | ((with_reducible refine gate_callee (f := 12) rfl ?_); refine goesL_ (some 33) rfl rfl Tryd.func12 (by kernel_rfl) rfl #[.slice Ao69 t309.length co69, .slice Ao70 t310.length co70] rfl y1_ ?_; (with_reducible refine (impl_KnwOpen.calls _ _ t309 _ _ t310 t321 _ ?side1 ?side2 ?side3 ?side4 ?side5 A8.out).mono ?_); (case side1 => repeat (first | exact (Kd.R_reads' HO312.out).2.2 | (with_reducible refine Kd.C_alloc ?_ _) | (with_reducible refine Kd.C_drewN ?_ _) | (with_reducible refine Kd.C_drew ?_))); (case side2 => exact (Kd.R_reads' HO312.out).2.1); (case side3 => repeat (first | exact (Kd.R_reads' HO314.out).2.2 | (with_reducible refine Kd.C_alloc ?_ _) | (with_reducible refine Kd.C_drewN ?_ _) | (with_reducible refine Kd.C_drew ?_))); (case side4 => exact (Kd.R_reads' HO314.out).2.1); (case side5 => exact GlobOk.below HGL.out (y7_ HB.out)); rintro e w71 ⟨v322, rfl, ho0, hb⟩; refine ⟨_, rfl, ?_⟩; replace HO314 := Aside0.mk (Kd.R_below (y11_ HO314.out) hb); replace HO320 := Aside0.mk (Kd.R_below (y11_ HO320.out) hb); have HO323 := Aside0.mk (Kd.Q_lower (Kd.Q_new' (Kd.Q_new' ho0 (Kd.R_lt (y11_ HO312.out))) (Kd.R_lt (y11_ HO318.out))) (below_size (y7_ HB.out))); replace HO312 := Aside0.mk (Kd.R_elder' (y11_ HO312.out) (Kd.Q_base ho0) hb); replace HO318 := Aside0.mk (Kd.R_elder' (y11_ HO318.out) (Kd.Q_base ho0) hb); replace HB := Aside0.mk (below_step (y7_ HB.out) hb); (try clear hb); (try clear hb2); (try clear hk); (try clear hi); (try clear ho0)) | ((with_reducible refine gate_callee (f := 30) rfl ?_); refine goesL_ (some 37) rfl rfl Tryd.func30 (by kernel_rfl) rfl #[.slice Ao69 t309.length co69, .slice Ao70 t310.length co70] rfl y1_ ?_; (with_reducible refine (spec_KnwOpen.calls kj2 _ _ t309 _ _ t310 t324 _ ?side1 ?side2 ?side3 ?side4 A9.out).mono ?_); (case side1 => repeat (first | exact (Kd.R_reads' HO312.out).2.2 | (with_reducible refine Kd.C_alloc ?_ _) | (with_reducible refine Kd.C_drewN ?_ _) | (with_reducible refine Kd.C_drew ?_))); (case side2 => exact (Kd.R_reads' HO312.out).2.1); (case side3 => repeat (first | exact (Kd.R_reads' HO314.out).2.2 | (with_reducible refine Kd.C_alloc ?_ _) | (with_reducible refine Kd.C_drewN ?_ _) | (with_reducible refine Kd.C_drew ?_))); (case side4 => exact (Kd.R_reads' HO314.out).2.1); rintro e w72 ⟨v325, rfl, ho0, hb⟩; refine ⟨_, rfl, ?_⟩; replace HO314 := Aside0.mk (Kd.R_below (y11_ HO314.out) hb); replace HO320 := Aside0.mk (Kd.R_below (y11_ HO320.out) hb); have HO326 := Aside0.mk (Kd.R_lower (Kd.R_new' (Kd.R_new' (Kd.R_new' ho0 (Kd.R_lt (y11_ HO312.out))) (Kd.R_lt (y11_ HO318.out))) (Kd.Q_lt (y13_ HO323.out))) (below_size (y7_ HB.out))); replace HO312 := Aside0.mk (Kd.R_elder' (y11_ HO312.out) (Kd.R_base ho0) hb); replace HO318 := Aside0.mk (Kd.R_elder' (y11_ HO318.out) (Kd.R_base ho0) hb); replace HO323 := Aside0.mk (Kd.Q_elder' (y13_ HO323.out) (Kd.R_base ho0) hb); replace HB := Aside0.mk (below_step (y7_ HB.out) hb); (try clear hb); (try clear hb2); (try clear hk); (try clear hi); (try clear ho0); obtain ⟨Ao73, co73, eo73, _⟩ := Kd.Q_slice HO323.out; subst eo73; obtain ⟨Ao74, co74, eo74⟩ := Kd.R_slice HO326.out; subst eo74) | ((with_reducible refine gate_callee (f := 29) rfl ?_); refine goesL_ (some 38) rfl rfl Tryd.func29 (by kernel_rfl) rfl #[.slice Ao73 t321.length co73, .slice Ao74 t324.length co74] rfl y1_ ?_; (with_reducible refine (laws_keTexts.calls kj2 _ _ t321 _ _ t324 false _ ?side1 ?side2 ?side3 ?side4 A10.out).mono ?_); (case side1 => repeat (first | exact (Kd.Q_reads' HO323.out).2.2 | (with_reducible refine Kd.C_alloc ?_ _) | (with_reducible refine Kd.C_drewN ?_ _) | (with_reducible refine Kd.C_drew ?_))); (case side2 => exact (Kd.Q_reads' HO323.out).2.1); (case side3 => repeat (first | exact (Kd.R_reads' HO326.out).2.2 | (with_reducible refine Kd.C_alloc ?_ _) | (with_reducible refine Kd.C_drewN ?_ _) | (with_reducible refine Kd.C_drew ?_))); (case side4 => exact (Kd.R_reads' HO326.out).2.1); rintro e w' ⟨rfl, ⟨nd, rfl⟩⟩; refine ⟨_, rfl, ?_⟩))
      go_ret
      exact ⟨y6_, y7_ HB.out⟩

/-- THE ONE PURE STATEMENT of laws_FnKnwMore: yours. -/
def laws_FnKnwMore.Pure : Prop := ∀ (l0 : List Int) (l1 : List Int), l0.length ≤ maxLen → l0.length * 1 ≤ 140737488351232 → (∀ x ∈ l0, (Lit.int .u8 x).wf = true) → l1.length ≤ maxLen → l1.length * 1 ≤ 140737488351232 → (∀ x ∈ l1, (Lit.int .u8 x).wf = true) → ∃ k, laws_FnKnwMore.f k l0 l1 = some true
theorem laws_FnKnwMore.walk (P : laws_FnKnwMore.Pure) (a0 : Option Addr) (len0 cap0 : Nat) (z0 : List Int) (a1 : Option Addr) (len1 cap1 : Nat) (z1 : List Int) (w : World) (w0 : (a0 = none ∧ len0 = 0 ∧ cap0 = 0 ∧ z0 = []) ∨ ∃ x, a0 = some x ∧ len0 ≤ cap0 ∧ cap0 ≤ maxLen ∧ z0.length = cap0 ∧ (∀ i, i < z0.length → w.cell? (x.add i) = some (.int .u8 (z0.getD i 0))) ∧ ∀ n ∈ z0, (Lit.int .u8 n).wf = true) (y0 : len0 * 1 ≤ 140737488351232) (w1 : (a1 = none ∧ len1 = 0 ∧ cap1 = 0 ∧ z1 = []) ∨ ∃ x, a1 = some x ∧ len1 ≤ cap1 ∧ cap1 ≤ maxLen ∧ z1.length = cap1 ∧ (∀ i, i < z1.length → w.cell? (x.add i) = some (.int .u8 (z1.getD i 0))) ∧ ∀ n ∈ z1, (Lit.int .u8 n).wf = true) (y1 : len1 * 1 ≤ 140737488351232) (hG : GlobOk w) :
    Calls Tryd.prog 9 #[.slice a0 len0 cap0, .slice a1 len1 cap1] w fun e w' => e = .returned (.bool true) ∧ Below w.heap.size w w' := by
  obtain ⟨l0, rfl, hr0, hm0, hw0, hc0⟩ := ReadsInt.ofRowC w0
  obtain ⟨l1, rfl, hr1, hm1, hw1, hc1⟩ := ReadsInt.ofRowC w1
  obtain ⟨k, h⟩ := P l0 l1 hm0 y0 hw0 hm1 y1 hw1
  refine (laws_FnKnwMore.calls k _ _ l0 _ _ l1 true w (Kd.C_of_reads (d := (0 : Int)) (h1 := fun _ => rfl) hr0) hc0 (Kd.C_of_reads (d := (0 : Int)) (h1 := fun _ => rfl) hr1) hc1 hG h).mono ?_
  rintro e w' ⟨rfl, hd⟩
  exact ⟨rfl, hd⟩

end Go.Proofs.YtjbnfcljkmapeaaDoor.Yr
