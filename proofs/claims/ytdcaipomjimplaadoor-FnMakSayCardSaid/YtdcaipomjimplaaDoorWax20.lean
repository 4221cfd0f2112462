-- Written by this session's own program (wip/tools/pp.py) out of the translation, over functions given by hand. Lean checks it.
import Derived.Test.YtdcaipomjimplaaDoorWax0
import Derived.Test.YtdcaipomjimplaaDoorWax1
import Derived.Test.YtdcaipomjimplaaDoorWax2
import Derived.Test.YtdcaipomjimplaaDoorWax9
import Derived.Test.YtdcaipomjimplaaDoorWax17
import Derived.Test.YtdcaipomjimplaaDoorWax18
import Derived.Test.YtdcaipomjimplaaDoorWax19
namespace Go.Proofs.YtdcaipomjimplaaDoor.Wa
open Go.RowKit Go.Proofs.YtdcaipomjimplaaDoorW.PrintWords Go.Proofs.YtdcaipomjimplaaDoorW.PrintLast Go.Proofs.YtdcaipomjimplaaDoorW.PrintMore
attribute [local go_sem] max2_int min2_int max_two min_two max_three min_three max_four min_four   -- for this text's walks alone
set_option linter.unusedVariables false
set_option linter.unusedSimpArgs false

attribute [local go_sem high] eqA37
/-! ### laws_FnMakSay: function 9 -/
mutual
def laws_FnMakSay.j0 : Nat → List Int → List Int → Bool → Option (Bool)
  | 0, _, _, _ => none
  | k + 1, x0, x1, x18 => if x18 = true then (some true) else ((spec_DrawMakSay.f k x0).bind fun bt329 => ((spec_DrawMakRoom.f k x1).bind fun bt331 => ((impl_MakSay.f k bt329.1 bt329.2).bind fun t333 => ((impl_MakRoom.f k bt331.1 bt331.2).bind fun t334 => ((spec_MakSay.f k bt329.1 bt329.2).bind fun t335 => (if t333.toList = t335.toList then ((spec_MakRoom.f k bt331.1 bt331.2).bind fun t336 => (laws_FnMakSay.j1 k bt329.1 bt329.2 bt331.1 bt331.2 t333 t334 (t334.toList != t336.toList))) else (laws_FnMakSay.j1 k bt329.1 bt329.2 bt331.1 bt331.2 t333 t334 true)))))))
def laws_FnMakSay.j1 : Nat → ByteArray → Int → ByteArray → Int → ByteArray → ByteArray → Bool → Option (Bool)
  | 0, _, _, _, _, _, _, _ => none
  | k + 1, x5, x6, x7, x8, x9, x10, x46 => if x46 = true then (some false) else (if x9.toList = ([] : List UInt8) then (laws_FnMakSay.j2 k x7 x8 x9 x10 false) else ((impl_SecMade.f x9).bind fun bt337 => (if (!(bt337.1 == 5) || (!(bt337.2.1 == x6) || (!(bt337.2.2.1 == 0) || (!(bt337.2.2.2.1.toList == x5.toList) || (!(bt337.2.2.2.2.toList == ([] : List UInt8))))))) = true then (laws_FnMakSay.j2 k x7 x8 x9 x10 true) else ((impl_MakSay.f k x5 (Int.tmod (wrap64 (x6 + 1)) 8)).bind fun t342 => (laws_FnMakSay.j2 k x7 x8 x9 x10 (t342.toList == x9.toList))))))
def laws_FnMakSay.j2 : Nat → ByteArray → Int → ByteArray → ByteArray → Bool → Option (Bool)
  | 0, _, _, _, _, _ => none
  | k + 1, x7, x8, x9, x10, x65 => if x65 = true then (some false) else (if x10.toList = ([] : List UInt8) then (laws_FnMakSay.j3 k x9 x10 false) else ((impl_SecMade.f x10).bind fun bt343 => (if (!(bt343.1 == 6) || (!(bt343.2.1 == 0) || (!(bt343.2.2.1 == x8) || (!(bt343.2.2.2.1.toList == x7.toList) || (!(bt343.2.2.2.2.toList == ([] : List UInt8))))))) = true then (laws_FnMakSay.j3 k x9 x10 true) else ((impl_MakRoom.f k x7 (wrap64 (1 + (Int.tmod x8 9)))).bind fun t348 => (laws_FnMakSay.j3 k x9 x10 (t348.toList == x10.toList))))))
def laws_FnMakSay.j3 : Nat → ByteArray → ByteArray → Bool → Option (Bool)
  | 0, _, _, _ => none
  | k + 1, x9, x10, x84 => if x84 = true then (some false) else (if x9.toList = x10.toList then (if x9.toList = ([] : List UInt8) then ((laws_keOk.f).bind fun t349 => (some t349)) else (some false)) else (some true))
end
def laws_FnMakSay.f (k : Nat) (l0 : List Int) (l1 : List Int) : Option (Bool) := if (l0.length : Int) > 1048576 then (laws_FnMakSay.j0 k l0 l1 true) else (laws_FnMakSay.j0 k l0 l1 (decide ((l1.length : Int) > 1048576)))
theorem laws_FnMakSay.mono_l : ∀ k, (∀ y0 y1 y2, LeO (laws_FnMakSay.j0 k y0 y1 y2) (laws_FnMakSay.j0 (k + 1) y0 y1 y2)) ∧ (∀ y0 y1 y2 y3 y4 y5 y6, LeO (laws_FnMakSay.j1 k y0 y1 y2 y3 y4 y5 y6) (laws_FnMakSay.j1 (k + 1) y0 y1 y2 y3 y4 y5 y6)) ∧ (∀ y0 y1 y2 y3 y4, LeO (laws_FnMakSay.j2 k y0 y1 y2 y3 y4) (laws_FnMakSay.j2 (k + 1) y0 y1 y2 y3 y4)) ∧ (∀ y0 y1 y2, LeO (laws_FnMakSay.j3 k y0 y1 y2) (laws_FnMakSay.j3 (k + 1) y0 y1 y2))
  | 0 => ⟨fun _ _ _ r h => by simp [laws_FnMakSay.j0] at h, fun _ _ _ _ _ _ _ r h => by simp [laws_FnMakSay.j1] at h, fun _ _ _ _ _ r h => by simp [laws_FnMakSay.j2] at h, fun _ _ _ r h => by simp [laws_FnMakSay.j3] at h⟩
  | k + 1 => by
    obtain ⟨ih0, ih1, ih2, ih3⟩ := laws_FnMakSay.mono_l k
    refine ⟨?_, ?_, ?_, ?_⟩
    · intro y0 y1 y2
      unfold laws_FnMakSay.j0
      repeat' first
      | (with_reducible exact ih0 _ _ _)
      | (with_reducible exact ih1 _ _ _ _ _ _ _)
      | (with_reducible exact ih2 _ _ _ _ _)
      | (with_reducible exact ih3 _ _ _)
      | (with_reducible exact impl_MakRoom.mono _ _ _)
      | (with_reducible exact impl_MakSay.mono _ _ _)
      | (with_reducible exact spec_DrawMakRoom.mono _ _)
      | (with_reducible exact spec_DrawMakSay.mono _ _)
      | (with_reducible exact spec_MakRoom.mono _ _ _)
      | (with_reducible exact spec_MakSay.mono _ _ _)
      | (with_reducible exact LeO.refl _)
      | (with_reducible exact LeO.none _)
      | (with_reducible refine LeO.ite ?_ ?_)
      | (with_reducible refine LeO.bind ?_ (fun _ => ?_))
      | exact ih0 _ _ _
      | exact ih1 _ _ _ _ _ _ _
      | exact ih2 _ _ _ _ _
      | exact ih3 _ _ _
      | exact impl_MakRoom.mono _ _ _
      | exact impl_MakSay.mono _ _ _
      | exact spec_DrawMakRoom.mono _ _
      | exact spec_DrawMakSay.mono _ _
      | exact spec_MakRoom.mono _ _ _
      | exact spec_MakSay.mono _ _ _
      | exact LeO.none _
      | refine LeO.ite ?_ ?_
      | refine LeO.bind ?_ (fun _ => ?_)
    · intro y0 y1 y2 y3 y4 y5 y6
      unfold laws_FnMakSay.j1
      repeat' first
      | (with_reducible exact ih0 _ _ _)
      | (with_reducible exact ih1 _ _ _ _ _ _ _)
      | (with_reducible exact ih2 _ _ _ _ _)
      | (with_reducible exact ih3 _ _ _)
      | (with_reducible exact impl_MakRoom.mono _ _ _)
      | (with_reducible exact impl_MakSay.mono _ _ _)
      | (with_reducible exact spec_DrawMakRoom.mono _ _)
      | (with_reducible exact spec_DrawMakSay.mono _ _)
      | (with_reducible exact spec_MakRoom.mono _ _ _)
      | (with_reducible exact spec_MakSay.mono _ _ _)
      | (with_reducible exact LeO.refl _)
      | (with_reducible exact LeO.none _)
      | (with_reducible refine LeO.ite ?_ ?_)
      | (with_reducible refine LeO.bind ?_ (fun _ => ?_))
      | exact ih0 _ _ _
      | exact ih1 _ _ _ _ _ _ _
      | exact ih2 _ _ _ _ _
      | exact ih3 _ _ _
      | exact impl_MakRoom.mono _ _ _
      | exact impl_MakSay.mono _ _ _
      | exact spec_DrawMakRoom.mono _ _
      | exact spec_DrawMakSay.mono _ _
      | exact spec_MakRoom.mono _ _ _
      | exact spec_MakSay.mono _ _ _
      | exact LeO.none _
      | refine LeO.ite ?_ ?_
      | refine LeO.bind ?_ (fun _ => ?_)
    · intro y0 y1 y2 y3 y4
      unfold laws_FnMakSay.j2
      repeat' first
      | (with_reducible exact ih0 _ _ _)
      | (with_reducible exact ih1 _ _ _ _ _ _ _)
      | (with_reducible exact ih2 _ _ _ _ _)
      | (with_reducible exact ih3 _ _ _)
      | (with_reducible exact impl_MakRoom.mono _ _ _)
      | (with_reducible exact impl_MakSay.mono _ _ _)
      | (with_reducible exact spec_DrawMakRoom.mono _ _)
      | (with_reducible exact spec_DrawMakSay.mono _ _)
      | (with_reducible exact spec_MakRoom.mono _ _ _)
      | (with_reducible exact spec_MakSay.mono _ _ _)
      | (with_reducible exact LeO.refl _)
      | (with_reducible exact LeO.none _)
      | (with_reducible refine LeO.ite ?_ ?_)
      | (with_reducible refine LeO.bind ?_ (fun _ => ?_))
      | exact ih0 _ _ _
      | exact ih1 _ _ _ _ _ _ _
      | exact ih2 _ _ _ _ _
      | exact ih3 _ _ _
      | exact impl_MakRoom.mono _ _ _
      | exact impl_MakSay.mono _ _ _
      | exact spec_DrawMakRoom.mono _ _
      | exact spec_DrawMakSay.mono _ _
      | exact spec_MakRoom.mono _ _ _
      | exact spec_MakSay.mono _ _ _
      | exact LeO.none _
      | refine LeO.ite ?_ ?_
      | refine LeO.bind ?_ (fun _ => ?_)
    · intro y0 y1 y2
      unfold laws_FnMakSay.j3
      repeat' first
      | (with_reducible exact ih0 _ _ _)
      | (with_reducible exact ih1 _ _ _ _ _ _ _)
      | (with_reducible exact ih2 _ _ _ _ _)
      | (with_reducible exact ih3 _ _ _)
      | (with_reducible exact impl_MakRoom.mono _ _ _)
      | (with_reducible exact impl_MakSay.mono _ _ _)
      | (with_reducible exact spec_DrawMakRoom.mono _ _)
      | (with_reducible exact spec_DrawMakSay.mono _ _)
      | (with_reducible exact spec_MakRoom.mono _ _ _)
      | (with_reducible exact spec_MakSay.mono _ _ _)
      | (with_reducible exact LeO.refl _)
      | (with_reducible exact LeO.none _)
      | (with_reducible refine LeO.ite ?_ ?_)
      | (with_reducible refine LeO.bind ?_ (fun _ => ?_))
      | exact ih0 _ _ _
      | exact ih1 _ _ _ _ _ _ _
      | exact ih2 _ _ _ _ _
      | exact ih3 _ _ _
      | exact impl_MakRoom.mono _ _ _
      | exact impl_MakSay.mono _ _ _
      | exact spec_DrawMakRoom.mono _ _
      | exact spec_DrawMakSay.mono _ _
      | exact spec_MakRoom.mono _ _ _
      | exact spec_MakSay.mono _ _ _
      | exact LeO.none _
      | refine LeO.ite ?_ ?_
      | refine LeO.bind ?_ (fun _ => ?_)
theorem laws_FnMakSay.mono : ∀ a0 a1 k, LeO (laws_FnMakSay.f k a0 a1) (laws_FnMakSay.f (k + 1) a0 a1) := by
  intro a0 a1 k
  obtain ⟨ih0, ih1, ih2, ih3⟩ := laws_FnMakSay.mono_l k
  unfold laws_FnMakSay.f
  repeat' first
      | (with_reducible exact ih0 _ _ _)
      | (with_reducible exact ih1 _ _ _ _ _ _ _)
      | (with_reducible exact ih2 _ _ _ _ _)
      | (with_reducible exact ih3 _ _ _)
      | (with_reducible exact impl_MakRoom.mono _ _ _)
      | (with_reducible exact impl_MakSay.mono _ _ _)
      | (with_reducible exact spec_DrawMakRoom.mono _ _)
      | (with_reducible exact spec_DrawMakSay.mono _ _)
      | (with_reducible exact spec_MakRoom.mono _ _ _)
      | (with_reducible exact spec_MakSay.mono _ _ _)
      | (with_reducible exact LeO.refl _)
      | (with_reducible exact LeO.none _)
      | (with_reducible refine LeO.ite ?_ ?_)
      | (with_reducible refine LeO.bind ?_ (fun _ => ?_))
      | exact ih0 _ _ _
      | exact ih1 _ _ _ _ _ _ _
      | exact ih2 _ _ _ _ _
      | exact ih3 _ _ _
      | exact impl_MakRoom.mono _ _ _
      | exact impl_MakSay.mono _ _ _
      | exact spec_DrawMakRoom.mono _ _
      | exact spec_DrawMakSay.mono _ _
      | exact spec_MakRoom.mono _ _ _
      | exact spec_MakSay.mono _ _ _
      | exact LeO.none _
      | refine LeO.ite ?_ ?_
      | refine LeO.bind ?_ (fun _ => ?_)
set_option maxHeartbeats 8000000 in
set_option maxRecDepth 100000 in
theorem laws_FnMakSay.calls (k : Nat) (A0 : Option Addr) (c0 : Nat) (l0 : List Int) (A1 : Option Addr) (c1 : Nat) (l1 : List Int) (r : Bool) (w : World) (hr0 : Kd.C (Kd.int .u8) w A0 l0.length l0) (hc0 : l0.length ≤ c0) (hr1 : Kd.C (Kd.int .u8) w A1 l1.length l1) (hc1 : l1.length ≤ c1) (hG : GlobOk w) (h : laws_FnMakSay.f k l0 l1 = some r) :
    Calls Tryd.prog 9 #[.slice A0 l0.length c0, .slice A1 l1.length c1] w fun e w' => e = .returned (.bool r) ∧ Below w.heap.size w w' := by
  have hu37 := Tryd.underlying37
  have HR0 := Aside0.mk hr0
  have HC0 := Aside0.mk hc0
  clear hr0 hc0
  have HR1 := Aside0.mk hr1
  have HC1 := Aside0.mk hc1
  clear hr1 hc1
  have HB := Aside0.mk (Below.refl w.heap.size w)
  have HGL := Aside0.mk hG
  clear hG
  have H : (if (l0.length : Int) > 1048576 then (laws_FnMakSay.j0 k l0 l1 true) else (laws_FnMakSay.j0 k l0 l1 (decide ((l1.length : Int) > 1048576)))) = some r := h
  clear h
  have HC3 := Aside0.mk H
  clear H
  go_enter Tryd.func9, Tryd.ntmps9
  go_upto_region 1 with (fail)
  go_cut [18] (fun v18 wc => ∃ (kq : Nat) (x18_2 : Bool), v18 = .bool x18_2 ∧ Aside0 (laws_FnMakSay.j0 kq l0 l1 x18_2 = some r) ∧ Aside0 (kq ≤ k) ∧ Aside0 (Below w.heap.size w wc))
  case first =>
    have H := HC3.out
    clear HC3
    by_cases c4 : (l0.length : Int) > 1048576
    · rw [if_pos c4] at H
      have c4b0 : decide (1048576 < (l0.length : Int)) = true := decide_eq_true c4
      have c4b1 : decide (1048576 < l0.length) = true := decide_eq_true (by omega)
      clear c4
      (first | rw [c4b0] | (simp only [i64_w, i32_w]; rw [c4b0]) | skip)
      have H' := Aside0.mk H
      clear H
      go_wp2
      go_meet
      case rel => exact ⟨_, (true), (by first | rfl | (simp; done) | (simp [*]; done)), H', ⟨by first | omega | exact Nat.le_refl _⟩, ⟨by repeat (first | (with_reducible first | exact HB.out | apply below_alloc | apply pw_below_drewN | apply below_drew1) | exact HB.out)⟩⟩
    · rw [if_neg c4] at H
      have c4b0 : decide (1048576 < (l0.length : Int)) = false := decide_eq_false c4
      have c4b1 : decide (1048576 < l0.length) = false := decide_eq_false (by omega)
      clear c4
      (first | rw [c4b0] | (simp only [i64_w, i32_w]; rw [c4b0]) | skip)
      have H' := Aside0.mk H
      clear H
      go_wp2
      go_meet
      case rel => exact ⟨_, (decide ((l1.length : Int) > 1048576)), (by first | rfl | (simp; done) | (simp [*]; done)), H', ⟨by first | omega | exact Nat.le_refl _⟩, ⟨by repeat (first | (with_reducible first | exact HB.out | apply below_alloc | apply pw_below_drewN | apply below_drew1) | exact HB.out)⟩⟩
  case rest =>
    clear HC3
    try clear c1
    try clear p2
    try clear c4
    try clear c4b0
    try clear c4b1
    obtain ⟨kq, x18_2, rfl, HA, HJ2, HB⟩ := hcut
    cases kq with
    | zero => exact absurd HA.out (by simp [laws_FnMakSay.j0])
    | succ kj2 =>
      have H := HA.out
      clear HA
      simp only [laws_FnMakSay.j0] at H
      by_cases c5 : x18_2 = true
      · subst c5
        have H1 : (some true) = some r := by rw [if_pos rfl] at H; exact H
        clear H
        have H := H1
        clear H1
        obtain rfl := Option.some.inj H
        go_wp2
        go_ret
        exact ⟨by first | rfl | (simp [errW_none, errW_some] <;> rfl) | (simp [*, errW_none, errW_some] <;> rfl), by repeat (first | (with_reducible first | exact HB.out | apply below_alloc | apply pw_below_drewN | apply below_drew1) | exact HB.out)⟩
      · replace c5 := Bool.eq_false_iff.mpr c5
        subst c5
        have H1 : ((spec_DrawMakSay.f kj2 l0).bind fun bt329 => ((spec_DrawMakRoom.f kj2 l1).bind fun bt331 => ((impl_MakSay.f kj2 bt329.1 bt329.2).bind fun t333 => ((impl_MakRoom.f kj2 bt331.1 bt331.2).bind fun t334 => ((spec_MakSay.f kj2 bt329.1 bt329.2).bind fun t335 => (if t333.toList = t335.toList then ((spec_MakRoom.f kj2 bt331.1 bt331.2).bind fun t336 => (laws_FnMakSay.j1 kj2 bt329.1 bt329.2 bt331.1 bt331.2 t333 t334 (t334.toList != t336.toList))) else (laws_FnMakSay.j1 kj2 bt329.1 bt329.2 bt331.1 bt331.2 t333 t334 true))))))) = some r := by rw [if_neg (show ¬ (false = true) by decide)] at H; exact H
        clear H
        have H := H1
        clear H1
        replace H := Option.bind_eq_some_iff.mp H
        obtain ⟨⟨t329, t330⟩, A60, H⟩ := H
        replace H : ((spec_DrawMakRoom.f kj2 l1).bind fun bt331 => ((impl_MakSay.f kj2 t329 t330).bind fun t333 => ((impl_MakRoom.f kj2 bt331.1 bt331.2).bind fun t334 => ((spec_MakSay.f kj2 t329 t330).bind fun t335 => (if t333.toList = t335.toList then ((spec_MakRoom.f kj2 bt331.1 bt331.2).bind fun t336 => (laws_FnMakSay.j1 kj2 t329 t330 bt331.1 bt331.2 t333 t334 (t334.toList != t336.toList))) else (laws_FnMakSay.j1 kj2 t329 t330 bt331.1 bt331.2 t333 t334 true)))))) = some r := H
        have A6 := Aside0.mk A60
        clear A60
        replace H := Option.bind_eq_some_iff.mp H
        obtain ⟨⟨t331, t332⟩, A70, H⟩ := H
        replace H : ((impl_MakSay.f kj2 t329 t330).bind fun t333 => ((impl_MakRoom.f kj2 t331 t332).bind fun t334 => ((spec_MakSay.f kj2 t329 t330).bind fun t335 => (if t333.toList = t335.toList then ((spec_MakRoom.f kj2 t331 t332).bind fun t336 => (laws_FnMakSay.j1 kj2 t329 t330 t331 t332 t333 t334 (t334.toList != t336.toList))) else (laws_FnMakSay.j1 kj2 t329 t330 t331 t332 t333 t334 true))))) = some r := H
        have A7 := Aside0.mk A70
        clear A70
        replace H := Option.bind_eq_some_iff.mp H
        obtain ⟨t333, A80, H⟩ := H
        replace H : ((impl_MakRoom.f kj2 t331 t332).bind fun t334 => ((spec_MakSay.f kj2 t329 t330).bind fun t335 => (if t333.toList = t335.toList then ((spec_MakRoom.f kj2 t331 t332).bind fun t336 => (laws_FnMakSay.j1 kj2 t329 t330 t331 t332 t333 t334 (t334.toList != t336.toList))) else (laws_FnMakSay.j1 kj2 t329 t330 t331 t332 t333 t334 true)))) = some r := H
        have A8 := Aside0.mk A80
        clear A80
        replace H := Option.bind_eq_some_iff.mp H
        obtain ⟨t334, A90, H⟩ := H
        replace H : ((spec_MakSay.f kj2 t329 t330).bind fun t335 => (if t333.toList = t335.toList then ((spec_MakRoom.f kj2 t331 t332).bind fun t336 => (laws_FnMakSay.j1 kj2 t329 t330 t331 t332 t333 t334 (t334.toList != t336.toList))) else (laws_FnMakSay.j1 kj2 t329 t330 t331 t332 t333 t334 true))) = some r := H
        have A9 := Aside0.mk A90
        clear A90
        have HC10 := Aside0.mk H
        clear H
        go_upto_region 7 with (first | ((with_reducible refine gate_callee (f := 44) rfl ?_); refine goesL_ (some 21) rfl rfl Tryd.func44 (by kernel_rfl) rfl #[.slice A0 l0.length c0] rfl (by (try simp only [List.map_toArray, List.map_cons, List.map_nil]); first | done | rfl | (simp only [List.length_drop, List.length_take]; rfl) | (simp only [w64_u8]; rfl)) ?_; (with_reducible refine (spec_DrawMakSay.calls kj2 _ _ l0 t329 t330 _ ?side1 ?side2 A6.out).mono ?_); (case side1 => repeat (first | exact (Kd.C_below HR0.out HB.out) | (with_reducible refine Kd.C_alloc ?_ _) | (with_reducible refine Kd.C_drewN ?_ _) | (with_reducible refine Kd.C_drew ?_))); (case side2 => exact HC0.out); rintro e w11 ⟨rfl, hb⟩; refine ⟨_, rfl, ?_⟩; have n0_ := Aside0.mk (below_step (by repeat (first | (with_reducible first | exact HB.out | apply below_alloc | apply pw_below_drewN | apply below_drew1) | exact HB.out)) hb); clear HB; have HB := n0_; clear n0_; (try clear hb); (try clear hb2); (try clear hk); (try clear hi)) | ((with_reducible refine gate_callee (f := 45) rfl ?_); refine goesL_ (some 26) rfl rfl Tryd.func45 (by kernel_rfl) rfl #[.slice A1 l1.length c1] rfl (by (try simp only [List.map_toArray, List.map_cons, List.map_nil]); first | done | rfl | (simp only [List.length_drop, List.length_take]; rfl) | (simp only [w64_u8]; rfl)) ?_; (with_reducible refine (spec_DrawMakRoom.calls kj2 _ _ l1 t331 t332 _ ?side1 ?side2 A7.out).mono ?_); (case side1 => repeat (first | exact (Kd.C_below HR1.out HB.out) | (with_reducible refine Kd.C_alloc ?_ _) | (with_reducible refine Kd.C_drewN ?_ _) | (with_reducible refine Kd.C_drew ?_))); (case side2 => exact HC1.out); rintro e w12 ⟨rfl, hb⟩; refine ⟨_, rfl, ?_⟩; have n0_ := Aside0.mk (below_step (by repeat (first | (with_reducible first | exact HB.out | apply below_alloc | apply pw_below_drewN | apply below_drew1) | exact HB.out)) hb); clear HB; have HB := n0_; clear n0_; (try clear hb); (try clear hb2); (try clear hk); (try clear hi)) | ((with_reducible refine gate_callee (f := 46) rfl ?_); refine goesL_ (some 31) rfl rfl Tryd.func46 (by kernel_rfl) rfl #[.string t329, .int .i64 t330] rfl (by (try simp only [List.map_toArray, List.map_cons, List.map_nil]); first | done | rfl | (simp only [List.length_drop, List.length_take]; rfl) | (simp only [w64_u8]; rfl)) ?_; (with_reducible refine (impl_MakSay.calls kj2 t329 t330 t333 _ ?side1 A8.out).mono ?_); (case side1 => exact GlobOk.below HGL.out (by repeat (first | (with_reducible first | exact HB.out | apply below_alloc | apply pw_below_drewN | apply below_drew1) | exact HB.out))); rintro e w13 ⟨rfl, hb⟩; refine ⟨_, rfl, ?_⟩; have n0_ := Aside0.mk (below_step (by repeat (first | (with_reducible first | exact HB.out | apply below_alloc | apply pw_below_drewN | apply below_drew1) | exact HB.out)) hb); clear HB; have HB := n0_; clear n0_; (try clear hb); (try clear hb2); (try clear hk); (try clear hi)) | ((with_reducible refine gate_callee (f := 47) rfl ?_); refine goesL_ (some 34) rfl rfl Tryd.func47 (by kernel_rfl) rfl #[.string t331, .int .i64 t332] rfl (by (try simp only [List.map_toArray, List.map_cons, List.map_nil]); first | done | rfl | (simp only [List.length_drop, List.length_take]; rfl) | (simp only [w64_u8]; rfl)) ?_; (with_reducible refine (impl_MakRoom.calls kj2 t331 t332 t334 _ ?side1 A9.out).mono ?_); (case side1 => exact GlobOk.below HGL.out (by repeat (first | (with_reducible first | exact HB.out | apply below_alloc | apply pw_below_drewN | apply below_drew1) | exact HB.out))); rintro e w14 ⟨rfl, hb⟩; refine ⟨_, rfl, ?_⟩; have n0_ := Aside0.mk (below_step (by repeat (first | (with_reducible first | exact HB.out | apply below_alloc | apply pw_below_drewN | apply below_drew1) | exact HB.out)) hb); clear HB; have HB := n0_; clear n0_; (try clear hb); (try clear hb2); (try clear hk); (try clear hi)))
        (try simp only [Act.put, List.setIfInBounds_toArray, List.set_cons_zero, List.set_cons_succ])
        go_cut [46] (fun v46 wc => ∃ (kq : Nat) (x46_9 : Bool), v46 = .bool x46_9 ∧ Aside0 (laws_FnMakSay.j1 kq t329 t330 t331 t332 t333 t334 x46_9 = some r) ∧ Aside0 (kq ≤ kj2) ∧ Aside0 (Below w.heap.size w wc))
        case first =>
          have H := HC10.out
          clear HC10
          replace H := Option.bind_eq_some_iff.mp H
          obtain ⟨t335, A150, H⟩ := H
          replace H : (if t333.toList = t335.toList then ((spec_MakRoom.f kj2 t331 t332).bind fun t336 => (laws_FnMakSay.j1 kj2 t329 t330 t331 t332 t333 t334 (t334.toList != t336.toList))) else (laws_FnMakSay.j1 kj2 t329 t330 t331 t332 t333 t334 true)) = some r := H
          have A15 := Aside0.mk A150
          clear A150
          by_cases c16 : t333.toList = t335.toList
          · rw [if_pos c16] at H
            have c16b0 : (t333.toList == t335.toList) = true := beq_iff_eq.mpr c16
            have c16b1 : (t333.toList != t335.toList) = false := bne_eq_false_iff_eq.mpr c16
            clear c16
            (first | rw [c16b0] | (simp only [i64_w, i32_w]; rw [c16b0]) | skip)
            replace H := Option.bind_eq_some_iff.mp H
            obtain ⟨t336, A170, H⟩ := H
            replace H : (laws_FnMakSay.j1 kj2 t329 t330 t331 t332 t333 t334 (t334.toList != t336.toList)) = some r := H
            have A17 := Aside0.mk A170
            clear A170
            have H' := Aside0.mk H
            clear H
            go_wp2_with (first | ((with_reducible refine gate_callee (f := 48) rfl ?_); refine goesL_ (some 38) rfl rfl Tryd.func48 (by kernel_rfl) rfl #[.string t329, .int .i64 t330] rfl (by (try simp only [List.map_toArray, List.map_cons, List.map_nil]); first | done | rfl | (simp only [List.length_drop, List.length_take]; rfl) | (simp only [w64_u8]; rfl)) ?_; (with_reducible refine (spec_MakSay.calls kj2 t329 t330 t335 _ A15.out).mono ?_); rintro e w18 ⟨rfl, hb⟩; refine ⟨_, rfl, ?_⟩; have n0_ := Aside0.mk (below_step (by repeat (first | (with_reducible first | exact HB.out | apply below_alloc | apply pw_below_drewN | apply below_drew1) | exact HB.out)) hb); clear HB; have HB := n0_; clear n0_; (try clear hb); (try clear hb2); (try clear hk); (try clear hi)) | (go_at_call 49; (with_reducible refine (spec_MakRoom.calls kj2 t331 t332 t336 _ A17.out).mono ?_); rintro e w19 ⟨rfl, hb⟩; have n0_ := Aside0.mk (below_step (by repeat (first | (with_reducible first | exact HB.out | apply below_alloc | apply pw_below_drewN | apply below_drew1) | exact HB.out)) hb); clear HB; have HB := n0_; clear n0_; (try clear hb); (try clear hb2); (try clear hk); (try clear hi)))
            go_meet
            case rel => exact ⟨_, ((t334.toList != t336.toList)), (by first | rfl | (simp; done) | (simp [*]; done)), H', ⟨by have := HJ2.out; first | omega | exact Nat.le_refl _⟩, ⟨by repeat (first | (with_reducible first | exact HB.out | apply below_alloc | apply pw_below_drewN | apply below_drew1) | exact HB.out)⟩⟩
          · rw [if_neg c16] at H
            have c16b0 : (t333.toList == t335.toList) = false := beq_eq_false_iff_ne.mpr c16
            have c16b1 : (t333.toList != t335.toList) = true := bne_iff_ne.mpr c16
            (first | rw [c16b0] | (simp only [i64_w, i32_w]; rw [c16b0]) | skip)
            have H' := Aside0.mk H
            clear H
            go_wp2_with (first | ((with_reducible refine gate_callee (f := 48) rfl ?_); refine goesL_ (some 38) rfl rfl Tryd.func48 (by kernel_rfl) rfl #[.string t329, .int .i64 t330] rfl (by (try simp only [List.map_toArray, List.map_cons, List.map_nil]); first | done | rfl | (simp only [List.length_drop, List.length_take]; rfl) | (simp only [w64_u8]; rfl)) ?_; (with_reducible refine (spec_MakSay.calls kj2 t329 t330 t335 _ A15.out).mono ?_); rintro e w20 ⟨rfl, hb⟩; refine ⟨_, rfl, ?_⟩; have n0_ := Aside0.mk (below_step (by repeat (first | (with_reducible first | exact HB.out | apply below_alloc | apply pw_below_drewN | apply below_drew1) | exact HB.out)) hb); clear HB; have HB := n0_; clear n0_; (try clear hb); (try clear hb2); (try clear hk); (try clear hi)))
            go_meet
            case rel => exact ⟨_, (true), (by first | rfl | (simp; done) | (simp [*]; done)), H', ⟨by have := HJ2.out; first | omega | exact Nat.le_refl _⟩, ⟨by repeat (first | (with_reducible first | exact HB.out | apply below_alloc | apply pw_below_drewN | apply below_drew1) | exact HB.out)⟩⟩
        case rest =>
          clear HC10
          try clear c1
          try clear p2
          try clear c4
          try clear c4b0
          try clear c4b1
          try clear c5
          try clear c9
          try clear c16
          try clear c16b0
          try clear c16b1
          try clear p2
          obtain ⟨kq, x46_9, rfl, HA, HJ9, HB⟩ := hcut
          cases kq with
          | zero => exact absurd HA.out (by simp [laws_FnMakSay.j1])
          | succ kj9 =>
            have H := HA.out
            clear HA
            simp only [laws_FnMakSay.j1] at H
            by_cases c21 : x46_9 = true
            · subst c21
              have H1 : (some false) = some r := by rw [if_pos rfl] at H; exact H
              clear H
              have H := H1
              clear H1
              obtain rfl := Option.some.inj H
              go_wp2
              go_ret
              exact ⟨by first | rfl | (simp [errW_none, errW_some] <;> rfl) | (simp [*, errW_none, errW_some] <;> rfl), by repeat (first | (with_reducible first | exact HB.out | apply below_alloc | apply pw_below_drewN | apply below_drew1) | exact HB.out)⟩
            · replace c21 := Bool.eq_false_iff.mpr c21
              subst c21
              have H1 : (if t333.toList = ([] : List UInt8) then (laws_FnMakSay.j2 kj9 t331 t332 t333 t334 false) else ((impl_SecMade.f t333).bind fun bt337 => (if (!(bt337.1 == 5) || (!(bt337.2.1 == t330) || (!(bt337.2.2.1 == 0) || (!(bt337.2.2.2.1.toList == t329.toList) || (!(bt337.2.2.2.2.toList == ([] : List UInt8))))))) = true then (laws_FnMakSay.j2 kj9 t331 t332 t333 t334 true) else ((impl_MakSay.f kj9 t329 (Int.tmod (wrap64 (t330 + 1)) 8)).bind fun t342 => (laws_FnMakSay.j2 kj9 t331 t332 t333 t334 (t342.toList == t333.toList)))))) = some r := by rw [if_neg (show ¬ (false = true) by decide)] at H; exact H
              clear H
              have H := H1
              clear H1
              have HC22 := Aside0.mk H
              clear H
              go_upto_region 9 with (fail)
              go_cut [65] (fun v65 wc => ∃ (kq : Nat) (x65_21 : Bool), v65 = .bool x65_21 ∧ Aside0 (laws_FnMakSay.j2 kq t331 t332 t333 t334 x65_21 = some r) ∧ Aside0 (kq ≤ kj9) ∧ Aside0 (Below w.heap.size w wc))
              case first =>
                have H := HC22.out
                clear HC22
                by_cases c23 : t333.toList = ([] : List UInt8)
                · rw [if_pos c23] at H
                  have c23b0 : (t333.toList == ([] : List UInt8)) = true := beq_iff_eq.mpr c23
                  have c23b1 : (t333.toList != ([] : List UInt8)) = false := bne_eq_false_iff_eq.mpr c23
                  clear c23
                  (first | rw [c23b0] | (simp only [i64_w, i32_w]; rw [c23b0]) | skip)
                  have H' := Aside0.mk H
                  clear H
                  go_wp2
                  go_meet
                  case rel => exact ⟨_, (false), (by first | rfl | (simp; done) | (simp [*]; done)), H', ⟨by have := HJ2.out; have := HJ9.out; first | omega | exact Nat.le_refl _⟩, ⟨by repeat (first | (with_reducible first | exact HB.out | apply below_alloc | apply pw_below_drewN | apply below_drew1) | exact HB.out)⟩⟩
                · rw [if_neg c23] at H
                  have c23b0 : (t333.toList == ([] : List UInt8)) = false := beq_eq_false_iff_ne.mpr c23
                  have c23b1 : (t333.toList != ([] : List UInt8)) = true := bne_iff_ne.mpr c23
                  (first | rw [c23b0] | (simp only [i64_w, i32_w]; rw [c23b0]) | skip)
                  replace H := Option.bind_eq_some_iff.mp H
                  obtain ⟨⟨t337, t338, t339, t340, t341⟩, A240, H⟩ := H
                  replace H : (if (!(t337 == 5) || (!(t338 == t330) || (!(t339 == 0) || (!(t340.toList == t329.toList) || (!(t341.toList == ([] : List UInt8))))))) = true then (laws_FnMakSay.j2 kj9 t331 t332 t333 t334 true) else ((impl_MakSay.f kj9 t329 (Int.tmod (wrap64 (t330 + 1)) 8)).bind fun t342 => (laws_FnMakSay.j2 kj9 t331 t332 t333 t334 (t342.toList == t333.toList)))) = some r := H
                  have A24 := Aside0.mk A240
                  clear A240
                  by_cases c25 : (!(t337 == 5) || (!(t338 == t330) || (!(t339 == 0) || (!(t340.toList == t329.toList) || (!(t341.toList == ([] : List UInt8))))))) = true
                  · rw [if_pos c25] at H
                    have c25b0 : (!(t337 == 5) || (!(t338 == t330) || (!(t339 == 0) || (!(t340.toList == t329.toList) || (!(t341.toList == ([] : List UInt8))))))) = true := c25
                    (try (have c25q := c25; simp only [← Bool.not_and, Bool.not_eq_true'] at c25q; have c25r := Bool.eq_false_iff.1 c25q; simp only [Bool.and_eq_true, beq_iff_eq, ne_eq] at c25r; have c25p := eq_false c25r; clear c25q c25r))
                    (try (have c25s := c25; simp only [Bool.or_eq_true, Bool.not_eq_true', beq_eq_false_iff_ne, ne_eq] at c25s; have c25t := eq_true c25s; clear c25s))
                    clear c25
                    have H' := Aside0.mk H
                    clear H
                    go_wp2_with (first | (go_at_call 28; (with_reducible refine (impl_SecMade.calls t333 t337 t338 t339 t340 t341 _ ?side1 A24.out).mono ?_); (case side1 => exact GlobOk.below HGL.out (by repeat (first | (with_reducible first | exact HB.out | apply below_alloc | apply pw_below_drewN | apply below_drew1) | exact HB.out))); rintro e w26 ⟨rfl, hb⟩; have n0_ := Aside0.mk (below_step (by repeat (first | (with_reducible first | exact HB.out | apply below_alloc | apply pw_below_drewN | apply below_drew1) | exact HB.out)) hb); clear HB; have HB := n0_; clear n0_; (try clear hb); (try clear hb2); (try clear hk); (try clear hi)))
                    go_meet
                    case rel => exact ⟨_, (true), (by first | rfl | (simp; done) | (simp [*]; done)), H', ⟨by have := HJ2.out; have := HJ9.out; first | omega | exact Nat.le_refl _⟩, ⟨by repeat (first | (with_reducible first | exact HB.out | apply below_alloc | apply pw_below_drewN | apply below_drew1) | exact HB.out)⟩⟩
                  · rw [if_neg c25] at H
                    have c25b0 : (!(t337 == 5) || (!(t338 == t330) || (!(t339 == 0) || (!(t340.toList == t329.toList) || (!(t341.toList == ([] : List UInt8))))))) = false := by simpa using c25
                    (try (have c25q := c25; simp only [← Bool.not_and, Bool.not_eq_true', Bool.not_eq_false] at c25q; simp only [Bool.and_eq_true, beq_iff_eq] at c25q; have c25p := eq_true c25q; clear c25q))
                    (try (have c25s := c25; simp only [Bool.or_eq_true, Bool.not_eq_true', beq_eq_false_iff_ne, ne_eq] at c25s; have c25t := eq_false c25s; clear c25s))
                    clear c25
                    replace H := Option.bind_eq_some_iff.mp H
                    obtain ⟨t342, A270, H⟩ := H
                    replace H : (laws_FnMakSay.j2 kj9 t331 t332 t333 t334 (t342.toList == t333.toList)) = some r := H
                    have A27 := Aside0.mk A270
                    clear A270
                    have H' := Aside0.mk H
                    clear H
                    go_wp2_with (first | (go_at_call 28; (with_reducible refine (impl_SecMade.calls t333 t337 t338 t339 t340 t341 _ ?side1 A24.out).mono ?_); (case side1 => exact GlobOk.below HGL.out (by repeat (first | (with_reducible first | exact HB.out | apply below_alloc | apply pw_below_drewN | apply below_drew1) | exact HB.out))); rintro e w28 ⟨rfl, hb⟩; have n0_ := Aside0.mk (below_step (by repeat (first | (with_reducible first | exact HB.out | apply below_alloc | apply pw_below_drewN | apply below_drew1) | exact HB.out)) hb); clear HB; have HB := n0_; clear n0_; (try clear hb); (try clear hb2); (try clear hk); (try clear hi)) | (go_at_call 46; (with_reducible refine (impl_MakSay.calls kj9 t329 (Int.tmod (wrap64 (t330 + 1)) 8) t342 _ ?side1 A27.out).mono ?_); (case side1 => exact GlobOk.below HGL.out (by repeat (first | (with_reducible first | exact HB.out | apply below_alloc | apply pw_below_drewN | apply below_drew1) | exact HB.out))); rintro e w29 ⟨rfl, hb⟩; have n0_ := Aside0.mk (below_step (by repeat (first | (with_reducible first | exact HB.out | apply below_alloc | apply pw_below_drewN | apply below_drew1) | exact HB.out)) hb); clear HB; have HB := n0_; clear n0_; (try clear hb); (try clear hb2); (try clear hk); (try clear hi)))
                    go_meet
                    case rel => exact ⟨_, ((t342.toList == t333.toList)), (by first | rfl | (simp; done) | (simp [*]; done)), H', ⟨by have := HJ2.out; have := HJ9.out; first | omega | exact Nat.le_refl _⟩, ⟨by repeat (first | (with_reducible first | exact HB.out | apply below_alloc | apply pw_below_drewN | apply below_drew1) | exact HB.out)⟩⟩
              case rest =>
                clear HC22
                try clear c1
                try clear c2
                try clear p2
                try clear c4
                try clear c4b0
                try clear c4b1
                try clear c5
                try clear p6
                try clear c9
                try clear c16
                try clear c16b0
                try clear c16b1
                try clear c21
                try clear c23
                try clear c23b0
                try clear c23b1
                try clear c25
                try clear c25b0
                try clear p2
                obtain ⟨kq, x65_21, rfl, HA, HJ21, HB⟩ := hcut
                cases kq with
                | zero => exact absurd HA.out (by simp [laws_FnMakSay.j2])
                | succ kj21 =>
                  have H := HA.out
                  clear HA
                  simp only [laws_FnMakSay.j2] at H
                  by_cases c30 : x65_21 = true
                  · subst c30
                    have H1 : (some false) = some r := by rw [if_pos rfl] at H; exact H
                    clear H
                    have H := H1
                    clear H1
                    obtain rfl := Option.some.inj H
                    go_wp2
                    go_ret
                    exact ⟨by first | rfl | (simp [errW_none, errW_some] <;> rfl) | (simp [*, errW_none, errW_some] <;> rfl), by repeat (first | (with_reducible first | exact HB.out | apply below_alloc | apply pw_below_drewN | apply below_drew1) | exact HB.out)⟩
                  · replace c30 := Bool.eq_false_iff.mpr c30
                    subst c30
                    have H1 : (if t334.toList = ([] : List UInt8) then (laws_FnMakSay.j3 kj21 t333 t334 false) else ((impl_SecMade.f t334).bind fun bt343 => (if (!(bt343.1 == 6) || (!(bt343.2.1 == 0) || (!(bt343.2.2.1 == t332) || (!(bt343.2.2.2.1.toList == t331.toList) || (!(bt343.2.2.2.2.toList == ([] : List UInt8))))))) = true then (laws_FnMakSay.j3 kj21 t333 t334 true) else ((impl_MakRoom.f kj21 t331 (wrap64 (1 + (Int.tmod t332 9)))).bind fun t348 => (laws_FnMakSay.j3 kj21 t333 t334 (t348.toList == t334.toList)))))) = some r := by rw [if_neg (show ¬ (false = true) by decide)] at H; exact H
                    clear H
                    have H := H1
                    clear H1
                    have HC31 := Aside0.mk H
                    clear H
                    go_upto_region 11 with (fail)
                    go_cut [84] (fun v84 wc => ∃ (kq : Nat) (x84_30 : Bool), v84 = .bool x84_30 ∧ Aside0 (laws_FnMakSay.j3 kq t333 t334 x84_30 = some r) ∧ Aside0 (kq ≤ kj21) ∧ Aside0 (Below w.heap.size w wc))
                    case first =>
                      have H := HC31.out
                      clear HC31
                      by_cases c32 : t334.toList = ([] : List UInt8)
                      · rw [if_pos c32] at H
                        have c32b0 : (t334.toList == ([] : List UInt8)) = true := beq_iff_eq.mpr c32
                        have c32b1 : (t334.toList != ([] : List UInt8)) = false := bne_eq_false_iff_eq.mpr c32
                        clear c32
                        (first | rw [c32b0] | (simp only [i64_w, i32_w]; rw [c32b0]) | skip)
                        have H' := Aside0.mk H
                        clear H
                        go_wp2
                        go_meet
                        case rel => exact ⟨_, (false), (by first | rfl | (simp; done) | (simp [*]; done)), H', ⟨by have := HJ2.out; have := HJ9.out; have := HJ21.out; first | omega | exact Nat.le_refl _⟩, ⟨by repeat (first | (with_reducible first | exact HB.out | apply below_alloc | apply pw_below_drewN | apply below_drew1) | exact HB.out)⟩⟩
                      · rw [if_neg c32] at H
                        have c32b0 : (t334.toList == ([] : List UInt8)) = false := beq_eq_false_iff_ne.mpr c32
                        have c32b1 : (t334.toList != ([] : List UInt8)) = true := bne_iff_ne.mpr c32
                        (first | rw [c32b0] | (simp only [i64_w, i32_w]; rw [c32b0]) | skip)
                        replace H := Option.bind_eq_some_iff.mp H
                        obtain ⟨⟨t343, t344, t345, t346, t347⟩, A330, H⟩ := H
                        replace H : (if (!(t343 == 6) || (!(t344 == 0) || (!(t345 == t332) || (!(t346.toList == t331.toList) || (!(t347.toList == ([] : List UInt8))))))) = true then (laws_FnMakSay.j3 kj21 t333 t334 true) else ((impl_MakRoom.f kj21 t331 (wrap64 (1 + (Int.tmod t332 9)))).bind fun t348 => (laws_FnMakSay.j3 kj21 t333 t334 (t348.toList == t334.toList)))) = some r := H
                        have A33 := Aside0.mk A330
                        clear A330
                        by_cases c34 : (!(t343 == 6) || (!(t344 == 0) || (!(t345 == t332) || (!(t346.toList == t331.toList) || (!(t347.toList == ([] : List UInt8))))))) = true
                        · rw [if_pos c34] at H
                          have c34b0 : (!(t343 == 6) || (!(t344 == 0) || (!(t345 == t332) || (!(t346.toList == t331.toList) || (!(t347.toList == ([] : List UInt8))))))) = true := c34
                          (try (have c34q := c34; simp only [← Bool.not_and, Bool.not_eq_true'] at c34q; have c34r := Bool.eq_false_iff.1 c34q; simp only [Bool.and_eq_true, beq_iff_eq, ne_eq] at c34r; have c34p := eq_false c34r; clear c34q c34r))
                          (try (have c34s := c34; simp only [Bool.or_eq_true, Bool.not_eq_true', beq_eq_false_iff_ne, ne_eq] at c34s; have c34t := eq_true c34s; clear c34s))
                          clear c34
                          have H' := Aside0.mk H
                          clear H
                          go_wp2_with (first | (go_at_call 28; (with_reducible refine (impl_SecMade.calls t334 t343 t344 t345 t346 t347 _ ?side1 A33.out).mono ?_); (case side1 => exact GlobOk.below HGL.out (by repeat (first | (with_reducible first | exact HB.out | apply below_alloc | apply pw_below_drewN | apply below_drew1) | exact HB.out))); rintro e w35 ⟨rfl, hb⟩; have n0_ := Aside0.mk (below_step (by repeat (first | (with_reducible first | exact HB.out | apply below_alloc | apply pw_below_drewN | apply below_drew1) | exact HB.out)) hb); clear HB; have HB := n0_; clear n0_; (try clear hb); (try clear hb2); (try clear hk); (try clear hi)))
                          go_meet
                          case rel => exact ⟨_, (true), (by first | rfl | (simp; done) | (simp [*]; done)), H', ⟨by have := HJ2.out; have := HJ9.out; have := HJ21.out; first | omega | exact Nat.le_refl _⟩, ⟨by repeat (first | (with_reducible first | exact HB.out | apply below_alloc | apply pw_below_drewN | apply below_drew1) | exact HB.out)⟩⟩
                        · rw [if_neg c34] at H
                          have c34b0 : (!(t343 == 6) || (!(t344 == 0) || (!(t345 == t332) || (!(t346.toList == t331.toList) || (!(t347.toList == ([] : List UInt8))))))) = false := by simpa using c34
                          (try (have c34q := c34; simp only [← Bool.not_and, Bool.not_eq_true', Bool.not_eq_false] at c34q; simp only [Bool.and_eq_true, beq_iff_eq] at c34q; have c34p := eq_true c34q; clear c34q))
                          (try (have c34s := c34; simp only [Bool.or_eq_true, Bool.not_eq_true', beq_eq_false_iff_ne, ne_eq] at c34s; have c34t := eq_false c34s; clear c34s))
                          clear c34
                          replace H := Option.bind_eq_some_iff.mp H
                          obtain ⟨t348, A360, H⟩ := H
                          replace H : (laws_FnMakSay.j3 kj21 t333 t334 (t348.toList == t334.toList)) = some r := H
                          have A36 := Aside0.mk A360
                          clear A360
                          have H' := Aside0.mk H
                          clear H
                          go_wp2_with (first | (go_at_call 28; (with_reducible refine (impl_SecMade.calls t334 t343 t344 t345 t346 t347 _ ?side1 A33.out).mono ?_); (case side1 => exact GlobOk.below HGL.out (by repeat (first | (with_reducible first | exact HB.out | apply below_alloc | apply pw_below_drewN | apply below_drew1) | exact HB.out))); rintro e w37 ⟨rfl, hb⟩; have n0_ := Aside0.mk (below_step (by repeat (first | (with_reducible first | exact HB.out | apply below_alloc | apply pw_below_drewN | apply below_drew1) | exact HB.out)) hb); clear HB; have HB := n0_; clear n0_; (try clear hb); (try clear hb2); (try clear hk); (try clear hi)) | (go_at_call 47; (with_reducible refine (impl_MakRoom.calls kj21 t331 (wrap64 (1 + (Int.tmod t332 9))) t348 _ ?side1 A36.out).mono ?_); (case side1 => exact GlobOk.below HGL.out (by repeat (first | (with_reducible first | exact HB.out | apply below_alloc | apply pw_below_drewN | apply below_drew1) | exact HB.out))); rintro e w38 ⟨rfl, hb⟩; have n0_ := Aside0.mk (below_step (by repeat (first | (with_reducible first | exact HB.out | apply below_alloc | apply pw_below_drewN | apply below_drew1) | exact HB.out)) hb); clear HB; have HB := n0_; clear n0_; (try clear hb); (try clear hb2); (try clear hk); (try clear hi)))
                          go_meet
                          case rel => exact ⟨_, ((t348.toList == t334.toList)), (by first | rfl | (simp; done) | (simp [*]; done)), H', ⟨by have := HJ2.out; have := HJ9.out; have := HJ21.out; first | omega | exact Nat.le_refl _⟩, ⟨by repeat (first | (with_reducible first | exact HB.out | apply below_alloc | apply pw_below_drewN | apply below_drew1) | exact HB.out)⟩⟩
                    case rest =>
                      clear HC31
                      try clear c1
                      try clear c2
                      try clear p2
                      try clear c3
                      try clear c4
                      try clear c4b0
                      try clear c4b1
                      try clear c5
                      try clear p6
                      try clear c9
                      try clear c16
                      try clear c16b0
                      try clear c16b1
                      try clear c21
                      try clear c23
                      try clear c23b0
                      try clear c23b1
                      try clear c25
                      try clear c25b0
                      try clear c30
                      try clear c32
                      try clear c32b0
                      try clear c32b1
                      try clear c34
                      try clear c34b0
                      try clear p2
                      try clear p6
                      obtain ⟨kq, x84_30, rfl, HA, HJ30, HB⟩ := hcut
                      cases kq with
                      | zero => exact absurd HA.out (by simp [laws_FnMakSay.j3])
                      | succ kj30 =>
                        have H := HA.out
                        clear HA
                        simp only [laws_FnMakSay.j3] at H
                        by_cases c39 : x84_30 = true
                        · subst c39
                          have H1 : (some false) = some r := by rw [if_pos rfl] at H; exact H
                          clear H
                          have H := H1
                          clear H1
                          obtain rfl := Option.some.inj H
                          go_wp2
                          go_ret
                          exact ⟨by first | rfl | (simp [errW_none, errW_some] <;> rfl) | (simp [*, errW_none, errW_some] <;> rfl), by repeat (first | (with_reducible first | exact HB.out | apply below_alloc | apply pw_below_drewN | apply below_drew1) | exact HB.out)⟩
                        · replace c39 := Bool.eq_false_iff.mpr c39
                          subst c39
                          have H1 : (if t333.toList = t334.toList then (if t333.toList = ([] : List UInt8) then ((laws_keOk.f).bind fun t349 => (some t349)) else (some false)) else (some true)) = some r := by rw [if_neg (show ¬ (false = true) by decide)] at H; exact H
                          clear H
                          have H := H1
                          clear H1
                          by_cases c40 : t333.toList = t334.toList
                          · rw [if_pos c40] at H
                            have c40b0 : (t333.toList == t334.toList) = true := beq_iff_eq.mpr c40
                            have c40b1 : (t333.toList != t334.toList) = false := bne_eq_false_iff_eq.mpr c40
                            clear c40
                            by_cases c41 : t333.toList = ([] : List UInt8)
                            · rw [if_pos c41] at H
                              have c41b0 : (t333.toList == ([] : List UInt8)) = true := beq_iff_eq.mpr c41
                              have c41b1 : (t333.toList != ([] : List UInt8)) = false := bne_eq_false_iff_eq.mpr c41
                              clear c41
                              replace H := Option.bind_eq_some_iff.mp H
                              obtain ⟨t349, A420, H⟩ := H
                              replace H : (some t349) = some r := H
                              have A42 := Aside0.mk A420
                              clear A420
                              obtain rfl := Option.some.inj H
                              go_wp2_with (first | (go_at_call 18; (with_reducible refine (laws_keOk.calls  t349 _ ?side1 A42.out).mono ?_); (case side1 => exact GlobOk.below HGL.out (by repeat (first | (with_reducible first | exact HB.out | apply below_alloc | apply pw_below_drewN | apply below_drew1) | exact HB.out))); rintro e w43 ⟨rfl, hb⟩; have n0_ := Aside0.mk (below_step (by repeat (first | (with_reducible first | exact HB.out | apply below_alloc | apply pw_below_drewN | apply below_drew1) | exact HB.out)) hb); clear HB; have HB := n0_; clear n0_; (try clear hb); (try clear hb2); (try clear hk); (try clear hi)))
                              go_ret
                              exact ⟨by first | rfl | (simp [errW_none, errW_some] <;> rfl) | (simp [*, errW_none, errW_some] <;> rfl), by repeat (first | (with_reducible first | exact HB.out | apply below_alloc | apply pw_below_drewN | apply below_drew1) | exact HB.out)⟩
                            · rw [if_neg c41] at H
                              have c41b0 : (t333.toList == ([] : List UInt8)) = false := beq_eq_false_iff_ne.mpr c41
                              have c41b1 : (t333.toList != ([] : List UInt8)) = true := bne_iff_ne.mpr c41
                              obtain rfl := Option.some.inj H
                              go_wp2
                              go_ret
                              exact ⟨by first | rfl | (simp [errW_none, errW_some] <;> rfl) | (simp [*, errW_none, errW_some] <;> rfl), by repeat (first | (with_reducible first | exact HB.out | apply below_alloc | apply pw_below_drewN | apply below_drew1) | exact HB.out)⟩
                          · rw [if_neg c40] at H
                            have c40b0 : (t333.toList == t334.toList) = false := beq_eq_false_iff_ne.mpr c40
                            have c40b1 : (t333.toList != t334.toList) = true := bne_iff_ne.mpr c40
                            obtain rfl := Option.some.inj H
                            go_wp2
                            go_ret
                            exact ⟨by first | rfl | (simp [errW_none, errW_some] <;> rfl) | (simp [*, errW_none, errW_some] <;> rfl), by repeat (first | (with_reducible first | exact HB.out | apply below_alloc | apply pw_below_drewN | apply below_drew1) | exact HB.out)⟩

/-- THE ONE PURE STATEMENT of laws_FnMakSay: yours. -/
def laws_FnMakSay.Pure : Prop := ∀ (l0 : List Int) (l1 : List Int), l0.length ≤ maxLen → l0.length * 1 ≤ 140737488351232 → (∀ x ∈ l0, (Lit.int .u8 x).wf = true) → l1.length ≤ maxLen → l1.length * 1 ≤ 140737488351232 → (∀ x ∈ l1, (Lit.int .u8 x).wf = true) → ∃ k, laws_FnMakSay.f k l0 l1 = some true
theorem laws_FnMakSay.walk (P : laws_FnMakSay.Pure) (a0 : Option Addr) (len0 cap0 : Nat) (z0 : List Int) (a1 : Option Addr) (len1 cap1 : Nat) (z1 : List Int) (w : World) (w0 : (a0 = none ∧ len0 = 0 ∧ cap0 = 0 ∧ z0 = []) ∨ ∃ x, a0 = some x ∧ len0 ≤ cap0 ∧ cap0 ≤ maxLen ∧ z0.length = cap0 ∧ (∀ i, i < z0.length → w.cell? (x.add i) = some (.int .u8 (z0.getD i 0))) ∧ ∀ n ∈ z0, (Lit.int .u8 n).wf = true) (y0 : len0 * 1 ≤ 140737488351232) (w1 : (a1 = none ∧ len1 = 0 ∧ cap1 = 0 ∧ z1 = []) ∨ ∃ x, a1 = some x ∧ len1 ≤ cap1 ∧ cap1 ≤ maxLen ∧ z1.length = cap1 ∧ (∀ i, i < z1.length → w.cell? (x.add i) = some (.int .u8 (z1.getD i 0))) ∧ ∀ n ∈ z1, (Lit.int .u8 n).wf = true) (y1 : len1 * 1 ≤ 140737488351232) (hG : GlobOk w) :
    Calls Tryd.prog 9 #[.slice a0 len0 cap0, .slice a1 len1 cap1] w fun e w' => e = .returned (.bool true) ∧ Below w.heap.size w w' := by
  obtain ⟨l0, rfl, hr0, hm0, hw0, hc0⟩ := ReadsInt.ofRowC w0
  obtain ⟨l1, rfl, hr1, hm1, hw1, hc1⟩ := ReadsInt.ofRowC w1
  obtain ⟨k, h⟩ := P l0 l1 hm0 y0 hw0 hm1 y1 hw1
  refine (laws_FnMakSay.calls k _ _ l0 _ _ l1 true w (Kd.C_of_reads (d := (0 : Int)) (h1 := fun _ => rfl) hr0) hc0 (Kd.C_of_reads (d := (0 : Int)) (h1 := fun _ => rfl) hr1) hc1 hG h).mono ?_
  rintro e w' ⟨rfl, hd⟩
  exact ⟨rfl, hd⟩

end Go.Proofs.YtdcaipomjimplaaDoor.Wa
