-- Written by this session's own program (wip/tools/pp.py) out of the translation, over functions given by hand. Lean checks it.
import Derived.Test.YtfiiiaemojdliaaDoorWalkx0
import Derived.Test.YtfiiiaemojdliaaDoorWalkx2
import Derived.Test.YtfiiiaemojdliaaDoorWalkx3
namespace Go.Proofs.YtfiiiaemojdliaaDoor.Walk
open Go.RowKit Go.Proofs.YtfiiiaemojdliaaDoorW.PrintWords Go.Proofs.YtfiiiaemojdliaaDoorW.PrintLast Go.Proofs.YtfiiiaemojdliaaDoorW.PrintMore
attribute [local go_sem] max2_int min2_int max_two min_two max_three min_three max_four min_four   -- for this text's walks alone
set_option linter.unusedVariables false
set_option linter.unusedSimpArgs false

/-! ### laws_FnFraText: function 5 -/
mutual
def laws_FnFraText.l0 : Nat → ByteArray → Bool → Int → Option (Bool)
  | 0, _, _, _ => none
  | k + 1, x3, x4, x5 => if x4 = true then (laws_FnFraText.j1 k x3 x4 x5 (decide (x5 < (x3.size : Int)))) else (laws_FnFraText.j1 k x3 x4 x5 false)
def laws_FnFraText.j1 : Nat → ByteArray → Bool → Int → Bool → Option (Bool)
  | 0, _, _, _, _ => none
  | k + 1, x3, x4, x5, x23 => if x23 = true then (if 0 ≤ x5 then (if x5 ≤ (x3.size : Int) then ((impl_FraText.f k (x3.extract 0 (x5 : Int).toNat)).bind fun t154 => (if t154 = true then (laws_FnFraText.l0 k x3 x4 (wrap64 (x5 + 1))) else (some false))) else (none)) else (none)) else (if x4 = true then ((laws_keOk.f).bind fun t155 => (some t155)) else (if (x3.size : Int) > 0 then ((laws_keOk.f).bind fun t156 => (some t156)) else (some false)))
end
def laws_FnFraText.f (k : Nat) (l0 : List Int) : Option (Bool) := if (l0.length : Int) > 1048576 then (some true) else ((spec_DrawFraText.f k l0).bind fun t151 => ((impl_FraText.f k t151).bind fun t152 => ((spec_FraText.f k t151).bind fun t153 => (if (t152 != t153) = true then (some false) else (laws_FnFraText.l0 k t151 t152 0)))))
theorem laws_FnFraText.mono_l : ∀ k, (∀ y0 y1 y2, LeO (laws_FnFraText.l0 k y0 y1 y2) (laws_FnFraText.l0 (k + 1) y0 y1 y2)) ∧ (∀ y0 y1 y2 y3, LeO (laws_FnFraText.j1 k y0 y1 y2 y3) (laws_FnFraText.j1 (k + 1) y0 y1 y2 y3))
  | 0 => ⟨fun _ _ _ r h => by simp [laws_FnFraText.l0] at h, fun _ _ _ _ r h => by simp [laws_FnFraText.j1] at h⟩
  | k + 1 => by
    obtain ⟨ih0, ih1⟩ := laws_FnFraText.mono_l k
    refine ⟨?_, ?_⟩
    · intro y0 y1 y2
      unfold laws_FnFraText.l0
      repeat' first
      | (with_reducible exact ih0 _ _ _)
      | (with_reducible exact ih1 _ _ _ _)
      | (with_reducible exact impl_FraText.mono _ _)
      | (with_reducible exact spec_DrawFraText.mono _ _)
      | (with_reducible exact spec_FraText.mono _ _)
      | (with_reducible exact LeO.refl _)
      | (with_reducible exact LeO.none _)
      | (with_reducible refine LeO.ite ?_ ?_)
      | (with_reducible refine LeO.bind ?_ (fun _ => ?_))
      | exact ih0 _ _ _
      | exact ih1 _ _ _ _
      | exact impl_FraText.mono _ _
      | exact spec_DrawFraText.mono _ _
      | exact spec_FraText.mono _ _
      | exact LeO.none _
      | refine LeO.ite ?_ ?_
      | refine LeO.bind ?_ (fun _ => ?_)
    · intro y0 y1 y2 y3
      unfold laws_FnFraText.j1
      repeat' first
      | (with_reducible exact ih0 _ _ _)
      | (with_reducible exact ih1 _ _ _ _)
      | (with_reducible exact impl_FraText.mono _ _)
      | (with_reducible exact spec_DrawFraText.mono _ _)
      | (with_reducible exact spec_FraText.mono _ _)
      | (with_reducible exact LeO.refl _)
      | (with_reducible exact LeO.none _)
      | (with_reducible refine LeO.ite ?_ ?_)
      | (with_reducible refine LeO.bind ?_ (fun _ => ?_))
      | exact ih0 _ _ _
      | exact ih1 _ _ _ _
      | exact impl_FraText.mono _ _
      | exact spec_DrawFraText.mono _ _
      | exact spec_FraText.mono _ _
      | exact LeO.none _
      | refine LeO.ite ?_ ?_
      | refine LeO.bind ?_ (fun _ => ?_)
theorem laws_FnFraText.mono : ∀ a0 k, LeO (laws_FnFraText.f k a0) (laws_FnFraText.f (k + 1) a0) := by
  intro a0 k
  obtain ⟨ih0, ih1⟩ := laws_FnFraText.mono_l k
  unfold laws_FnFraText.f
  repeat' first
      | (with_reducible exact ih0 _ _ _)
      | (with_reducible exact ih1 _ _ _ _)
      | (with_reducible exact impl_FraText.mono _ _)
      | (with_reducible exact spec_DrawFraText.mono _ _)
      | (with_reducible exact spec_FraText.mono _ _)
      | (with_reducible exact LeO.refl _)
      | (with_reducible exact LeO.none _)
      | (with_reducible refine LeO.ite ?_ ?_)
      | (with_reducible refine LeO.bind ?_ (fun _ => ?_))
      | exact ih0 _ _ _
      | exact ih1 _ _ _ _
      | exact impl_FraText.mono _ _
      | exact spec_DrawFraText.mono _ _
      | exact spec_FraText.mono _ _
      | exact LeO.none _
      | refine LeO.ite ?_ ?_
      | refine LeO.bind ?_ (fun _ => ?_)
set_option maxHeartbeats 8000000 in
set_option maxRecDepth 100000 in
theorem laws_FnFraText.calls (k : Nat) (A0 : Option Addr) (c0 : Nat) (l0 : List Int) (r : Bool) (w : World) (hr0 : Kd.C (Kd.int .u8) w A0 l0.length l0) (hc0 : l0.length ≤ c0) (hG : GlobOk w) (h : laws_FnFraText.f k l0 = some r) :
    Calls Tryd.prog 5 #[.slice A0 l0.length c0] w fun e w' => e = .returned (.bool r) ∧ Below w.heap.size w w' := by
  have HR0 := Aside0.mk hr0
  have HC0 := Aside0.mk hc0
  clear hr0 hc0
  have HB := Aside0.mk (Below.refl w.heap.size w)
  have HGL := Aside0.mk hG
  clear hG
  have H : (if (l0.length : Int) > 1048576 then (some true) else ((spec_DrawFraText.f k l0).bind fun t151 => ((impl_FraText.f k t151).bind fun t152 => ((spec_FraText.f k t151).bind fun t153 => (if (t152 != t153) = true then (some false) else (laws_FnFraText.l0 k t151 t152 0)))))) = some r := h
  clear h
  by_cases c2 : (l0.length : Int) > 1048576
  · rw [if_pos c2] at H
    have c2b0 : decide (1048576 < (l0.length : Int)) = true := decide_eq_true c2
    have c2b1 : decide (1048576 < l0.length) = true := decide_eq_true (by omega)
    clear c2
    obtain rfl := Option.some.inj H
    go_enter Tryd.func5, Tryd.ntmps5
    go_wp2
    go_ret
    exact ⟨by first | rfl | (simp [errW_none, errW_some] <;> rfl) | (simp [*, errW_none, errW_some] <;> rfl), by repeat (first | (with_reducible first | exact HB.out | apply below_alloc | apply pw_below_drewN | apply below_drew1) | exact HB.out)⟩
  · rw [if_neg c2] at H
    have c2b0 : decide (1048576 < (l0.length : Int)) = false := decide_eq_false c2
    have c2b1 : decide (1048576 < l0.length) = false := decide_eq_false (by omega)
    clear c2
    replace H := Option.bind_eq_some_iff.mp H
    obtain ⟨t151, A30, H⟩ := H
    replace H : ((impl_FraText.f k t151).bind fun t152 => ((spec_FraText.f k t151).bind fun t153 => (if (t152 != t153) = true then (some false) else (laws_FnFraText.l0 k t151 t152 0)))) = some r := H
    have A3 := Aside0.mk A30
    clear A30
    replace H := Option.bind_eq_some_iff.mp H
    obtain ⟨t152, A40, H⟩ := H
    replace H : ((spec_FraText.f k t151).bind fun t153 => (if (t152 != t153) = true then (some false) else (laws_FnFraText.l0 k t151 t152 0))) = some r := H
    have A4 := Aside0.mk A40
    clear A40
    replace H := Option.bind_eq_some_iff.mp H
    obtain ⟨t153, A50, H⟩ := H
    replace H : (if (t152 != t153) = true then (some false) else (laws_FnFraText.l0 k t151 t152 0)) = some r := H
    have A5 := Aside0.mk A50
    clear A50
    by_cases c6 : (t152 != t153) = true
    · rw [if_pos c6] at H
      have c6b0 : (t152 != t153) = true := c6
      (try (have c6b1 : decide (t152 = t153) = false := by simpa using c6))
      (try (have c6b2 : (t152 == t153) = false := by simpa using c6))
      (try (have c6b3 : ¬ (t152 = t153) := by simpa using c6))
      clear c6
      obtain rfl := Option.some.inj H
      go_enter Tryd.func5, Tryd.ntmps5
      go_wp2_with (first | ((with_reducible refine gate_callee (f := 13) rfl ?_); refine goesL_ (some 10) rfl rfl Tryd.func13 (by kernel_rfl) rfl #[.slice A0 l0.length c0] rfl (by (try simp only [List.map_toArray, List.map_cons, List.map_nil]); first | done | rfl | (simp only [List.length_drop, List.length_take]; rfl)) ?_; (with_reducible refine (spec_DrawFraText.calls k _ _ l0 t151 _ ?side1 ?side2 A3.out).mono ?_); (case side1 => repeat (first | exact HR0.out | (with_reducible refine Kd.C_alloc ?_ _) | (with_reducible refine Kd.C_drewN ?_ _) | (with_reducible refine Kd.C_drew ?_))); (case side2 => exact HC0.out); rintro e w7 ⟨rfl, hb⟩; refine ⟨_, rfl, ?_⟩; have n0_ := Aside0.mk (below_step (by repeat (first | (with_reducible first | exact HB.out | apply below_alloc | apply pw_below_drewN | apply below_drew1) | exact HB.out)) hb); clear HB; have HB := n0_; clear n0_; (try clear hb); (try clear hb2); (try clear hk); (try clear hi)) | ((with_reducible refine gate_callee (f := 14) rfl ?_); refine goesL_ (some 12) rfl rfl Tryd.func14 (by kernel_rfl) rfl #[.string t151] rfl (by (try simp only [List.map_toArray, List.map_cons, List.map_nil]); first | done | rfl | (simp only [List.length_drop, List.length_take]; rfl)) ?_; (with_reducible refine (impl_FraText.calls k t151 t152 _ A4.out).mono ?_); rintro e w' ⟨rfl, ⟨nd, rfl⟩⟩; refine ⟨_, rfl, ?_⟩) | ((with_reducible refine gate_callee (f := 15) rfl ?_); refine goesL_ (some 15) rfl rfl Tryd.func15 (by kernel_rfl) rfl #[.string t151] rfl (by (try simp only [List.map_toArray, List.map_cons, List.map_nil]); first | done | rfl | (simp only [List.length_drop, List.length_take]; rfl)) ?_; (with_reducible refine (spec_FraText.calls k t151 t153 _ A5.out).mono ?_); rintro e w' ⟨rfl, ⟨nd, rfl⟩⟩; refine ⟨_, rfl, ?_⟩))
      go_ret
      exact ⟨by first | rfl | (simp [errW_none, errW_some] <;> rfl) | (simp [*, errW_none, errW_some] <;> rfl), by repeat (first | (with_reducible first | exact HB.out | apply below_alloc | apply pw_below_drewN | apply below_drew1) | exact HB.out)⟩
    · rw [if_neg c6] at H
      have c6b0 : (t152 != t153) = false := by simpa using c6
      (try (have c6b1 : decide (t152 = t153) = true := by simpa using c6))
      (try (have c6b2 : (t152 == t153) = true := by simpa using c6))
      clear c6
      have H' := Aside0.mk H
      clear H
      go_enter Tryd.func5, Tryd.ntmps5
      go_wp2_with (first | ((with_reducible refine gate_callee (f := 13) rfl ?_); refine goesL_ (some 10) rfl rfl Tryd.func13 (by kernel_rfl) rfl #[.slice A0 l0.length c0] rfl (by (try simp only [List.map_toArray, List.map_cons, List.map_nil]); first | done | rfl | (simp only [List.length_drop, List.length_take]; rfl)) ?_; (with_reducible refine (spec_DrawFraText.calls k _ _ l0 t151 _ ?side1 ?side2 A3.out).mono ?_); (case side1 => repeat (first | exact HR0.out | (with_reducible refine Kd.C_alloc ?_ _) | (with_reducible refine Kd.C_drewN ?_ _) | (with_reducible refine Kd.C_drew ?_))); (case side2 => exact HC0.out); rintro e w8 ⟨rfl, hb⟩; refine ⟨_, rfl, ?_⟩; have n0_ := Aside0.mk (below_step (by repeat (first | (with_reducible first | exact HB.out | apply below_alloc | apply pw_below_drewN | apply below_drew1) | exact HB.out)) hb); clear HB; have HB := n0_; clear n0_; (try clear hb); (try clear hb2); (try clear hk); (try clear hi)) | ((with_reducible refine gate_callee (f := 14) rfl ?_); refine goesL_ (some 12) rfl rfl Tryd.func14 (by kernel_rfl) rfl #[.string t151] rfl (by (try simp only [List.map_toArray, List.map_cons, List.map_nil]); first | done | rfl | (simp only [List.length_drop, List.length_take]; rfl)) ?_; (with_reducible refine (impl_FraText.calls k t151 t152 _ A4.out).mono ?_); rintro e w' ⟨rfl, ⟨nd, rfl⟩⟩; refine ⟨_, rfl, ?_⟩) | ((with_reducible refine gate_callee (f := 15) rfl ?_); refine goesL_ (some 15) rfl rfl Tryd.func15 (by kernel_rfl) rfl #[.string t151] rfl (by (try simp only [List.map_toArray, List.map_cons, List.map_nil]); first | done | rfl | (simp only [List.length_drop, List.length_take]; rfl)) ?_; (with_reducible refine (spec_FraText.calls k t151 t153 _ A5.out).mono ?_); rintro e w' ⟨rfl, ⟨nd, rfl⟩⟩; refine ⟨_, rfl, ?_⟩))
      go_loopg [5] k (fun kq v5 w' => ∃ (x5_1 : Int), v5 = .int .i64 x5_1 ∧ Aside0 (laws_FnFraText.l0 kq t151 t152 x5_1 = some r) ∧ Aside0 (kq ≤ k) ∧ Aside0 (Below w.heap.size w w'))
      case atStart => exact ⟨(0), (by first | rfl | (simp; done) | (simp [*]; done)), H', ⟨Nat.le_refl _⟩, ⟨by repeat (first | (with_reducible first | exact HB.out | apply below_alloc | apply pw_below_drewN | apply below_drew1) | exact HB.out)⟩⟩
      case round =>
        clear H'
        try clear c1
        try clear c2
        try clear c2b0
        try clear c2b1
        try clear p2
        try clear c5
        try clear c6
        try clear c6b0
        try clear c6b1
        try clear c6b2
        obtain ⟨x5_1, rfl, HA, HK1, HB⟩ := hrel
        cases gk with
        | zero => exact absurd HA.out (by simp [laws_FnFraText.l0])
        | succ k1 =>
          have H := HA.out
          clear HA
          simp only [laws_FnFraText.l0] at H
          have HC9 := Aside0.mk H
          clear H
          go_upto_region 8 with (fail)
          go_cut [23] (fun v23 wc => ∃ (kq : Nat) (x23_8 : Bool), v23 = .bool x23_8 ∧ Aside0 (laws_FnFraText.j1 kq t151 t152 x5_1 x23_8 = some r) ∧ Aside0 (kq ≤ k1) ∧ Aside0 (Below w.heap.size w wc))
          case first =>
            have H := HC9.out
            clear HC9
            by_cases c10 : t152 = true
            · subst c10
              have H1 : (laws_FnFraText.j1 k1 t151 true x5_1 (decide (x5_1 < (t151.size : Int)))) = some r := by rw [if_pos rfl] at H; exact H
              clear H
              have H := H1
              clear H1
              have H' := Aside0.mk H
              clear H
              go_wp2
              go_meet
              case rel => exact ⟨_, (decide (x5_1 < (t151.size : Int))), (by first | rfl | (simp; done) | (simp [*]; done)), H', ⟨by have := HK1.out; first | omega | exact Nat.le_refl _⟩, ⟨by repeat (first | (with_reducible first | exact HB.out | apply below_alloc | apply pw_below_drewN | apply below_drew1) | exact HB.out)⟩⟩
            · replace c10 := Bool.eq_false_iff.mpr c10
              subst c10
              have H1 : (laws_FnFraText.j1 k1 t151 false x5_1 false) = some r := by rw [if_neg (show ¬ (false = true) by decide)] at H; exact H
              clear H
              have H := H1
              clear H1
              have H' := Aside0.mk H
              clear H
              go_wp2
              go_meet
              case rel => exact ⟨_, (false), (by first | rfl | (simp; done) | (simp [*]; done)), H', ⟨by have := HK1.out; first | omega | exact Nat.le_refl _⟩, ⟨by repeat (first | (with_reducible first | exact HB.out | apply below_alloc | apply pw_below_drewN | apply below_drew1) | exact HB.out)⟩⟩
          case rest =>
            clear HC9
            try clear c1
            try clear c2
            try clear c2b0
            try clear c2b1
            try clear p2
            try clear c5
            try clear c6
            try clear c6b0
            try clear c6b1
            try clear c6b2
            try clear c10
            try clear p2
            obtain ⟨kq, x23_8, rfl, HA, HJ8, HB⟩ := hcut
            cases kq with
            | zero => exact absurd HA.out (by simp [laws_FnFraText.j1])
            | succ kj8 =>
              have H := HA.out
              clear HA
              simp only [laws_FnFraText.j1] at H
              by_cases c11 : x23_8 = true
              · subst c11
                have H1 : (if 0 ≤ x5_1 then (if x5_1 ≤ (t151.size : Int) then ((impl_FraText.f kj8 (t151.extract 0 (x5_1 : Int).toNat)).bind fun t154 => (if t154 = true then (laws_FnFraText.l0 kj8 t151 t152 (wrap64 (x5_1 + 1))) else (some false))) else (none)) else (none)) = some r := by rw [if_pos rfl] at H; exact H
                clear H
                have H := H1
                clear H1
                by_cases c12 : 0 ≤ x5_1
                · rw [if_pos c12] at H
                  have c12b0 := eq_true c12
                  have c12b1 : decide (0 ≤ x5_1) = true := decide_eq_true c12
                  clear c12
                  by_cases c13 : x5_1 ≤ (t151.size : Int)
                  · rw [if_pos c13] at H
                    have c13b0 := eq_true c13
                    have c13b1 : decide (x5_1 ≤ (t151.size : Int)) = true := decide_eq_true c13
                    clear c13
                    replace H := Option.bind_eq_some_iff.mp H
                    obtain ⟨t154, A140, H⟩ := H
                    replace H : (if t154 = true then (laws_FnFraText.l0 kj8 t151 t152 (wrap64 (x5_1 + 1))) else (some false)) = some r := H
                    have A14 := Aside0.mk A140
                    clear A140
                    by_cases c15 : t154 = true
                    · subst c15
                      have H1 : (laws_FnFraText.l0 kj8 t151 t152 (wrap64 (x5_1 + 1))) = some r := by rw [if_pos rfl] at H; exact H
                      clear H
                      have H := H1
                      clear H1
                      have H' := Aside0.mk H
                      clear H
                      go_wp2_with (first | ((with_reducible refine gate_callee (f := 14) rfl ?_); refine goesL_ (some 29) rfl rfl Tryd.func14 (by kernel_rfl) rfl #[.string (t151.extract 0 (x5_1 : Int).toNat)] rfl (by (try simp only [List.map_toArray, List.map_cons, List.map_nil]); first | done | rfl | (simp only [List.length_drop, List.length_take]; rfl)) ?_; (with_reducible refine (impl_FraText.calls kj8 (t151.extract 0 (x5_1 : Int).toNat) true _ A14.out).mono ?_); rintro e w' ⟨rfl, ⟨nd, rfl⟩⟩; refine ⟨_, rfl, ?_⟩))
                      go_roundg kj8
                      case measure => have := HK1.out; have := HJ8.out; omega
                      case rel => exact ⟨(wrap64 (x5_1 + 1)), (by first | rfl | (simp; done) | (simp [*]; done)), H', ⟨by have := HK1.out; have := HJ8.out; omega⟩, ⟨by repeat (first | (with_reducible first | exact HB.out | apply below_alloc | apply pw_below_drewN | apply below_drew1) | exact HB.out)⟩⟩
                    · replace c15 := Bool.eq_false_iff.mpr c15
                      subst c15
                      have H1 : (some false) = some r := by rw [if_neg (show ¬ (false = true) by decide)] at H; exact H
                      clear H
                      have H := H1
                      clear H1
                      obtain rfl := Option.some.inj H
                      go_wp2_with (first | ((with_reducible refine gate_callee (f := 14) rfl ?_); refine goesL_ (some 29) rfl rfl Tryd.func14 (by kernel_rfl) rfl #[.string (t151.extract 0 (x5_1 : Int).toNat)] rfl (by (try simp only [List.map_toArray, List.map_cons, List.map_nil]); first | done | rfl | (simp only [List.length_drop, List.length_take]; rfl)) ?_; (with_reducible refine (impl_FraText.calls kj8 (t151.extract 0 (x5_1 : Int).toNat) false _ A14.out).mono ?_); rintro e w' ⟨rfl, ⟨nd, rfl⟩⟩; refine ⟨_, rfl, ?_⟩))
                      go_ret
                      exact ⟨by first | rfl | (simp [errW_none, errW_some] <;> rfl) | (simp [*, errW_none, errW_some] <;> rfl), by repeat (first | (with_reducible first | exact HB.out | apply below_alloc | apply pw_below_drewN | apply below_drew1) | exact HB.out)⟩
                  · rw [if_neg c13] at H
                    exact absurd H (by simp)
                · rw [if_neg c12] at H
                  exact absurd H (by simp)
              · replace c11 := Bool.eq_false_iff.mpr c11
                subst c11
                have H1 : (if t152 = true then ((laws_keOk.f).bind fun t155 => (some t155)) else (if (t151.size : Int) > 0 then ((laws_keOk.f).bind fun t156 => (some t156)) else (some false))) = some r := by rw [if_neg (show ¬ (false = true) by decide)] at H; exact H
                clear H
                have H := H1
                clear H1
                by_cases c16 : t152 = true
                · subst c16
                  have H1 : ((laws_keOk.f).bind fun t155 => (some t155)) = some r := by rw [if_pos rfl] at H; exact H
                  clear H
                  have H := H1
                  clear H1
                  replace H := Option.bind_eq_some_iff.mp H
                  obtain ⟨t155, A170, H⟩ := H
                  replace H : (some t155) = some r := H
                  have A17 := Aside0.mk A170
                  clear A170
                  obtain rfl := Option.some.inj H
                  go_wp2_with (first | (go_at_call 12; (with_reducible refine (laws_keOk.calls  t155 _ ?side1 A17.out).mono ?_); (case side1 => exact GlobOk.below HGL.out (by repeat (first | (with_reducible first | exact HB.out | apply below_alloc | apply pw_below_drewN | apply below_drew1) | exact HB.out))); rintro e w18 ⟨rfl, hb⟩; have n0_ := Aside0.mk (below_step (by repeat (first | (with_reducible first | exact HB.out | apply below_alloc | apply pw_below_drewN | apply below_drew1) | exact HB.out)) hb); clear HB; have HB := n0_; clear n0_; (try clear hb); (try clear hb2); (try clear hk); (try clear hi)))
                  go_ret
                  exact ⟨by first | rfl | (simp [errW_none, errW_some] <;> rfl) | (simp [*, errW_none, errW_some] <;> rfl), by repeat (first | (with_reducible first | exact HB.out | apply below_alloc | apply pw_below_drewN | apply below_drew1) | exact HB.out)⟩
                · replace c16 := Bool.eq_false_iff.mpr c16
                  subst c16
                  have H1 : (if (t151.size : Int) > 0 then ((laws_keOk.f).bind fun t156 => (some t156)) else (some false)) = some r := by rw [if_neg (show ¬ (false = true) by decide)] at H; exact H
                  clear H
                  have H := H1
                  clear H1
                  by_cases c19 : (t151.size : Int) > 0
                  · rw [if_pos c19] at H
                    have c19b0 : decide (0 < (t151.size : Int)) = true := decide_eq_true c19
                    have c19b1 : decide (0 < t151.size) = true := decide_eq_true (by omega)
                    clear c19
                    replace H := Option.bind_eq_some_iff.mp H
                    obtain ⟨t156, A200, H⟩ := H
                    replace H : (some t156) = some r := H
                    have A20 := Aside0.mk A200
                    clear A200
                    obtain rfl := Option.some.inj H
                    go_wp2_with (first | (go_at_call 12; (with_reducible refine (laws_keOk.calls  t156 _ ?side1 A20.out).mono ?_); (case side1 => exact GlobOk.below HGL.out (by repeat (first | (with_reducible first | exact HB.out | apply below_alloc | apply pw_below_drewN | apply below_drew1) | exact HB.out))); rintro e w21 ⟨rfl, hb⟩; have n0_ := Aside0.mk (below_step (by repeat (first | (with_reducible first | exact HB.out | apply below_alloc | apply pw_below_drewN | apply below_drew1) | exact HB.out)) hb); clear HB; have HB := n0_; clear n0_; (try clear hb); (try clear hb2); (try clear hk); (try clear hi)))
                    go_ret
                    exact ⟨by first | rfl | (simp [errW_none, errW_some] <;> rfl) | (simp [*, errW_none, errW_some] <;> rfl), by repeat (first | (with_reducible first | exact HB.out | apply below_alloc | apply pw_below_drewN | apply below_drew1) | exact HB.out)⟩
                  · rw [if_neg c19] at H
                    have c19b0 : decide (0 < (t151.size : Int)) = false := decide_eq_false c19
                    have c19b1 : decide (0 < t151.size) = false := decide_eq_false (by omega)
                    clear c19
                    obtain rfl := Option.some.inj H
                    go_wp2
                    go_ret
                    exact ⟨by first | rfl | (simp [errW_none, errW_some] <;> rfl) | (simp [*, errW_none, errW_some] <;> rfl), by repeat (first | (with_reducible first | exact HB.out | apply below_alloc | apply pw_below_drewN | apply below_drew1) | exact HB.out)⟩

/-- THE ONE PURE STATEMENT of laws_FnFraText: yours. -/
def laws_FnFraText.Pure : Prop := ∀ (l0 : List Int), l0.length ≤ maxLen → l0.length * 1 ≤ 140737488351232 → (∀ x ∈ l0, (Lit.int .u8 x).wf = true) → ∃ k, laws_FnFraText.f k l0 = some true
theorem laws_FnFraText.walk (P : laws_FnFraText.Pure) (a0 : Option Addr) (len0 cap0 : Nat) (z0 : List Int) (w : World) (w0 : (a0 = none ∧ len0 = 0 ∧ cap0 = 0 ∧ z0 = []) ∨ ∃ x, a0 = some x ∧ len0 ≤ cap0 ∧ cap0 ≤ maxLen ∧ z0.length = cap0 ∧ (∀ i, i < z0.length → w.cell? (x.add i) = some (.int .u8 (z0.getD i 0))) ∧ ∀ n ∈ z0, (Lit.int .u8 n).wf = true) (y0 : len0 * 1 ≤ 140737488351232) (hG : GlobOk w) :
    Calls Tryd.prog 5 #[.slice a0 len0 cap0] w fun e w' => e = .returned (.bool true) ∧ Below w.heap.size w w' := by
  obtain ⟨l0, rfl, hr0, hm0, hw0, hc0⟩ := ReadsInt.ofRowC w0
  obtain ⟨k, h⟩ := P l0 hm0 y0 hw0
  refine (laws_FnFraText.calls k _ _ l0 true w (Kd.C_of_reads (d := (0 : Int)) (h1 := fun _ => rfl) hr0) hc0 hG h).mono ?_
  rintro e w' ⟨rfl, hd⟩
  exact ⟨rfl, hd⟩

/-! ### spec_DrawMakNew: function 16 -/
def spec_DrawMakNew.f (k : Nat) (l0 : List Int) : Option (Int × Int) := (spec_l20Open.f l0).bind fun bt157 => ((spec_l20Rd_pick.f k bt157.1 bt157.2 8).bind fun bt160 => ((some (([bt160.1, (-1), 8] : List Int) : List Int)).bind fun y162 => ((some (([0, 0, 0, 1, 2] : List Int) : List Int)).bind fun y165 => ((spec_l20Rd_pick.f k bt157.1 bt160.2 5).bind fun bt168 => (if 0 ≤ bt168.1 then (if bt168.1 < (y165.length : Int) then (if 0 ≤ (rd y165 bt168.1) then (if (rd y165 bt168.1) < (y162.length : Int) then ((spec_l20Rd_pick.f k bt157.1 bt168.2 99).bind fun bt172 => ((some (([wrap64 (1 + bt172.1), 0, 100, 99, (-1)] : List Int) : List Int)).bind fun y174 => ((spec_l20Rd_pick.f k bt157.1 bt172.2 5).bind fun bt177 => (if 0 ≤ bt177.1 then (if bt177.1 < (y174.length : Int) then (some (rd y162 (rd y165 bt168.1), rd y174 bt177.1)) else (none)) else (none))))) else (none)) else (none)) else (none)) else (none))))))
theorem spec_DrawMakNew.mono : ∀ a0 k, LeO (spec_DrawMakNew.f k a0) (spec_DrawMakNew.f (k + 1) a0) := by
  intro a0 k
  unfold spec_DrawMakNew.f
  repeat' first
      | (with_reducible exact spec_l20Rd_pick.mono _ _ _ _)
      | (with_reducible exact LeO.refl _)
      | (with_reducible exact LeO.none _)
      | (with_reducible refine LeO.ite ?_ ?_)
      | (with_reducible refine LeO.bind ?_ (fun _ => ?_))
      | exact spec_l20Rd_pick.mono _ _ _ _
      | exact LeO.none _
      | refine LeO.ite ?_ ?_
      | refine LeO.bind ?_ (fun _ => ?_)
def spec_DrawMakNew.T2 : Bool × List (List Nat × List Nat) := (true, [([], []), ([0], [0]), ([1], [1]), ([], []), ([], []), ([4, 1], [4]), ([3, 5], [3, 5]), ([6], [6]), ([2, 7], [2, 7]), ([8], [8]), ([], []), ([10, 5], [10]), ([11], [11]), ([12], [12]), ([], []), ([14, 11], [14]), ([13, 15], [13, 15]), ([16], [16]), ([9, 15, 0, 1, 2, 3, 4, 5, 6, 7, 8, 9], [9]), ([17, 18, 0, 1, 2, 3, 4, 5, 6, 7, 8, 9, 10, 11, 12, 13, 14, 15, 16, 17, 18], [17])])
def spec_DrawMakNew.B2 : List Nat := [0, 1, 3, 0, 0, 19, 59, 123, 255, 511, 0, 1075, 3123, 7219, 0, 19507, 64563, 130099, 53247, 524287]
theorem spec_DrawMakNew.tab2 : rtab .any (opsOf Tryd.f16 2) = spec_DrawMakNew.T2 := by kernel_rfl
theorem spec_DrawMakNew.bits2 : waitsOk spec_DrawMakNew.T2.2 spec_DrawMakNew.B2 = true := by kernel_rfl
set_option maxHeartbeats 8000000 in
set_option maxRecDepth 100000 in
theorem spec_DrawMakNew.calls (k : Nat) (A0 : Option Addr) (c0 : Nat) (l0 : List Int) (r1 : Int) (r2 : Int) (w : World) (hr0 : Kd.C (Kd.int .u8) w A0 l0.length l0) (hc0 : l0.length ≤ c0) (h : spec_DrawMakNew.f k l0 = some (r1, r2)) :
    Calls Tryd.prog 16 #[.slice A0 l0.length c0] w fun e w' => e = .returned (.tuple #[.int .i64 r1, .int .i64 r2]) ∧ Below w.heap.size w w' := by
  have HR0 := Aside0.mk hr0
  have HC0 := Aside0.mk hc0
  clear hr0 hc0
  have HB := Aside0.mk (Below.refl w.heap.size w)
  have H : ((spec_l20Open.f l0).bind fun bt157 => ((spec_l20Rd_pick.f k bt157.1 bt157.2 8).bind fun bt160 => ((some (([bt160.1, (-1), 8] : List Int) : List Int)).bind fun y162 => ((some (([0, 0, 0, 1, 2] : List Int) : List Int)).bind fun y165 => ((spec_l20Rd_pick.f k bt157.1 bt160.2 5).bind fun bt168 => (if 0 ≤ bt168.1 then (if bt168.1 < (y165.length : Int) then (if 0 ≤ (rd y165 bt168.1) then (if (rd y165 bt168.1) < (y162.length : Int) then ((spec_l20Rd_pick.f k bt157.1 bt168.2 99).bind fun bt172 => ((some (([wrap64 (1 + bt172.1), 0, 100, 99, (-1)] : List Int) : List Int)).bind fun y174 => ((spec_l20Rd_pick.f k bt157.1 bt172.2 5).bind fun bt177 => (if 0 ≤ bt177.1 then (if bt177.1 < (y174.length : Int) then (some (rd y162 (rd y165 bt168.1), rd y174 bt177.1)) else (none)) else (none))))) else (none)) else (none)) else (none)) else (none))))))) = some (r1, r2) := h
  clear h
  replace H := Option.bind_eq_some_iff.mp H
  obtain ⟨⟨t157, t158⟩, A20, H⟩ := H
  replace H : ((spec_l20Rd_pick.f k t157 t158 8).bind fun bt160 => ((some (([bt160.1, (-1), 8] : List Int) : List Int)).bind fun y162 => ((some (([0, 0, 0, 1, 2] : List Int) : List Int)).bind fun y165 => ((spec_l20Rd_pick.f k t157 bt160.2 5).bind fun bt168 => (if 0 ≤ bt168.1 then (if bt168.1 < (y165.length : Int) then (if 0 ≤ (rd y165 bt168.1) then (if (rd y165 bt168.1) < (y162.length : Int) then ((spec_l20Rd_pick.f k t157 bt168.2 99).bind fun bt172 => ((some (([wrap64 (1 + bt172.1), 0, 100, 99, (-1)] : List Int) : List Int)).bind fun y174 => ((spec_l20Rd_pick.f k t157 bt172.2 5).bind fun bt177 => (if 0 ≤ bt177.1 then (if bt177.1 < (y174.length : Int) then (some (rd y162 (rd y165 bt168.1), rd y174 bt177.1)) else (none)) else (none))))) else (none)) else (none)) else (none)) else (none)))))) = some (r1, r2) := H
  have A2 := Aside0.mk A20
  clear A20
  replace H := Option.bind_eq_some_iff.mp H
  obtain ⟨⟨t160, t161⟩, A30, H⟩ := H
  replace H : ((some (([t160, (-1), 8] : List Int) : List Int)).bind fun y162 => ((some (([0, 0, 0, 1, 2] : List Int) : List Int)).bind fun y165 => ((spec_l20Rd_pick.f k t157 t161 5).bind fun bt168 => (if 0 ≤ bt168.1 then (if bt168.1 < (y165.length : Int) then (if 0 ≤ (rd y165 bt168.1) then (if (rd y165 bt168.1) < (y162.length : Int) then ((spec_l20Rd_pick.f k t157 bt168.2 99).bind fun bt172 => ((some (([wrap64 (1 + bt172.1), 0, 100, 99, (-1)] : List Int) : List Int)).bind fun y174 => ((spec_l20Rd_pick.f k t157 bt172.2 5).bind fun bt177 => (if 0 ≤ bt177.1 then (if bt177.1 < (y174.length : Int) then (some (rd y162 (rd y165 bt168.1), rd y174 bt177.1)) else (none)) else (none))))) else (none)) else (none)) else (none)) else (none))))) = some (r1, r2) := H
  have A3 := Aside0.mk A30
  clear A30
  obtain ⟨y162, hy162⟩ : ∃ y_ : List Int, y_ = (([t160, (-1), 8] : List Int)) := ⟨_, rfl⟩
  replace H : ((some (([0, 0, 0, 1, 2] : List Int) : List Int)).bind fun y165 => ((spec_l20Rd_pick.f k t157 t161 5).bind fun bt168 => (if 0 ≤ bt168.1 then (if bt168.1 < (y165.length : Int) then (if 0 ≤ (rd y165 bt168.1) then (if (rd y165 bt168.1) < (y162.length : Int) then ((spec_l20Rd_pick.f k t157 bt168.2 99).bind fun bt172 => ((some (([wrap64 (1 + bt172.1), 0, 100, 99, (-1)] : List Int) : List Int)).bind fun y174 => ((spec_l20Rd_pick.f k t157 bt172.2 5).bind fun bt177 => (if 0 ≤ bt177.1 then (if bt177.1 < (y174.length : Int) then (some (rd y162 (rd y165 bt168.1), rd y174 bt177.1)) else (none)) else (none))))) else (none)) else (none)) else (none)) else (none)))) = some (r1, r2) := by first | (rw [hy162]; with_reducible exact H) | (have H2_ := (Option.bind_some _ _).symm.trans H; rw [hy162]; with_reducible exact H2_) | (have H2_ := (Option.bind_some _ _).symm.trans H; with_reducible exact H2_) | with_reducible exact H | (rw [hy162]; exact H) | exact H
  have Ny162 := Aside0.mk hy162
  clear hy162
  obtain ⟨y165, hy165⟩ : ∃ y_ : List Int, y_ = (([0, 0, 0, 1, 2] : List Int)) := ⟨_, rfl⟩
  replace H : ((spec_l20Rd_pick.f k t157 t161 5).bind fun bt168 => (if 0 ≤ bt168.1 then (if bt168.1 < (y165.length : Int) then (if 0 ≤ (rd y165 bt168.1) then (if (rd y165 bt168.1) < (y162.length : Int) then ((spec_l20Rd_pick.f k t157 bt168.2 99).bind fun bt172 => ((some (([wrap64 (1 + bt172.1), 0, 100, 99, (-1)] : List Int) : List Int)).bind fun y174 => ((spec_l20Rd_pick.f k t157 bt172.2 5).bind fun bt177 => (if 0 ≤ bt177.1 then (if bt177.1 < (y174.length : Int) then (some (rd y162 (rd y165 bt168.1), rd y174 bt177.1)) else (none)) else (none))))) else (none)) else (none)) else (none)) else (none))) = some (r1, r2) := by first | (rw [hy165]; with_reducible exact H) | (have H2_ := (Option.bind_some _ _).symm.trans H; rw [hy165]; with_reducible exact H2_) | (have H2_ := (Option.bind_some _ _).symm.trans H; with_reducible exact H2_) | with_reducible exact H | (rw [hy165]; exact H) | exact H
  have Ny165 := Aside0.mk hy165
  clear hy165
  replace H := Option.bind_eq_some_iff.mp H
  obtain ⟨⟨t168, t169⟩, A40, H⟩ := H
  replace H : (if 0 ≤ t168 then (if t168 < (y165.length : Int) then (if 0 ≤ (rd y165 t168) then (if (rd y165 t168) < (y162.length : Int) then ((spec_l20Rd_pick.f k t157 t169 99).bind fun bt172 => ((some (([wrap64 (1 + bt172.1), 0, 100, 99, (-1)] : List Int) : List Int)).bind fun y174 => ((spec_l20Rd_pick.f k t157 bt172.2 5).bind fun bt177 => (if 0 ≤ bt177.1 then (if bt177.1 < (y174.length : Int) then (some (rd y162 (rd y165 t168), rd y174 bt177.1)) else (none)) else (none))))) else (none)) else (none)) else (none)) else (none)) = some (r1, r2) := H
  have A4 := Aside0.mk A40
  clear A40
  by_cases c5 : 0 ≤ t168
  · rw [if_pos c5] at H
    have c5b0 : decide (0 ≤ t168) = true := decide_eq_true c5
    clear c5
    by_cases c6 : t168 < (y165.length : Int)
    · rw [if_pos c6] at H
      have c6b0 : decide (t168 < (y165.length : Int)) = true := decide_eq_true c6
      clear c6
      by_cases c7 : 0 ≤ (rd y165 t168)
      · rw [if_pos c7] at H
        have c7b0 : decide (0 ≤ (rd y165 t168)) = true := decide_eq_true c7
        clear c7
        by_cases c8 : (rd y165 t168) < (y162.length : Int)
        · rw [if_pos c8] at H
          have c8b0 : decide ((rd y165 t168) < (y162.length : Int)) = true := decide_eq_true c8
          clear c8
          replace H := Option.bind_eq_some_iff.mp H
          obtain ⟨⟨t172, t173⟩, A90, H⟩ := H
          replace H : ((some (([wrap64 (1 + t172), 0, 100, 99, (-1)] : List Int) : List Int)).bind fun y174 => ((spec_l20Rd_pick.f k t157 t173 5).bind fun bt177 => (if 0 ≤ bt177.1 then (if bt177.1 < (y174.length : Int) then (some (rd y162 (rd y165 t168), rd y174 bt177.1)) else (none)) else (none)))) = some (r1, r2) := H
          have A9 := Aside0.mk A90
          clear A90
          obtain ⟨y174, hy174⟩ : ∃ y_ : List Int, y_ = (([wrap64 (1 + t172), 0, 100, 99, (-1)] : List Int)) := ⟨_, rfl⟩
          replace H : ((spec_l20Rd_pick.f k t157 t173 5).bind fun bt177 => (if 0 ≤ bt177.1 then (if bt177.1 < (y174.length : Int) then (some (rd y162 (rd y165 t168), rd y174 bt177.1)) else (none)) else (none))) = some (r1, r2) := by first | (rw [hy174]; with_reducible exact H) | (have H2_ := (Option.bind_some _ _).symm.trans H; rw [hy174]; with_reducible exact H2_) | (have H2_ := (Option.bind_some _ _).symm.trans H; with_reducible exact H2_) | with_reducible exact H | (rw [hy174]; exact H) | exact H
          have Ny174 := Aside0.mk hy174
          clear hy174
          replace H := Option.bind_eq_some_iff.mp H
          obtain ⟨⟨t177, t178⟩, A100, H⟩ := H
          replace H : (if 0 ≤ t177 then (if t177 < (y174.length : Int) then (some (rd y162 (rd y165 t168), rd y174 t177)) else (none)) else (none)) = some (r1, r2) := H
          have A10 := Aside0.mk A100
          clear A100
          by_cases c11 : 0 ≤ t177
          · rw [if_pos c11] at H
            have c11b0 : decide (0 ≤ t177) = true := decide_eq_true c11
            clear c11
            by_cases c12 : t177 < (y174.length : Int)
            · rw [if_pos c12] at H
              have c12b0 : decide (t177 < (y174.length : Int)) = true := decide_eq_true c12
              clear c12
              simp only [Option.some.injEq, Prod.mk.injEq] at H
              obtain ⟨rfl, rfl⟩ := H
              go_enter Tryd.func16, Tryd.ntmps16
              try go_wp2_with (first | ((with_reducible refine gate_callee (f := 26) rfl ?_); refine goesL_ (some 6) rfl rfl Tryd.func26 (by kernel_rfl) rfl #[.slice A0 l0.length c0] rfl (by (try simp only [List.map_toArray, List.map_cons, List.map_nil]); first | done | rfl | (simp only [List.length_drop, List.length_take]; rfl)) ?_; (with_reducible refine (spec_l20Open.calls _ _ l0 t157 t158 w _ ?side1 ?side2 ?side3 A2.out).mono ?_); (case side1 => repeat (first | (with_reducible first | exact HB.out | apply below_alloc | apply pw_below_drewN | apply below_drew1) | exact HB.out)); (case side2 => exact HR0.out); (case side3 => exact HC0.out); rintro e w13 ⟨g159, rfl, hi, hb, hb2⟩; refine ⟨_, rfl, ?_⟩; have n0_ := Aside0.mk (hb); have n1_ := Aside0.mk (hi); clear HB; have HB := n0_; have HI159 := n1_; clear n0_ n1_; (try clear hb); (try clear hb2); (try clear hk); (try clear hi)))
              have pi170 : (0 ≤ (t168 : Int)) = True := eq_true (of_decide_eq_true (by first | (with_reducible assumption) | assumption))
              have qi170 : (t168 < (y165.length : Int)) = True := eq_true (of_decide_eq_true (by first | (with_reducible assumption) | assumption))
              have pi171 : (0 ≤ ((rd y165 t168) : Int)) = True := eq_true (of_decide_eq_true (by first | (with_reducible assumption) | assumption))
              have qi171 : ((rd y165 t168) < (y162.length : Int)) = True := eq_true (of_decide_eq_true (by first | (with_reducible assumption) | assumption))
              have pi179 : (0 ≤ (t177 : Int)) = True := eq_true (of_decide_eq_true (by first | (with_reducible assumption) | assumption))
              have qi179 : (t177 < (y174.length : Int)) = True := eq_true (of_decide_eq_true (by first | (with_reducible assumption) | assumption))
              have n0_ := Aside0.mk (IsS47.drew HI159.out)
              have n1_ := Aside0.mk (below_drew1 HB.out)
              clear HI159
              clear HB
              have HI159 := n0_
              have HB := n1_
              clear n0_ n1_
              refine start_ (n := 20) (S := fun w' => True) (ds := []) #[false, false, false, false, false, false, false, false, false, false, false, false, false, false, false, false, false, false, false, false] (by kernel_rfl) rfl rfl trivial (fun hHeld => ?_); refine with_tabW spec_DrawMakNew.tab2 spec_DrawMakNew.bits2 (fun HT_ HW_ => ?_)
              generalize w13.drew = w14 at HI159 HB hHeld ⊢
              refine pure_ (i := 0) (N := some 7) (v := ?_) (a' := ?_) #[true, false, false, false, false, false, false, false, false, false, false, false, false, false, false, false, false, false, false, false] rfl rfl (any_of HT_.out (by kernel_rfl)) (fun _ _ _ h => h) (Or.inl ⟨by rfl, ?_⟩) ?_ ?_
              rotate_left
              · intro w'
                go_simp
                with_reducible rfl
              rotate_left
              · simp only [Act.put, List.setIfInBounds_toArray, List.set_cons_zero, List.set_cons_succ, i64_w, i32_w]
                rfl
              refine pure_ (i := 4) (N := some 11) (v := ?_) (a' := ?_) #[true, false, false, false, true, false, false, false, false, false, false, false, false, false, false, false, false, false, false, false] rfl rfl (any_of HT_.out (by kernel_rfl)) (fun _ _ _ h => h) (Or.inl ⟨by rfl, ?_⟩) ?_ ?_
              rotate_left
              · intro w'
                go_simp
                with_reducible rfl
              rotate_left
              · simp only [Act.put, List.setIfInBounds_toArray, List.set_cons_zero, List.set_cons_succ, i64_w, i32_w]
                rfl
              refine pure_ (i := 10) (N := some 17) (v := ?_) (a' := ?_) #[true, false, false, false, true, false, false, false, false, false, true, false, false, false, false, false, false, false, false, false] rfl rfl (any_of HT_.out (by kernel_rfl)) (fun _ _ _ h => h) (Or.inl ⟨by rfl, ?_⟩) ?_ ?_
              rotate_left
              · intro w'
                go_simp
                with_reducible rfl
              rotate_left
              · simp only [Act.put, List.setIfInBounds_toArray, List.set_cons_zero, List.set_cons_succ, i64_w, i32_w]
                rfl
              refine pure_ (i := 14) (N := some 21) (v := ?_) (a' := ?_) #[true, false, false, false, true, false, false, false, false, false, true, false, false, false, true, false, false, false, false, false] rfl rfl (any_of HT_.out (by kernel_rfl)) (fun _ _ _ h => h) (Or.inl ⟨by rfl, ?_⟩) ?_ ?_
              rotate_left
              · intro w'
                go_simp
                with_reducible rfl
              rotate_left
              · simp only [Act.put, List.setIfInBounds_toArray, List.set_cons_zero, List.set_cons_succ, i64_w, i32_w]
                rfl
              refine inv_at [1, 2, 3, 5, 6, 7, 8, 9, 11, 12, 13, 15, 16, 17, 18, 19] (fun a0_ b a w' => ∃ (v163 : Value) (adz_v163 : Addr) (v166 : Value) (adz_v166 : Addr) (v175 : Value) (adz_v175 : Addr) (m6_ : Value) (m8_ : Value) (m16_ : Value), a = putSel a0_ b [(1, 8, .int .i64 t160), (2, 9, v163), (3, 10, v166), (5, 12, .int .i64 t168), (6, 13, m6_), (7, 14, .int .i64 (rd y165 t168)), (8, 15, m8_), (9, 16, .int .i64 (rd y162 (rd y165 t168))), (11, 18, .int .i64 t172), (12, 19, .int .i64 (wrap64 (1 + t172))), (13, 20, v175), (15, 22, .int .i64 t177), (16, 23, m16_), (17, 24, .int .i64 (rd y174 t177)), (18, 2, .int .i64 (rd y162 (rd y165 t168))), (19, 3, .int .i64 (rd y174 t177))] ∧ (b 1 = false → IsS47 w w' g159 t157 t158) ∧ (Below w.heap.size w w') ∧ (b 1 = true → b 5 = false → IsS47 w w' g159 t157 t161) ∧ (b 2 = true → Kd.R (Kd.int .i64) 3 w' w.heap.size (fun _ => True) v163 y162) ∧ (b 2 = true → ∃ c_, (v163 : Value) = .slice (some adz_v163) y162.length c_) ∧ (b 3 = true → Kd.R (Kd.int .i64) 3 w' w.heap.size (fun _ => True) v166 y165) ∧ (b 3 = true → ∃ c_, (v166 : Value) = .slice (some adz_v166) y165.length c_) ∧ (b 5 = true → b 11 = false → IsS47 w w' g159 t157 t169) ∧ (b 11 = true → b 15 = false → IsS47 w w' g159 t157 t173) ∧ (b 13 = true → Kd.R (Kd.int .i64) 3 w' w.heap.size (fun _ => True) v175 y174) ∧ (b 13 = true → ∃ c_, (v175 : Value) = .slice (some adz_v175) y174.length c_) ∧ (b 15 = true → IsS47 w w' g159 t157 t178) ∧ (b 6 = true → (m6_ : Value) = .pointer (some (adz_v166.add (t168).toNat))) ∧ (b 8 = true → (m8_ : Value) = .pointer (some (adz_v163.add ((rd y165 t168)).toNat))) ∧ (b 16 = true → (m16_ : Value) = .pointer (some (adz_v175.add (t177).toNat)))) HT_.out HW_.out (by kernel_rfl) (by kernel_rfl) ?_ ?_ ?_
              · exact ⟨.bool false, ⟨0, 0, none⟩, .bool false, ⟨0, 0, none⟩, .bool false, ⟨0, 0, none⟩, .bool false, .bool false, .bool false, by simp only [putSel, Bool.false_eq_true, if_false], fun _ => HI159.out, HB.out, fun h_ => absurd h_ (by decide), fun h_ => absurd h_ (by decide), fun h_ => absurd h_ (by decide), fun h_ => absurd h_ (by decide), fun h_ => absurd h_ (by decide), fun h_ => absurd h_ (by decide), fun h_ => absurd h_ (by decide), fun h_ => absurd h_ (by decide), fun h_ => absurd h_ (by decide), fun h_ => absurd h_ (by decide), fun h_ => absurd h_ (by decide), fun h_ => absurd h_ (by decide), fun h_ => absurd h_ (by decide)⟩
              · skip
                clear HB HI159
                refine steps_cons ?_ ?_
                · rintro b a w' ⟨v163, adz_v163, v166, adz_v166, v175, adz_v175, m6_, m8_, m16_, ha, Q_HI159, Q_HB, Q_HI159_e1, Q_HO164, Q_HA_HO164, Q_HO167, Q_HA_HO167, Q_HI159_e5, Q_HI159_e11, Q_HO176, Q_HA_HO176, Q_HI159_e15, Q_X6_, Q_X8_, Q_X16_⟩ hb_ hon hoff
                  refine ⟨_, rfl, fun K hK => ?_⟩
                  have e7 : a.tmps[7]? = some (.pointer (some ⟨g159, 0, none⟩)) := by rw [ha]; exact (putSel_off rfl).trans rfl
                  replace ha := Aside0.mk ha
                  have HI159 := Aside0.mk (Q_HI159 hb_)
                  have HB := Aside0.mk Q_HB
                  refine goes_ Tryd.func27 (by kernel_rfl) rfl #[.pointer (some ⟨g159, 0, none⟩), .int .i64 8] (by rfl) rfl rfl (by first | (simp only [List.map_toArray, List.map_cons, List.map_nil, Act.eval, Array.getD_eq_getD_getElem?, Option.getD_some, e7]; done) | (simp only [List.map_toArray, List.map_cons, List.map_nil, Act.eval, Array.getD_eq_getD_getElem?, Option.getD_some, e7]; rfl)) ?_
                  with_reducible refine (spec_l20Rd_pick.calls k g159 t157 t158 8 t160 t161 w _ ?side1 ?side2 A3.out).mono ?_
                  (case side1 => repeat (first | (with_reducible first | exact HI159.out | apply IsS47.alloc | apply IsS47.drewN | apply IsS47.drew | apply IsS47.set_1) | exact HI159.out))
                  (case side2 => repeat (first | (with_reducible first | exact HB.out | apply below_alloc | apply pw_below_drewN | apply below_drew1 | refine below_set ?_ (IsS47.ge HI159.out)) | exact HB.out))
                  rintro e w15 ⟨rfl, hi, hb, hk⟩
                  refine ⟨_, rfl, ?_⟩
                  have n0_ := Aside0.mk (hb)
                  have n1_ := Aside0.mk (hi)
                  have z_HO167 := fun (h0_ : b 3 = true) => (show Kd.R (Kd.int .i64) 3 w15 w.heap.size (fun _ => True) v166 y165 from by first | exact (Kd.R_mono (Kd.R_keep (IsS47.apart (show IsS47 w _ g159 t157 t158 from by repeat (first | (with_reducible first | exact HI159.out | apply IsS47.alloc | apply IsS47.drewN | apply IsS47.drew | apply IsS47.set_1) | exact HI159.out)) (by (with_reducible repeat (first | apply Kd.R_alloc | apply Kd.R_drewN | apply Kd.R_drew)); exact (Q_HO167 h0_)) (by decide)) hk (fun _ h => h.2)) (fun _ h => h.1)) | exact Kd.R_mono (Kd.R_mono (Kd.R_keep (IsS47.apart (show IsS47 w _ g159 t157 t158 from by repeat (first | (with_reducible first | exact HI159.out | apply IsS47.alloc | apply IsS47.drewN | apply IsS47.drew | apply IsS47.set_1) | exact HI159.out)) (by (with_reducible repeat (first | apply Kd.R_alloc | apply Kd.R_drewN | apply Kd.R_drew)); exact (Q_HO167 h0_)) (by decide)) hk (fun _ h => h.2)) (fun _ h => h.1)) (fun _ h_ => by first | trivial | exact h_ | exact h_.1))
                  clear HB
                  clear HI159
                  have HB := n0_
                  have HI159 := n1_
                  clear n0_ n1_
                  (try clear hb)
                  (try clear hb2)
                  (try clear hk)
                  (try clear hi)
                  refine hK.out _ _ ⟨v163, adz_v163, v166, adz_v166, v175, adz_v175, m6_, m8_, m16_, (by rw [ha.out]; exact putSel_upk 0 hb_ rfl rfl rfl), fun h0_ => absurd ((up_self b 1).symm.trans h0_) (by decide), (by repeat (first | (with_reducible first | exact HB.out | apply below_alloc | apply pw_below_drewN | apply below_drew1 | refine below_set ?_ (IsS47.ge HI159.out)) | exact HB.out)), fun _ _ => (by repeat (first | (with_reducible first | exact HI159.out | apply IsS47.alloc | apply IsS47.drewN | apply IsS47.drew | apply IsS47.set_1) | exact HI159.out)), fun h0_ => absurd ((hoff 2 (by kernel_rfl)).symm.trans h0_) (by decide), fun h0_ => absurd ((hoff 2 (by kernel_rfl)).symm.trans h0_) (by decide), z_HO167, Q_HA_HO167, fun h0_ _ => absurd ((hoff 5 (by kernel_rfl)).symm.trans h0_) (by decide), fun h0_ _ => absurd ((hoff 11 (by kernel_rfl)).symm.trans h0_) (by decide), fun h0_ => absurd ((hoff 13 (by kernel_rfl)).symm.trans h0_) (by decide), fun h0_ => absurd ((hoff 13 (by kernel_rfl)).symm.trans h0_) (by decide), fun h0_ => absurd ((hoff 15 (by kernel_rfl)).symm.trans h0_) (by decide), fun h0_ => absurd ((hoff 6 (by kernel_rfl)).symm.trans h0_) (by decide), fun h0_ => absurd ((hoff 8 (by kernel_rfl)).symm.trans h0_) (by decide), fun h0_ => absurd ((hoff 16 (by kernel_rfl)).symm.trans h0_) (by decide)⟩
                refine steps_cons ?_ ?_
                · rintro b a w' ⟨v163, adz_v163, v166, adz_v166, v175, adz_v175, m6_, m8_, m16_, ha, Q_HI159, Q_HB, Q_HI159_e1, Q_HO164, Q_HA_HO164, Q_HO167, Q_HA_HO167, Q_HI159_e5, Q_HI159_e11, Q_HO176, Q_HA_HO176, Q_HI159_e15, Q_X6_, Q_X8_, Q_X16_⟩ hb_ hon hoff
                  refine ⟨_, rfl, fun K hK => ?_⟩
                  have e8 : a.tmps[8]? = some (.int .i64 t160) := by rw [ha]; exact putSel_on (e := (1, 8, .int .i64 t160)) 0 rfl rfl (hon 1 (by kernel_rfl)) rfl
                  replace ha := Aside0.mk ha
                  have HB := Aside0.mk Q_HB
                  refine Kd.R_lit_step (Kd.int .i64) _ 3 ?hg (N := 9) ?hd (xs := ([t160, (-1), 8] : List Int)) (inner := [.int .i64 t160, .int .i64 (-1), .int .i64 8]) (ok := fun _ => True) (okp := fun _ => True) ?hr ?hp (fun _ hk => hk) trivial (Below.refl _ _) (Nat.le_refl _) (by simp) ?_; (case hd => rfl); (case hg => rfl); (case hr => first | (go_simp; done) | (go_simp; rfl)); (case hp => exact (Reps.one (show Kd.M (Kd.int .i64) _ _ _ t160 [.int .i64 t160] from rfl) (Reps.one (show Kd.M (Kd.int .i64) _ _ _ (-1) [.int .i64 (-1)] from rfl) (Reps.one (show Kd.M (Kd.int .i64) _ _ _ 8 [.int .i64 8] from rfl) (Reps.none _ _)))))
                  intro v163 w17 ho18 hb hg_ hnew_
                  clear hg_ hnew_
                  (first | rw [← Ny162.out] at ho18 | (simp only [Int.reduceToNat] at ho18; rw [← Ny162.out] at ho18))
                  have n0_ := Aside0.mk (Kd.R_lower ho18 (below_size (by repeat (first | (with_reducible first | exact HB.out | apply below_alloc | apply pw_below_drewN | apply below_drew1) | exact HB.out))))
                  have n2_ := Aside0.mk (below_step (by repeat (first | (with_reducible first | exact HB.out | apply below_alloc | apply pw_below_drewN | apply below_drew1) | exact HB.out)) hb)
                  have z_HI159_e1 := fun (h0_ : b 1 = true) (h1_ : b 5 = false) => (show IsS47 w w17 g159 t157 t161 from by first | exact (IsS47.below (by repeat (first | (with_reducible first | exact (Q_HI159_e1 h0_ h1_) | apply IsS47.alloc | apply IsS47.drewN | apply IsS47.drew | apply IsS47.set_1) | exact (Q_HI159_e1 h0_ h1_))) hb))
                  have z_HO167 := fun (h0_ : b 3 = true) => (show Kd.R (Kd.int .i64) 3 w17 w.heap.size (fun _ => True) v166 y165 from by first | exact (Kd.R_elder' (by (with_reducible repeat (first | apply Kd.R_alloc | apply Kd.R_drewN | apply Kd.R_drew)); exact (Q_HO167 h0_)) (Kd.R_base ho18) hb) | exact Kd.R_mono (Kd.R_elder' (by (with_reducible repeat (first | apply Kd.R_alloc | apply Kd.R_drewN | apply Kd.R_drew)); exact (Q_HO167 h0_)) (Kd.R_base ho18) hb) (fun _ h_ => by first | trivial | exact h_ | exact h_.1))
                  have z_HI159_e5 := fun (h0_ : b 5 = true) (h1_ : b 11 = false) => (show IsS47 w w17 g159 t157 t169 from by first | exact (IsS47.below (by repeat (first | (with_reducible first | exact (Q_HI159_e5 h0_ h1_) | apply IsS47.alloc | apply IsS47.drewN | apply IsS47.drew | apply IsS47.set_1) | exact (Q_HI159_e5 h0_ h1_))) hb))
                  have z_HI159_e11 := fun (h0_ : b 11 = true) (h1_ : b 15 = false) => (show IsS47 w w17 g159 t157 t173 from by first | exact (IsS47.below (by repeat (first | (with_reducible first | exact (Q_HI159_e11 h0_ h1_) | apply IsS47.alloc | apply IsS47.drewN | apply IsS47.drew | apply IsS47.set_1) | exact (Q_HI159_e11 h0_ h1_))) hb))
                  have z_HO176 := fun (h0_ : b 13 = true) => (show Kd.R (Kd.int .i64) 3 w17 w.heap.size (fun _ => True) v175 y174 from by first | exact (Kd.R_elder' (by (with_reducible repeat (first | apply Kd.R_alloc | apply Kd.R_drewN | apply Kd.R_drew)); exact (Q_HO176 h0_)) (Kd.R_base ho18) hb) | exact Kd.R_mono (Kd.R_elder' (by (with_reducible repeat (first | apply Kd.R_alloc | apply Kd.R_drewN | apply Kd.R_drew)); exact (Q_HO176 h0_)) (Kd.R_base ho18) hb) (fun _ h_ => by first | trivial | exact h_ | exact h_.1))
                  have z_HI159_e15 := fun (h0_ : b 15 = true) => (show IsS47 w w17 g159 t157 t178 from by first | exact (IsS47.below (by repeat (first | (with_reducible first | exact (Q_HI159_e15 h0_) | apply IsS47.alloc | apply IsS47.drewN | apply IsS47.drew | apply IsS47.set_1) | exact (Q_HI159_e15 h0_))) hb))
                  clear HB
                  have HO164 := n0_
                  have HB := n2_
                  clear n0_ n2_
                  clear hb ho18
                  obtain ⟨Ao19, co19, eo19⟩ := Kd.R_slice HO164.out
                  subst eo19
                  obtain ⟨ado19, fo19, _⟩ := Kd.at_int (Kd.R_reads' HO164.out).2.2 0 (by decide) (by rw [Ny162.out]; simp)
                  cases fo19
                  refine hK.out _ _ ⟨.slice (some ado19) y162.length co19, ado19, v166, adz_v166, v175, adz_v175, m6_, m8_, m16_, (by rw [ha.out]; exact putSel_upk 1 hb_ rfl rfl rfl), fun h0_ => absurd ((hon 1 (by kernel_rfl)).symm.trans h0_) (by decide), (by repeat (first | (with_reducible first | exact HB.out | apply below_alloc | apply pw_below_drewN | apply below_drew1) | exact HB.out)), z_HI159_e1, fun _ => (by (with_reducible repeat (first | apply Kd.R_alloc | apply Kd.R_drewN | apply Kd.R_drew)); exact HO164.out), fun _ => ⟨_, rfl⟩, z_HO167, Q_HA_HO167, z_HI159_e5, z_HI159_e11, z_HO176, Q_HA_HO176, z_HI159_e15, Q_X6_, fun h0_ => absurd ((hoff 8 (by kernel_rfl)).symm.trans h0_) (by decide), Q_X16_⟩
                refine steps_cons ?_ ?_
                · rintro b a w' ⟨v163, adz_v163, v166, adz_v166, v175, adz_v175, m6_, m8_, m16_, ha, Q_HI159, Q_HB, Q_HI159_e1, Q_HO164, Q_HA_HO164, Q_HO167, Q_HA_HO167, Q_HI159_e5, Q_HI159_e11, Q_HO176, Q_HA_HO176, Q_HI159_e15, Q_X6_, Q_X8_, Q_X16_⟩ hb_ hon hoff
                  refine ⟨_, rfl, fun K hK => ?_⟩
                  replace ha := Aside0.mk ha
                  have HB := Aside0.mk Q_HB
                  refine Kd.R_lit_step (Kd.int .i64) _ 3 ?hg (N := 10) ?hd (xs := ([0, 0, 0, 1, 2] : List Int)) (inner := [.int .i64 0, .int .i64 0, .int .i64 0, .int .i64 1, .int .i64 2]) (ok := fun _ => True) (okp := fun _ => True) ?hr ?hp (fun _ hk => hk) trivial (Below.refl _ _) (Nat.le_refl _) (by simp) ?_; (case hd => rfl); (case hg => rfl); (case hr => first | (go_simp; done) | (go_simp; rfl)); (case hp => exact (Reps.one (show Kd.M (Kd.int .i64) _ _ _ 0 [.int .i64 0] from rfl) (Reps.one (show Kd.M (Kd.int .i64) _ _ _ 0 [.int .i64 0] from rfl) (Reps.one (show Kd.M (Kd.int .i64) _ _ _ 0 [.int .i64 0] from rfl) (Reps.one (show Kd.M (Kd.int .i64) _ _ _ 1 [.int .i64 1] from rfl) (Reps.one (show Kd.M (Kd.int .i64) _ _ _ 2 [.int .i64 2] from rfl) (Reps.none _ _)))))))
                  intro v166 w15 ho16 hb hg_ hnew_
                  clear hg_ hnew_
                  (first | rw [← Ny165.out] at ho16 | (simp only [Int.reduceToNat] at ho16; rw [← Ny165.out] at ho16))
                  have n0_ := Aside0.mk (Kd.R_lower ho16 (below_size (by repeat (first | (with_reducible first | exact HB.out | apply below_alloc | apply pw_below_drewN | apply below_drew1) | exact HB.out))))
                  have n2_ := Aside0.mk (below_step (by repeat (first | (with_reducible first | exact HB.out | apply below_alloc | apply pw_below_drewN | apply below_drew1) | exact HB.out)) hb)
                  have z_HI159 := fun (h0_ : b 1 = false) => (show IsS47 w w15 g159 t157 t158 from by first | exact (IsS47.below (by repeat (first | (with_reducible first | exact (Q_HI159 h0_) | apply IsS47.alloc | apply IsS47.drewN | apply IsS47.drew | apply IsS47.set_1) | exact (Q_HI159 h0_))) hb))
                  have z_HI159_e1 := fun (h0_ : b 1 = true) (h1_ : b 5 = false) => (show IsS47 w w15 g159 t157 t161 from by first | exact (IsS47.below (by repeat (first | (with_reducible first | exact (Q_HI159_e1 h0_ h1_) | apply IsS47.alloc | apply IsS47.drewN | apply IsS47.drew | apply IsS47.set_1) | exact (Q_HI159_e1 h0_ h1_))) hb))
                  have z_HO164 := fun (h0_ : b 2 = true) => (show Kd.R (Kd.int .i64) 3 w15 w.heap.size (fun _ => True) v163 y162 from by first | exact (Kd.R_elder' (by (with_reducible repeat (first | apply Kd.R_alloc | apply Kd.R_drewN | apply Kd.R_drew)); exact (Q_HO164 h0_)) (Kd.R_base ho16) hb) | exact Kd.R_mono (Kd.R_elder' (by (with_reducible repeat (first | apply Kd.R_alloc | apply Kd.R_drewN | apply Kd.R_drew)); exact (Q_HO164 h0_)) (Kd.R_base ho16) hb) (fun _ h_ => by first | trivial | exact h_ | exact h_.1))
                  have z_HI159_e5 := fun (h0_ : b 5 = true) (h1_ : b 11 = false) => (show IsS47 w w15 g159 t157 t169 from by first | exact (IsS47.below (by repeat (first | (with_reducible first | exact (Q_HI159_e5 h0_ h1_) | apply IsS47.alloc | apply IsS47.drewN | apply IsS47.drew | apply IsS47.set_1) | exact (Q_HI159_e5 h0_ h1_))) hb))
                  have z_HI159_e11 := fun (h0_ : b 11 = true) (h1_ : b 15 = false) => (show IsS47 w w15 g159 t157 t173 from by first | exact (IsS47.below (by repeat (first | (with_reducible first | exact (Q_HI159_e11 h0_ h1_) | apply IsS47.alloc | apply IsS47.drewN | apply IsS47.drew | apply IsS47.set_1) | exact (Q_HI159_e11 h0_ h1_))) hb))
                  have z_HO176 := fun (h0_ : b 13 = true) => (show Kd.R (Kd.int .i64) 3 w15 w.heap.size (fun _ => True) v175 y174 from by first | exact (Kd.R_elder' (by (with_reducible repeat (first | apply Kd.R_alloc | apply Kd.R_drewN | apply Kd.R_drew)); exact (Q_HO176 h0_)) (Kd.R_base ho16) hb) | exact Kd.R_mono (Kd.R_elder' (by (with_reducible repeat (first | apply Kd.R_alloc | apply Kd.R_drewN | apply Kd.R_drew)); exact (Q_HO176 h0_)) (Kd.R_base ho16) hb) (fun _ h_ => by first | trivial | exact h_ | exact h_.1))
                  have z_HI159_e15 := fun (h0_ : b 15 = true) => (show IsS47 w w15 g159 t157 t178 from by first | exact (IsS47.below (by repeat (first | (with_reducible first | exact (Q_HI159_e15 h0_) | apply IsS47.alloc | apply IsS47.drewN | apply IsS47.drew | apply IsS47.set_1) | exact (Q_HI159_e15 h0_))) hb))
                  clear HB
                  have HO167 := n0_
                  have HB := n2_
                  clear n0_ n2_
                  clear hb ho16
                  obtain ⟨Ao17, co17, eo17⟩ := Kd.R_slice HO167.out
                  subst eo17
                  obtain ⟨ado17, fo17, _⟩ := Kd.at_int (Kd.R_reads' HO167.out).2.2 0 (by decide) (by rw [Ny165.out]; simp)
                  cases fo17
                  refine hK.out _ _ ⟨v163, adz_v163, .slice (some ado17) y165.length co17, ado17, v175, adz_v175, m6_, m8_, m16_, (by rw [ha.out]; exact putSel_upk 2 hb_ rfl rfl rfl), z_HI159, (by repeat (first | (with_reducible first | exact HB.out | apply below_alloc | apply pw_below_drewN | apply below_drew1) | exact HB.out)), z_HI159_e1, z_HO164, Q_HA_HO164, fun _ => (by (with_reducible repeat (first | apply Kd.R_alloc | apply Kd.R_drewN | apply Kd.R_drew)); exact HO167.out), fun _ => ⟨_, rfl⟩, z_HI159_e5, z_HI159_e11, z_HO176, Q_HA_HO176, z_HI159_e15, fun h0_ => absurd ((hoff 6 (by kernel_rfl)).symm.trans h0_) (by decide), fun h0_ => absurd ((hoff 8 (by kernel_rfl)).symm.trans h0_) (by decide), Q_X16_⟩
                refine steps_cons ?_ ?_
                · rintro b a w' ⟨v163, adz_v163, v166, adz_v166, v175, adz_v175, m6_, m8_, m16_, ha, Q_HI159, Q_HB, Q_HI159_e1, Q_HO164, Q_HA_HO164, Q_HO167, Q_HA_HO167, Q_HI159_e5, Q_HI159_e11, Q_HO176, Q_HA_HO176, Q_HI159_e15, Q_X6_, Q_X8_, Q_X16_⟩ hb_ hon hoff
                  refine ⟨_, rfl, fun K hK => ?_⟩
                  have e11 : a.tmps[11]? = some (.pointer (some ⟨g159, 0, none⟩)) := by rw [ha]; exact (putSel_off rfl).trans rfl
                  replace ha := Aside0.mk ha
                  have HB := Aside0.mk Q_HB
                  have HI159 := Aside0.mk (Q_HI159_e1 (hon 1 (by kernel_rfl)) hb_)
                  refine goes_ Tryd.func27 (by kernel_rfl) rfl #[.pointer (some ⟨g159, 0, none⟩), .int .i64 5] (by rfl) rfl rfl (by first | (simp only [List.map_toArray, List.map_cons, List.map_nil, Act.eval, Array.getD_eq_getD_getElem?, Option.getD_some, e11]; done) | (simp only [List.map_toArray, List.map_cons, List.map_nil, Act.eval, Array.getD_eq_getD_getElem?, Option.getD_some, e11]; rfl)) ?_
                  with_reducible refine (spec_l20Rd_pick.calls k g159 t157 t161 5 t168 t169 w _ ?side1 ?side2 A4.out).mono ?_
                  (case side1 => repeat (first | (with_reducible first | exact HI159.out | apply IsS47.alloc | apply IsS47.drewN | apply IsS47.drew | apply IsS47.set_1) | exact HI159.out))
                  (case side2 => repeat (first | (with_reducible first | exact HB.out | apply below_alloc | apply pw_below_drewN | apply below_drew1 | refine below_set ?_ (IsS47.ge HI159.out)) | exact HB.out))
                  rintro e w17 ⟨rfl, hi, hb, hk⟩
                  refine ⟨_, rfl, ?_⟩
                  have n0_ := Aside0.mk (hb)
                  have n1_ := Aside0.mk (hi)
                  have z_HO164 := fun (h0_ : b 2 = true) => (show Kd.R (Kd.int .i64) 3 w17 w.heap.size (fun _ => True) v163 y162 from by first | exact (Kd.R_mono (Kd.R_keep (IsS47.apart (show IsS47 w _ g159 t157 t161 from by repeat (first | (with_reducible first | exact HI159.out | apply IsS47.alloc | apply IsS47.drewN | apply IsS47.drew | apply IsS47.set_1) | exact HI159.out)) (by (with_reducible repeat (first | apply Kd.R_alloc | apply Kd.R_drewN | apply Kd.R_drew)); exact (Q_HO164 h0_)) (by decide)) hk (fun _ h => h.2)) (fun _ h => h.1)) | exact Kd.R_mono (Kd.R_mono (Kd.R_keep (IsS47.apart (show IsS47 w _ g159 t157 t161 from by repeat (first | (with_reducible first | exact HI159.out | apply IsS47.alloc | apply IsS47.drewN | apply IsS47.drew | apply IsS47.set_1) | exact HI159.out)) (by (with_reducible repeat (first | apply Kd.R_alloc | apply Kd.R_drewN | apply Kd.R_drew)); exact (Q_HO164 h0_)) (by decide)) hk (fun _ h => h.2)) (fun _ h => h.1)) (fun _ h_ => by first | trivial | exact h_ | exact h_.1))
                  have z_HO167 := fun (h0_ : b 3 = true) => (show Kd.R (Kd.int .i64) 3 w17 w.heap.size (fun _ => True) v166 y165 from by first | exact (Kd.R_mono (Kd.R_keep (IsS47.apart (show IsS47 w _ g159 t157 t161 from by repeat (first | (with_reducible first | exact HI159.out | apply IsS47.alloc | apply IsS47.drewN | apply IsS47.drew | apply IsS47.set_1) | exact HI159.out)) (by (with_reducible repeat (first | apply Kd.R_alloc | apply Kd.R_drewN | apply Kd.R_drew)); exact (Q_HO167 h0_)) (by decide)) hk (fun _ h => h.2)) (fun _ h => h.1)) | exact Kd.R_mono (Kd.R_mono (Kd.R_keep (IsS47.apart (show IsS47 w _ g159 t157 t161 from by repeat (first | (with_reducible first | exact HI159.out | apply IsS47.alloc | apply IsS47.drewN | apply IsS47.drew | apply IsS47.set_1) | exact HI159.out)) (by (with_reducible repeat (first | apply Kd.R_alloc | apply Kd.R_drewN | apply Kd.R_drew)); exact (Q_HO167 h0_)) (by decide)) hk (fun _ h => h.2)) (fun _ h => h.1)) (fun _ h_ => by first | trivial | exact h_ | exact h_.1))
                  clear HB
                  clear HI159
                  have HB := n0_
                  have HI159 := n1_
                  clear n0_ n1_
                  (try clear hb)
                  (try clear hb2)
                  (try clear hk)
                  (try clear hi)
                  refine hK.out _ _ ⟨v163, adz_v163, v166, adz_v166, v175, adz_v175, m6_, m8_, m16_, (by rw [ha.out]; exact putSel_upk 3 hb_ rfl rfl rfl), fun h0_ => absurd ((hon 1 (by kernel_rfl)).symm.trans h0_) (by decide), (by repeat (first | (with_reducible first | exact HB.out | apply below_alloc | apply pw_below_drewN | apply below_drew1 | refine below_set ?_ (IsS47.ge HI159.out)) | exact HB.out)), fun _ h1_ => absurd ((up_self b 5).symm.trans h1_) (by decide), z_HO164, Q_HA_HO164, z_HO167, Q_HA_HO167, fun _ _ => (by repeat (first | (with_reducible first | exact HI159.out | apply IsS47.alloc | apply IsS47.drewN | apply IsS47.drew | apply IsS47.set_1) | exact HI159.out)), fun h0_ _ => absurd ((hoff 11 (by kernel_rfl)).symm.trans h0_) (by decide), fun h0_ => absurd ((hoff 13 (by kernel_rfl)).symm.trans h0_) (by decide), fun h0_ => absurd ((hoff 13 (by kernel_rfl)).symm.trans h0_) (by decide), fun h0_ => absurd ((hoff 15 (by kernel_rfl)).symm.trans h0_) (by decide), fun h0_ => absurd ((hoff 6 (by kernel_rfl)).symm.trans h0_) (by decide), fun h0_ => absurd ((hoff 8 (by kernel_rfl)).symm.trans h0_) (by decide), fun h0_ => absurd ((hoff 16 (by kernel_rfl)).symm.trans h0_) (by decide)⟩
                refine steps_cons ?_ ?_
                · rintro b a w' ⟨v163, adz_v163, v166, adz_v166, v175, adz_v175, m6_, m8_, m16_, ha, Q_HI159, Q_HB, Q_HI159_e1, Q_HO164, Q_HA_HO164, Q_HO167, Q_HA_HO167, Q_HI159_e5, Q_HI159_e11, Q_HO176, Q_HA_HO176, Q_HI159_e15, Q_X6_, Q_X8_, Q_X16_⟩ hb_ hon hoff
                  refine ⟨_, rfl, fun K hK => ?_⟩
                  have e10 : a.tmps[10]? = some (v166) := by rw [ha]; exact putSel_on (e := (3, 10, v166)) 2 rfl rfl (hon 3 (by kernel_rfl)) rfl
                  have e12 : a.tmps[12]? = some (.int .i64 t168) := by rw [ha]; exact putSel_on (e := (5, 12, .int .i64 t168)) 3 rfl rfl (hon 5 (by kernel_rfl)) rfl
                  replace ha := Aside0.mk ha
                  have HB := Aside0.mk Q_HB
                  have HO167 := Aside0.mk (Q_HO167 (hon 3 (by kernel_rfl)))
                  have HA_HO167 := Aside0.mk (Q_HA_HO167 (hon 3 (by kernel_rfl)))
                  obtain ⟨c_, hv_⟩ := HA_HO167.out
                  rw [hv_] at e10
                  refine value_ (w1 := w') (v := .pointer (some (adz_v166.add (t168).toNat))) (by rfl) rfl ?_ ?_
                  · go_simp
                    (try simp only [i64_w])
                    try rfl
                  refine hK.out _ _ ⟨v163, adz_v163, v166, adz_v166, v175, adz_v175, (.pointer (some (adz_v166.add (t168).toNat))), m8_, m16_, (by rw [ha.out]; exact putSel_upk 4 hb_ rfl rfl rfl), fun h0_ => absurd ((hon 1 (by kernel_rfl)).symm.trans h0_) (by decide), Q_HB, fun _ h1_ => absurd ((hon 5 (by kernel_rfl)).symm.trans h1_) (by decide), Q_HO164, Q_HA_HO164, Q_HO167, Q_HA_HO167, Q_HI159_e5, Q_HI159_e11, Q_HO176, Q_HA_HO176, Q_HI159_e15, fun _ => rfl, fun h0_ => absurd ((hoff 8 (by kernel_rfl)).symm.trans h0_) (by decide), Q_X16_⟩
                refine steps_cons ?_ ?_
                · rintro b a w' ⟨v163, adz_v163, v166, adz_v166, v175, adz_v175, m6_, m8_, m16_, ha, Q_HI159, Q_HB, Q_HI159_e1, Q_HO164, Q_HA_HO164, Q_HO167, Q_HA_HO167, Q_HI159_e5, Q_HI159_e11, Q_HO176, Q_HA_HO176, Q_HI159_e15, Q_X6_, Q_X8_, Q_X16_⟩ hb_ hon hoff
                  refine ⟨_, rfl, fun K hK => ?_⟩
                  have e13 : a.tmps[13]? = some (m6_) := by rw [ha]; exact putSel_on (e := (6, 13, m6_)) 4 rfl rfl (hon 6 (by kernel_rfl)) rfl
                  rw [Q_X6_ (hon 6 (by kernel_rfl))] at e13
                  replace ha := Aside0.mk ha
                  have HB := Aside0.mk Q_HB
                  have HO167 := Aside0.mk (Q_HO167 (hon 3 (by kernel_rfl)))
                  have HA_HO167 := Aside0.mk (Q_HA_HO167 (hon 3 (by kernel_rfl)))
                  obtain ⟨c_, hv_⟩ := HA_HO167.out
                  have hF_ := HO167.out
                  rw [hv_] at hF_
                  obtain ⟨ad_, ea_, hx_⟩ := Kd.at_int (Kd.R_reads' hF_).2.2 t168 (of_eq_true pi170) (of_eq_true qi170)
                  cases ea_
                  refine value_ (w1 := w') (v := .int .i64 (rd y165 t168)) (by rfl) rfl ?_ ?_
                  · go_simp
                    (try simp only [i64_w])
                    try rfl
                  refine hK.out _ _ ⟨v163, adz_v163, v166, adz_v166, v175, adz_v175, m6_, m8_, m16_, (by rw [ha.out]; exact putSel_upk 5 hb_ rfl rfl rfl), fun h0_ => absurd ((hon 1 (by kernel_rfl)).symm.trans h0_) (by decide), Q_HB, fun _ h1_ => absurd ((hon 5 (by kernel_rfl)).symm.trans h1_) (by decide), Q_HO164, Q_HA_HO164, Q_HO167, Q_HA_HO167, Q_HI159_e5, Q_HI159_e11, Q_HO176, Q_HA_HO176, Q_HI159_e15, Q_X6_, fun h0_ => absurd ((hoff 8 (by kernel_rfl)).symm.trans h0_) (by decide), Q_X16_⟩
                refine steps_cons ?_ ?_
                · rintro b a w' ⟨v163, adz_v163, v166, adz_v166, v175, adz_v175, m6_, m8_, m16_, ha, Q_HI159, Q_HB, Q_HI159_e1, Q_HO164, Q_HA_HO164, Q_HO167, Q_HA_HO167, Q_HI159_e5, Q_HI159_e11, Q_HO176, Q_HA_HO176, Q_HI159_e15, Q_X6_, Q_X8_, Q_X16_⟩ hb_ hon hoff
                  refine ⟨_, rfl, fun K hK => ?_⟩
                  have e9 : a.tmps[9]? = some (v163) := by rw [ha]; exact putSel_on (e := (2, 9, v163)) 1 rfl rfl (hon 2 (by kernel_rfl)) rfl
                  have e14 : a.tmps[14]? = some (.int .i64 (rd y165 t168)) := by rw [ha]; exact putSel_on (e := (7, 14, .int .i64 (rd y165 t168))) 5 rfl rfl (hon 7 (by kernel_rfl)) rfl
                  replace ha := Aside0.mk ha
                  have HB := Aside0.mk Q_HB
                  have HO164 := Aside0.mk (Q_HO164 (hon 2 (by kernel_rfl)))
                  have HA_HO164 := Aside0.mk (Q_HA_HO164 (hon 2 (by kernel_rfl)))
                  have HO167 := Aside0.mk (Q_HO167 (hon 3 (by kernel_rfl)))
                  have HA_HO167 := Aside0.mk (Q_HA_HO167 (hon 3 (by kernel_rfl)))
                  obtain ⟨c_, hv_⟩ := HA_HO164.out
                  rw [hv_] at e9
                  refine value_ (w1 := w') (v := .pointer (some (adz_v163.add ((rd y165 t168)).toNat))) (by rfl) rfl ?_ ?_
                  · go_simp
                    (try simp only [i64_w])
                    try rfl
                  refine hK.out _ _ ⟨v163, adz_v163, v166, adz_v166, v175, adz_v175, m6_, (.pointer (some (adz_v163.add ((rd y165 t168)).toNat))), m16_, (by rw [ha.out]; exact putSel_upk 6 hb_ rfl rfl rfl), fun h0_ => absurd ((hon 1 (by kernel_rfl)).symm.trans h0_) (by decide), Q_HB, fun _ h1_ => absurd ((hon 5 (by kernel_rfl)).symm.trans h1_) (by decide), Q_HO164, Q_HA_HO164, Q_HO167, Q_HA_HO167, Q_HI159_e5, Q_HI159_e11, Q_HO176, Q_HA_HO176, Q_HI159_e15, Q_X6_, fun _ => rfl, Q_X16_⟩
                refine steps_cons ?_ ?_
                · rintro b a w' ⟨v163, adz_v163, v166, adz_v166, v175, adz_v175, m6_, m8_, m16_, ha, Q_HI159, Q_HB, Q_HI159_e1, Q_HO164, Q_HA_HO164, Q_HO167, Q_HA_HO167, Q_HI159_e5, Q_HI159_e11, Q_HO176, Q_HA_HO176, Q_HI159_e15, Q_X6_, Q_X8_, Q_X16_⟩ hb_ hon hoff
                  refine ⟨_, rfl, fun K hK => ?_⟩
                  have e15 : a.tmps[15]? = some (m8_) := by rw [ha]; exact putSel_on (e := (8, 15, m8_)) 6 rfl rfl (hon 8 (by kernel_rfl)) rfl
                  rw [Q_X8_ (hon 8 (by kernel_rfl))] at e15
                  replace ha := Aside0.mk ha
                  have HB := Aside0.mk Q_HB
                  have HO164 := Aside0.mk (Q_HO164 (hon 2 (by kernel_rfl)))
                  have HA_HO164 := Aside0.mk (Q_HA_HO164 (hon 2 (by kernel_rfl)))
                  have HO167 := Aside0.mk (Q_HO167 (hon 3 (by kernel_rfl)))
                  have HA_HO167 := Aside0.mk (Q_HA_HO167 (hon 3 (by kernel_rfl)))
                  obtain ⟨c_, hv_⟩ := HA_HO164.out
                  have hF_ := HO164.out
                  rw [hv_] at hF_
                  obtain ⟨ad_, ea_, hx_⟩ := Kd.at_int (Kd.R_reads' hF_).2.2 (rd y165 t168) (of_eq_true pi171) (of_eq_true qi171)
                  cases ea_
                  refine value_ (w1 := w') (v := .int .i64 (rd y162 (rd y165 t168))) (by rfl) rfl ?_ ?_
                  · go_simp
                    (try simp only [i64_w])
                    try rfl
                  refine hK.out _ _ ⟨v163, adz_v163, v166, adz_v166, v175, adz_v175, m6_, m8_, m16_, (by rw [ha.out]; exact putSel_upk 7 hb_ rfl rfl rfl), fun h0_ => absurd ((hon 1 (by kernel_rfl)).symm.trans h0_) (by decide), Q_HB, fun _ h1_ => absurd ((hon 5 (by kernel_rfl)).symm.trans h1_) (by decide), Q_HO164, Q_HA_HO164, Q_HO167, Q_HA_HO167, Q_HI159_e5, Q_HI159_e11, Q_HO176, Q_HA_HO176, Q_HI159_e15, Q_X6_, Q_X8_, Q_X16_⟩
                refine steps_cons ?_ ?_
                · rintro b a w' ⟨v163, adz_v163, v166, adz_v166, v175, adz_v175, m6_, m8_, m16_, ha, Q_HI159, Q_HB, Q_HI159_e1, Q_HO164, Q_HA_HO164, Q_HO167, Q_HA_HO167, Q_HI159_e5, Q_HI159_e11, Q_HO176, Q_HA_HO176, Q_HI159_e15, Q_X6_, Q_X8_, Q_X16_⟩ hb_ hon hoff
                  refine ⟨_, rfl, fun K hK => ?_⟩
                  have e17 : a.tmps[17]? = some (.pointer (some ⟨g159, 0, none⟩)) := by rw [ha]; exact (putSel_off rfl).trans rfl
                  replace ha := Aside0.mk ha
                  have HB := Aside0.mk Q_HB
                  have HI159 := Aside0.mk (Q_HI159_e5 (hon 5 (by kernel_rfl)) hb_)
                  refine goes_ Tryd.func27 (by kernel_rfl) rfl #[.pointer (some ⟨g159, 0, none⟩), .int .i64 99] (by rfl) rfl rfl (by first | (simp only [List.map_toArray, List.map_cons, List.map_nil, Act.eval, Array.getD_eq_getD_getElem?, Option.getD_some, e17]; done) | (simp only [List.map_toArray, List.map_cons, List.map_nil, Act.eval, Array.getD_eq_getD_getElem?, Option.getD_some, e17]; rfl)) ?_
                  with_reducible refine (spec_l20Rd_pick.calls k g159 t157 t169 99 t172 t173 w _ ?side1 ?side2 A9.out).mono ?_
                  (case side1 => repeat (first | (with_reducible first | exact HI159.out | apply IsS47.alloc | apply IsS47.drewN | apply IsS47.drew | apply IsS47.set_1) | exact HI159.out))
                  (case side2 => repeat (first | (with_reducible first | exact HB.out | apply below_alloc | apply pw_below_drewN | apply below_drew1 | refine below_set ?_ (IsS47.ge HI159.out)) | exact HB.out))
                  rintro e w18 ⟨rfl, hi, hb, hk⟩
                  refine ⟨_, rfl, ?_⟩
                  have n0_ := Aside0.mk (hb)
                  have n1_ := Aside0.mk (hi)
                  have z_HO164 := fun (h0_ : b 2 = true) => (show Kd.R (Kd.int .i64) 3 w18 w.heap.size (fun _ => True) v163 y162 from by first | exact (Kd.R_mono (Kd.R_keep (IsS47.apart (show IsS47 w _ g159 t157 t169 from by repeat (first | (with_reducible first | exact HI159.out | apply IsS47.alloc | apply IsS47.drewN | apply IsS47.drew | apply IsS47.set_1) | exact HI159.out)) (by (with_reducible repeat (first | apply Kd.R_alloc | apply Kd.R_drewN | apply Kd.R_drew)); exact (Q_HO164 h0_)) (by decide)) hk (fun _ h => h.2)) (fun _ h => h.1)) | exact Kd.R_mono (Kd.R_mono (Kd.R_keep (IsS47.apart (show IsS47 w _ g159 t157 t169 from by repeat (first | (with_reducible first | exact HI159.out | apply IsS47.alloc | apply IsS47.drewN | apply IsS47.drew | apply IsS47.set_1) | exact HI159.out)) (by (with_reducible repeat (first | apply Kd.R_alloc | apply Kd.R_drewN | apply Kd.R_drew)); exact (Q_HO164 h0_)) (by decide)) hk (fun _ h => h.2)) (fun _ h => h.1)) (fun _ h_ => by first | trivial | exact h_ | exact h_.1))
                  have z_HO167 := fun (h0_ : b 3 = true) => (show Kd.R (Kd.int .i64) 3 w18 w.heap.size (fun _ => True) v166 y165 from by first | exact (Kd.R_mono (Kd.R_keep (IsS47.apart (show IsS47 w _ g159 t157 t169 from by repeat (first | (with_reducible first | exact HI159.out | apply IsS47.alloc | apply IsS47.drewN | apply IsS47.drew | apply IsS47.set_1) | exact HI159.out)) (by (with_reducible repeat (first | apply Kd.R_alloc | apply Kd.R_drewN | apply Kd.R_drew)); exact (Q_HO167 h0_)) (by decide)) hk (fun _ h => h.2)) (fun _ h => h.1)) | exact Kd.R_mono (Kd.R_mono (Kd.R_keep (IsS47.apart (show IsS47 w _ g159 t157 t169 from by repeat (first | (with_reducible first | exact HI159.out | apply IsS47.alloc | apply IsS47.drewN | apply IsS47.drew | apply IsS47.set_1) | exact HI159.out)) (by (with_reducible repeat (first | apply Kd.R_alloc | apply Kd.R_drewN | apply Kd.R_drew)); exact (Q_HO167 h0_)) (by decide)) hk (fun _ h => h.2)) (fun _ h => h.1)) (fun _ h_ => by first | trivial | exact h_ | exact h_.1))
                  clear HB
                  clear HI159
                  have HB := n0_
                  have HI159 := n1_
                  clear n0_ n1_
                  (try clear hb)
                  (try clear hb2)
                  (try clear hk)
                  (try clear hi)
                  refine hK.out _ _ ⟨v163, adz_v163, v166, adz_v166, v175, adz_v175, m6_, m8_, m16_, (by rw [ha.out]; exact putSel_upk 8 hb_ rfl rfl rfl), fun h0_ => absurd ((hon 1 (by kernel_rfl)).symm.trans h0_) (by decide), (by repeat (first | (with_reducible first | exact HB.out | apply below_alloc | apply pw_below_drewN | apply below_drew1 | refine below_set ?_ (IsS47.ge HI159.out)) | exact HB.out)), fun _ h1_ => absurd ((hon 5 (by kernel_rfl)).symm.trans h1_) (by decide), z_HO164, Q_HA_HO164, z_HO167, Q_HA_HO167, fun _ h1_ => absurd ((up_self b 11).symm.trans h1_) (by decide), fun _ _ => (by repeat (first | (with_reducible first | exact HI159.out | apply IsS47.alloc | apply IsS47.drewN | apply IsS47.drew | apply IsS47.set_1) | exact HI159.out)), fun h0_ => absurd ((hoff 13 (by kernel_rfl)).symm.trans h0_) (by decide), fun h0_ => absurd ((hoff 13 (by kernel_rfl)).symm.trans h0_) (by decide), fun h0_ => absurd ((hoff 15 (by kernel_rfl)).symm.trans h0_) (by decide), Q_X6_, Q_X8_, fun h0_ => absurd ((hoff 16 (by kernel_rfl)).symm.trans h0_) (by decide)⟩
                refine steps_cons ?_ ?_
                · rintro b a w' ⟨v163, adz_v163, v166, adz_v166, v175, adz_v175, m6_, m8_, m16_, ha, Q_HI159, Q_HB, Q_HI159_e1, Q_HO164, Q_HA_HO164, Q_HO167, Q_HA_HO167, Q_HI159_e5, Q_HI159_e11, Q_HO176, Q_HA_HO176, Q_HI159_e15, Q_X6_, Q_X8_, Q_X16_⟩ hb_ hon hoff
                  refine ⟨_, rfl, fun K hK => ?_⟩
                  have e18 : a.tmps[18]? = some (.int .i64 t172) := by rw [ha]; exact putSel_on (e := (11, 18, .int .i64 t172)) 8 rfl rfl (hon 11 (by kernel_rfl)) rfl
                  replace ha := Aside0.mk ha
                  have HB := Aside0.mk Q_HB
                  refine value_ (w1 := w') (v := .int .i64 (wrap64 (1 + t172))) (by rfl) rfl ?_ ?_
                  · go_simp
                    (try simp only [i64_w])
                    try rfl
                  refine hK.out _ _ ⟨v163, adz_v163, v166, adz_v166, v175, adz_v175, m6_, m8_, m16_, (by rw [ha.out]; exact putSel_upk 9 hb_ rfl rfl rfl), fun h0_ => absurd ((hon 1 (by kernel_rfl)).symm.trans h0_) (by decide), Q_HB, fun _ h1_ => absurd ((hon 5 (by kernel_rfl)).symm.trans h1_) (by decide), Q_HO164, Q_HA_HO164, Q_HO167, Q_HA_HO167, fun _ h1_ => absurd ((hon 11 (by kernel_rfl)).symm.trans h1_) (by decide), Q_HI159_e11, fun h0_ => absurd ((hoff 13 (by kernel_rfl)).symm.trans h0_) (by decide), fun h0_ => absurd ((hoff 13 (by kernel_rfl)).symm.trans h0_) (by decide), Q_HI159_e15, Q_X6_, Q_X8_, fun h0_ => absurd ((hoff 16 (by kernel_rfl)).symm.trans h0_) (by decide)⟩
                refine steps_cons ?_ ?_
                · rintro b a w' ⟨v163, adz_v163, v166, adz_v166, v175, adz_v175, m6_, m8_, m16_, ha, Q_HI159, Q_HB, Q_HI159_e1, Q_HO164, Q_HA_HO164, Q_HO167, Q_HA_HO167, Q_HI159_e5, Q_HI159_e11, Q_HO176, Q_HA_HO176, Q_HI159_e15, Q_X6_, Q_X8_, Q_X16_⟩ hb_ hon hoff
                  refine ⟨_, rfl, fun K hK => ?_⟩
                  have e19 : a.tmps[19]? = some (.int .i64 (wrap64 (1 + t172))) := by rw [ha]; exact putSel_on (e := (12, 19, .int .i64 (wrap64 (1 + t172)))) 9 rfl rfl (hon 12 (by kernel_rfl)) rfl
                  replace ha := Aside0.mk ha
                  have HB := Aside0.mk Q_HB
                  refine Kd.R_lit_step (Kd.int .i64) _ 3 ?hg (N := 20) ?hd (xs := ([wrap64 (1 + t172), 0, 100, 99, (-1)] : List Int)) (inner := [.int .i64 (wrap64 (1 + t172)), .int .i64 0, .int .i64 100, .int .i64 99, .int .i64 (-1)]) (ok := fun _ => True) (okp := fun _ => True) ?hr ?hp (fun _ hk => hk) trivial (Below.refl _ _) (Nat.le_refl _) (by simp) ?_; (case hd => rfl); (case hg => rfl); (case hr => first | (go_simp; done) | (go_simp; rfl)); (case hp => exact (Reps.one (show Kd.M (Kd.int .i64) _ _ _ (wrap64 (1 + t172)) [.int .i64 (wrap64 (1 + t172))] from rfl) (Reps.one (show Kd.M (Kd.int .i64) _ _ _ 0 [.int .i64 0] from rfl) (Reps.one (show Kd.M (Kd.int .i64) _ _ _ 100 [.int .i64 100] from rfl) (Reps.one (show Kd.M (Kd.int .i64) _ _ _ 99 [.int .i64 99] from rfl) (Reps.one (show Kd.M (Kd.int .i64) _ _ _ (-1) [.int .i64 (-1)] from rfl) (Reps.none _ _)))))))
                  intro v175 w19 ho20 hb hg_ hnew_
                  clear hg_ hnew_
                  (first | rw [← Ny174.out] at ho20 | (simp only [Int.reduceToNat] at ho20; rw [← Ny174.out] at ho20))
                  have n0_ := Aside0.mk (Kd.R_lower ho20 (below_size (by repeat (first | (with_reducible first | exact HB.out | apply below_alloc | apply pw_below_drewN | apply below_drew1) | exact HB.out))))
                  have n2_ := Aside0.mk (below_step (by repeat (first | (with_reducible first | exact HB.out | apply below_alloc | apply pw_below_drewN | apply below_drew1) | exact HB.out)) hb)
                  have z_HO164 := fun (h0_ : b 2 = true) => (show Kd.R (Kd.int .i64) 3 w19 w.heap.size (fun _ => True) v163 y162 from by first | exact (Kd.R_elder' (by (with_reducible repeat (first | apply Kd.R_alloc | apply Kd.R_drewN | apply Kd.R_drew)); exact (Q_HO164 h0_)) (Kd.R_base ho20) hb) | exact Kd.R_mono (Kd.R_elder' (by (with_reducible repeat (first | apply Kd.R_alloc | apply Kd.R_drewN | apply Kd.R_drew)); exact (Q_HO164 h0_)) (Kd.R_base ho20) hb) (fun _ h_ => by first | trivial | exact h_ | exact h_.1))
                  have z_HO167 := fun (h0_ : b 3 = true) => (show Kd.R (Kd.int .i64) 3 w19 w.heap.size (fun _ => True) v166 y165 from by first | exact (Kd.R_elder' (by (with_reducible repeat (first | apply Kd.R_alloc | apply Kd.R_drewN | apply Kd.R_drew)); exact (Q_HO167 h0_)) (Kd.R_base ho20) hb) | exact Kd.R_mono (Kd.R_elder' (by (with_reducible repeat (first | apply Kd.R_alloc | apply Kd.R_drewN | apply Kd.R_drew)); exact (Q_HO167 h0_)) (Kd.R_base ho20) hb) (fun _ h_ => by first | trivial | exact h_ | exact h_.1))
                  have z_HI159_e11 := fun (h0_ : b 11 = true) (h1_ : b 15 = false) => (show IsS47 w w19 g159 t157 t173 from by first | exact (IsS47.below (by repeat (first | (with_reducible first | exact (Q_HI159_e11 h0_ h1_) | apply IsS47.alloc | apply IsS47.drewN | apply IsS47.drew | apply IsS47.set_1) | exact (Q_HI159_e11 h0_ h1_))) hb))
                  have z_HI159_e15 := fun (h0_ : b 15 = true) => (show IsS47 w w19 g159 t157 t178 from by first | exact (IsS47.below (by repeat (first | (with_reducible first | exact (Q_HI159_e15 h0_) | apply IsS47.alloc | apply IsS47.drewN | apply IsS47.drew | apply IsS47.set_1) | exact (Q_HI159_e15 h0_))) hb))
                  clear HB
                  have HO176 := n0_
                  have HB := n2_
                  clear n0_ n2_
                  clear hb ho20
                  obtain ⟨Ao21, co21, eo21⟩ := Kd.R_slice HO176.out
                  subst eo21
                  obtain ⟨ado21, fo21, _⟩ := Kd.at_int (Kd.R_reads' HO176.out).2.2 0 (by decide) (by rw [Ny174.out]; simp)
                  cases fo21
                  refine hK.out _ _ ⟨v163, adz_v163, v166, adz_v166, .slice (some ado21) y174.length co21, ado21, m6_, m8_, m16_, (by rw [ha.out]; exact putSel_upk 10 hb_ rfl rfl rfl), fun h0_ => absurd ((hon 1 (by kernel_rfl)).symm.trans h0_) (by decide), (by repeat (first | (with_reducible first | exact HB.out | apply below_alloc | apply pw_below_drewN | apply below_drew1) | exact HB.out)), fun _ h1_ => absurd ((hon 5 (by kernel_rfl)).symm.trans h1_) (by decide), z_HO164, Q_HA_HO164, z_HO167, Q_HA_HO167, fun _ h1_ => absurd ((hon 11 (by kernel_rfl)).symm.trans h1_) (by decide), z_HI159_e11, fun _ => (by (with_reducible repeat (first | apply Kd.R_alloc | apply Kd.R_drewN | apply Kd.R_drew)); exact HO176.out), fun _ => ⟨_, rfl⟩, z_HI159_e15, Q_X6_, Q_X8_, fun h0_ => absurd ((hoff 16 (by kernel_rfl)).symm.trans h0_) (by decide)⟩
                refine steps_cons ?_ ?_
                · rintro b a w' ⟨v163, adz_v163, v166, adz_v166, v175, adz_v175, m6_, m8_, m16_, ha, Q_HI159, Q_HB, Q_HI159_e1, Q_HO164, Q_HA_HO164, Q_HO167, Q_HA_HO167, Q_HI159_e5, Q_HI159_e11, Q_HO176, Q_HA_HO176, Q_HI159_e15, Q_X6_, Q_X8_, Q_X16_⟩ hb_ hon hoff
                  refine ⟨_, rfl, fun K hK => ?_⟩
                  have e21 : a.tmps[21]? = some (.pointer (some ⟨g159, 0, none⟩)) := by rw [ha]; exact (putSel_off rfl).trans rfl
                  replace ha := Aside0.mk ha
                  have HB := Aside0.mk Q_HB
                  have HI159 := Aside0.mk (Q_HI159_e11 (hon 11 (by kernel_rfl)) hb_)
                  refine goes_ Tryd.func27 (by kernel_rfl) rfl #[.pointer (some ⟨g159, 0, none⟩), .int .i64 5] (by rfl) rfl rfl (by first | (simp only [List.map_toArray, List.map_cons, List.map_nil, Act.eval, Array.getD_eq_getD_getElem?, Option.getD_some, e21]; done) | (simp only [List.map_toArray, List.map_cons, List.map_nil, Act.eval, Array.getD_eq_getD_getElem?, Option.getD_some, e21]; rfl)) ?_
                  with_reducible refine (spec_l20Rd_pick.calls k g159 t157 t173 5 t177 t178 w _ ?side1 ?side2 A10.out).mono ?_
                  (case side1 => repeat (first | (with_reducible first | exact HI159.out | apply IsS47.alloc | apply IsS47.drewN | apply IsS47.drew | apply IsS47.set_1) | exact HI159.out))
                  (case side2 => repeat (first | (with_reducible first | exact HB.out | apply below_alloc | apply pw_below_drewN | apply below_drew1 | refine below_set ?_ (IsS47.ge HI159.out)) | exact HB.out))
                  rintro e w19 ⟨rfl, hi, hb, hk⟩
                  refine ⟨_, rfl, ?_⟩
                  have n0_ := Aside0.mk (hb)
                  have n1_ := Aside0.mk (hi)
                  have z_HO164 := fun (h0_ : b 2 = true) => (show Kd.R (Kd.int .i64) 3 w19 w.heap.size (fun _ => True) v163 y162 from by first | exact (Kd.R_mono (Kd.R_keep (IsS47.apart (show IsS47 w _ g159 t157 t173 from by repeat (first | (with_reducible first | exact HI159.out | apply IsS47.alloc | apply IsS47.drewN | apply IsS47.drew | apply IsS47.set_1) | exact HI159.out)) (by (with_reducible repeat (first | apply Kd.R_alloc | apply Kd.R_drewN | apply Kd.R_drew)); exact (Q_HO164 h0_)) (by decide)) hk (fun _ h => h.2)) (fun _ h => h.1)) | exact Kd.R_mono (Kd.R_mono (Kd.R_keep (IsS47.apart (show IsS47 w _ g159 t157 t173 from by repeat (first | (with_reducible first | exact HI159.out | apply IsS47.alloc | apply IsS47.drewN | apply IsS47.drew | apply IsS47.set_1) | exact HI159.out)) (by (with_reducible repeat (first | apply Kd.R_alloc | apply Kd.R_drewN | apply Kd.R_drew)); exact (Q_HO164 h0_)) (by decide)) hk (fun _ h => h.2)) (fun _ h => h.1)) (fun _ h_ => by first | trivial | exact h_ | exact h_.1))
                  have z_HO167 := fun (h0_ : b 3 = true) => (show Kd.R (Kd.int .i64) 3 w19 w.heap.size (fun _ => True) v166 y165 from by first | exact (Kd.R_mono (Kd.R_keep (IsS47.apart (show IsS47 w _ g159 t157 t173 from by repeat (first | (with_reducible first | exact HI159.out | apply IsS47.alloc | apply IsS47.drewN | apply IsS47.drew | apply IsS47.set_1) | exact HI159.out)) (by (with_reducible repeat (first | apply Kd.R_alloc | apply Kd.R_drewN | apply Kd.R_drew)); exact (Q_HO167 h0_)) (by decide)) hk (fun _ h => h.2)) (fun _ h => h.1)) | exact Kd.R_mono (Kd.R_mono (Kd.R_keep (IsS47.apart (show IsS47 w _ g159 t157 t173 from by repeat (first | (with_reducible first | exact HI159.out | apply IsS47.alloc | apply IsS47.drewN | apply IsS47.drew | apply IsS47.set_1) | exact HI159.out)) (by (with_reducible repeat (first | apply Kd.R_alloc | apply Kd.R_drewN | apply Kd.R_drew)); exact (Q_HO167 h0_)) (by decide)) hk (fun _ h => h.2)) (fun _ h => h.1)) (fun _ h_ => by first | trivial | exact h_ | exact h_.1))
                  have z_HO176 := fun (h0_ : b 13 = true) => (show Kd.R (Kd.int .i64) 3 w19 w.heap.size (fun _ => True) v175 y174 from by first | exact (Kd.R_mono (Kd.R_keep (IsS47.apart (show IsS47 w _ g159 t157 t173 from by repeat (first | (with_reducible first | exact HI159.out | apply IsS47.alloc | apply IsS47.drewN | apply IsS47.drew | apply IsS47.set_1) | exact HI159.out)) (by (with_reducible repeat (first | apply Kd.R_alloc | apply Kd.R_drewN | apply Kd.R_drew)); exact (Q_HO176 h0_)) (by decide)) hk (fun _ h => h.2)) (fun _ h => h.1)) | exact Kd.R_mono (Kd.R_mono (Kd.R_keep (IsS47.apart (show IsS47 w _ g159 t157 t173 from by repeat (first | (with_reducible first | exact HI159.out | apply IsS47.alloc | apply IsS47.drewN | apply IsS47.drew | apply IsS47.set_1) | exact HI159.out)) (by (with_reducible repeat (first | apply Kd.R_alloc | apply Kd.R_drewN | apply Kd.R_drew)); exact (Q_HO176 h0_)) (by decide)) hk (fun _ h => h.2)) (fun _ h => h.1)) (fun _ h_ => by first | trivial | exact h_ | exact h_.1))
                  clear HB
                  clear HI159
                  have HB := n0_
                  have HI159 := n1_
                  clear n0_ n1_
                  (try clear hb)
                  (try clear hb2)
                  (try clear hk)
                  (try clear hi)
                  refine hK.out _ _ ⟨v163, adz_v163, v166, adz_v166, v175, adz_v175, m6_, m8_, m16_, (by rw [ha.out]; exact putSel_upk 11 hb_ rfl rfl rfl), fun h0_ => absurd ((hon 1 (by kernel_rfl)).symm.trans h0_) (by decide), (by repeat (first | (with_reducible first | exact HB.out | apply below_alloc | apply pw_below_drewN | apply below_drew1 | refine below_set ?_ (IsS47.ge HI159.out)) | exact HB.out)), fun _ h1_ => absurd ((hon 5 (by kernel_rfl)).symm.trans h1_) (by decide), z_HO164, Q_HA_HO164, z_HO167, Q_HA_HO167, fun _ h1_ => absurd ((hon 11 (by kernel_rfl)).symm.trans h1_) (by decide), fun _ h1_ => absurd ((up_self b 15).symm.trans h1_) (by decide), z_HO176, Q_HA_HO176, fun _ => (by repeat (first | (with_reducible first | exact HI159.out | apply IsS47.alloc | apply IsS47.drewN | apply IsS47.drew | apply IsS47.set_1) | exact HI159.out)), Q_X6_, Q_X8_, fun h0_ => absurd ((hoff 16 (by kernel_rfl)).symm.trans h0_) (by decide)⟩
                refine steps_cons ?_ ?_
                · rintro b a w' ⟨v163, adz_v163, v166, adz_v166, v175, adz_v175, m6_, m8_, m16_, ha, Q_HI159, Q_HB, Q_HI159_e1, Q_HO164, Q_HA_HO164, Q_HO167, Q_HA_HO167, Q_HI159_e5, Q_HI159_e11, Q_HO176, Q_HA_HO176, Q_HI159_e15, Q_X6_, Q_X8_, Q_X16_⟩ hb_ hon hoff
                  refine ⟨_, rfl, fun K hK => ?_⟩
                  have e20 : a.tmps[20]? = some (v175) := by rw [ha]; exact putSel_on (e := (13, 20, v175)) 10 rfl rfl (hon 13 (by kernel_rfl)) rfl
                  have e22 : a.tmps[22]? = some (.int .i64 t177) := by rw [ha]; exact putSel_on (e := (15, 22, .int .i64 t177)) 11 rfl rfl (hon 15 (by kernel_rfl)) rfl
                  replace ha := Aside0.mk ha
                  have HB := Aside0.mk Q_HB
                  have HO176 := Aside0.mk (Q_HO176 (hon 13 (by kernel_rfl)))
                  have HA_HO176 := Aside0.mk (Q_HA_HO176 (hon 13 (by kernel_rfl)))
                  have HI159 := Aside0.mk (Q_HI159_e15 (hon 15 (by kernel_rfl)))
                  obtain ⟨c_, hv_⟩ := HA_HO176.out
                  rw [hv_] at e20
                  refine value_ (w1 := w') (v := .pointer (some (adz_v175.add (t177).toNat))) (by rfl) rfl ?_ ?_
                  · go_simp
                    (try simp only [i64_w])
                    try rfl
                  refine hK.out _ _ ⟨v163, adz_v163, v166, adz_v166, v175, adz_v175, m6_, m8_, (.pointer (some (adz_v175.add (t177).toNat))), (by rw [ha.out]; exact putSel_upk 12 hb_ rfl rfl rfl), fun h0_ => absurd ((hon 1 (by kernel_rfl)).symm.trans h0_) (by decide), Q_HB, fun _ h1_ => absurd ((hon 5 (by kernel_rfl)).symm.trans h1_) (by decide), Q_HO164, Q_HA_HO164, Q_HO167, Q_HA_HO167, fun _ h1_ => absurd ((hon 11 (by kernel_rfl)).symm.trans h1_) (by decide), fun _ h1_ => absurd ((hon 15 (by kernel_rfl)).symm.trans h1_) (by decide), Q_HO176, Q_HA_HO176, Q_HI159_e15, Q_X6_, Q_X8_, fun _ => rfl⟩
                refine steps_cons ?_ ?_
                · rintro b a w' ⟨v163, adz_v163, v166, adz_v166, v175, adz_v175, m6_, m8_, m16_, ha, Q_HI159, Q_HB, Q_HI159_e1, Q_HO164, Q_HA_HO164, Q_HO167, Q_HA_HO167, Q_HI159_e5, Q_HI159_e11, Q_HO176, Q_HA_HO176, Q_HI159_e15, Q_X6_, Q_X8_, Q_X16_⟩ hb_ hon hoff
                  refine ⟨_, rfl, fun K hK => ?_⟩
                  have e23 : a.tmps[23]? = some (m16_) := by rw [ha]; exact putSel_on (e := (16, 23, m16_)) 12 rfl rfl (hon 16 (by kernel_rfl)) rfl
                  rw [Q_X16_ (hon 16 (by kernel_rfl))] at e23
                  replace ha := Aside0.mk ha
                  have HB := Aside0.mk Q_HB
                  have HO176 := Aside0.mk (Q_HO176 (hon 13 (by kernel_rfl)))
                  have HA_HO176 := Aside0.mk (Q_HA_HO176 (hon 13 (by kernel_rfl)))
                  have HI159 := Aside0.mk (Q_HI159_e15 (hon 15 (by kernel_rfl)))
                  obtain ⟨c_, hv_⟩ := HA_HO176.out
                  have hF_ := HO176.out
                  rw [hv_] at hF_
                  obtain ⟨ad_, ea_, hx_⟩ := Kd.at_int (Kd.R_reads' hF_).2.2 t177 (of_eq_true pi179) (of_eq_true qi179)
                  cases ea_
                  refine value_ (w1 := w') (v := .int .i64 (rd y174 t177)) (by rfl) rfl ?_ ?_
                  · go_simp
                    (try simp only [i64_w])
                    try rfl
                  refine hK.out _ _ ⟨v163, adz_v163, v166, adz_v166, v175, adz_v175, m6_, m8_, m16_, (by rw [ha.out]; exact putSel_upk 13 hb_ rfl rfl rfl), fun h0_ => absurd ((hon 1 (by kernel_rfl)).symm.trans h0_) (by decide), Q_HB, fun _ h1_ => absurd ((hon 5 (by kernel_rfl)).symm.trans h1_) (by decide), Q_HO164, Q_HA_HO164, Q_HO167, Q_HA_HO167, fun _ h1_ => absurd ((hon 11 (by kernel_rfl)).symm.trans h1_) (by decide), fun _ h1_ => absurd ((hon 15 (by kernel_rfl)).symm.trans h1_) (by decide), Q_HO176, Q_HA_HO176, Q_HI159_e15, Q_X6_, Q_X8_, Q_X16_⟩
                refine steps_cons ?_ ?_
                · rintro b a w' ⟨v163, adz_v163, v166, adz_v166, v175, adz_v175, m6_, m8_, m16_, ha, Q_HI159, Q_HB, Q_HI159_e1, Q_HO164, Q_HA_HO164, Q_HO167, Q_HA_HO167, Q_HI159_e5, Q_HI159_e11, Q_HO176, Q_HA_HO176, Q_HI159_e15, Q_X6_, Q_X8_, Q_X16_⟩ hb_ hon hoff
                  refine ⟨_, rfl, fun K hK => ?_⟩
                  have e16 : a.tmps[16]? = some (.int .i64 (rd y162 (rd y165 t168))) := by rw [ha]; exact putSel_on (e := (9, 16, .int .i64 (rd y162 (rd y165 t168)))) 7 rfl rfl (hon 9 (by kernel_rfl)) rfl
                  replace ha := Aside0.mk ha
                  have HB := Aside0.mk Q_HB
                  have HO164 := Aside0.mk (Q_HO164 (hon 2 (by kernel_rfl)))
                  have HA_HO164 := Aside0.mk (Q_HA_HO164 (hon 2 (by kernel_rfl)))
                  have HO167 := Aside0.mk (Q_HO167 (hon 3 (by kernel_rfl)))
                  have HA_HO167 := Aside0.mk (Q_HA_HO167 (hon 3 (by kernel_rfl)))
                  have HI159 := Aside0.mk (Q_HI159_e15 (hon 15 (by kernel_rfl)))
                  refine value_ (w1 := w') (v := .int .i64 (rd y162 (rd y165 t168))) (by rfl) rfl ?_ ?_
                  · go_simp
                    (try simp only [i64_w])
                    try rfl
                  refine hK.out _ _ ⟨v163, adz_v163, v166, adz_v166, v175, adz_v175, m6_, m8_, m16_, (by rw [ha.out]; exact putSel_upk 14 hb_ rfl rfl rfl), fun h0_ => absurd ((hon 1 (by kernel_rfl)).symm.trans h0_) (by decide), Q_HB, fun _ h1_ => absurd ((hon 5 (by kernel_rfl)).symm.trans h1_) (by decide), Q_HO164, Q_HA_HO164, Q_HO167, Q_HA_HO167, fun _ h1_ => absurd ((hon 11 (by kernel_rfl)).symm.trans h1_) (by decide), fun _ h1_ => absurd ((hon 15 (by kernel_rfl)).symm.trans h1_) (by decide), Q_HO176, Q_HA_HO176, Q_HI159_e15, Q_X6_, Q_X8_, Q_X16_⟩
                refine steps_cons ?_ ?_
                · rintro b a w' ⟨v163, adz_v163, v166, adz_v166, v175, adz_v175, m6_, m8_, m16_, ha, Q_HI159, Q_HB, Q_HI159_e1, Q_HO164, Q_HA_HO164, Q_HO167, Q_HA_HO167, Q_HI159_e5, Q_HI159_e11, Q_HO176, Q_HA_HO176, Q_HI159_e15, Q_X6_, Q_X8_, Q_X16_⟩ hb_ hon hoff
                  refine ⟨_, rfl, fun K hK => ?_⟩
                  have e24 : a.tmps[24]? = some (.int .i64 (rd y174 t177)) := by rw [ha]; exact putSel_on (e := (17, 24, .int .i64 (rd y174 t177))) 13 rfl rfl (hon 17 (by kernel_rfl)) rfl
                  replace ha := Aside0.mk ha
                  have HB := Aside0.mk Q_HB
                  have HO164 := Aside0.mk (Q_HO164 (hon 2 (by kernel_rfl)))
                  have HA_HO164 := Aside0.mk (Q_HA_HO164 (hon 2 (by kernel_rfl)))
                  have HO167 := Aside0.mk (Q_HO167 (hon 3 (by kernel_rfl)))
                  have HA_HO167 := Aside0.mk (Q_HA_HO167 (hon 3 (by kernel_rfl)))
                  have HO176 := Aside0.mk (Q_HO176 (hon 13 (by kernel_rfl)))
                  have HA_HO176 := Aside0.mk (Q_HA_HO176 (hon 13 (by kernel_rfl)))
                  have HI159 := Aside0.mk (Q_HI159_e15 (hon 15 (by kernel_rfl)))
                  refine value_ (w1 := w') (v := .int .i64 (rd y174 t177)) (by rfl) rfl ?_ ?_
                  · go_simp
                    (try simp only [i64_w])
                    try rfl
                  refine hK.out _ _ ⟨v163, adz_v163, v166, adz_v166, v175, adz_v175, m6_, m8_, m16_, (by rw [ha.out]; exact putSel_upk 15 hb_ rfl rfl rfl), fun h0_ => absurd ((hon 1 (by kernel_rfl)).symm.trans h0_) (by decide), Q_HB, fun _ h1_ => absurd ((hon 5 (by kernel_rfl)).symm.trans h1_) (by decide), Q_HO164, Q_HA_HO164, Q_HO167, Q_HA_HO167, fun _ h1_ => absurd ((hon 11 (by kernel_rfl)).symm.trans h1_) (by decide), fun _ h1_ => absurd ((hon 15 (by kernel_rfl)).symm.trans h1_) (by decide), Q_HO176, Q_HA_HO176, Q_HI159_e15, Q_X6_, Q_X8_, Q_X16_⟩
                exact steps_nil
              rintro b a w28 hall ⟨v163, adz_v163, v166, adz_v166, v175, adz_v175, m6_, m8_, m16_, ha, Q_HI159, Q_HB, Q_HI159_e1, Q_HO164, Q_HA_HO164, Q_HO167, Q_HA_HO167, Q_HI159_e5, Q_HI159_e11, Q_HO176, Q_HA_HO176, Q_HI159_e15, Q_X6_, Q_X8_, Q_X16_⟩
              clear HB HI159
              have hb1_ := hall 1 (by kernel_rfl)
              have hb2_ := hall 2 (by kernel_rfl)
              have hb3_ := hall 3 (by kernel_rfl)
              have hb5_ := hall 5 (by kernel_rfl)
              have hb6_ := hall 6 (by kernel_rfl)
              have hb7_ := hall 7 (by kernel_rfl)
              have hb8_ := hall 8 (by kernel_rfl)
              have hb9_ := hall 9 (by kernel_rfl)
              have hb11_ := hall 11 (by kernel_rfl)
              have hb12_ := hall 12 (by kernel_rfl)
              have hb13_ := hall 13 (by kernel_rfl)
              have hb15_ := hall 15 (by kernel_rfl)
              have hb16_ := hall 16 (by kernel_rfl)
              have hb17_ := hall 17 (by kernel_rfl)
              have hb18_ := hall 18 (by kernel_rfl)
              have hb19_ := hall 19 (by kernel_rfl)
              subst ha
              obtain rfl := Q_X6_ hb6_
              obtain rfl := Q_X8_ hb8_
              obtain rfl := Q_X16_ hb16_
              simp only [putSel, hb1_, hb2_, hb3_, hb5_, hb6_, hb7_, hb8_, hb9_, hb11_, hb12_, hb13_, hb15_, hb16_, hb17_, hb18_, hb19_, if_true, Act.put, List.setIfInBounds_toArray, List.set_cons_zero, List.set_cons_succ]
              clear Q_HI159
              have HB := Aside0.mk Q_HB
              clear Q_HB
              clear Q_HI159_e1
              have HO164 := Aside0.mk (Q_HO164 hb2_)
              clear Q_HO164
              have HA_HO164 := Aside0.mk (Q_HA_HO164 hb2_)
              clear Q_HA_HO164
              have HO167 := Aside0.mk (Q_HO167 hb3_)
              clear Q_HO167
              have HA_HO167 := Aside0.mk (Q_HA_HO167 hb3_)
              clear Q_HA_HO167
              clear Q_HI159_e5
              clear Q_HI159_e11
              have HO176 := Aside0.mk (Q_HO176 hb13_)
              clear Q_HO176
              have HA_HO176 := Aside0.mk (Q_HA_HO176 hb13_)
              clear Q_HA_HO176
              have HI159 := Aside0.mk (Q_HI159_e15 hb15_)
              clear Q_HI159_e15
              clear hall hb1_ hb2_ hb3_ hb5_ hb6_ hb7_ hb8_ hb9_ hb11_ hb12_ hb13_ hb15_ hb16_ hb17_ hb18_ hb19_
              obtain ⟨co29, eo29⟩ := HA_HO164.out
              clear HA_HO164
              subst eo29
              obtain ⟨co30, eo30⟩ := HA_HO167.out
              clear HA_HO167
              subst eo30
              obtain ⟨co31, eo31⟩ := HA_HO176.out
              clear HA_HO176
              subst eo31
              try go_wp2
              go_ret2
              exact ⟨by first | rfl | (simp [errW_none, errW_some] <;> rfl) | (simp [*, errW_none, errW_some] <;> rfl), by repeat (first | (with_reducible first | exact HB.out | apply below_alloc | apply pw_below_drewN | apply below_drew1 | refine below_set ?_ (IsS47.ge HI159.out)) | exact HB.out)⟩
            · rw [if_neg c12] at H
              exact absurd H (by simp)
          · rw [if_neg c11] at H
            exact absurd H (by simp)
        · rw [if_neg c8] at H
          exact absurd H (by simp)
      · rw [if_neg c7] at H
        exact absurd H (by simp)
    · rw [if_neg c6] at H
      exact absurd H (by simp)
  · rw [if_neg c5] at H
    exact absurd H (by simp)

-- GIVEN: function 17 (impl_SecMade)

end Go.Proofs.YtfiiiaemojdliaaDoor.Walk
