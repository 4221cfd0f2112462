-- Written by this session's own program (wip/tools/pp.py) out of the translation, over functions given by hand. Lean checks it.
import Derived.Test.YtjbnfcljkmapeaaDoorYox0
import Derived.Test.YtjbnfcljkmapeaaDoorYox1
namespace Go.Proofs.YtjbnfcljkmapeaaDoor.Yo
open Go.RowKit Go.Proofs.YtjbnfcljkmapeaaDoorW.PrintWords Go.Proofs.YtjbnfcljkmapeaaDoorW.PrintLast Go.Proofs.YtjbnfcljkmapeaaDoorW.PrintMore
attribute [local go_sem] max2_int min2_int max_two min_two max_three min_three max_four min_four   -- for this text's walks alone
set_option linter.unusedVariables false
set_option linter.unusedSimpArgs false

/-! ### spec_MakNew: function 71 -/
def spec_MakNew.j0 : Nat → Int → Int → Bool → Option (ByteArray)
  | 0, _, _, _ => none
  | k + 1, x0, x1, x12 => if x12 = true then (some (⟨#[]⟩ : ByteArray)) else ((spec_l1Who.f x0).bind fun t114 => ((spec_l1Plain.f k x1).bind fun t115 => (if t114.size + t115.size ≤ 9223372036854775807 then (if (t114 ++ t115).size + 1 ≤ 9223372036854775807 then (some ((t114 ++ t115) ++ (⟨#[59]⟩ : ByteArray))) else (none)) else (none))))
def spec_MakNew.f (k : Nat) (a0 : Int) (a1 : Int) : Option (ByteArray) := (spec_l1In.f a0 0 7).bind fun t112 => (if t112 = true then ((spec_l1In.f a1 1 99).bind fun t113 => (spec_MakNew.j0 k a0 a1 (!t113))) else (spec_MakNew.j0 k a0 a1 true))
theorem spec_MakNew.mono_l : ∀ k, (∀ y0 y1 y2, LeO (spec_MakNew.j0 k y0 y1 y2) (spec_MakNew.j0 (k + 1) y0 y1 y2))
  | 0 => fun _ _ _ r h => by simp [spec_MakNew.j0] at h
  | k + 1 => by
    have ih0 := spec_MakNew.mono_l k
    · intro y0 y1 y2
      unfold spec_MakNew.j0
      repeat' first
      | (with_reducible exact ih0 _ _ _)
      | (with_reducible exact spec_l1Plain.mono _ _)
      | (with_reducible exact LeO.refl _)
      | (with_reducible exact LeO.none _)
      | (with_reducible refine LeO.ite ?_ ?_)
      | (with_reducible refine LeO.bind ?_ (fun _ => ?_))
      | exact LeO.none _
      | refine LeO.ite ?_ ?_
      | refine LeO.bind ?_ (fun _ => ?_)
theorem spec_MakNew.mono : ∀ a0 a1 k, LeO (spec_MakNew.f k a0 a1) (spec_MakNew.f (k + 1) a0 a1) := by
  intro a0 a1 k
  have ih0 := spec_MakNew.mono_l k
  unfold spec_MakNew.f
  repeat' first
      | (with_reducible exact ih0 _ _ _)
      | (with_reducible exact spec_l1Plain.mono _ _)
      | (with_reducible exact LeO.refl _)
      | (with_reducible exact LeO.none _)
      | (with_reducible refine LeO.ite ?_ ?_)
      | (with_reducible refine LeO.bind ?_ (fun _ => ?_))
      | exact LeO.none _
      | refine LeO.ite ?_ ?_
      | refine LeO.bind ?_ (fun _ => ?_)
set_option maxHeartbeats 8000000 in
set_option maxRecDepth 100000 in
theorem spec_MakNew.calls (k : Nat) (a0 : Int) (a1 : Int) (r : ByteArray) (w : World) (h : spec_MakNew.f k a0 a1 = some r) :
    Calls Tryd.prog 71 #[.int .i64 a0, .int .i64 a1] w fun e w' => e = .returned (.string r) ∧ Below w.heap.size w w' := by
  have HB := Aside0.mk (Below.refl w.heap.size w)
  have H : ((spec_l1In.f a0 0 7).bind fun t112 => (if t112 = true then ((spec_l1In.f a1 1 99).bind fun t113 => (spec_MakNew.j0 k a0 a1 (!t113))) else (spec_MakNew.j0 k a0 a1 true))) = some r := h
  clear h
  have HC3 := Aside0.mk H
  clear H
  go_enter Tryd.func71, Tryd.ntmps71
  go_upto_region 1 with (fail)
  go_cut [12] (fun v12 wc => ∃ (kq : Nat) (x12_2 : Bool), v12 = .bool x12_2 ∧ Aside0 (spec_MakNew.j0 kq a0 a1 x12_2 = some r) ∧ Aside0 (kq ≤ k) ∧ Aside0 (Below w.heap.size w wc))
  case first =>
    have H := HC3.out
    clear HC3
    replace H := Option.bind_eq_some_iff.mp H
    obtain ⟨t112, A40, H⟩ := H
    replace H : (if t112 = true then ((spec_l1In.f a1 1 99).bind fun t113 => (spec_MakNew.j0 k a0 a1 (!t113))) else (spec_MakNew.j0 k a0 a1 true)) = some r := H
    have A4 := Aside0.mk A40
    clear A40
    by_cases c5 : t112 = true
    · subst c5
      have H1 : ((spec_l1In.f a1 1 99).bind fun t113 => (spec_MakNew.j0 k a0 a1 (!t113))) = some r := by rw [if_pos rfl] at H; exact H
      clear H
      have H := H1
      clear H1
      replace H := Option.bind_eq_some_iff.mp H
      obtain ⟨t113, A60, H⟩ := H
      replace H : (spec_MakNew.j0 k a0 a1 (!t113)) = some r := H
      have A6 := Aside0.mk A60
      clear A60
      have H' := Aside0.mk H
      clear H
      go_wp2_with (first | ((with_reducible refine gate_callee (f := 85) rfl ?_); refine goesL_ (some 6) rfl rfl Tryd.func85 (by kernel_rfl) rfl #[.int .i64 a0, .int .i64 0, .int .i64 7] rfl y1_ ?_; (with_reducible refine (spec_l1In.calls a0 0 7 true _ A4.out).mono ?_); rintro e w' ⟨rfl, ⟨nd, rfl⟩⟩; refine ⟨_, rfl, ?_⟩) | (go_at_call 85; (with_reducible refine (spec_l1In.calls a1 1 99 t113 _ A6.out).mono ?_); rintro e w' ⟨rfl, ⟨nd, rfl⟩⟩))
      go_meet
      case rel => exact ⟨_, (!t113), y4_, H', ⟨by first | omega | exact Nat.le_refl _⟩, ⟨y7_ HB.out⟩⟩
    replace c5 := Bool.eq_false_iff.mpr c5
    subst c5
    have H1 : (spec_MakNew.j0 k a0 a1 true) = some r := by rw [if_neg (show ¬ (false = true) by decide)] at H; exact H
    clear H
    have H := H1
    clear H1
    have H' := Aside0.mk H
    clear H
    go_wp2_with (first | ((with_reducible refine gate_callee (f := 85) rfl ?_); refine goesL_ (some 6) rfl rfl Tryd.func85 (by kernel_rfl) rfl #[.int .i64 a0, .int .i64 0, .int .i64 7] rfl y1_ ?_; (with_reducible refine (spec_l1In.calls a0 0 7 false _ A4.out).mono ?_); rintro e w' ⟨rfl, ⟨nd, rfl⟩⟩; refine ⟨_, rfl, ?_⟩))
    go_meet
    case rel => exact ⟨_, (true), y4_, H', ⟨by first | omega | exact Nat.le_refl _⟩, ⟨y7_ HB.out⟩⟩
  case rest =>
    clear HC3
    try clear p2
    try clear c5
    obtain ⟨kq, x12_2, rfl, HA, HJ2, HB⟩ := hcut
    cases kq with
    | zero => exact absurd HA.out (by simp [spec_MakNew.j0])
    | succ kj2 =>
      have H := HA.out
      clear HA
      simp only [spec_MakNew.j0] at H
      by_cases c7 : x12_2 = true
      · subst c7
        have H1 : (some (⟨#[]⟩ : ByteArray)) = some r := by rw [if_pos rfl] at H; exact H
        clear H
        have H := H1
        clear H1
        obtain rfl := Option.some.inj H
        go_wp2
        go_ret
        exact ⟨y6_, y7_ HB.out⟩
      replace c7 := Bool.eq_false_iff.mpr c7
      subst c7
      have H1 : ((spec_l1Who.f a0).bind fun t114 => ((spec_l1Plain.f kj2 a1).bind fun t115 => (if t114.size + t115.size ≤ 9223372036854775807 then (if (t114 ++ t115).size + 1 ≤ 9223372036854775807 then (some ((t114 ++ t115) ++ (⟨#[59]⟩ : ByteArray))) else (none)) else (none)))) = some r := by rw [if_neg (show ¬ (false = true) by decide)] at H; exact H
      clear H
      have H := H1
      clear H1
      replace H := Option.bind_eq_some_iff.mp H
      obtain ⟨t114, A80, H⟩ := H
      replace H : ((spec_l1Plain.f kj2 a1).bind fun t115 => (if t114.size + t115.size ≤ 9223372036854775807 then (if (t114 ++ t115).size + 1 ≤ 9223372036854775807 then (some ((t114 ++ t115) ++ (⟨#[59]⟩ : ByteArray))) else (none)) else (none))) = some r := H
      have A8 := Aside0.mk A80
      clear A80
      replace H := Option.bind_eq_some_iff.mp H
      obtain ⟨t115, A90, H⟩ := H
      replace H : (if t114.size + t115.size ≤ 9223372036854775807 then (if (t114 ++ t115).size + 1 ≤ 9223372036854775807 then (some ((t114 ++ t115) ++ (⟨#[59]⟩ : ByteArray))) else (none)) else (none)) = some r := H
      have A9 := Aside0.mk A90
      clear A90
      by_cases c10 : t114.size + t115.size ≤ 9223372036854775807
      · rw [if_pos c10] at H
        have c10b0 := eq_true c10
        have c10b1 : decide (t114.size + t115.size ≤ 9223372036854775807) = true := decide_eq_true c10
        try have c10b2 : (9223372036854775807 < t114.size + t115.size) = False := eq_false (Nat.not_lt.2 c10)
        by_cases c11 : (t114 ++ t115).size + 1 ≤ 9223372036854775807
        · rw [if_pos c11] at H
          have c11b0 := eq_true c11
          have c11b1 : decide ((t114 ++ t115).size + 1 ≤ 9223372036854775807) = true := decide_eq_true c11
          try have c11b2 : (9223372036854775807 < (t114 ++ t115).size + 1) = False := eq_false (Nat.not_lt.2 c11)
          try (have c11e := c11; simp only [ByteArray.size_append] at c11e; have c11e0 := eq_true c11e; have c11e1 := decide_eq_true c11e; have c11e2 := eq_false (Nat.not_lt.2 c11e))
          obtain rfl := Option.some.inj H
          go_wp2_with (first | ((with_reducible refine gate_callee (f := 86) rfl ?_); refine goesL_ (some 14) rfl rfl Tryd.func86 (by kernel_rfl) rfl #[.int .i64 a0] rfl y1_ ?_; (with_reducible refine (spec_l1Who.calls a0 t114 _ A8.out).mono ?_); rintro e w12 ⟨rfl, hb⟩; refine ⟨_, rfl, ?_⟩; replace HB := Aside0.mk (below_step (y7_ HB.out) hb); clear hb) | ((with_reducible refine gate_callee (f := 87) rfl ?_); refine goesL_ (some 16) rfl rfl Tryd.func87 (by kernel_rfl) rfl #[.int .i64 a1] rfl y1_ ?_; (with_reducible refine (spec_l1Plain.calls kj2 a1 t115 _ A9.out).mono ?_); rintro e w13 ⟨rfl, hb⟩; refine ⟨_, rfl, ?_⟩; replace HB := Aside0.mk (below_step (y7_ HB.out) hb); clear hb))
          go_ret
          exact ⟨y6_, y7_ HB.out⟩
        rw [if_neg c11] at H
        exact absurd H (by simp)
      rw [if_neg c10] at H
      exact absurd H (by simp)

end Go.Proofs.YtjbnfcljkmapeaaDoor.Yo
