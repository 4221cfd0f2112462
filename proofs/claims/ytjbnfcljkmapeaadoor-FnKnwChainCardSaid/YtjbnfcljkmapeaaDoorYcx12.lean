-- Written by this session's own program (wip/tools/pp.py) out of the translation, over functions given by hand. Lean checks it.
import Derived.Test.YtjbnfcljkmapeaaDoorYcx0
import Derived.Test.YtjbnfcljkmapeaaDoorYcx1
import Derived.Test.YtjbnfcljkmapeaaDoorYcx2
import Derived.Test.YtjbnfcljkmapeaaDoorYcx11
import Derived.Test.YtjbnfcljkmapeaaDoorYcGivK
namespace Go.Proofs.YtjbnfcljkmapeaaDoor.Yc
open Go.RowKit Go.Proofs.YtjbnfcljkmapeaaDoorW.PrintWords Go.Proofs.YtjbnfcljkmapeaaDoorW.PrintLast Go.Proofs.YtjbnfcljkmapeaaDoorW.PrintMore
attribute [local go_sem] max2_int min2_int max_two min_two max_three min_three max_four min_four   -- for this text's walks alone
set_option linter.unusedVariables false
set_option linter.unusedSimpArgs false

/-! ### laws_FnKnwChain: function 6 -/
mutual
def laws_FnKnwChain.l0 : Nat → List Int → Int → List (S45) → Int → Option (Bool)
  | 0, _, _, _, _ => none
  | k + 1, x0, x3, x4, x5 => if x5 < x3 then (if ((x0.length : Int) % 2) = 0 then (laws_FnKnwChain.j1 k x0 x3 x4 x5 (wrap64 ((wrap64 (x3 - 1)) - x5))) else (laws_FnKnwChain.j1 k x0 x3 x4 x5 x5)) else ((impl_MakNew.f k 0 1).bind fun t197 => ((impl_KnwOpen.f (([t197] : List ByteArray)) x4).bind fun t201 => ((impl_MakNew.f k 0 (wrap64 (1 + x3))).bind fun t204 => ((impl_KnwOpen.f (([t204] : List ByteArray)) x4).bind fun t208 => (if (t201.length : Int) = (wrap64 (x3 + 1)) then ((impl_MakNew.f k 0 1).bind fun t211 => ((spec_KnwOpen.f k (([t211] : List ByteArray)) x4).bind fun t215 => ((laws_keTexts.f k t201 t215).bind fun t218 => (laws_FnKnwChain.j2 k x3 t201 t208 (!t218))))) else (laws_FnKnwChain.j2 k x3 t201 t208 true))))))
def laws_FnKnwChain.j1 : Nat → List Int → Int → List (S45) → Int → Int → Option (Bool)
  | 0, _, _, _, _, _ => none
  | k + 1, x0, x3, x4, x5, x6 => (impl_MakNew.f k 0 (wrap64 (1 + x6))).bind fun t191 => ((impl_MakKey.f k t191).bind fun t192 => ((impl_MakNew.f k 0 (wrap64 (2 + x6))).bind fun t193 => (if x4.length < 4398046511104 then (laws_FnKnwChain.l0 k x0 x3 (x4 ++ [(⟨t192, t193⟩ : S45)]) (wrap64 (x5 + 1))) else (none))))
def laws_FnKnwChain.j2 : Nat → Int → List ByteArray → List ByteArray → Bool → Option (Bool)
  | 0, _, _, _, _ => none
  | k + 1, x3, x7, x8, x66 => if x66 = true then (some false) else (laws_FnKnwChain.l1 k x3 x7 x8 0)
def laws_FnKnwChain.l1 : Nat → Int → List ByteArray → List ByteArray → Int → Option (Bool)
  | 0, _, _, _, _ => none
  | k + 1, x3, x7, x8, x9 => if x9 ≤ x3 then ((impl_MakNew.f k 0 (wrap64 (1 + x9))).bind fun t219 => ((laws_keHas.f k x7 t219).bind fun t220 => (if t220 = true then (laws_FnKnwChain.l1 k x3 x7 x8 (wrap64 (x9 + 1))) else (some false)))) else ((impl_MakNew.f k 0 (wrap64 (1 + x3))).bind fun t221 => ((laws_keTexts.f k x8 (([t221] : List ByteArray))).bind fun t225 => (some t225)))
end
def laws_FnKnwChain.f (k : Nat) (l0 : List Int) : Option (Bool) := if (l0.length : Int) > 1048576 then (some true) else (laws_FnKnwChain.l0 k l0 (1 + ((l0.length : Int) % 12)) (([] : List (S45))) 0)
theorem chain_w1 (n : Nat) : wrap64 (1 + (1 + ((n : Int) % 12))) = 1 + (1 + ((n : Int) % 12)) := by unfold wrap64; omega
theorem chain_w2 (n : Nat) : wrap64 ((1 + ((n : Int) % 12)) + 1) = 1 + ((n : Int) % 12) + 1 := by unfold wrap64; omega
theorem laws_FnKnwChain.mono_l : ∀ k, (∀ y0 y1 y2 y3, LeO (laws_FnKnwChain.l0 k y0 y1 y2 y3) (laws_FnKnwChain.l0 (k + 1) y0 y1 y2 y3)) ∧ (∀ y0 y1 y2 y3 y4, LeO (laws_FnKnwChain.j1 k y0 y1 y2 y3 y4) (laws_FnKnwChain.j1 (k + 1) y0 y1 y2 y3 y4)) ∧ (∀ y0 y1 y2 y3, LeO (laws_FnKnwChain.j2 k y0 y1 y2 y3) (laws_FnKnwChain.j2 (k + 1) y0 y1 y2 y3)) ∧ (∀ y0 y1 y2 y3, LeO (laws_FnKnwChain.l1 k y0 y1 y2 y3) (laws_FnKnwChain.l1 (k + 1) y0 y1 y2 y3))
  | 0 => ⟨fun _ _ _ _ r h => by simp [laws_FnKnwChain.l0] at h, fun _ _ _ _ _ r h => by simp [laws_FnKnwChain.j1] at h, fun _ _ _ _ r h => by simp [laws_FnKnwChain.j2] at h, fun _ _ _ _ r h => by simp [laws_FnKnwChain.l1] at h⟩
  | k + 1 => by
    obtain ⟨ih0, ih1, ih2, ih3⟩ := laws_FnKnwChain.mono_l k; refine ⟨?_, ?_, ?_, ?_⟩
    · intro y0 y1 y2 y3
      unfold laws_FnKnwChain.l0
      repeat' first
      | (with_reducible exact ih0 _ _ _ _)
      | (with_reducible exact ih1 _ _ _ _ _)
      | (with_reducible exact ih2 _ _ _ _)
      | (with_reducible exact ih3 _ _ _ _)
      | (with_reducible exact impl_MakKey.mono _ _)
      | (with_reducible exact impl_MakNew.mono _ _ _)
      | (with_reducible exact laws_keHas.mono _ _ _)
      | (with_reducible exact laws_keTexts.mono _ _ _)
      | (with_reducible exact spec_KnwOpen.mono _ _ _)
      | (with_reducible exact LeO.refl _)
      | (with_reducible exact LeO.none _)
      | (with_reducible refine LeO.ite ?_ ?_)
      | (with_reducible refine LeO.bind ?_ (fun _ => ?_))
      | exact LeO.none _
      | refine LeO.ite ?_ ?_
      | refine LeO.bind ?_ (fun _ => ?_)
    · intro y0 y1 y2 y3 y4
      unfold laws_FnKnwChain.j1
      repeat' first
      | (with_reducible exact ih0 _ _ _ _)
      | (with_reducible exact ih1 _ _ _ _ _)
      | (with_reducible exact ih2 _ _ _ _)
      | (with_reducible exact ih3 _ _ _ _)
      | (with_reducible exact impl_MakKey.mono _ _)
      | (with_reducible exact impl_MakNew.mono _ _ _)
      | (with_reducible exact laws_keHas.mono _ _ _)
      | (with_reducible exact laws_keTexts.mono _ _ _)
      | (with_reducible exact spec_KnwOpen.mono _ _ _)
      | (with_reducible exact LeO.refl _)
      | (with_reducible exact LeO.none _)
      | (with_reducible refine LeO.ite ?_ ?_)
      | (with_reducible refine LeO.bind ?_ (fun _ => ?_))
      | exact LeO.none _
      | refine LeO.ite ?_ ?_
      | refine LeO.bind ?_ (fun _ => ?_)
    · intro y0 y1 y2 y3
      unfold laws_FnKnwChain.j2
      repeat' first
      | (with_reducible exact ih0 _ _ _ _)
      | (with_reducible exact ih1 _ _ _ _ _)
      | (with_reducible exact ih2 _ _ _ _)
      | (with_reducible exact ih3 _ _ _ _)
      | (with_reducible exact impl_MakKey.mono _ _)
      | (with_reducible exact impl_MakNew.mono _ _ _)
      | (with_reducible exact laws_keHas.mono _ _ _)
      | (with_reducible exact laws_keTexts.mono _ _ _)
      | (with_reducible exact spec_KnwOpen.mono _ _ _)
      | (with_reducible exact LeO.refl _)
      | (with_reducible exact LeO.none _)
      | (with_reducible refine LeO.ite ?_ ?_)
      | (with_reducible refine LeO.bind ?_ (fun _ => ?_))
      | exact LeO.none _
      | refine LeO.ite ?_ ?_
      | refine LeO.bind ?_ (fun _ => ?_)
    intro y0 y1 y2 y3; unfold laws_FnKnwChain.l1
    repeat' first
    | (with_reducible exact ih0 _ _ _ _)
    | (with_reducible exact ih1 _ _ _ _ _)
    | (with_reducible exact ih2 _ _ _ _)
    | (with_reducible exact ih3 _ _ _ _)
    | (with_reducible exact impl_MakKey.mono _ _)
    | (with_reducible exact impl_MakNew.mono _ _ _)
    | (with_reducible exact laws_keHas.mono _ _ _)
    | (with_reducible exact laws_keTexts.mono _ _ _)
    | (with_reducible exact spec_KnwOpen.mono _ _ _)
    | (with_reducible exact LeO.refl _)
    | (with_reducible exact LeO.none _)
    | (with_reducible refine LeO.ite ?_ ?_)
    | (with_reducible refine LeO.bind ?_ (fun _ => ?_))
    | exact LeO.none _
    | refine LeO.ite ?_ ?_
    | refine LeO.bind ?_ (fun _ => ?_)
theorem laws_FnKnwChain.mono : ∀ a0 k, LeO (laws_FnKnwChain.f k a0) (laws_FnKnwChain.f (k + 1) a0) := by
  intro a0 k; obtain ⟨ih0, ih1, ih2, ih3⟩ := laws_FnKnwChain.mono_l k; unfold laws_FnKnwChain.f
  repeat' first
      | (with_reducible exact ih0 _ _ _ _)
      | (with_reducible exact ih1 _ _ _ _ _)
      | (with_reducible exact ih2 _ _ _ _)
      | (with_reducible exact ih3 _ _ _ _)
      | (with_reducible exact impl_MakKey.mono _ _)
      | (with_reducible exact impl_MakNew.mono _ _ _)
      | (with_reducible exact laws_keHas.mono _ _ _)
      | (with_reducible exact laws_keTexts.mono _ _ _)
      | (with_reducible exact spec_KnwOpen.mono _ _ _)
      | (with_reducible exact LeO.refl _)
      | (with_reducible exact LeO.none _)
      | (with_reducible refine LeO.ite ?_ ?_)
      | (with_reducible refine LeO.bind ?_ (fun _ => ?_))
      | exact LeO.none _
      | refine LeO.ite ?_ ?_
      | refine LeO.bind ?_ (fun _ => ?_)
set_option maxHeartbeats 8000000 in
set_option maxRecDepth 100000 in
theorem laws_FnKnwChain.calls (k : Nat) (A0 : Option Addr) (c0 : Nat) (l0 : List Int) (r : Bool) (w : World) (hr0 : Kd.C (Kd.int .u8) w A0 l0.length l0) (hc0 : l0.length ≤ c0) (hG : GlobOk w) (h : laws_FnKnwChain.f k l0 = some r) :
    Calls Tryd.prog 6 #[.slice A0 l0.length c0] w fun e w' => e = .returned (.bool r) ∧ Below w.heap.size w w' := by
  have hu45 := Tryd.underlying45; have HR0 := am_ hr0; have HC0 := am_ hc0; clear hr0 hc0; have HB := am_ (Below.refl w.heap.size w); have HGL := am_ hG; clear hG; have H : (if (l0.length : Int) > 1048576 then (some true) else (laws_FnKnwChain.l0 k l0 (1 + ((l0.length : Int) % 12)) (([] : List (S45))) 0)) = some r := h; clear h; by_cases c2 : (l0.length : Int) > 1048576
  · rw [if_pos c2] at H
    have c2b0 : decide (1048576 < (l0.length : Int)) = true := decide_eq_true c2; have c2b1 : decide (1048576 < l0.length) = true := decide_eq_true (by omega); clear c2; obtain rfl := Option.some.inj H; go_enter Tryd.func6, Tryd.ntmps6; go_wp2; go_ret; exact ⟨y6_, y7_ HB.out⟩
  rw [if_neg c2] at H; have c2b0 : decide (1048576 < (l0.length : Int)) = false := decide_eq_false c2; have c2b1 : decide (1048576 < l0.length) = false := decide_eq_false (by omega); clear c2
  obtain ⟨y188, hy188⟩ : ∃ y_ : List (S45), y_ = (([] : List (S45))) := ⟨_, rfl⟩
  replace H : (laws_FnKnwChain.l0 k l0 (1 + ((l0.length : Int) % 12)) y188 0) = some r := by first | (rw [hy188]; with_reducible exact H) | (have H2_ := (Option.bind_some _ _).symm.trans H; rw [hy188]; with_reducible exact H2_) | (have H2_ := (Option.bind_some _ _).symm.trans H; with_reducible exact H2_) | with_reducible exact H | (rw [hy188]; exact H) | exact H
  have Ny188 := am_ hy188; clear hy188; have H' := am_ H; clear H; go_enter Tryd.func6, Tryd.ntmps6; go_wp2_with (first | ((with_reducible refine gate_dst (N := 17) rfl ?_); (try (refine gate_guard (by rfl) ?_; dsimp only)); refine Kd.R_lit k45 _ 45 ?hg (N := 17) ?hd (xs := ([] : List (S45))) (inner := []) (ok := fun _ => True) (okp := fun _ => True) ?hr ?hp (fun _ hk => hk) trivial (Below.refl _ _) (Nat.le_refl _) (by simp) ?_; (case hd => rfl); (case hg => rfl); (case hr => first | (go_simp; done) | (go_simp; rfl)); (case hp => exact (Reps.none _ _)); intro v189 w3 ho4 hb hg_ hnew_; clear hg_ hnew_; (first | rw [← Ny188.out] at ho4 | (simp only [Int.reduceToNat] at ho4; rw [← Ny188.out] at ho4)); have HO190 := am_ (Kd.R_lower ho4 (below_size (y7_ HB.out))); replace HB := am_ (below_step (y7_ HB.out) hb); clear hb ho4))
  go_loopg [4, 5] k (fun kq v4 v5 w' => ∃ (x4_1 : List (S45)) (x5_1 : Int), v5 = .int .i64 x5_1 ∧ Aside0 (laws_FnKnwChain.l0 kq l0 (1 + ((l0.length : Int) % 12)) x4_1 x5_1 = some r) ∧ Aside0 (kq ≤ k) ∧ Aside0 (Kd.R k45 45 w' w.heap.size (fun _ => True) v4 x4_1) ∧ Aside0 (Below w.heap.size w w'))
  case atStart => exact ⟨(y188), (0), y4_, H', ⟨Nat.le_refl _⟩, ⟨by (with_reducible repeat (first | apply Kd.R_alloc | apply Kd.R_drewN | apply Kd.R_drew)); exact HO190.out⟩, ⟨y7_ HB.out⟩⟩
  case round =>
    clear H'; (try clear c2); (try clear c2b0); (try clear c2b1); (try clear p2); obtain ⟨x4_1, x5_1, rfl, HA, HK1, HO_4, HB⟩ := hrel
    cases gk with
    | zero => exact absurd HA.out (by simp [laws_FnKnwChain.l0])
    | succ k1 =>
      have H := HA.out; clear HA; simp only [laws_FnKnwChain.l0] at H; by_cases c5 : x5_1 < (1 + ((l0.length : Int) % 12))
      · rw [if_pos c5] at H
        have c5b0 : decide (x5_1 < (1 + ((l0.length : Int) % 12))) = true := decide_eq_true c5; clear c5; have HC6 := am_ H; clear H
        go_upto_if 27 with (fail)
        go_cut [6] (fun v6 wc => ∃ (kq : Nat) (x6_5 : Int), v6 = .int .i64 x6_5 ∧ Aside0 (laws_FnKnwChain.j1 kq l0 (1 + ((l0.length : Int) % 12)) x4_1 x5_1 x6_5 = some r) ∧ Aside0 (kq ≤ k1) ∧ Aside0 (Kd.R k45 45 wc w.heap.size (fun _ => True) u4 x4_1) ∧ Aside0 (Below w.heap.size w wc))
        case first =>
          have H := HC6.out; clear HC6; by_cases c7 : ((l0.length : Int) % 2) = 0
          · rw [if_pos c7] at H
            have c7b0 : (((l0.length : Int) % 2) == 0) = true := beq_iff_eq.mpr c7; have c7b1 : (((l0.length : Int) % 2) != 0) = false := bne_eq_false_iff_eq.mpr c7; clear c7; (first | rw [c7b0] | (simp only [i64_w, i32_w]; rw [c7b0]) | skip); have H' := am_ H; clear H; go_wp2; go_meet
            case rel => exact ⟨_, (wrap64 ((wrap64 ((1 + ((l0.length : Int) % 12)) - 1)) - x5_1)), (by first | rfl | (simp; done) | (simp [*]; done) | (simp only [Value.int.injEq, true_and]; unfold wrap64; omega) | (simp; unfold wrap64; omega)), H', ⟨by have := HK1.out; first | omega | exact Nat.le_refl _⟩, ⟨by (with_reducible repeat (first | apply Kd.R_alloc | apply Kd.R_drewN | apply Kd.R_drew)); exact HO_4.out⟩, ⟨y7_ HB.out⟩⟩
          rw [if_neg c7] at H; have c7b0 : (((l0.length : Int) % 2) == 0) = false := beq_eq_false_iff_ne.mpr c7; have c7b1 : (((l0.length : Int) % 2) != 0) = true := bne_iff_ne.mpr c7; (first | rw [c7b0] | (simp only [i64_w, i32_w]; rw [c7b0]) | skip); have H' := am_ H; clear H; go_wp2; go_meet
          case rel => exact ⟨_, (x5_1), y4_, H', ⟨by have := HK1.out; first | omega | exact Nat.le_refl _⟩, ⟨by (with_reducible repeat (first | apply Kd.R_alloc | apply Kd.R_drewN | apply Kd.R_drew)); exact HO_4.out⟩, ⟨y7_ HB.out⟩⟩
        case rest =>
          clear HC6; (try clear c2); (try clear c2b0); (try clear c2b1); (try clear p2); (try clear c5); (try clear c5b0); (try clear c6); (try clear p6); (try clear c7); (try clear c7b0); (try clear c7b1); (try clear p2); obtain ⟨kq, x6_5, rfl, HA, HJ5, HO_4, HB⟩ := hcut
          cases kq with
          | zero => exact absurd HA.out (by simp [laws_FnKnwChain.j1])
          | succ kj5 =>
            have H := HA.out; clear HA; simp only [laws_FnKnwChain.j1] at H; replace H := Option.bind_eq_some_iff.mp H; obtain ⟨t191, A80, H⟩ := H; replace H : ((impl_MakKey.f kj5 t191).bind fun t192 => ((impl_MakNew.f kj5 0 (wrap64 (2 + x6_5))).bind fun t193 => (if x4_1.length < 4398046511104 then (laws_FnKnwChain.l0 kj5 l0 (1 + ((l0.length : Int) % 12)) (x4_1 ++ [(⟨t192, t193⟩ : S45)]) (wrap64 (x5_1 + 1))) else (none)))) = some r := H; have A8 := am_ A80; clear A80; replace H := Option.bind_eq_some_iff.mp H; obtain ⟨t192, A90, H⟩ := H; replace H : ((impl_MakNew.f kj5 0 (wrap64 (2 + x6_5))).bind fun t193 => (if x4_1.length < 4398046511104 then (laws_FnKnwChain.l0 kj5 l0 (1 + ((l0.length : Int) % 12)) (x4_1 ++ [(⟨t192, t193⟩ : S45)]) (wrap64 (x5_1 + 1))) else (none))) = some r := H; have A9 := am_ A90; clear A90; replace H := Option.bind_eq_some_iff.mp H; obtain ⟨t193, A100, H⟩ := H; replace H : (if x4_1.length < 4398046511104 then (laws_FnKnwChain.l0 kj5 l0 (1 + ((l0.length : Int) % 12)) (x4_1 ++ [(⟨t192, t193⟩ : S45)]) (wrap64 (x5_1 + 1))) else (none)) = some r := H; have A10 := am_ A100; clear A100; by_cases c11 : x4_1.length < 4398046511104
            · rw [if_pos c11] at H
              have LMc11 := am_ c11; clear c11
              obtain ⟨y194, hy194⟩ : ∃ y_ : List (S45), y_ = (x4_1 ++ [(⟨t192, t193⟩ : S45)]) := ⟨_, rfl⟩
              replace H : (laws_FnKnwChain.l0 kj5 l0 (1 + ((l0.length : Int) % 12)) y194 (wrap64 (x5_1 + 1))) = some r := by first | (rw [hy194]; with_reducible exact H) | (have H2_ := (Option.bind_some _ _).symm.trans H; rw [hy194]; with_reducible exact H2_) | (have H2_ := (Option.bind_some _ _).symm.trans H; with_reducible exact H2_) | with_reducible exact H | (rw [hy194]; exact H) | exact H
              have Ny194 := am_ hy194; clear hy194; have H' := am_ H; clear H; go_wp2_with (first | ((with_reducible refine gate_callee (f := 28) rfl ?_); refine goesL_ (some 35) rfl rfl Tryd.func28 (by kernel_rfl) rfl #[.int .i64 0, .int .i64 (wrap64 (1 + x6_5))] rfl y1_ ?_; (with_reducible refine (impl_MakNew.calls kj5 0 (wrap64 (1 + x6_5)) t191 _ A8.out).mono ?_); rintro e w' ⟨rfl, ⟨nd, rfl⟩⟩; refine ⟨_, rfl, ?_⟩) | ((with_reducible refine gate_callee (f := 24) rfl ?_); refine goesL_ (some 36) rfl rfl Tryd.func24 (by kernel_rfl) rfl #[.string t191] rfl y1_ ?_; (with_reducible refine (impl_MakKey.calls kj5 t191 t192 _ ?side1 A9.out).mono ?_); (case side1 => exact GlobOk.below HGL.out (y7_ HB.out)); rintro e w12 ⟨rfl, hb⟩; refine ⟨_, rfl, ?_⟩; replace HO_4 := am_ (Kd.R_below (y11_ HO_4.out) hb); replace HB := am_ (below_step (y7_ HB.out) hb); clear hb) | ((with_reducible refine gate_callee (f := 28) rfl ?_); refine goesL_ (some 39) rfl rfl Tryd.func28 (by kernel_rfl) rfl #[.int .i64 0, .int .i64 (wrap64 (2 + x6_5))] rfl y1_ ?_; (with_reducible refine (impl_MakNew.calls kj5 0 (wrap64 (2 + x6_5)) t193 _ A10.out).mono ?_); rintro e w' ⟨rfl, ⟨nd, rfl⟩⟩; refine ⟨_, rfl, ?_⟩) | ((with_reducible refine gate_builtin (b := .append) (xs := #[.tmp 32, .tmp 41]) rfl ?_); (try (refine gate_guard (by rfl) ?_; dsimp only)); at_builtin; refine Kd.R_append k45 (w0 := w) w.heap.size rfl (.tmp 32) (.tmp 41) 24 45 (.agg #[(.string ⟨#[]⟩), (.string ⟨#[]⟩)]) 32 rfl Tryd.underlying24 info45 rfl (by decide) (by omega) u4 x4_1 (⟨t192, t193⟩ : S45) [.string t192, .string t193] (fun _ => True) (fun _ => False) rfl rfl ?aP (fun _ hk => hk.elim) ?aF ?aO ?aB ?aS ?aL ?_; (case aP => exact k45_mkM _ _ _ (⟨t192, t193⟩ : S45)); (case aB => exact (y7_ HB.out)); (case aF => exact (fun _ _ => trivial)); (case aO => exact (y11_ HO_4.out)); (case aS => exact (below_size (y7_ HB.out))); (case aL => have := LMc11.out; omega); intro v195 w13 ho hb hg hat; rw [← Ny194.out] at ho; replace HB := am_ (hb); have HO196 := am_ (ho); clear HO_4; clear ho hb hg hat))
              go_roundg kj5
              case measure => have := HK1.out; have := HJ5.out; omega
              case rel => exact ⟨(y194), (wrap64 (x5_1 + 1)), y4_, H', ⟨by have := HK1.out; have := HJ5.out; omega⟩, ⟨by (with_reducible repeat (first | apply Kd.R_alloc | apply Kd.R_drewN | apply Kd.R_drew)); exact HO196.out⟩, ⟨y7_ HB.out⟩⟩
            rw [if_neg c11] at H; exact absurd H (by simp)
      rw [if_neg c5] at H; have c5b0 : decide (x5_1 < (1 + ((l0.length : Int) % 12))) = false := decide_eq_false c5; clear c5; replace H := Option.bind_eq_some_iff.mp H; obtain ⟨t197, A140, H⟩ := H; replace H : ((impl_KnwOpen.f (([t197] : List ByteArray)) x4_1).bind fun t201 => ((impl_MakNew.f k1 0 (wrap64 (1 + (1 + ((l0.length : Int) % 12))))).bind fun t204 => ((impl_KnwOpen.f (([t204] : List ByteArray)) x4_1).bind fun t208 => (if (t201.length : Int) = (wrap64 ((1 + ((l0.length : Int) % 12)) + 1)) then ((impl_MakNew.f k1 0 1).bind fun t211 => ((spec_KnwOpen.f k1 (([t211] : List ByteArray)) x4_1).bind fun t215 => ((laws_keTexts.f k1 t201 t215).bind fun t218 => (laws_FnKnwChain.j2 k1 (1 + ((l0.length : Int) % 12)) t201 t208 (!t218))))) else (laws_FnKnwChain.j2 k1 (1 + ((l0.length : Int) % 12)) t201 t208 true))))) = some r := H; have A14 := am_ A140; clear A140
      obtain ⟨y198, hy198⟩ : ∃ y_ : List ByteArray, y_ = (([t197] : List ByteArray)) := ⟨_, rfl⟩
      replace H : ((impl_KnwOpen.f y198 x4_1).bind fun t201 => ((impl_MakNew.f k1 0 (wrap64 (1 + (1 + ((l0.length : Int) % 12))))).bind fun t204 => ((impl_KnwOpen.f (([t204] : List ByteArray)) x4_1).bind fun t208 => (if (t201.length : Int) = (wrap64 ((1 + ((l0.length : Int) % 12)) + 1)) then ((impl_MakNew.f k1 0 1).bind fun t211 => ((spec_KnwOpen.f k1 (([t211] : List ByteArray)) x4_1).bind fun t215 => ((laws_keTexts.f k1 t201 t215).bind fun t218 => (laws_FnKnwChain.j2 k1 (1 + ((l0.length : Int) % 12)) t201 t208 (!t218))))) else (laws_FnKnwChain.j2 k1 (1 + ((l0.length : Int) % 12)) t201 t208 true))))) = some r := by first | (rw [hy198]; with_reducible exact H) | (have H2_ := (Option.bind_some _ _).symm.trans H; rw [hy198]; with_reducible exact H2_) | (have H2_ := (Option.bind_some _ _).symm.trans H; with_reducible exact H2_) | with_reducible exact H | (rw [hy198]; exact H) | exact H
      have Ny198 := am_ hy198; clear hy198; replace H := Option.bind_eq_some_iff.mp H; obtain ⟨t201, A150, H⟩ := H; replace H : ((impl_MakNew.f k1 0 (wrap64 (1 + (1 + ((l0.length : Int) % 12))))).bind fun t204 => ((impl_KnwOpen.f (([t204] : List ByteArray)) x4_1).bind fun t208 => (if (t201.length : Int) = (wrap64 ((1 + ((l0.length : Int) % 12)) + 1)) then ((impl_MakNew.f k1 0 1).bind fun t211 => ((spec_KnwOpen.f k1 (([t211] : List ByteArray)) x4_1).bind fun t215 => ((laws_keTexts.f k1 t201 t215).bind fun t218 => (laws_FnKnwChain.j2 k1 (1 + ((l0.length : Int) % 12)) t201 t208 (!t218))))) else (laws_FnKnwChain.j2 k1 (1 + ((l0.length : Int) % 12)) t201 t208 true)))) = some r := H; have A15 := am_ A150; clear A150; replace H := Option.bind_eq_some_iff.mp H; obtain ⟨t204, A160, H⟩ := H; replace H : ((impl_KnwOpen.f (([t204] : List ByteArray)) x4_1).bind fun t208 => (if (t201.length : Int) = (wrap64 ((1 + ((l0.length : Int) % 12)) + 1)) then ((impl_MakNew.f k1 0 1).bind fun t211 => ((spec_KnwOpen.f k1 (([t211] : List ByteArray)) x4_1).bind fun t215 => ((laws_keTexts.f k1 t201 t215).bind fun t218 => (laws_FnKnwChain.j2 k1 (1 + ((l0.length : Int) % 12)) t201 t208 (!t218))))) else (laws_FnKnwChain.j2 k1 (1 + ((l0.length : Int) % 12)) t201 t208 true))) = some r := H; have A16 := am_ A160; clear A160
      obtain ⟨y205, hy205⟩ : ∃ y_ : List ByteArray, y_ = (([t204] : List ByteArray)) := ⟨_, rfl⟩
      replace H : ((impl_KnwOpen.f y205 x4_1).bind fun t208 => (if (t201.length : Int) = (wrap64 ((1 + ((l0.length : Int) % 12)) + 1)) then ((impl_MakNew.f k1 0 1).bind fun t211 => ((spec_KnwOpen.f k1 (([t211] : List ByteArray)) x4_1).bind fun t215 => ((laws_keTexts.f k1 t201 t215).bind fun t218 => (laws_FnKnwChain.j2 k1 (1 + ((l0.length : Int) % 12)) t201 t208 (!t218))))) else (laws_FnKnwChain.j2 k1 (1 + ((l0.length : Int) % 12)) t201 t208 true))) = some r := by first | (rw [hy205]; with_reducible exact H) | (have H2_ := (Option.bind_some _ _).symm.trans H; rw [hy205]; with_reducible exact H2_) | (have H2_ := (Option.bind_some _ _).symm.trans H; with_reducible exact H2_) | with_reducible exact H | (rw [hy205]; exact H) | exact H
      have Ny205 := am_ hy205; clear hy205; replace H := Option.bind_eq_some_iff.mp H; obtain ⟨t208, A170, H⟩ := H; replace H : (if (t201.length : Int) = (wrap64 ((1 + ((l0.length : Int) % 12)) + 1)) then ((impl_MakNew.f k1 0 1).bind fun t211 => ((spec_KnwOpen.f k1 (([t211] : List ByteArray)) x4_1).bind fun t215 => ((laws_keTexts.f k1 t201 t215).bind fun t218 => (laws_FnKnwChain.j2 k1 (1 + ((l0.length : Int) % 12)) t201 t208 (!t218))))) else (laws_FnKnwChain.j2 k1 (1 + ((l0.length : Int) % 12)) t201 t208 true)) = some r := H; have A17 := am_ A170; clear A170; have HC18 := am_ H; clear H
      go_upto_region 14 with (first | ((with_reducible refine gate_callee (f := 28) rfl ?_); refine goesL_ (some 43) rfl rfl Tryd.func28 (by kernel_rfl) rfl #[.int .i64 0, .int .i64 1] rfl y1_ ?_; (with_reducible refine (impl_MakNew.calls k1 0 1 t197 _ A14.out).mono ?_); rintro e w' ⟨rfl, ⟨nd, rfl⟩⟩; refine ⟨_, rfl, ?_⟩) | ((with_reducible refine gate_dst (N := 44) rfl ?_); (try (refine gate_guard (by rfl) ?_; dsimp only)); refine Kd.R_lit Kd.string _ 9 ?hg (N := 44) ?hd (xs := ([t197] : List ByteArray)) (inner := [.string t197]) (ok := fun _ => True) (okp := fun _ => True) ?hr ?hp (fun _ hk => hk) trivial (Below.refl _ _) (Nat.le_refl _) (by simp) ?_; (case hd => rfl); (case hg => rfl); (case hr => first | (go_simp; done) | (go_simp; rfl)); (case hp => exact (Reps.one (show Kd.M Kd.string _ _ _ t197 [.string t197] from rfl) (Reps.none _ _))); intro v199 w19 ho20 hb hg_ hnew_; clear hg_ hnew_; (first | rw [← Ny198.out] at ho20 | (simp only [Int.reduceToNat] at ho20; rw [← Ny198.out] at ho20)); replace HO_4 := am_ (Kd.R_below (y11_ HO_4.out) hb); have HO200 := am_ (Kd.R_lower ho20 (below_size (y7_ HB.out))); replace HB := am_ (below_step (y7_ HB.out) hb); clear hb ho20; obtain ⟨Ao21, co21, eo21⟩ := Kd.R_slice HO200.out; subst eo21; obtain ⟨Ao22, co22, eo22⟩ := Kd.R_slice HO_4.out; subst eo22) | ((with_reducible refine gate_callee (f := 12) rfl ?_); refine goesL_ (some 46) rfl rfl Tryd.func12 (by kernel_rfl) rfl #[.slice Ao21 y198.length co21, .slice Ao22 x4_1.length co22] rfl y1_ ?_; (with_reducible refine (impl_KnwOpen.calls _ _ y198 _ _ x4_1 t201 _ ?side1 ?side2 ?side3 ?side4 ?side5 A15.out).mono ?_); (case side1 => repeat (first | exact (Kd.R_reads' HO200.out).2.2 | (with_reducible refine Kd.C_alloc ?_ _) | (with_reducible refine Kd.C_drewN ?_ _) | (with_reducible refine Kd.C_drew ?_))); (case side2 => exact (Kd.R_reads' HO200.out).2.1); (case side3 => repeat (first | exact (Kd.R_reads' HO_4.out).2.2 | (with_reducible refine Kd.C_alloc ?_ _) | (with_reducible refine Kd.C_drewN ?_ _) | (with_reducible refine Kd.C_drew ?_))); (case side4 => exact (Kd.R_reads' HO_4.out).2.1); (case side5 => exact GlobOk.below HGL.out (y7_ HB.out)); rintro e w23 ⟨v202, rfl, ho0, hb⟩; refine ⟨_, rfl, ?_⟩; replace HO_4 := am_ (Kd.R_below (y11_ HO_4.out) hb); have HO203 := am_ (Kd.Q_lower (Kd.Q_new' ho0 (Kd.R_lt (y11_ HO200.out))) (below_size (y7_ HB.out))); replace HO200 := am_ (Kd.R_elder' (y11_ HO200.out) (Kd.Q_base ho0) hb); replace HB := am_ (below_step (y7_ HB.out) hb); (try clear hb); (try clear hb2); (try clear hk); (try clear hi); (try clear ho0)) | ((with_reducible refine gate_callee (f := 28) rfl ?_); refine goesL_ (some 49) rfl rfl Tryd.func28 (by kernel_rfl) rfl #[.int .i64 0, .int .i64 (1 + (1 + ((l0.length : Int) % 12)))] rfl y1_ ?_; (with_reducible refine (impl_MakNew.calls k1 0 (1 + (1 + ((l0.length : Int) % 12))) t204 _ (by have z_ := A16.out; rw [chain_w1] at z_; exact z_)).mono ?_); rintro e w' ⟨rfl, ⟨nd, rfl⟩⟩; refine ⟨_, rfl, ?_⟩) | ((with_reducible refine gate_dst (N := 50) rfl ?_); (try (refine gate_guard (by rfl) ?_; dsimp only)); refine Kd.R_lit Kd.string _ 9 ?hg (N := 50) ?hd (xs := ([t204] : List ByteArray)) (inner := [.string t204]) (ok := fun _ => True) (okp := fun _ => True) ?hr ?hp (fun _ hk => hk) trivial (Below.refl _ _) (Nat.le_refl _) (by simp) ?_; (case hd => rfl); (case hg => rfl); (case hr => first | (go_simp; done) | (go_simp; rfl)); (case hp => exact (Reps.one (show Kd.M Kd.string _ _ _ t204 [.string t204] from rfl) (Reps.none _ _))); intro v206 w24 ho25 hb hg_ hnew_; clear hg_ hnew_; (first | rw [← Ny205.out] at ho25 | (simp only [Int.reduceToNat] at ho25; rw [← Ny205.out] at ho25)); replace HO_4 := am_ (Kd.R_below (y11_ HO_4.out) hb); have HO207 := am_ (Kd.R_lower (Kd.R_new' (Kd.R_new' ho25 (Kd.R_lt (y11_ HO200.out))) (Kd.Q_lt (y13_ HO203.out))) (below_size (y7_ HB.out))); replace HO200 := am_ (Kd.R_elder' (y11_ HO200.out) (Kd.R_base ho25) hb); replace HO203 := am_ (Kd.Q_elder' (y13_ HO203.out) (Kd.R_base ho25) hb); replace HB := am_ (below_step (y7_ HB.out) hb); clear hb ho25; obtain ⟨Ao26, co26, eo26⟩ := Kd.R_slice HO207.out; subst eo26) | ((with_reducible refine gate_callee (f := 12) rfl ?_); refine goesL_ (some 52) rfl rfl Tryd.func12 (by kernel_rfl) rfl #[.slice Ao26 y205.length co26, .slice Ao22 x4_1.length co22] rfl y1_ ?_; (with_reducible refine (impl_KnwOpen.calls _ _ y205 _ _ x4_1 t208 _ ?side1 ?side2 ?side3 ?side4 ?side5 A17.out).mono ?_); (case side1 => repeat (first | exact (Kd.R_reads' HO207.out).2.2 | (with_reducible refine Kd.C_alloc ?_ _) | (with_reducible refine Kd.C_drewN ?_ _) | (with_reducible refine Kd.C_drew ?_))); (case side2 => exact (Kd.R_reads' HO207.out).2.1); (case side3 => repeat (first | exact (Kd.R_reads' HO_4.out).2.2 | (with_reducible refine Kd.C_alloc ?_ _) | (with_reducible refine Kd.C_drewN ?_ _) | (with_reducible refine Kd.C_drew ?_))); (case side4 => exact (Kd.R_reads' HO_4.out).2.1); (case side5 => exact GlobOk.below HGL.out (y7_ HB.out)); rintro e w27 ⟨v209, rfl, ho0, hb⟩; refine ⟨_, rfl, ?_⟩; replace HO_4 := am_ (Kd.R_below (y11_ HO_4.out) hb); have HO210 := am_ (Kd.Q_lower (Kd.Q_new' (Kd.Q_new' (Kd.Q_new' ho0 (Kd.R_lt (y11_ HO200.out))) (Kd.Q_lt (y13_ HO203.out))) (Kd.R_lt (y11_ HO207.out))) (below_size (y7_ HB.out))); replace HO200 := am_ (Kd.R_elder' (y11_ HO200.out) (Kd.Q_base ho0) hb); replace HO203 := am_ (Kd.Q_elder' (y13_ HO203.out) (Kd.Q_base ho0) hb); replace HO207 := am_ (Kd.R_elder' (y11_ HO207.out) (Kd.Q_base ho0) hb); replace HB := am_ (below_step (y7_ HB.out) hb); (try clear hb); (try clear hb2); (try clear hk); (try clear hi); (try clear ho0)))
      (try simp only [Act.put, List.setIfInBounds_toArray, List.set_cons_zero, List.set_cons_succ]); go_cut [66] (fun v66 wc => ∃ (kq : Nat) (x66_17 : Bool), v66 = .bool x66_17 ∧ Aside0 (laws_FnKnwChain.j2 kq (1 + ((l0.length : Int) % 12)) t201 t208 x66_17 = some r) ∧ Aside0 (kq ≤ k1) ∧ Aside0 (Kd.Q Kd.string 9 wc w.heap.size (fun k_ => some k_ ≠ (v209 : Value).ownBlock) v202 t201) ∧ Aside0 (Kd.Q Kd.string 9 wc w.heap.size (fun k_ => some k_ ≠ (v202 : Value).ownBlock) v209 t208) ∧ Aside0 (Below w.heap.size w wc))
      case first =>
        have H := HC18.out; clear HC18; by_cases c28 : (t201.length : Int) = (wrap64 ((1 + ((l0.length : Int) % 12)) + 1))
        · rw [if_pos c28] at H
          have c28b0 : ((t201.length : Int) == (wrap64 ((1 + ((l0.length : Int) % 12)) + 1))) = true := beq_iff_eq.mpr c28
          have c28b7 : ((t201.length : Int) == (1 + ((l0.length : Int) % 12) + 1)) = true := by rw [← chain_w2]; exact c28b0
          have c28b1 : ((t201.length : Int) != (wrap64 ((1 + ((l0.length : Int) % 12)) + 1))) = false := bne_eq_false_iff_eq.mpr c28
          have c28b8 : ((t201.length : Int) != (1 + ((l0.length : Int) % 12) + 1)) = false := by rw [← chain_w2]; exact c28b1
          clear c28; (first | rw [c28b0] | (simp only [i64_w, i32_w]; rw [c28b0]) | rw [c28b7] | skip); replace H := Option.bind_eq_some_iff.mp H; obtain ⟨t211, A290, H⟩ := H; replace H : ((spec_KnwOpen.f k1 (([t211] : List ByteArray)) x4_1).bind fun t215 => ((laws_keTexts.f k1 t201 t215).bind fun t218 => (laws_FnKnwChain.j2 k1 (1 + ((l0.length : Int) % 12)) t201 t208 (!t218)))) = some r := H; have A29 := am_ A290; clear A290
          obtain ⟨y212, hy212⟩ : ∃ y_ : List ByteArray, y_ = (([t211] : List ByteArray)) := ⟨_, rfl⟩
          replace H : ((spec_KnwOpen.f k1 y212 x4_1).bind fun t215 => ((laws_keTexts.f k1 t201 t215).bind fun t218 => (laws_FnKnwChain.j2 k1 (1 + ((l0.length : Int) % 12)) t201 t208 (!t218)))) = some r := by first | (rw [hy212]; with_reducible exact H) | (have H2_ := (Option.bind_some _ _).symm.trans H; rw [hy212]; with_reducible exact H2_) | (have H2_ := (Option.bind_some _ _).symm.trans H; with_reducible exact H2_) | with_reducible exact H | (rw [hy212]; exact H) | exact H
          have Ny212 := am_ hy212; clear hy212; replace H := Option.bind_eq_some_iff.mp H; obtain ⟨t215, A300, H⟩ := H; replace H : ((laws_keTexts.f k1 t201 t215).bind fun t218 => (laws_FnKnwChain.j2 k1 (1 + ((l0.length : Int) % 12)) t201 t208 (!t218))) = some r := H; have A30 := am_ A300; clear A300; replace H := Option.bind_eq_some_iff.mp H; obtain ⟨t218, A310, H⟩ := H; replace H : (laws_FnKnwChain.j2 k1 (1 + ((l0.length : Int) % 12)) t201 t208 (!t218)) = some r := H; have A31 := am_ A310; clear A310; have H' := am_ H; clear H; obtain ⟨Ao32, co32, eo32, _⟩ := Kd.Q_slice HO203.out; subst eo32; go_wp2_with (first | (go_at_call 28; (with_reducible refine (impl_MakNew.calls k1 0 1 t211 _ A29.out).mono ?_); rintro e w' ⟨rfl, ⟨nd, rfl⟩⟩) | ((with_reducible refine gate_dst (N := 61) rfl ?_); (try (refine gate_guard (by rfl) ?_; dsimp only)); refine Kd.R_lit Kd.string _ 9 ?hg (N := 61) ?hd (xs := ([t211] : List ByteArray)) (inner := [.string t211]) (ok := fun _ => True) (okp := fun _ => True) ?hr ?hp (fun _ hk => hk) trivial (Below.refl _ _) (Nat.le_refl _) (by simp) ?_; (case hd => rfl); (case hg => rfl); (case hr => first | (go_simp; done) | (go_simp; rfl)); (case hp => exact (Reps.one (show Kd.M Kd.string _ _ _ t211 [.string t211] from rfl) (Reps.none _ _))); intro v213 w33 ho34 hb hg_ hnew_; clear hg_ hnew_; (first | rw [← Ny212.out] at ho34 | (simp only [Int.reduceToNat] at ho34; rw [← Ny212.out] at ho34)); replace HO_4 := am_ (Kd.R_below (y11_ HO_4.out) hb); have HO214 := am_ (Kd.R_lower (Kd.R_new' (Kd.R_new' (Kd.R_new' (Kd.R_new' ho34 (Kd.R_lt (y11_ HO200.out))) (Kd.Q_lt (y13_ HO203.out))) (Kd.R_lt (y11_ HO207.out))) (Kd.Q_lt (y13_ HO210.out))) (below_size (y7_ HB.out))); replace HO200 := am_ (Kd.R_elder' (y11_ HO200.out) (Kd.R_base ho34) hb); replace HO203 := am_ (Kd.Q_elder' (y13_ HO203.out) (Kd.R_base ho34) hb); replace HO207 := am_ (Kd.R_elder' (y11_ HO207.out) (Kd.R_base ho34) hb); replace HO210 := am_ (Kd.Q_elder' (y13_ HO210.out) (Kd.R_base ho34) hb); replace HB := am_ (below_step (y7_ HB.out) hb); clear hb ho34; obtain ⟨Ao35, co35, eo35⟩ := Kd.R_slice HO214.out; subst eo35) | (go_at_call 30; (with_reducible refine (spec_KnwOpen.calls k1 _ _ y212 _ _ x4_1 t215 _ ?side1 ?side2 ?side3 ?side4 A30.out).mono ?_); (case side1 => repeat (first | exact (Kd.R_reads' HO214.out).2.2 | (with_reducible refine Kd.C_alloc ?_ _) | (with_reducible refine Kd.C_drewN ?_ _) | (with_reducible refine Kd.C_drew ?_))); (case side2 => exact (Kd.R_reads' HO214.out).2.1); (case side3 => repeat (first | exact (Kd.R_reads' HO_4.out).2.2 | (with_reducible refine Kd.C_alloc ?_ _) | (with_reducible refine Kd.C_drewN ?_ _) | (with_reducible refine Kd.C_drew ?_))); (case side4 => exact (Kd.R_reads' HO_4.out).2.1); rintro e w36 ⟨v216, rfl, ho0, hb⟩; replace HO_4 := am_ (Kd.R_below (y11_ HO_4.out) hb); have HO217 := am_ (Kd.R_lower (Kd.R_new' (Kd.R_new' (Kd.R_new' (Kd.R_new' (Kd.R_new' ho0 (Kd.R_lt (y11_ HO200.out))) (Kd.Q_lt (y13_ HO203.out))) (Kd.R_lt (y11_ HO207.out))) (Kd.Q_lt (y13_ HO210.out))) (Kd.R_lt (y11_ HO214.out))) (below_size (y7_ HB.out))); replace HO200 := am_ (Kd.R_elder' (y11_ HO200.out) (Kd.R_base ho0) hb); replace HO203 := am_ (Kd.Q_elder' (y13_ HO203.out) (Kd.R_base ho0) hb); replace HO207 := am_ (Kd.R_elder' (y11_ HO207.out) (Kd.R_base ho0) hb); replace HO210 := am_ (Kd.Q_elder' (y13_ HO210.out) (Kd.R_base ho0) hb); replace HO214 := am_ (Kd.R_elder' (y11_ HO214.out) (Kd.R_base ho0) hb); replace HB := am_ (below_step (y7_ HB.out) hb); (try clear hb); (try clear hb2); (try clear hk); (try clear hi); (try clear ho0); obtain ⟨Ao37, co37, eo37⟩ := Kd.R_slice HO217.out; subst eo37) | (go_at_call 29; (with_reducible refine (laws_keTexts.calls k1 _ _ t201 _ _ t215 t218 _ ?side1 ?side2 ?side3 ?side4 A31.out).mono ?_); (case side1 => repeat (first | exact (Kd.Q_reads' HO203.out).2.2 | (with_reducible refine Kd.C_alloc ?_ _) | (with_reducible refine Kd.C_drewN ?_ _) | (with_reducible refine Kd.C_drew ?_))); (case side2 => exact (Kd.Q_reads' HO203.out).2.1); (case side3 => repeat (first | exact (Kd.R_reads' HO217.out).2.2 | (with_reducible refine Kd.C_alloc ?_ _) | (with_reducible refine Kd.C_drewN ?_ _) | (with_reducible refine Kd.C_drew ?_))); (case side4 => exact (Kd.R_reads' HO217.out).2.1); rintro e w' ⟨rfl, ⟨nd, rfl⟩⟩)); go_meet
          case rel => exact ⟨_, (!t218), y4_, H', ⟨by have := HK1.out; first | omega | exact Nat.le_refl _⟩, ⟨by (with_reducible repeat (first | apply Kd.Q_alloc | apply Kd.Q_drewN | apply Kd.Q_drew)); exact Kd.Q_mono HO203.out (fun _ hk => hk.1.1.2)⟩, ⟨by (with_reducible repeat (first | apply Kd.Q_alloc | apply Kd.Q_drewN | apply Kd.Q_drew)); exact Kd.Q_mono HO210.out (fun _ hk => hk.1.1.1.2)⟩, ⟨y7_ HB.out⟩⟩
        rw [if_neg c28] at H; have c28b0 : ((t201.length : Int) == (wrap64 ((1 + ((l0.length : Int) % 12)) + 1))) = false := beq_eq_false_iff_ne.mpr c28
        have c28b7 : ((t201.length : Int) == (1 + ((l0.length : Int) % 12) + 1)) = false := by rw [← chain_w2]; exact c28b0
        have c28b1 : ((t201.length : Int) != (wrap64 ((1 + ((l0.length : Int) % 12)) + 1))) = true := bne_iff_ne.mpr c28
        have c28b8 : ((t201.length : Int) != (1 + ((l0.length : Int) % 12) + 1)) = true := by rw [← chain_w2]; exact c28b1
        (first | rw [c28b0] | (simp only [i64_w, i32_w]; rw [c28b0]) | rw [c28b7] | skip); have H' := am_ H; clear H; obtain ⟨Ao38, co38, eo38, _⟩ := Kd.Q_slice HO203.out; subst eo38; go_wp2; go_meet
        case rel => exact ⟨_, (true), y4_, H', ⟨by have := HK1.out; first | omega | exact Nat.le_refl _⟩, ⟨by (with_reducible repeat (first | apply Kd.Q_alloc | apply Kd.Q_drewN | apply Kd.Q_drew)); exact Kd.Q_mono HO203.out (fun _ hk => hk.2)⟩, ⟨by (with_reducible repeat (first | apply Kd.Q_alloc | apply Kd.Q_drewN | apply Kd.Q_drew)); exact Kd.Q_mono HO210.out (fun _ hk => hk.1.2)⟩, ⟨y7_ HB.out⟩⟩
      case rest =>
        clear HC18; (try clear c1); (try clear c2); (try clear c2b0); (try clear c2b1); (try clear p2); (try clear c5); (try clear c5b0); (try clear c6); (try clear p6); (try clear c7); (try clear c7b0); (try clear c7b1); (try clear c11); (try clear c12); (try clear c24); (try clear c28); (try clear c28b0); (try clear c28b1); (try clear p2); (try clear p6); obtain ⟨kq, x66_17, rfl, HA, HJ17, HO_7, HO_8, HB⟩ := hcut
        cases kq with
        | zero => exact absurd HA.out (by simp [laws_FnKnwChain.j2])
        | succ kj17 =>
          have H := HA.out; clear HA; simp only [laws_FnKnwChain.j2] at H; by_cases c39 : x66_17 = true
          · subst c39
            have H1 : (some false) = some r := by rw [if_pos rfl] at H; exact H
            clear H; have H := H1; clear H1; obtain rfl := Option.some.inj H; go_wp2; go_ret; exact ⟨y6_, y7_ HB.out⟩
          replace c39 := Bool.eq_false_iff.mpr c39; subst c39
          have H1 : (laws_FnKnwChain.l1 kj17 (1 + ((l0.length : Int) % 12)) t201 t208 0) = some r := by rw [if_neg (show ¬ (false = true) by decide)] at H; exact H
          clear H; have H := H1; clear H1; have H' := am_ H; clear H; go_wp2
          go_loopg [9] kj17 (fun kq v9 w' => ∃ (x9_3 : Int), v9 = .int .i64 x9_3 ∧ Aside0 (laws_FnKnwChain.l1 kq (1 + ((l0.length : Int) % 12)) t201 t208 x9_3 = some r) ∧ Aside0 (kq ≤ kj17) ∧ Aside0 (Kd.Q Kd.string 9 w' w.heap.size (fun k_ => some k_ ≠ (v209 : Value).ownBlock) v202 t201) ∧ Aside0 (Kd.Q Kd.string 9 w' w.heap.size (fun k_ => some k_ ≠ (v202 : Value).ownBlock) v209 t208) ∧ Aside0 (Below w.heap.size w w'))
          case atStart => exact ⟨(0), y4_, H', ⟨Nat.le_refl _⟩, ⟨by (with_reducible repeat (first | apply Kd.Q_alloc | apply Kd.Q_drewN | apply Kd.Q_drew)); exact HO_7.out⟩, ⟨by (with_reducible repeat (first | apply Kd.Q_alloc | apply Kd.Q_drewN | apply Kd.Q_drew)); exact HO_8.out⟩, ⟨y7_ HB.out⟩⟩
          case round =>
            clear H'; (try clear c1); (try clear c2); (try clear c2b0); (try clear c2b1); (try clear p2); (try clear c3); (try clear c5); (try clear c5b0); (try clear c6); (try clear p6); (try clear c7); (try clear c7b0); (try clear c7b1); (try clear c11); (try clear c12); (try clear c24); (try clear c28); (try clear c28b0); (try clear c28b1); (try clear c39); (try clear p2); (try clear p6); obtain ⟨x9_3, rfl, HA, HK3, HO_7, HO_8, HB⟩ := hrel
            cases gk with
            | zero => exact absurd HA.out (by simp [laws_FnKnwChain.l1])
            | succ k3 =>
              have H := HA.out; clear HA; simp only [laws_FnKnwChain.l1] at H; by_cases c40 : x9_3 ≤ (1 + ((l0.length : Int) % 12))
              · rw [if_pos c40] at H
                have c40b0 : decide (x9_3 ≤ (1 + ((l0.length : Int) % 12))) = true := decide_eq_true c40; clear c40; replace H := Option.bind_eq_some_iff.mp H; obtain ⟨t219, A410, H⟩ := H; replace H : ((laws_keHas.f k3 t201 t219).bind fun t220 => (if t220 = true then (laws_FnKnwChain.l1 k3 (1 + ((l0.length : Int) % 12)) t201 t208 (wrap64 (x9_3 + 1))) else (some false))) = some r := H; have A41 := am_ A410; clear A410; replace H := Option.bind_eq_some_iff.mp H; obtain ⟨t220, A420, H⟩ := H; replace H : (if t220 = true then (laws_FnKnwChain.l1 k3 (1 + ((l0.length : Int) % 12)) t201 t208 (wrap64 (x9_3 + 1))) else (some false)) = some r := H; have A42 := am_ A420; clear A420; by_cases c43 : t220 = true
                · subst c43
                  have H1 : (laws_FnKnwChain.l1 k3 (1 + ((l0.length : Int) % 12)) t201 t208 (wrap64 (x9_3 + 1))) = some r := by rw [if_pos rfl] at H; exact H
                  clear H; have H := H1; clear H1; have H' := am_ H; clear H; go_wp2_with (first | ((with_reducible refine gate_callee (f := 28) rfl ?_); refine goesL_ (some 75) rfl rfl Tryd.func28 (by kernel_rfl) rfl #[.int .i64 0, .int .i64 (wrap64 (1 + x9_3))] rfl y1_ ?_; (with_reducible refine (impl_MakNew.calls k3 0 (wrap64 (1 + x9_3)) t219 _ A41.out).mono ?_); rintro e w' ⟨rfl, ⟨nd, rfl⟩⟩; refine ⟨_, rfl, ?_⟩; obtain ⟨Ao44, co44, eo44, _⟩ := Kd.Q_slice HO_7.out; subst eo44) | ((with_reducible refine gate_callee (f := 18) rfl ?_); refine goesL_ (some 76) rfl rfl Tryd.func18 (by kernel_rfl) rfl #[.slice Ao44 t201.length co44, .string t219] rfl y1_ ?_; (with_reducible refine (laws_keHas.calls k3 _ _ t201 t219 true _ ?side1 ?side2 A42.out).mono ?_); (case side1 => repeat (first | exact (Kd.Q_reads' HO_7.out).2.2 | (with_reducible refine Kd.C_alloc ?_ _) | (with_reducible refine Kd.C_drewN ?_ _) | (with_reducible refine Kd.C_drew ?_))); (case side2 => exact (Kd.Q_reads' HO_7.out).2.1); rintro e w' ⟨rfl, ⟨nd, rfl⟩⟩; refine ⟨_, rfl, ?_⟩))
                  go_roundg k3
                  case measure => have := HK1.out; have := HJ17.out; have := HK3.out; omega
                  case rel => exact ⟨(wrap64 (x9_3 + 1)), y4_, H', ⟨by have := HK1.out; have := HJ17.out; have := HK3.out; omega⟩, ⟨by (with_reducible repeat (first | apply Kd.Q_alloc | apply Kd.Q_drewN | apply Kd.Q_drew)); exact HO_7.out⟩, ⟨by (with_reducible repeat (first | apply Kd.Q_alloc | apply Kd.Q_drewN | apply Kd.Q_drew)); exact HO_8.out⟩, ⟨y7_ HB.out⟩⟩
                replace c43 := Bool.eq_false_iff.mpr c43; subst c43
                have H1 : (some false) = some r := by rw [if_neg (show ¬ (false = true) by decide)] at H; exact H
                clear H; have H := H1; clear H1; obtain rfl := Option.some.inj H; go_wp2_with (first | ((with_reducible refine gate_callee (f := 28) rfl ?_); refine goesL_ (some 75) rfl rfl Tryd.func28 (by kernel_rfl) rfl #[.int .i64 0, .int .i64 (wrap64 (1 + x9_3))] rfl y1_ ?_; (with_reducible refine (impl_MakNew.calls k3 0 (wrap64 (1 + x9_3)) t219 _ A41.out).mono ?_); rintro e w' ⟨rfl, ⟨nd, rfl⟩⟩; refine ⟨_, rfl, ?_⟩; obtain ⟨Ao45, co45, eo45, _⟩ := Kd.Q_slice HO_7.out; subst eo45) | ((with_reducible refine gate_callee (f := 18) rfl ?_); refine goesL_ (some 76) rfl rfl Tryd.func18 (by kernel_rfl) rfl #[.slice Ao45 t201.length co45, .string t219] rfl y1_ ?_; (with_reducible refine (laws_keHas.calls k3 _ _ t201 t219 false _ ?side1 ?side2 A42.out).mono ?_); (case side1 => repeat (first | exact (Kd.Q_reads' HO_7.out).2.2 | (with_reducible refine Kd.C_alloc ?_ _) | (with_reducible refine Kd.C_drewN ?_ _) | (with_reducible refine Kd.C_drew ?_))); (case side2 => exact (Kd.Q_reads' HO_7.out).2.1); rintro e w' ⟨rfl, ⟨nd, rfl⟩⟩; refine ⟨_, rfl, ?_⟩)); go_ret; exact ⟨y6_, y7_ HB.out⟩
              rw [if_neg c40] at H; have c40b0 : decide (x9_3 ≤ (1 + ((l0.length : Int) % 12))) = false := decide_eq_false c40; clear c40; replace H := Option.bind_eq_some_iff.mp H; obtain ⟨t221, A460, H⟩ := H; replace H : ((laws_keTexts.f k3 t208 (([t221] : List ByteArray))).bind fun t225 => (some t225)) = some r := H; have A46 := am_ A460; clear A460
              obtain ⟨y222, hy222⟩ : ∃ y_ : List ByteArray, y_ = (([t221] : List ByteArray)) := ⟨_, rfl⟩
              replace H : ((laws_keTexts.f k3 t208 y222).bind fun t225 => (some t225)) = some r := by first | (rw [hy222]; with_reducible exact H) | (have H2_ := (Option.bind_some _ _).symm.trans H; rw [hy222]; with_reducible exact H2_) | (have H2_ := (Option.bind_some _ _).symm.trans H; with_reducible exact H2_) | with_reducible exact H | (rw [hy222]; exact H) | exact H
              have Ny222 := am_ hy222; clear hy222; replace H := Option.bind_eq_some_iff.mp H; obtain ⟨t225, A470, H⟩ := H; replace H : (some t225) = some r := H; have A47 := am_ A470; clear A470; obtain rfl := Option.some.inj H; go_wp2_with (first | ((with_reducible refine gate_callee (f := 28) rfl ?_); refine goesL_ (some 81) rfl rfl Tryd.func28 (by kernel_rfl) rfl #[.int .i64 0, .int .i64 (1 + (1 + ((l0.length : Int) % 12)))] rfl y1_ ?_; (with_reducible refine (impl_MakNew.calls k3 0 (1 + (1 + ((l0.length : Int) % 12))) t221 _ (by have z_ := A46.out; rw [chain_w1] at z_; exact z_)).mono ?_); rintro e w' ⟨rfl, ⟨nd, rfl⟩⟩; refine ⟨_, rfl, ?_⟩) | ((with_reducible refine gate_dst (N := 82) rfl ?_); (try (refine gate_guard (by rfl) ?_; dsimp only)); refine Kd.R_lit Kd.string _ 9 ?hg (N := 82) ?hd (xs := ([t221] : List ByteArray)) (inner := [.string t221]) (ok := fun _ => True) (okp := fun _ => True) ?hr ?hp (fun _ hk => hk) trivial (Below.refl _ _) (Nat.le_refl _) (by simp) ?_; (case hd => rfl); (case hg => rfl); (case hr => first | (go_simp; done) | (go_simp; rfl)); (case hp => exact (Reps.one (show Kd.M Kd.string _ _ _ t221 [.string t221] from rfl) (Reps.none _ _))); intro v223 w48 ho49 hb hg_ hnew_; clear hg_ hnew_; (first | rw [← Ny222.out] at ho49 | (simp only [Int.reduceToNat] at ho49; rw [← Ny222.out] at ho49)); have HO224 := am_ (Kd.R_lower (Kd.R_new' (Kd.R_new' ho49 (Kd.Q_lt (y13_ HO_7.out))) (Kd.Q_lt (y13_ HO_8.out))) (below_size (y7_ HB.out))); replace HO_7 := am_ (Kd.Q_elder' (y13_ HO_7.out) (Kd.R_base ho49) hb); replace HO_8 := am_ (Kd.Q_elder' (y13_ HO_8.out) (Kd.R_base ho49) hb); replace HB := am_ (below_step (y7_ HB.out) hb); clear hb ho49; obtain ⟨Ao50, co50, eo50, _⟩ := Kd.Q_slice HO_8.out; subst eo50; obtain ⟨Ao51, co51, eo51⟩ := Kd.R_slice HO224.out; subst eo51) | ((with_reducible refine gate_callee (f := 29) rfl ?_); refine goesL_ (some 83) rfl rfl Tryd.func29 (by kernel_rfl) rfl #[.slice Ao50 t208.length co50, .slice Ao51 y222.length co51] rfl y1_ ?_; (with_reducible refine (laws_keTexts.calls k3 _ _ t208 _ _ y222 t225 _ ?side1 ?side2 ?side3 ?side4 A47.out).mono ?_); (case side1 => repeat (first | exact (Kd.Q_reads' HO_8.out).2.2 | (with_reducible refine Kd.C_alloc ?_ _) | (with_reducible refine Kd.C_drewN ?_ _) | (with_reducible refine Kd.C_drew ?_))); (case side2 => exact (Kd.Q_reads' HO_8.out).2.1); (case side3 => repeat (first | exact (Kd.R_reads' HO224.out).2.2 | (with_reducible refine Kd.C_alloc ?_ _) | (with_reducible refine Kd.C_drewN ?_ _) | (with_reducible refine Kd.C_drew ?_))); (case side4 => exact (Kd.R_reads' HO224.out).2.1); rintro e w' ⟨rfl, ⟨nd, rfl⟩⟩; refine ⟨_, rfl, ?_⟩)); go_ret; exact ⟨y6_, y7_ HB.out⟩

/-- THE ONE PURE STATEMENT of laws_FnKnwChain: yours. -/
def laws_FnKnwChain.Pure : Prop := ∀ (l0 : List Int), l0.length ≤ maxLen → l0.length * 1 ≤ 140737488351232 → (∀ x ∈ l0, (Lit.int .u8 x).wf = true) → ∃ k, laws_FnKnwChain.f k l0 = some true
theorem laws_FnKnwChain.walk (P : laws_FnKnwChain.Pure) (a0 : Option Addr) (len0 cap0 : Nat) (z0 : List Int) (w : World) (w0 : (a0 = none ∧ len0 = 0 ∧ cap0 = 0 ∧ z0 = []) ∨ ∃ x, a0 = some x ∧ len0 ≤ cap0 ∧ cap0 ≤ maxLen ∧ z0.length = cap0 ∧ (∀ i, i < z0.length → w.cell? (x.add i) = some (.int .u8 (z0.getD i 0))) ∧ ∀ n ∈ z0, (Lit.int .u8 n).wf = true) (y0 : len0 * 1 ≤ 140737488351232) (hG : GlobOk w) :
    Calls Tryd.prog 6 #[.slice a0 len0 cap0] w fun e w' => e = .returned (.bool true) ∧ Below w.heap.size w w' := by
  obtain ⟨l0, rfl, hr0, hm0, hw0, hc0⟩ := ReadsInt.ofRowC w0; obtain ⟨k, h⟩ := P l0 hm0 y0 hw0; refine (laws_FnKnwChain.calls k _ _ l0 true w (Kd.C_of_reads (d := (0 : Int)) (h1 := fun _ => rfl) hr0) hc0 hG h).mono ?_; rintro e w' ⟨rfl, hd⟩; exact ⟨rfl, hd⟩

end Go.Proofs.YtjbnfcljkmapeaaDoor.Yc
