-- Written by this session's own program (wip/tools/pp.py) out of the translation, over functions given by hand. Lean checks it.
import Derived.Test.YtjbnfcljkmapeaaDoorYox0
import Derived.Test.YtjbnfcljkmapeaaDoorYox11
import Derived.Test.YtjbnfcljkmapeaaDoorYox12
import Derived.Test.YtjbnfcljkmapeaaDoorYox15
import Derived.Test.YtjbnfcljkmapeaaDoorYox16
import Derived.Test.YtjbnfcljkmapeaaDoorYox17
import Derived.Test.YtjbnfcljkmapeaaDoorYox18
namespace Go.Proofs.YtjbnfcljkmapeaaDoor.Yo
open Go.RowKit Go.Proofs.YtjbnfcljkmapeaaDoorW.PrintWords Go.Proofs.YtjbnfcljkmapeaaDoorW.PrintLast Go.Proofs.YtjbnfcljkmapeaaDoorW.PrintMore
attribute [local go_sem] max2_int min2_int max_two min_two max_three min_three max_four min_four   -- for this text's walks alone
set_option linter.unusedVariables false
set_option linter.unusedSimpArgs false

/-! ### spec_l20Boxes: function 35 -/
def spec_l20Boxes.l0 : Nat → Int → List (S45) → Int → List Int → Int → Option ((List (S45)) × Int)
  | 0, _, _, _, _, _ => none
  | k + 1, x1, x5, x6, x1000, x1001 => if x6 > 0 then ((spec_l20Secret.f k x1000 x1001 2).bind fun bt282 => ((spec_l20Secret.f k x1000 bt282.2 2).bind fun bt284 => (if x5.length < 4398046511104 then (spec_l20Boxes.l0 k x1 (x5 ++ [(⟨bt282.1, bt284.1⟩ : S45)]) (wrap64 (x6 - 1)) x1000 bt284.2) else (none)))) else ((spec_l20Rd_odd.f k x1000 x1001 x1).bind fun bt289 => (if bt289.1 = true then ((spec_l20SecretOr.f k x1000 bt289.2 2).bind fun bt291 => ((spec_l20SecretOr.f k x1000 bt291.2 2).bind fun bt293 => (if x5.length < 4398046511104 then (some ((x5 ++ [(⟨bt291.1, bt293.1⟩ : S45)]), bt293.2)) else (none)))) else (some (x5, bt289.2))))
def spec_l20Boxes.f (k : Nat) (s0_0 : List Int) (s0_1 : Int) (a1 : Int) : Option ((List (S45)) × Int) := (spec_l20Rd_pick.f k s0_0 s0_1 8).bind fun bt280 => (spec_l20Boxes.l0 k a1 (([] : List (S45))) bt280.1 s0_0 bt280.2)
theorem spec_l20Boxes.mono_l : ∀ k, (∀ y0 y1 y2 y3 y4, LeO (spec_l20Boxes.l0 k y0 y1 y2 y3 y4) (spec_l20Boxes.l0 (k + 1) y0 y1 y2 y3 y4))
  | 0 => fun _ _ _ _ _ r h => by simp [spec_l20Boxes.l0] at h
  | k + 1 => by
    have ih0 := spec_l20Boxes.mono_l k
    · intro y0 y1 y2 y3 y4
      unfold spec_l20Boxes.l0
      repeat' first
      | (with_reducible exact ih0 _ _ _ _ _)
      | (with_reducible exact spec_l20Rd_odd.mono _ _ _ _)
      | (with_reducible exact spec_l20Rd_pick.mono _ _ _ _)
      | (with_reducible exact spec_l20Secret.mono _ _ _ _)
      | (with_reducible exact spec_l20SecretOr.mono _ _ _ _)
      | (with_reducible exact LeO.refl _)
      | (with_reducible exact LeO.none _)
      | (with_reducible refine LeO.ite ?_ ?_)
      | (with_reducible refine LeO.bind ?_ (fun _ => ?_))
      | exact LeO.none _
      | refine LeO.ite ?_ ?_
      | refine LeO.bind ?_ (fun _ => ?_)
theorem spec_l20Boxes.mono : ∀ a0 a1 a2 k, LeO (spec_l20Boxes.f k a0 a1 a2) (spec_l20Boxes.f (k + 1) a0 a1 a2) := by
  intro a0 a1 a2 k
  have ih0 := spec_l20Boxes.mono_l k
  unfold spec_l20Boxes.f
  repeat' first
      | (with_reducible exact ih0 _ _ _ _ _)
      | (with_reducible exact spec_l20Rd_odd.mono _ _ _ _)
      | (with_reducible exact spec_l20Rd_pick.mono _ _ _ _)
      | (with_reducible exact spec_l20Secret.mono _ _ _ _)
      | (with_reducible exact spec_l20SecretOr.mono _ _ _ _)
      | (with_reducible exact LeO.refl _)
      | (with_reducible exact LeO.none _)
      | (with_reducible refine LeO.ite ?_ ?_)
      | (with_reducible refine LeO.bind ?_ (fun _ => ?_))
      | exact LeO.none _
      | refine LeO.ite ?_ ?_
      | refine LeO.bind ?_ (fun _ => ?_)
set_option maxHeartbeats 8000000 in
set_option maxRecDepth 100000 in
theorem spec_l20Boxes.calls (k : Nat) (g : Nat) (s0_0 : List Int) (s0_1 : Int) (a1 : Int) (r1 : List (S45)) (r2 : Int) (w0 w : World) (hI : IsS69 w0 w g s0_0 s0_1) (hB : Below w0.heap.size w0 w) (h : spec_l20Boxes.f k s0_0 s0_1 a1 = some (r1, r2)) :
    Calls Tryd.prog 35 #[.pointer (some ⟨g, 0, none⟩), .int .i64 a1] w fun e w' => ∃ v0_ : Value, e = .returned (v0_) ∧ Kd.R k45 45 w' w.heap.size (fun _ => True) v0_ r1 ∧ IsS69 w0 w' g s0_0 r2 ∧ Below w0.heap.size w0 w' ∧ KeepBut w w' g none := by
  have hu45 := Tryd.underlying45
  have HI0 := Aside0.mk hI
  have HK := Aside0.mk (KeepBut.refl w g none)
  have HL := Aside0.mk hB.size
  clear hI
  have HW0 := Aside0.mk hB.size
  have HB := Aside0.mk hB
  clear hB
  have H : ((spec_l20Rd_pick.f k s0_0 s0_1 8).bind fun bt280 => (spec_l20Boxes.l0 k a1 (([] : List (S45))) bt280.1 s0_0 bt280.2)) = some (r1, r2) := h
  clear h
  obtain ⟨y277, hy277⟩ : ∃ y_ : List (S45), y_ = (([] : List (S45))) := ⟨_, rfl⟩
  replace H : ((spec_l20Rd_pick.f k s0_0 s0_1 8).bind fun bt280 => (spec_l20Boxes.l0 k a1 y277 bt280.1 s0_0 bt280.2)) = some (r1, r2) := by first | (rw [hy277]; with_reducible exact H) | (have H2_ := (Option.bind_some _ _).symm.trans H; rw [hy277]; with_reducible exact H2_) | (have H2_ := (Option.bind_some _ _).symm.trans H; with_reducible exact H2_) | with_reducible exact H | (rw [hy277]; exact H) | exact H
  have Ny277 := Aside0.mk hy277
  clear hy277
  replace H := Option.bind_eq_some_iff.mp H
  obtain ⟨⟨t280, t281⟩, A30, H⟩ := H
  replace H : (spec_l20Boxes.l0 k a1 y277 t280 s0_0 t281) = some (r1, r2) := H
  have A3 := Aside0.mk A30
  clear A30
  have H' := Aside0.mk H
  clear H
  go_enter Tryd.func35, Tryd.ntmps35
  go_wp2_with (first | ((with_reducible refine gate_dst (N := 7) rfl ?_); refine Kd.R_lit k45 _ 45 ?hg (N := 7) ?hd (xs := ([] : List (S45))) (inner := []) (ok := fun _ => True) (okp := fun _ => True) ?hr ?hp (fun _ hk => hk) trivial (Below.refl _ _) (Nat.le_refl _) (by simp) ?_; (case hd => rfl); (case hg => rfl); (case hr => first | (go_simp; done) | (go_simp; rfl)); (case hp => exact (Reps.none _ _)); intro v278 w4 ho5 hb hg_ hnew_; clear hg_ hnew_; (first | rw [← Ny277.out] at ho5 | (simp only [Int.reduceToNat] at ho5; rw [← Ny277.out] at ho5)); have HO279 := Aside0.mk (Kd.R_lower ho5 (keep_size (w := w) (g := g) (row := none) (y9_ HK.out))); replace HK := Aside0.mk (KeepBut.trans (y9_ HK.out) (KeepBut.of_below hb g none) (.inl rfl)); replace HB := Aside0.mk (below_step (y8_ HB.out (IsS69.ge HI0.out)) hb); replace HI0 := Aside0.mk (IsS69.below (y10_ HI0.out) hb); clear hb ho5) | ((with_reducible refine gate_callee (f := 52) rfl ?_); refine goesL_ (some 9) rfl rfl Tryd.func52 (by kernel_rfl) rfl #[.pointer (some ⟨g, 0, none⟩), .int .i64 8] rfl y1_ ?_; (with_reducible refine (spec_l20Rd_pick.calls k g s0_0 s0_1 8 t280 t281 w0 _ ?side1 ?side2 A3.out).mono ?_); (case side1 => exact y10_ HI0.out); (case side2 => exact y8_ HB.out (IsS69.ge HI0.out)); rintro e w6 ⟨rfl, hi, hb, hk⟩; refine ⟨_, rfl, ?_⟩; replace HO279 := Aside0.mk (Kd.R_mono (Kd.R_keep (IsS69.apart (show IsS69 w0 _ g s0_0 s0_1 from y10_ HI0.out) (y11_ HO279.out) (by decide)) hk (fun _ h => h.2)) (fun _ h => h.1)); replace HK := Aside0.mk (KeepBut.trans (y9_ HK.out) hk (.inl rfl)); replace HB := Aside0.mk (hb); replace HI0 := Aside0.mk (hi); (try clear hi hb hk)))
  go_loopg [5, 6] k (fun kq v5 v6 w' => ∃ (x5_1 : List (S45)) (x6_1 : Int) (x1001_1 : Int), v6 = .int .i64 x6_1 ∧ Aside0 (spec_l20Boxes.l0 kq a1 x5_1 x6_1 s0_0 x1001_1 = some (r1, r2)) ∧ Aside0 (kq ≤ k) ∧ Aside0 (Kd.R k45 45 w' w.heap.size (fun _ => True) v5 x5_1) ∧ Aside0 (IsS69 w0 w' g s0_0 x1001_1) ∧ Aside0 (KeepBut w w' g none) ∧ Aside0 (Below w0.heap.size w0 w'))
  case atStart => exact ⟨(y277), (t280), (t281), y4_, H', ⟨Nat.le_refl _⟩, ⟨by (with_reducible repeat (first | apply Kd.R_alloc | apply Kd.R_drewN | apply Kd.R_drew)); exact HO279.out⟩, ⟨y10_ HI0.out⟩, ⟨y9_ HK.out⟩, ⟨y8_ HB.out (IsS69.ge HI0.out)⟩⟩
  case round =>
    clear H'
    try clear p2
    try clear c3
    try clear c5
    obtain ⟨x5_1, x6_1, x1001_1, rfl, HA, HK1, HO_5, HI0, HK, HB⟩ := hrel
    cases gk with
    | zero => exact absurd HA.out (by simp [spec_l20Boxes.l0])
    | succ k1 =>
      have H := HA.out
      clear HA
      simp only [spec_l20Boxes.l0] at H
      by_cases c7 : x6_1 > 0
      · rw [if_pos c7] at H
        have c7b0 : decide (0 < x6_1) = true := decide_eq_true c7
        clear c7
        replace H := Option.bind_eq_some_iff.mp H
        obtain ⟨⟨t282, t283⟩, A80, H⟩ := H
        replace H : ((spec_l20Secret.f k1 s0_0 t283 2).bind fun bt284 => (if x5_1.length < 4398046511104 then (spec_l20Boxes.l0 k1 a1 (x5_1 ++ [(⟨t282, bt284.1⟩ : S45)]) (wrap64 (x6_1 - 1)) s0_0 bt284.2) else (none))) = some (r1, r2) := H
        have A8 := Aside0.mk A80
        clear A80
        replace H := Option.bind_eq_some_iff.mp H
        obtain ⟨⟨t284, t285⟩, A90, H⟩ := H
        replace H : (if x5_1.length < 4398046511104 then (spec_l20Boxes.l0 k1 a1 (x5_1 ++ [(⟨t282, t284⟩ : S45)]) (wrap64 (x6_1 - 1)) s0_0 t285) else (none)) = some (r1, r2) := H
        have A9 := Aside0.mk A90
        clear A90
        by_cases c10 : x5_1.length < 4398046511104
        · rw [if_pos c10] at H
          have LMc10 := Aside0.mk c10
          clear c10
          obtain ⟨y286, hy286⟩ : ∃ y_ : List (S45), y_ = (x5_1 ++ [(⟨t282, t284⟩ : S45)]) := ⟨_, rfl⟩
          replace H : (spec_l20Boxes.l0 k1 a1 y286 (wrap64 (x6_1 - 1)) s0_0 t285) = some (r1, r2) := by first | (rw [hy286]; with_reducible exact H) | (have H2_ := (Option.bind_some _ _).symm.trans H; rw [hy286]; with_reducible exact H2_) | (have H2_ := (Option.bind_some _ _).symm.trans H; with_reducible exact H2_) | with_reducible exact H | (rw [hy286]; exact H) | exact H
          have Ny286 := Aside0.mk hy286
          clear hy286
          have H' := Aside0.mk H
          clear H
          go_wp2_with (first | ((with_reducible refine gate_callee (f := 53) rfl ?_); refine goesL_ (some 16) rfl rfl Tryd.func53 (by kernel_rfl) rfl #[.pointer (some ⟨g, 0, none⟩), .int .i64 2] rfl y1_ ?_; (with_reducible refine (spec_l20Secret.calls k1 g s0_0 x1001_1 2 t282 t283 w0 _ ?side1 ?side2 A8.out).mono ?_); (case side1 => exact y10_ HI0.out); (case side2 => exact y8_ HB.out (IsS69.ge HI0.out)); rintro e w11 ⟨rfl, hi, hb, hk⟩; refine ⟨_, rfl, ?_⟩; replace HO_5 := Aside0.mk (Kd.R_mono (Kd.R_keep (IsS69.apart (show IsS69 w0 _ g s0_0 x1001_1 from y10_ HI0.out) (y11_ HO_5.out) (by decide)) hk (fun _ h => h.2)) (fun _ h => h.1)); replace HK := Aside0.mk (KeepBut.trans (y9_ HK.out) hk (.inl rfl)); replace HB := Aside0.mk (hb); replace HI0 := Aside0.mk (hi); (try clear hi hb hk)) | ((with_reducible refine gate_callee (f := 53) rfl ?_); refine goesL_ (some 18) rfl rfl Tryd.func53 (by kernel_rfl) rfl #[.pointer (some ⟨g, 0, none⟩), .int .i64 2] rfl y1_ ?_; (with_reducible refine (spec_l20Secret.calls k1 g s0_0 t283 2 t284 t285 w0 _ ?side1 ?side2 A9.out).mono ?_); (case side1 => exact y10_ HI0.out); (case side2 => exact y8_ HB.out (IsS69.ge HI0.out)); rintro e w12 ⟨rfl, hi, hb, hk⟩; refine ⟨_, rfl, ?_⟩; replace HO_5 := Aside0.mk (Kd.R_mono (Kd.R_keep (IsS69.apart (show IsS69 w0 _ g s0_0 t283 from y10_ HI0.out) (y11_ HO_5.out) (by decide)) hk (fun _ h => h.2)) (fun _ h => h.1)); replace HK := Aside0.mk (KeepBut.trans (y9_ HK.out) hk (.inl rfl)); replace HB := Aside0.mk (hb); replace HI0 := Aside0.mk (hi); (try clear hi hb hk)) | ((with_reducible refine gate_builtin (b := .append) (xs := #[.tmp 14, .tmp 20]) rfl ?_); at_builtin; refine Kd.R_append k45 w.heap.size rfl (.tmp 14) (.tmp 20) 24 45 (.agg #[(.string ⟨#[]⟩), (.string ⟨#[]⟩)]) 32 rfl Tryd.underlying24 info45 rfl (by decide) (by omega) u5 x5_1 (⟨t282, t284⟩ : S45) [.string t282, .string t284] (fun _ => True) (fun _ => False) rfl rfl ?aP (fun _ hk => hk.elim) ?aF ?aO (Below.refl _ _) ?aS ?aL ?_; (case aP => exact k45_mkM _ _ _ (⟨t282, t284⟩ : S45)); (case aF => exact (fun _ _ => trivial)); (case aO => exact (y11_ HO_5.out)); (case aS => exact (keep_size (w := w) (g := g) (row := none) (y9_ HK.out))); (case aL => have := LMc10.out; omega); intro v287 w13 ho hb hg hat; rw [← Ny286.out] at ho; replace HB := Aside0.mk (below_weaken (y8_ HB.out (IsS69.ge HI0.out)) HL.out hb); replace HI0 := Aside0.mk (IsS69.grown (y10_ HI0.out) hg (IsS69.own_ne HI0.out HO_5.out (by decide))); replace HK := Aside0.mk (KeepBut.trans (y9_ HK.out) (KeepBut.of_grown hg g) (Kd.R_base2 HO_5.out)); have HO288 := Aside0.mk (ho); clear HO_5; clear ho hb hg hat))
          go_roundg k1
          case measure => have := HK1.out; omega
          case rel => exact ⟨(y286), (wrap64 (x6_1 - 1)), (t285), y4_, H', ⟨by have := HK1.out; omega⟩, ⟨by (with_reducible repeat (first | apply Kd.R_alloc | apply Kd.R_drewN | apply Kd.R_drew)); exact HO288.out⟩, ⟨y10_ HI0.out⟩, ⟨y9_ HK.out⟩, ⟨y8_ HB.out (IsS69.ge HI0.out)⟩⟩
        rw [if_neg c10] at H
        exact absurd H (by simp)
      rw [if_neg c7] at H
      have c7b0 : decide (0 < x6_1) = false := decide_eq_false c7
      clear c7
      replace H := Option.bind_eq_some_iff.mp H
      obtain ⟨⟨t289, t290⟩, A140, H⟩ := H
      replace H : (if t289 = true then ((spec_l20SecretOr.f k1 s0_0 t290 2).bind fun bt291 => ((spec_l20SecretOr.f k1 s0_0 bt291.2 2).bind fun bt293 => (if x5_1.length < 4398046511104 then (some ((x5_1 ++ [(⟨bt291.1, bt293.1⟩ : S45)]), bt293.2)) else (none)))) else (some (x5_1, t290))) = some (r1, r2) := H
      have A14 := Aside0.mk A140
      clear A140
      by_cases c15 : t289 = true
      · subst c15
        have H1 : ((spec_l20SecretOr.f k1 s0_0 t290 2).bind fun bt291 => ((spec_l20SecretOr.f k1 s0_0 bt291.2 2).bind fun bt293 => (if x5_1.length < 4398046511104 then (some ((x5_1 ++ [(⟨bt291.1, bt293.1⟩ : S45)]), bt293.2)) else (none)))) = some (r1, r2) := by rw [if_pos rfl] at H; exact H
        clear H
        have H := H1
        clear H1
        replace H := Option.bind_eq_some_iff.mp H
        obtain ⟨⟨t291, t292⟩, A160, H⟩ := H
        replace H : ((spec_l20SecretOr.f k1 s0_0 t292 2).bind fun bt293 => (if x5_1.length < 4398046511104 then (some ((x5_1 ++ [(⟨t291, bt293.1⟩ : S45)]), bt293.2)) else (none))) = some (r1, r2) := H
        have A16 := Aside0.mk A160
        clear A160
        replace H := Option.bind_eq_some_iff.mp H
        obtain ⟨⟨t293, t294⟩, A170, H⟩ := H
        replace H : (if x5_1.length < 4398046511104 then (some ((x5_1 ++ [(⟨t291, t293⟩ : S45)]), t294)) else (none)) = some (r1, r2) := H
        have A17 := Aside0.mk A170
        clear A170
        by_cases c18 : x5_1.length < 4398046511104
        · rw [if_pos c18] at H
          have LMc18 := Aside0.mk c18
          clear c18
          obtain ⟨y295, hy295⟩ : ∃ y_ : List (S45), y_ = (x5_1 ++ [(⟨t291, t293⟩ : S45)]) := ⟨_, rfl⟩
          replace H : (some (y295, t294)) = some (r1, r2) := by first | (rw [hy295]; with_reducible exact H) | (have H2_ := (Option.bind_some _ _).symm.trans H; rw [hy295]; with_reducible exact H2_) | (have H2_ := (Option.bind_some _ _).symm.trans H; with_reducible exact H2_) | with_reducible exact H | (rw [hy295]; exact H) | exact H
          have Ny295 := Aside0.mk hy295
          clear hy295
          simp only [Option.some.injEq, Prod.mk.injEq] at H
          obtain ⟨rfl, rfl⟩ := H
          go_wp2_with (first | ((with_reducible refine gate_callee (f := 54) rfl ?_); refine goesL_ (some 24) rfl rfl Tryd.func54 (by kernel_rfl) rfl #[.pointer (some ⟨g, 0, none⟩), .int .i64 a1] rfl y1_ ?_; (with_reducible refine (spec_l20Rd_odd.calls k1 g s0_0 x1001_1 a1 true t290 w0 _ ?side1 ?side2 A14.out).mono ?_); (case side1 => exact y10_ HI0.out); (case side2 => exact y8_ HB.out (IsS69.ge HI0.out)); rintro e w19 ⟨rfl, hi, hb, hk⟩; refine ⟨_, rfl, ?_⟩; replace HO_5 := Aside0.mk (Kd.R_mono (Kd.R_keep (IsS69.apart (show IsS69 w0 _ g s0_0 x1001_1 from y10_ HI0.out) (y11_ HO_5.out) (by decide)) hk (fun _ h => h.2)) (fun _ h => h.1)); replace HK := Aside0.mk (KeepBut.trans (y9_ HK.out) hk (.inl rfl)); replace HB := Aside0.mk (hb); replace HI0 := Aside0.mk (hi); (try clear hi hb hk)) | ((with_reducible refine gate_callee (f := 36) rfl ?_); refine goesL_ (some 27) rfl rfl Tryd.func36 (by kernel_rfl) rfl #[.pointer (some ⟨g, 0, none⟩), .int .i64 2] rfl y1_ ?_; (with_reducible refine (spec_l20SecretOr.calls k1 g s0_0 t290 2 t291 t292 w0 _ ?side1 ?side2 A16.out).mono ?_); (case side1 => exact y10_ HI0.out); (case side2 => exact y8_ HB.out (IsS69.ge HI0.out)); rintro e w20 ⟨rfl, hi, hb, hk⟩; refine ⟨_, rfl, ?_⟩; replace HO_5 := Aside0.mk (Kd.R_mono (Kd.R_keep (IsS69.apart (show IsS69 w0 _ g s0_0 t290 from y10_ HI0.out) (y11_ HO_5.out) (by decide)) hk (fun _ h => h.2)) (fun _ h => h.1)); replace HK := Aside0.mk (KeepBut.trans (y9_ HK.out) hk (.inl rfl)); replace HB := Aside0.mk (hb); replace HI0 := Aside0.mk (hi); (try clear hi hb hk)) | ((with_reducible refine gate_callee (f := 36) rfl ?_); refine goesL_ (some 29) rfl rfl Tryd.func36 (by kernel_rfl) rfl #[.pointer (some ⟨g, 0, none⟩), .int .i64 2] rfl y1_ ?_; (with_reducible refine (spec_l20SecretOr.calls k1 g s0_0 t292 2 t293 t294 w0 _ ?side1 ?side2 A17.out).mono ?_); (case side1 => exact y10_ HI0.out); (case side2 => exact y8_ HB.out (IsS69.ge HI0.out)); rintro e w21 ⟨rfl, hi, hb, hk⟩; refine ⟨_, rfl, ?_⟩; replace HO_5 := Aside0.mk (Kd.R_mono (Kd.R_keep (IsS69.apart (show IsS69 w0 _ g s0_0 t292 from y10_ HI0.out) (y11_ HO_5.out) (by decide)) hk (fun _ h => h.2)) (fun _ h => h.1)); replace HK := Aside0.mk (KeepBut.trans (y9_ HK.out) hk (.inl rfl)); replace HB := Aside0.mk (hb); replace HI0 := Aside0.mk (hi); (try clear hi hb hk)) | ((with_reducible refine gate_builtin (b := .append) (xs := #[.tmp 25, .tmp 31]) rfl ?_); at_builtin; refine Kd.R_append k45 w.heap.size rfl (.tmp 25) (.tmp 31) 24 45 (.agg #[(.string ⟨#[]⟩), (.string ⟨#[]⟩)]) 32 rfl Tryd.underlying24 info45 rfl (by decide) (by omega) u5 x5_1 (⟨t291, t293⟩ : S45) [.string t291, .string t293] (fun _ => True) (fun _ => False) rfl rfl ?aP (fun _ hk => hk.elim) ?aF ?aO (Below.refl _ _) ?aS ?aL ?_; (case aP => exact k45_mkM _ _ _ (⟨t291, t293⟩ : S45)); (case aF => exact (fun _ _ => trivial)); (case aO => exact (y11_ HO_5.out)); (case aS => exact (keep_size (w := w) (g := g) (row := none) (y9_ HK.out))); (case aL => have := LMc18.out; omega); intro v296 w22 ho hb hg hat; rw [← Ny295.out] at ho; replace HB := Aside0.mk (below_weaken (y8_ HB.out (IsS69.ge HI0.out)) HL.out hb); replace HI0 := Aside0.mk (IsS69.grown (y10_ HI0.out) hg (IsS69.own_ne HI0.out HO_5.out (by decide))); replace HK := Aside0.mk (KeepBut.trans (y9_ HK.out) (KeepBut.of_grown hg g) (Kd.R_base2 HO_5.out)); have HO297 := Aside0.mk (ho); clear HO_5; clear ho hb hg hat))
          go_ret
          exact ⟨_, y6_, by (with_reducible repeat (first | apply Kd.R_alloc | apply Kd.R_drewN | apply Kd.R_drew)); exact HO297.out, y10_ HI0.out, y8_ HB.out (IsS69.ge HI0.out), y9_ HK.out⟩
        rw [if_neg c18] at H
        exact absurd H (by simp)
      replace c15 := Bool.eq_false_iff.mpr c15
      subst c15
      have H1 : (some (x5_1, t290)) = some (r1, r2) := by rw [if_neg (show ¬ (false = true) by decide)] at H; exact H
      clear H
      have H := H1
      clear H1
      simp only [Option.some.injEq, Prod.mk.injEq] at H
      obtain ⟨rfl, rfl⟩ := H
      go_wp2_with (first | ((with_reducible refine gate_callee (f := 54) rfl ?_); refine goesL_ (some 24) rfl rfl Tryd.func54 (by kernel_rfl) rfl #[.pointer (some ⟨g, 0, none⟩), .int .i64 a1] rfl y1_ ?_; (with_reducible refine (spec_l20Rd_odd.calls k1 g s0_0 x1001_1 a1 false t290 w0 _ ?side1 ?side2 A14.out).mono ?_); (case side1 => exact y10_ HI0.out); (case side2 => exact y8_ HB.out (IsS69.ge HI0.out)); rintro e w23 ⟨rfl, hi, hb, hk⟩; refine ⟨_, rfl, ?_⟩; replace HO_5 := Aside0.mk (Kd.R_mono (Kd.R_keep (IsS69.apart (show IsS69 w0 _ g s0_0 x1001_1 from y10_ HI0.out) (y11_ HO_5.out) (by decide)) hk (fun _ h => h.2)) (fun _ h => h.1)); replace HK := Aside0.mk (KeepBut.trans (y9_ HK.out) hk (.inl rfl)); replace HB := Aside0.mk (hb); replace HI0 := Aside0.mk (hi); (try clear hi hb hk)))
      go_ret
      exact ⟨_, y6_, by (with_reducible repeat (first | apply Kd.R_alloc | apply Kd.R_drewN | apply Kd.R_drew)); exact HO_5.out, y10_ HI0.out, y8_ HB.out (IsS69.ge HI0.out), y9_ HK.out⟩

/-! ### spec_DrawKnwOpen: function 32 -/
def spec_DrawKnwOpen.f (k : Nat) (l0 : List Int) : Option (List ByteArray × (List (S45))) := (spec_l20Open.f l0).bind fun bt298 => ((spec_l20Known.f k bt298.1 bt298.2 9).bind fun bt301 => ((spec_l20Boxes.f k bt298.1 bt301.2 9).bind fun bt305 => (some (bt301.1, bt305.1))))
theorem spec_DrawKnwOpen.mono : ∀ a0 k, LeO (spec_DrawKnwOpen.f k a0) (spec_DrawKnwOpen.f (k + 1) a0) := by
  intro a0 k
  unfold spec_DrawKnwOpen.f
  repeat' first
      | (with_reducible exact spec_l20Boxes.mono _ _ _ _)
      | (with_reducible exact spec_l20Known.mono _ _ _ _)
      | (with_reducible exact LeO.refl _)
      | (with_reducible exact LeO.none _)
      | (with_reducible refine LeO.ite ?_ ?_)
      | (with_reducible refine LeO.bind ?_ (fun _ => ?_))
      | exact LeO.none _
      | refine LeO.ite ?_ ?_
      | refine LeO.bind ?_ (fun _ => ?_)
set_option maxHeartbeats 8000000 in
set_option maxRecDepth 100000 in
theorem spec_DrawKnwOpen.calls (k : Nat) (A0 : Option Addr) (c0 : Nat) (l0 : List Int) (r1 : List ByteArray) (r2 : List (S45)) (w : World) (hr0 : Kd.C (Kd.int .u8) w A0 l0.length l0) (hc0 : l0.length ≤ c0) (h : spec_DrawKnwOpen.f k l0 = some (r1, r2)) :
    Calls Tryd.prog 32 #[.slice A0 l0.length c0] w fun e w' => ∃ v0_ v1_ : Value, e = .returned (.tuple #[v0_, v1_]) ∧ Kd.R Kd.string 9 w' w.heap.size (fun _ => True) v0_ r1 ∧ Kd.R k45 45 w' w.heap.size (fun _ => True) v1_ r2 ∧ Below w.heap.size w w' := by
  have HR0 := Aside0.mk hr0
  have HC0 := Aside0.mk hc0
  clear hr0 hc0
  have HB := Aside0.mk (Below.refl w.heap.size w)
  have H : ((spec_l20Open.f l0).bind fun bt298 => ((spec_l20Known.f k bt298.1 bt298.2 9).bind fun bt301 => ((spec_l20Boxes.f k bt298.1 bt301.2 9).bind fun bt305 => (some (bt301.1, bt305.1))))) = some (r1, r2) := h
  clear h
  replace H := Option.bind_eq_some_iff.mp H
  obtain ⟨⟨t298, t299⟩, A20, H⟩ := H
  replace H : ((spec_l20Known.f k t298 t299 9).bind fun bt301 => ((spec_l20Boxes.f k t298 bt301.2 9).bind fun bt305 => (some (bt301.1, bt305.1)))) = some (r1, r2) := H
  have A2 := Aside0.mk A20
  clear A20
  replace H := Option.bind_eq_some_iff.mp H
  obtain ⟨⟨t301, t304⟩, A30, H⟩ := H
  replace H : ((spec_l20Boxes.f k t298 t304 9).bind fun bt305 => (some (t301, bt305.1))) = some (r1, r2) := H
  have A3 := Aside0.mk A30
  clear A30
  replace H := Option.bind_eq_some_iff.mp H
  obtain ⟨⟨t305, t308⟩, A40, H⟩ := H
  replace H : (some (t301, t305)) = some (r1, r2) := H
  have A4 := Aside0.mk A40
  clear A40
  simp only [Option.some.injEq, Prod.mk.injEq] at H
  obtain ⟨rfl, rfl⟩ := H
  go_enter Tryd.func32, Tryd.ntmps32
  go_wp2_with (first | ((with_reducible refine gate_callee (f := 33) rfl ?_); refine goesL_ (some 6) rfl rfl Tryd.func33 (by kernel_rfl) rfl #[.slice A0 l0.length c0] rfl y1_ ?_; (with_reducible refine (spec_l20Open.calls _ _ l0 t298 t299 w _ ?side1 ?side2 ?side3 A2.out).mono ?_); (case side1 => exact y7_ HB.out); (case side2 => exact HR0.out); (case side3 => exact HC0.out); rintro e w5 ⟨g300, rfl, hi, hb, hb2⟩; refine ⟨_, rfl, ?_⟩; replace HB := Aside0.mk (hb); have HI300 := Aside0.mk (hi); (try clear hb); (try clear hb2); (try clear hk); (try clear hi)) | ((with_reducible refine gate_callee (f := 34) rfl ?_); refine goesL_ (some 8) rfl rfl Tryd.func34 (by kernel_rfl) rfl #[.pointer (some ⟨g300, 0, none⟩), .int .i64 9] rfl y1_ ?_; (with_reducible refine (spec_l20Known.calls k g300 t298 t299 9 t301 t304 w _ ?side1 ?side2 A3.out).mono ?_); (case side1 => exact y10_ HI300.out); (case side2 => exact y8_ HB.out (IsS69.ge HI300.out)); rintro e w6 ⟨v302, rfl, ho0, hi, hb, hk⟩; refine ⟨_, rfl, ?_⟩; have HO303 := Aside0.mk (Kd.R_lower ho0 (below_size (y8_ HB.out (IsS69.ge HI300.out)))); replace HB := Aside0.mk (hb); replace HI300 := Aside0.mk (hi); (try clear hb); (try clear hb2); (try clear hk); (try clear hi); (try clear ho0)) | ((with_reducible refine gate_callee (f := 35) rfl ?_); refine goesL_ (some 10) rfl rfl Tryd.func35 (by kernel_rfl) rfl #[.pointer (some ⟨g300, 0, none⟩), .int .i64 9] rfl y1_ ?_; (with_reducible refine (spec_l20Boxes.calls k g300 t298 t304 9 t305 t308 w _ ?side1 ?side2 A4.out).mono ?_); (case side1 => exact y10_ HI300.out); (case side2 => exact y8_ HB.out (IsS69.ge HI300.out)); rintro e w7 ⟨v306, rfl, ho0, hi, hb, hk⟩; refine ⟨_, rfl, ?_⟩; replace HO303 := Aside0.mk (Kd.R_mono (Kd.R_keep (IsS69.apart (show IsS69 w _ g300 t298 t304 from y10_ HI300.out) (y11_ HO303.out) (by decide)) hk (fun _ h => h.2)) (fun _ h => h.1)); have HO307 := Aside0.mk (Kd.R_lower ho0 (below_size (y8_ HB.out (IsS69.ge HI300.out)))); replace HB := Aside0.mk (hb); replace HI300 := Aside0.mk (hi); (try clear hb); (try clear hb2); (try clear hk); (try clear hi); (try clear ho0)))
  go_ret2
  exact ⟨_, _, y6_, by (with_reducible repeat (first | apply Kd.R_alloc | apply Kd.R_drewN | apply Kd.R_drew)); exact HO303.out, by (with_reducible repeat (first | apply Kd.R_alloc | apply Kd.R_drewN | apply Kd.R_drew)); exact HO307.out, y8_ HB.out (IsS69.ge HI300.out)⟩

end Go.Proofs.YtjbnfcljkmapeaaDoor.Yo
