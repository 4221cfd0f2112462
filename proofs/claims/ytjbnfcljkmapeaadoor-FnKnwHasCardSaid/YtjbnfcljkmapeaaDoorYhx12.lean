-- Written by this session's own program (wip/tools/pp.py) out of the translation, over functions given by hand. Lean checks it.
import Derived.Test.YtjbnfcljkmapeaaDoorYhx0
import Derived.Test.YtjbnfcljkmapeaaDoorYhx1
import Derived.Test.YtjbnfcljkmapeaaDoorYhx2
import Derived.Test.YtjbnfcljkmapeaaDoorYhx8
import Derived.Test.YtjbnfcljkmapeaaDoorYhx9
import Derived.Test.YtjbnfcljkmapeaaDoorYhx10
import Derived.Test.YtjbnfcljkmapeaaDoorYhx11
import Derived.Test.YtjbnfcljkmapeaaDoorYhGivK
namespace Go.Proofs.YtjbnfcljkmapeaaDoor.Yh
open Go.RowKit Go.Proofs.YtjbnfcljkmapeaaDoorW.PrintWords Go.Proofs.YtjbnfcljkmapeaaDoorW.PrintLast Go.Proofs.YtjbnfcljkmapeaaDoorW.PrintMore
attribute [local go_sem] max2_int min2_int max_two min_two max_three min_three max_four min_four   -- for this text's walks alone
set_option linter.unusedVariables false
set_option linter.unusedSimpArgs false

/-! ### spec_l20Boxes: function 35 -/
def spec_l20Boxes.l0 : Nat → Int → List (S45) → Int → List Int → Int → Option ((List (S45)) × Int)
  | 0, _, _, _, _, _ => none
  | k + 1, x1, x5, x6, x1000, x1001 => if x6 > 0 then ((spec_l20Secret.f k x1000 x1001 2).bind fun bt231 => ((spec_l20Secret.f k x1000 bt231.2 2).bind fun bt233 => (if x5.length < 4398046511104 then (spec_l20Boxes.l0 k x1 (x5 ++ [(⟨bt231.1, bt233.1⟩ : S45)]) (wrap64 (x6 - 1)) x1000 bt233.2) else (none)))) else ((spec_l20Rd_odd.f k x1000 x1001 x1).bind fun bt238 => (if bt238.1 = true then ((spec_l20SecretOr.f k x1000 bt238.2 2).bind fun bt240 => ((spec_l20SecretOr.f k x1000 bt240.2 2).bind fun bt242 => (if x5.length < 4398046511104 then (some ((x5 ++ [(⟨bt240.1, bt242.1⟩ : S45)]), bt242.2)) else (none)))) else (some (x5, bt238.2))))
def spec_l20Boxes.f (k : Nat) (s0_0 : List Int) (s0_1 : Int) (a1 : Int) : Option ((List (S45)) × Int) := (spec_l20Rd_pick.f k s0_0 s0_1 8).bind fun bt229 => (spec_l20Boxes.l0 k a1 (([] : List (S45))) bt229.1 s0_0 bt229.2)
theorem spec_l20Boxes.mono_l : ∀ k, (∀ y0 y1 y2 y3 y4, LeO (spec_l20Boxes.l0 k y0 y1 y2 y3 y4) (spec_l20Boxes.l0 (k + 1) y0 y1 y2 y3 y4))
  | 0 => fun _ _ _ _ _ r h => by simp [spec_l20Boxes.l0] at h
  | k + 1 => by
    have ih0 := spec_l20Boxes.mono_l k
    · intro y0 y1 y2 y3 y4
      unfold spec_l20Boxes.l0
      repeat' first
      | (with_reducible exact ih0 _ _ _ _ _)
      | (with_reducible exact spec_l20Rd_odd.mono _ _ _ _)
      | (with_reducible exact spec_l20Rd_pick.mono _ _ _ _)
      | (with_reducible exact spec_l20Secret.mono _ _ _ _)
      | (with_reducible exact spec_l20SecretOr.mono _ _ _ _)
      | (with_reducible exact LeO.refl _)
      | (with_reducible exact LeO.none _)
      | (with_reducible refine LeO.ite ?_ ?_)
      | (with_reducible refine LeO.bind ?_ (fun _ => ?_))
      | exact LeO.none _
      | refine LeO.ite ?_ ?_
      | refine LeO.bind ?_ (fun _ => ?_)
theorem spec_l20Boxes.mono : ∀ a0 a1 a2 k, LeO (spec_l20Boxes.f k a0 a1 a2) (spec_l20Boxes.f (k + 1) a0 a1 a2) := by
  intro a0 a1 a2 k
  have ih0 := spec_l20Boxes.mono_l k
  unfold spec_l20Boxes.f
  repeat' first
      | (with_reducible exact ih0 _ _ _ _ _)
      | (with_reducible exact spec_l20Rd_odd.mono _ _ _ _)
      | (with_reducible exact spec_l20Rd_pick.mono _ _ _ _)
      | (with_reducible exact spec_l20Secret.mono _ _ _ _)
      | (with_reducible exact spec_l20SecretOr.mono _ _ _ _)
      | (with_reducible exact LeO.refl _)
      | (with_reducible exact LeO.none _)
      | (with_reducible refine LeO.ite ?_ ?_)
      | (with_reducible refine LeO.bind ?_ (fun _ => ?_))
      | exact LeO.none _
      | refine LeO.ite ?_ ?_
      | refine LeO.bind ?_ (fun _ => ?_)
set_option maxHeartbeats 8000000 in
set_option maxRecDepth 100000 in
theorem spec_l20Boxes.calls (k : Nat) (g : Nat) (s0_0 : List Int) (s0_1 : Int) (a1 : Int) (r1 : List (S45)) (r2 : Int) (w0 w : World) (hI : IsS69 w0 w g s0_0 s0_1) (hB : Below w0.heap.size w0 w) (h : spec_l20Boxes.f k s0_0 s0_1 a1 = some (r1, r2)) :
    Calls Tryd.prog 35 #[.pointer (some ⟨g, 0, none⟩), .int .i64 a1] w fun e w' => ∃ v0_ : Value, e = .returned (v0_) ∧ Kd.R k45 45 w' w.heap.size (fun _ => True) v0_ r1 ∧ IsS69 w0 w' g s0_0 r2 ∧ Below w0.heap.size w0 w' ∧ KeepBut w w' g none := by
  have hu45 := Tryd.underlying45
  have HI0 := Aside0.mk hI
  have HK := Aside0.mk (KeepBut.refl w g none)
  have HL := Aside0.mk hB.size
  clear hI
  have HW0 := Aside0.mk hB.size
  have HB := Aside0.mk hB
  clear hB
  have H : ((spec_l20Rd_pick.f k s0_0 s0_1 8).bind fun bt229 => (spec_l20Boxes.l0 k a1 (([] : List (S45))) bt229.1 s0_0 bt229.2)) = some (r1, r2) := h
  clear h
  obtain ⟨y226, hy226⟩ : ∃ y_ : List (S45), y_ = (([] : List (S45))) := ⟨_, rfl⟩
  replace H : ((spec_l20Rd_pick.f k s0_0 s0_1 8).bind fun bt229 => (spec_l20Boxes.l0 k a1 y226 bt229.1 s0_0 bt229.2)) = some (r1, r2) := by first | (rw [hy226]; with_reducible exact H) | (have H2_ := (Option.bind_some _ _).symm.trans H; rw [hy226]; with_reducible exact H2_) | (have H2_ := (Option.bind_some _ _).symm.trans H; with_reducible exact H2_) | with_reducible exact H | (rw [hy226]; exact H) | exact H
  have Ny226 := Aside0.mk hy226
  clear hy226
  replace H := Option.bind_eq_some_iff.mp H
  obtain ⟨⟨t229, t230⟩, A30, H⟩ := H
  replace H : (spec_l20Boxes.l0 k a1 y226 t229 s0_0 t230) = some (r1, r2) := H
  have A3 := Aside0.mk A30
  clear A30
  have H' := Aside0.mk H
  clear H
  go_enter Tryd.func35, Tryd.ntmps35
  go_wp2_with (first | ((with_reducible refine gate_dst (N := 7) rfl ?_); refine Kd.R_lit k45 _ 45 ?hg (N := 7) ?hd (xs := ([] : List (S45))) (inner := []) (ok := fun _ => True) (okp := fun _ => True) ?hr ?hp (fun _ hk => hk) trivial (Below.refl _ _) (Nat.le_refl _) (by simp) ?_; (case hd => rfl); (case hg => rfl); (case hr => first | (go_simp; done) | (go_simp; rfl)); (case hp => exact (Reps.none _ _)); intro v227 w4 ho5 hb hg_ hnew_; clear hg_ hnew_; (first | rw [← Ny226.out] at ho5 | (simp only [Int.reduceToNat] at ho5; rw [← Ny226.out] at ho5)); have HO228 := Aside0.mk (Kd.R_lower ho5 (keep_size (w := w) (g := g) (row := none) (y9_ HK.out))); replace HK := Aside0.mk (KeepBut.trans (y9_ HK.out) (KeepBut.of_below hb g none) (.inl rfl)); replace HB := Aside0.mk (below_step (y8_ HB.out (IsS69.ge HI0.out)) hb); replace HI0 := Aside0.mk (IsS69.below (y10_ HI0.out) hb); clear hb ho5) | ((with_reducible refine gate_callee (f := 52) rfl ?_); refine goesL_ (some 9) rfl rfl Tryd.func52 (by kernel_rfl) rfl #[.pointer (some ⟨g, 0, none⟩), .int .i64 8] rfl y1_ ?_; (with_reducible refine (spec_l20Rd_pick.calls k g s0_0 s0_1 8 t229 t230 w0 _ ?side1 ?side2 A3.out).mono ?_); (case side1 => exact y10_ HI0.out); (case side2 => exact y8_ HB.out (IsS69.ge HI0.out)); rintro e w6 ⟨rfl, hi, hb, hk⟩; refine ⟨_, rfl, ?_⟩; replace HO228 := Aside0.mk (Kd.R_mono (Kd.R_keep (IsS69.apart (show IsS69 w0 _ g s0_0 s0_1 from y10_ HI0.out) (y11_ HO228.out) (by decide)) hk (fun _ h => h.2)) (fun _ h => h.1)); replace HK := Aside0.mk (KeepBut.trans (y9_ HK.out) hk (.inl rfl)); replace HB := Aside0.mk (hb); replace HI0 := Aside0.mk (hi); (try clear hi hb hk)))
  go_loopg [5, 6] k (fun kq v5 v6 w' => ∃ (x5_1 : List (S45)) (x6_1 : Int) (x1001_1 : Int), v6 = .int .i64 x6_1 ∧ Aside0 (spec_l20Boxes.l0 kq a1 x5_1 x6_1 s0_0 x1001_1 = some (r1, r2)) ∧ Aside0 (kq ≤ k) ∧ Aside0 (Kd.R k45 45 w' w.heap.size (fun _ => True) v5 x5_1) ∧ Aside0 (IsS69 w0 w' g s0_0 x1001_1) ∧ Aside0 (KeepBut w w' g none) ∧ Aside0 (Below w0.heap.size w0 w'))
  case atStart => exact ⟨(y226), (t229), (t230), y4_, H', ⟨Nat.le_refl _⟩, ⟨by (with_reducible repeat (first | apply Kd.R_alloc | apply Kd.R_drewN | apply Kd.R_drew)); exact HO228.out⟩, ⟨y10_ HI0.out⟩, ⟨y9_ HK.out⟩, ⟨y8_ HB.out (IsS69.ge HI0.out)⟩⟩
  case round =>
    clear H'
    try clear p2
    try clear c3
    try clear c5
    obtain ⟨x5_1, x6_1, x1001_1, rfl, HA, HK1, HO_5, HI0, HK, HB⟩ := hrel
    cases gk with
    | zero => exact absurd HA.out (by simp [spec_l20Boxes.l0])
    | succ k1 =>
      have H := HA.out
      clear HA
      simp only [spec_l20Boxes.l0] at H
      by_cases c7 : x6_1 > 0
      · rw [if_pos c7] at H
        have c7b0 : decide (0 < x6_1) = true := decide_eq_true c7
        clear c7
        replace H := Option.bind_eq_some_iff.mp H
        obtain ⟨⟨t231, t232⟩, A80, H⟩ := H
        replace H : ((spec_l20Secret.f k1 s0_0 t232 2).bind fun bt233 => (if x5_1.length < 4398046511104 then (spec_l20Boxes.l0 k1 a1 (x5_1 ++ [(⟨t231, bt233.1⟩ : S45)]) (wrap64 (x6_1 - 1)) s0_0 bt233.2) else (none))) = some (r1, r2) := H
        have A8 := Aside0.mk A80
        clear A80
        replace H := Option.bind_eq_some_iff.mp H
        obtain ⟨⟨t233, t234⟩, A90, H⟩ := H
        replace H : (if x5_1.length < 4398046511104 then (spec_l20Boxes.l0 k1 a1 (x5_1 ++ [(⟨t231, t233⟩ : S45)]) (wrap64 (x6_1 - 1)) s0_0 t234) else (none)) = some (r1, r2) := H
        have A9 := Aside0.mk A90
        clear A90
        by_cases c10 : x5_1.length < 4398046511104
        · rw [if_pos c10] at H
          have LMc10 := Aside0.mk c10
          clear c10
          obtain ⟨y235, hy235⟩ : ∃ y_ : List (S45), y_ = (x5_1 ++ [(⟨t231, t233⟩ : S45)]) := ⟨_, rfl⟩
          replace H : (spec_l20Boxes.l0 k1 a1 y235 (wrap64 (x6_1 - 1)) s0_0 t234) = some (r1, r2) := by first | (rw [hy235]; with_reducible exact H) | (have H2_ := (Option.bind_some _ _).symm.trans H; rw [hy235]; with_reducible exact H2_) | (have H2_ := (Option.bind_some _ _).symm.trans H; with_reducible exact H2_) | with_reducible exact H | (rw [hy235]; exact H) | exact H
          have Ny235 := Aside0.mk hy235
          clear hy235
          have H' := Aside0.mk H
          clear H
          go_wp2_with (first | ((with_reducible refine gate_callee (f := 53) rfl ?_); refine goesL_ (some 16) rfl rfl Tryd.func53 (by kernel_rfl) rfl #[.pointer (some ⟨g, 0, none⟩), .int .i64 2] rfl y1_ ?_; (with_reducible refine (spec_l20Secret.calls k1 g s0_0 x1001_1 2 t231 t232 w0 _ ?side1 ?side2 A8.out).mono ?_); (case side1 => exact y10_ HI0.out); (case side2 => exact y8_ HB.out (IsS69.ge HI0.out)); rintro e w11 ⟨rfl, hi, hb, hk⟩; refine ⟨_, rfl, ?_⟩; replace HO_5 := Aside0.mk (Kd.R_mono (Kd.R_keep (IsS69.apart (show IsS69 w0 _ g s0_0 x1001_1 from y10_ HI0.out) (y11_ HO_5.out) (by decide)) hk (fun _ h => h.2)) (fun _ h => h.1)); replace HK := Aside0.mk (KeepBut.trans (y9_ HK.out) hk (.inl rfl)); replace HB := Aside0.mk (hb); replace HI0 := Aside0.mk (hi); (try clear hi hb hk)) | ((with_reducible refine gate_callee (f := 53) rfl ?_); refine goesL_ (some 18) rfl rfl Tryd.func53 (by kernel_rfl) rfl #[.pointer (some ⟨g, 0, none⟩), .int .i64 2] rfl y1_ ?_; (with_reducible refine (spec_l20Secret.calls k1 g s0_0 t232 2 t233 t234 w0 _ ?side1 ?side2 A9.out).mono ?_); (case side1 => exact y10_ HI0.out); (case side2 => exact y8_ HB.out (IsS69.ge HI0.out)); rintro e w12 ⟨rfl, hi, hb, hk⟩; refine ⟨_, rfl, ?_⟩; replace HO_5 := Aside0.mk (Kd.R_mono (Kd.R_keep (IsS69.apart (show IsS69 w0 _ g s0_0 t232 from y10_ HI0.out) (y11_ HO_5.out) (by decide)) hk (fun _ h => h.2)) (fun _ h => h.1)); replace HK := Aside0.mk (KeepBut.trans (y9_ HK.out) hk (.inl rfl)); replace HB := Aside0.mk (hb); replace HI0 := Aside0.mk (hi); (try clear hi hb hk)) | ((with_reducible refine gate_builtin (b := .append) (xs := #[.tmp 14, .tmp 20]) rfl ?_); at_builtin; refine Kd.R_append k45 w.heap.size rfl (.tmp 14) (.tmp 20) 24 45 (.agg #[(.string ⟨#[]⟩), (.string ⟨#[]⟩)]) 32 rfl Tryd.underlying24 info45 rfl (by decide) (by omega) u5 x5_1 (⟨t231, t233⟩ : S45) [.string t231, .string t233] (fun _ => True) (fun _ => False) rfl rfl ?aP (fun _ hk => hk.elim) ?aF ?aO (Below.refl _ _) ?aS ?aL ?_; (case aP => exact k45_mkM _ _ _ (⟨t231, t233⟩ : S45)); (case aF => exact (fun _ _ => trivial)); (case aO => exact (y11_ HO_5.out)); (case aS => exact (keep_size (w := w) (g := g) (row := none) (y9_ HK.out))); (case aL => have := LMc10.out; omega); intro v236 w13 ho hb hg hat; rw [← Ny235.out] at ho; replace HB := Aside0.mk (below_weaken (y8_ HB.out (IsS69.ge HI0.out)) HL.out hb); replace HI0 := Aside0.mk (IsS69.grown (y10_ HI0.out) hg (IsS69.own_ne HI0.out HO_5.out (by decide))); replace HK := Aside0.mk (KeepBut.trans (y9_ HK.out) (KeepBut.of_grown hg g) (Kd.R_base2 HO_5.out)); have HO237 := Aside0.mk (ho); clear HO_5; clear ho hb hg hat))
          go_roundg k1
          case measure => have := HK1.out; omega
          case rel => exact ⟨(y235), (wrap64 (x6_1 - 1)), (t234), y4_, H', ⟨by have := HK1.out; omega⟩, ⟨by (with_reducible repeat (first | apply Kd.R_alloc | apply Kd.R_drewN | apply Kd.R_drew)); exact HO237.out⟩, ⟨y10_ HI0.out⟩, ⟨y9_ HK.out⟩, ⟨y8_ HB.out (IsS69.ge HI0.out)⟩⟩
        rw [if_neg c10] at H
        exact absurd H (by simp)
      rw [if_neg c7] at H
      have c7b0 : decide (0 < x6_1) = false := decide_eq_false c7
      clear c7
      replace H := Option.bind_eq_some_iff.mp H
      obtain ⟨⟨t238, t239⟩, A140, H⟩ := H
      replace H : (if t238 = true then ((spec_l20SecretOr.f k1 s0_0 t239 2).bind fun bt240 => ((spec_l20SecretOr.f k1 s0_0 bt240.2 2).bind fun bt242 => (if x5_1.length < 4398046511104 then (some ((x5_1 ++ [(⟨bt240.1, bt242.1⟩ : S45)]), bt242.2)) else (none)))) else (some (x5_1, t239))) = some (r1, r2) := H
      have A14 := Aside0.mk A140
      clear A140
      by_cases c15 : t238 = true
      · subst c15
        have H1 : ((spec_l20SecretOr.f k1 s0_0 t239 2).bind fun bt240 => ((spec_l20SecretOr.f k1 s0_0 bt240.2 2).bind fun bt242 => (if x5_1.length < 4398046511104 then (some ((x5_1 ++ [(⟨bt240.1, bt242.1⟩ : S45)]), bt242.2)) else (none)))) = some (r1, r2) := by rw [if_pos rfl] at H; exact H
        clear H
        have H := H1
        clear H1
        replace H := Option.bind_eq_some_iff.mp H
        obtain ⟨⟨t240, t241⟩, A160, H⟩ := H
        replace H : ((spec_l20SecretOr.f k1 s0_0 t241 2).bind fun bt242 => (if x5_1.length < 4398046511104 then (some ((x5_1 ++ [(⟨t240, bt242.1⟩ : S45)]), bt242.2)) else (none))) = some (r1, r2) := H
        have A16 := Aside0.mk A160
        clear A160
        replace H := Option.bind_eq_some_iff.mp H
        obtain ⟨⟨t242, t243⟩, A170, H⟩ := H
        replace H : (if x5_1.length < 4398046511104 then (some ((x5_1 ++ [(⟨t240, t242⟩ : S45)]), t243)) else (none)) = some (r1, r2) := H
        have A17 := Aside0.mk A170
        clear A170
        by_cases c18 : x5_1.length < 4398046511104
        · rw [if_pos c18] at H
          have LMc18 := Aside0.mk c18
          clear c18
          obtain ⟨y244, hy244⟩ : ∃ y_ : List (S45), y_ = (x5_1 ++ [(⟨t240, t242⟩ : S45)]) := ⟨_, rfl⟩
          replace H : (some (y244, t243)) = some (r1, r2) := by first | (rw [hy244]; with_reducible exact H) | (have H2_ := (Option.bind_some _ _).symm.trans H; rw [hy244]; with_reducible exact H2_) | (have H2_ := (Option.bind_some _ _).symm.trans H; with_reducible exact H2_) | with_reducible exact H | (rw [hy244]; exact H) | exact H
          have Ny244 := Aside0.mk hy244
          clear hy244
          simp only [Option.some.injEq, Prod.mk.injEq] at H
          obtain ⟨rfl, rfl⟩ := H
          go_wp2_with (first | ((with_reducible refine gate_callee (f := 54) rfl ?_); refine goesL_ (some 24) rfl rfl Tryd.func54 (by kernel_rfl) rfl #[.pointer (some ⟨g, 0, none⟩), .int .i64 a1] rfl y1_ ?_; (with_reducible refine (spec_l20Rd_odd.calls k1 g s0_0 x1001_1 a1 true t239 w0 _ ?side1 ?side2 A14.out).mono ?_); (case side1 => exact y10_ HI0.out); (case side2 => exact y8_ HB.out (IsS69.ge HI0.out)); rintro e w19 ⟨rfl, hi, hb, hk⟩; refine ⟨_, rfl, ?_⟩; replace HO_5 := Aside0.mk (Kd.R_mono (Kd.R_keep (IsS69.apart (show IsS69 w0 _ g s0_0 x1001_1 from y10_ HI0.out) (y11_ HO_5.out) (by decide)) hk (fun _ h => h.2)) (fun _ h => h.1)); replace HK := Aside0.mk (KeepBut.trans (y9_ HK.out) hk (.inl rfl)); replace HB := Aside0.mk (hb); replace HI0 := Aside0.mk (hi); (try clear hi hb hk)) | ((with_reducible refine gate_callee (f := 36) rfl ?_); refine goesL_ (some 27) rfl rfl Tryd.func36 (by kernel_rfl) rfl #[.pointer (some ⟨g, 0, none⟩), .int .i64 2] rfl y1_ ?_; (with_reducible refine (spec_l20SecretOr.calls k1 g s0_0 t239 2 t240 t241 w0 _ ?side1 ?side2 A16.out).mono ?_); (case side1 => exact y10_ HI0.out); (case side2 => exact y8_ HB.out (IsS69.ge HI0.out)); rintro e w20 ⟨rfl, hi, hb, hk⟩; refine ⟨_, rfl, ?_⟩; replace HO_5 := Aside0.mk (Kd.R_mono (Kd.R_keep (IsS69.apart (show IsS69 w0 _ g s0_0 t239 from y10_ HI0.out) (y11_ HO_5.out) (by decide)) hk (fun _ h => h.2)) (fun _ h => h.1)); replace HK := Aside0.mk (KeepBut.trans (y9_ HK.out) hk (.inl rfl)); replace HB := Aside0.mk (hb); replace HI0 := Aside0.mk (hi); (try clear hi hb hk)) | ((with_reducible refine gate_callee (f := 36) rfl ?_); refine goesL_ (some 29) rfl rfl Tryd.func36 (by kernel_rfl) rfl #[.pointer (some ⟨g, 0, none⟩), .int .i64 2] rfl y1_ ?_; (with_reducible refine (spec_l20SecretOr.calls k1 g s0_0 t241 2 t242 t243 w0 _ ?side1 ?side2 A17.out).mono ?_); (case side1 => exact y10_ HI0.out); (case side2 => exact y8_ HB.out (IsS69.ge HI0.out)); rintro e w21 ⟨rfl, hi, hb, hk⟩; refine ⟨_, rfl, ?_⟩; replace HO_5 := Aside0.mk (Kd.R_mono (Kd.R_keep (IsS69.apart (show IsS69 w0 _ g s0_0 t241 from y10_ HI0.out) (y11_ HO_5.out) (by decide)) hk (fun _ h => h.2)) (fun _ h => h.1)); replace HK := Aside0.mk (KeepBut.trans (y9_ HK.out) hk (.inl rfl)); replace HB := Aside0.mk (hb); replace HI0 := Aside0.mk (hi); (try clear hi hb hk)) | ((with_reducible refine gate_builtin (b := .append) (xs := #[.tmp 25, .tmp 31]) rfl ?_); at_builtin; refine Kd.R_append k45 w.heap.size rfl (.tmp 25) (.tmp 31) 24 45 (.agg #[(.string ⟨#[]⟩), (.string ⟨#[]⟩)]) 32 rfl Tryd.underlying24 info45 rfl (by decide) (by omega) u5 x5_1 (⟨t240, t242⟩ : S45) [.string t240, .string t242] (fun _ => True) (fun _ => False) rfl rfl ?aP (fun _ hk => hk.elim) ?aF ?aO (Below.refl _ _) ?aS ?aL ?_; (case aP => exact k45_mkM _ _ _ (⟨t240, t242⟩ : S45)); (case aF => exact (fun _ _ => trivial)); (case aO => exact (y11_ HO_5.out)); (case aS => exact (keep_size (w := w) (g := g) (row := none) (y9_ HK.out))); (case aL => have := LMc18.out; omega); intro v245 w22 ho hb hg hat; rw [← Ny244.out] at ho; replace HB := Aside0.mk (below_weaken (y8_ HB.out (IsS69.ge HI0.out)) HL.out hb); replace HI0 := Aside0.mk (IsS69.grown (y10_ HI0.out) hg (IsS69.own_ne HI0.out HO_5.out (by decide))); replace HK := Aside0.mk (KeepBut.trans (y9_ HK.out) (KeepBut.of_grown hg g) (Kd.R_base2 HO_5.out)); have HO246 := Aside0.mk (ho); clear HO_5; clear ho hb hg hat))
          go_ret
          exact ⟨_, y6_, by (with_reducible repeat (first | apply Kd.R_alloc | apply Kd.R_drewN | apply Kd.R_drew)); exact HO246.out, y10_ HI0.out, y8_ HB.out (IsS69.ge HI0.out), y9_ HK.out⟩
        rw [if_neg c18] at H
        exact absurd H (by simp)
      replace c15 := Bool.eq_false_iff.mpr c15
      subst c15
      have H1 : (some (x5_1, t239)) = some (r1, r2) := by rw [if_neg (show ¬ (false = true) by decide)] at H; exact H
      clear H
      have H := H1
      clear H1
      simp only [Option.some.injEq, Prod.mk.injEq] at H
      obtain ⟨rfl, rfl⟩ := H
      go_wp2_with (first | ((with_reducible refine gate_callee (f := 54) rfl ?_); refine goesL_ (some 24) rfl rfl Tryd.func54 (by kernel_rfl) rfl #[.pointer (some ⟨g, 0, none⟩), .int .i64 a1] rfl y1_ ?_; (with_reducible refine (spec_l20Rd_odd.calls k1 g s0_0 x1001_1 a1 false t239 w0 _ ?side1 ?side2 A14.out).mono ?_); (case side1 => exact y10_ HI0.out); (case side2 => exact y8_ HB.out (IsS69.ge HI0.out)); rintro e w23 ⟨rfl, hi, hb, hk⟩; refine ⟨_, rfl, ?_⟩; replace HO_5 := Aside0.mk (Kd.R_mono (Kd.R_keep (IsS69.apart (show IsS69 w0 _ g s0_0 x1001_1 from y10_ HI0.out) (y11_ HO_5.out) (by decide)) hk (fun _ h => h.2)) (fun _ h => h.1)); replace HK := Aside0.mk (KeepBut.trans (y9_ HK.out) hk (.inl rfl)); replace HB := Aside0.mk (hb); replace HI0 := Aside0.mk (hi); (try clear hi hb hk)))
      go_ret
      exact ⟨_, y6_, by (with_reducible repeat (first | apply Kd.R_alloc | apply Kd.R_drewN | apply Kd.R_drew)); exact HO_5.out, y10_ HI0.out, y8_ HB.out (IsS69.ge HI0.out), y9_ HK.out⟩

/-! ### spec_DrawKnwHas: function 11 -/
def spec_DrawKnwHas.f (k : Nat) (l0 : List Int) : Option (List ByteArray × (List (S45)) × ByteArray) := (spec_l20Open.f l0).bind fun bt247 => ((spec_l20Known.f k bt247.1 bt247.2 12).bind fun bt250 => ((spec_l20Boxes.f k bt247.1 bt250.2 12).bind fun bt254 => ((spec_l20SecretOr.f k bt247.1 bt254.2 12).bind fun bt258 => (some (bt250.1, bt254.1, bt258.1)))))
theorem spec_DrawKnwHas.mono : ∀ a0 k, LeO (spec_DrawKnwHas.f k a0) (spec_DrawKnwHas.f (k + 1) a0) := by
  intro a0 k
  unfold spec_DrawKnwHas.f
  repeat' first
      | (with_reducible exact spec_l20Boxes.mono _ _ _ _)
      | (with_reducible exact spec_l20Known.mono _ _ _ _)
      | (with_reducible exact spec_l20SecretOr.mono _ _ _ _)
      | (with_reducible exact LeO.refl _)
      | (with_reducible exact LeO.none _)
      | (with_reducible refine LeO.ite ?_ ?_)
      | (with_reducible refine LeO.bind ?_ (fun _ => ?_))
      | exact LeO.none _
      | refine LeO.ite ?_ ?_
      | refine LeO.bind ?_ (fun _ => ?_)
set_option maxHeartbeats 8000000 in
set_option maxRecDepth 100000 in
theorem spec_DrawKnwHas.calls (k : Nat) (A0 : Option Addr) (c0 : Nat) (l0 : List Int) (r1 : List ByteArray) (r2 : List (S45)) (r3 : ByteArray) (w : World) (hr0 : Kd.C (Kd.int .u8) w A0 l0.length l0) (hc0 : l0.length ≤ c0) (h : spec_DrawKnwHas.f k l0 = some (r1, r2, r3)) :
    Calls Tryd.prog 11 #[.slice A0 l0.length c0] w fun e w' => ∃ v0_ v1_ : Value, e = .returned (.tuple #[v0_, v1_, .string r3]) ∧ Kd.R Kd.string 9 w' w.heap.size (fun _ => True) v0_ r1 ∧ Kd.R k45 45 w' w.heap.size (fun _ => True) v1_ r2 ∧ Below w.heap.size w w' := by
  have HR0 := Aside0.mk hr0
  have HC0 := Aside0.mk hc0
  clear hr0 hc0
  have HB := Aside0.mk (Below.refl w.heap.size w)
  have H : ((spec_l20Open.f l0).bind fun bt247 => ((spec_l20Known.f k bt247.1 bt247.2 12).bind fun bt250 => ((spec_l20Boxes.f k bt247.1 bt250.2 12).bind fun bt254 => ((spec_l20SecretOr.f k bt247.1 bt254.2 12).bind fun bt258 => (some (bt250.1, bt254.1, bt258.1)))))) = some (r1, r2, r3) := h
  clear h
  replace H := Option.bind_eq_some_iff.mp H
  obtain ⟨⟨t247, t248⟩, A20, H⟩ := H
  replace H : ((spec_l20Known.f k t247 t248 12).bind fun bt250 => ((spec_l20Boxes.f k t247 bt250.2 12).bind fun bt254 => ((spec_l20SecretOr.f k t247 bt254.2 12).bind fun bt258 => (some (bt250.1, bt254.1, bt258.1))))) = some (r1, r2, r3) := H
  have A2 := Aside0.mk A20
  clear A20
  replace H := Option.bind_eq_some_iff.mp H
  obtain ⟨⟨t250, t253⟩, A30, H⟩ := H
  replace H : ((spec_l20Boxes.f k t247 t253 12).bind fun bt254 => ((spec_l20SecretOr.f k t247 bt254.2 12).bind fun bt258 => (some (t250, bt254.1, bt258.1)))) = some (r1, r2, r3) := H
  have A3 := Aside0.mk A30
  clear A30
  replace H := Option.bind_eq_some_iff.mp H
  obtain ⟨⟨t254, t257⟩, A40, H⟩ := H
  replace H : ((spec_l20SecretOr.f k t247 t257 12).bind fun bt258 => (some (t250, t254, bt258.1))) = some (r1, r2, r3) := H
  have A4 := Aside0.mk A40
  clear A40
  replace H := Option.bind_eq_some_iff.mp H
  obtain ⟨⟨t258, t259⟩, A50, H⟩ := H
  replace H : (some (t250, t254, t258)) = some (r1, r2, r3) := H
  have A5 := Aside0.mk A50
  clear A50
  simp only [Option.some.injEq, Prod.mk.injEq] at H
  obtain ⟨rfl, rfl, rfl⟩ := H
  go_enter Tryd.func11, Tryd.ntmps11
  go_wp2_with (first | ((with_reducible refine gate_callee (f := 33) rfl ?_); refine goesL_ (some 7) rfl rfl Tryd.func33 (by kernel_rfl) rfl #[.slice A0 l0.length c0] rfl y1_ ?_; (with_reducible refine (spec_l20Open.calls _ _ l0 t247 t248 w _ ?side1 ?side2 ?side3 A2.out).mono ?_); (case side1 => exact y7_ HB.out); (case side2 => exact HR0.out); (case side3 => exact HC0.out); rintro e w6 ⟨g249, rfl, hi, hb, hb2⟩; refine ⟨_, rfl, ?_⟩; replace HB := Aside0.mk (hb); have HI249 := Aside0.mk (hi); (try clear hb); (try clear hb2); (try clear hk); (try clear hi)) | ((with_reducible refine gate_callee (f := 34) rfl ?_); refine goesL_ (some 9) rfl rfl Tryd.func34 (by kernel_rfl) rfl #[.pointer (some ⟨g249, 0, none⟩), .int .i64 12] rfl y1_ ?_; (with_reducible refine (spec_l20Known.calls k g249 t247 t248 12 t250 t253 w _ ?side1 ?side2 A3.out).mono ?_); (case side1 => exact y10_ HI249.out); (case side2 => exact y8_ HB.out (IsS69.ge HI249.out)); rintro e w7 ⟨v251, rfl, ho0, hi, hb, hk⟩; refine ⟨_, rfl, ?_⟩; have HO252 := Aside0.mk (Kd.R_lower ho0 (below_size (y8_ HB.out (IsS69.ge HI249.out)))); replace HB := Aside0.mk (hb); replace HI249 := Aside0.mk (hi); (try clear hb); (try clear hb2); (try clear hk); (try clear hi); (try clear ho0)) | ((with_reducible refine gate_callee (f := 35) rfl ?_); refine goesL_ (some 11) rfl rfl Tryd.func35 (by kernel_rfl) rfl #[.pointer (some ⟨g249, 0, none⟩), .int .i64 12] rfl y1_ ?_; (with_reducible refine (spec_l20Boxes.calls k g249 t247 t253 12 t254 t257 w _ ?side1 ?side2 A4.out).mono ?_); (case side1 => exact y10_ HI249.out); (case side2 => exact y8_ HB.out (IsS69.ge HI249.out)); rintro e w8 ⟨v255, rfl, ho0, hi, hb, hk⟩; refine ⟨_, rfl, ?_⟩; replace HO252 := Aside0.mk (Kd.R_mono (Kd.R_keep (IsS69.apart (show IsS69 w _ g249 t247 t253 from y10_ HI249.out) (y11_ HO252.out) (by decide)) hk (fun _ h => h.2)) (fun _ h => h.1)); have HO256 := Aside0.mk (Kd.R_lower ho0 (below_size (y8_ HB.out (IsS69.ge HI249.out)))); replace HB := Aside0.mk (hb); replace HI249 := Aside0.mk (hi); (try clear hb); (try clear hb2); (try clear hk); (try clear hi); (try clear ho0)) | ((with_reducible refine gate_callee (f := 36) rfl ?_); refine goesL_ (some 13) rfl rfl Tryd.func36 (by kernel_rfl) rfl #[.pointer (some ⟨g249, 0, none⟩), .int .i64 12] rfl y1_ ?_; (with_reducible refine (spec_l20SecretOr.calls k g249 t247 t257 12 t258 t259 w _ ?side1 ?side2 A5.out).mono ?_); (case side1 => exact y10_ HI249.out); (case side2 => exact y8_ HB.out (IsS69.ge HI249.out)); rintro e w9 ⟨rfl, hi, hb, hk⟩; refine ⟨_, rfl, ?_⟩; replace HO252 := Aside0.mk (Kd.R_mono (Kd.R_keep (IsS69.apart (show IsS69 w _ g249 t247 t257 from y10_ HI249.out) (y11_ HO252.out) (by decide)) hk (fun _ h => h.2)) (fun _ h => h.1)); replace HO256 := Aside0.mk (Kd.R_mono (Kd.R_keep (IsS69.apart (show IsS69 w _ g249 t247 t257 from y10_ HI249.out) (y11_ HO256.out) (by decide)) hk (fun _ h => h.2)) (fun _ h => h.1)); replace HB := Aside0.mk (hb); replace HI249 := Aside0.mk (hi); (try clear hi hb hk)))
  go_ret3
  exact ⟨_, _, y6_, by (with_reducible repeat (first | apply Kd.R_alloc | apply Kd.R_drewN | apply Kd.R_drew)); exact HO252.out, by (with_reducible repeat (first | apply Kd.R_alloc | apply Kd.R_drewN | apply Kd.R_drew)); exact HO256.out, y8_ HB.out (IsS69.ge HI249.out)⟩

-- GIVEN: function 12 (impl_KnwOpen)

-- GIVEN: function 13 (impl_KnwHas)

-- GIVEN: function 14 (impl_KnwMake)

-- GIVEN: function 22 (impl_SecOk)

/-! ### laws_keOk: function 15 -/
def laws_keOk.f  : Option (Bool) := (impl_SecOk.f (⟨#[65, 49, 59]⟩ : ByteArray)).bind fun t260 => (some t260)
set_option maxHeartbeats 8000000 in
set_option maxRecDepth 100000 in
theorem laws_keOk.calls  (r : Bool) (w : World) (hG : GlobOk w) (h : laws_keOk.f  = some r) :
    Calls Tryd.prog 15 #[] w fun e w' => e = .returned (.bool r) ∧ Below w.heap.size w w' := by
  have HB := Aside0.mk (Below.refl w.heap.size w)
  have HGL := Aside0.mk hG
  clear hG
  have H : ((impl_SecOk.f (⟨#[65, 49, 59]⟩ : ByteArray)).bind fun t260 => (some t260)) = some r := h
  clear h
  replace H := Option.bind_eq_some_iff.mp H
  obtain ⟨t260, A10, H⟩ := H
  replace H : (some t260) = some r := H
  have A1 := Aside0.mk A10
  clear A10
  obtain rfl := Option.some.inj H
  go_enter Tryd.func15, Tryd.ntmps15
  go_wp2_with (first | ((with_reducible refine gate_callee (f := 22) rfl ?_); refine goesL_ (some 1) rfl rfl Tryd.func22 (by kernel_rfl) rfl #[.string (⟨#[65, 49, 59]⟩ : ByteArray)] rfl y1_ ?_; (with_reducible refine (impl_SecOk.calls (⟨#[65, 49, 59]⟩ : ByteArray) t260 _ ?side1 A1.out).mono ?_); (case side1 => exact GlobOk.below HGL.out (y7_ HB.out)); rintro e w2 ⟨rfl, hb⟩; refine ⟨_, rfl, ?_⟩; replace HB := Aside0.mk (below_step (y7_ HB.out) hb); clear hb))
  go_ret
  exact ⟨y6_, y7_ HB.out⟩

end Go.Proofs.YtjbnfcljkmapeaaDoor.Yh
