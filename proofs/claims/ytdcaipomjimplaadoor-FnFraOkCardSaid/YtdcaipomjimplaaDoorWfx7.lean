-- Written by this session's own program (wip/tools/pp.py) out of the translation, over functions given by hand. Lean checks it.
import Derived.Test.YtdcaipomjimplaaDoorWfx0
import Derived.Test.YtdcaipomjimplaaDoorWfx1
import Derived.Test.YtdcaipomjimplaaDoorWfx4
import Derived.Test.YtdcaipomjimplaaDoorWfx5
import Derived.Test.YtdcaipomjimplaaDoorWfx6
namespace Go.Proofs.YtdcaipomjimplaaDoor.Wf
open Go.RowKit Go.Proofs.YtdcaipomjimplaaDoorW.PrintWords Go.Proofs.YtdcaipomjimplaaDoorW.PrintLast Go.Proofs.YtdcaipomjimplaaDoorW.PrintMore
attribute [local go_sem] max2_int min2_int max_two min_two max_three min_three max_four min_four   -- for this text's walks alone
set_option linter.unusedVariables false
set_option linter.unusedSimpArgs false

/-! ### spec_l20Secret: function 96 -/
mutual
def spec_l20Secret.j0 : Nat → Int → Bool → List Int → Int → Option (ByteArray × Int)
  | 0, _, _, _, _ => none
  | k + 1, x1, x11, x1000, x1001 => if x11 = true then ((spec_l20Rd_pick.f k x1000 x1001 3).bind fun bt151 => ((spec_l20Rd_pick.f k x1000 bt151.2 4).bind fun bt153 => ((spec_MakNew.f k bt151.1 (wrap64 (1 + bt153.1))).bind fun t155 => (some (t155, bt153.2))))) else ((spec_l20Rd_pick.f k x1000 x1001 6).bind fun bt156 => (if bt156.1 = 0 then (spec_l20Secret.j1 k x1 bt156.1 (bt156.1 == 0) x1000 bt156.2) else (spec_l20Secret.j1 k x1 bt156.1 (bt156.1 == 1) x1000 bt156.2)))
def spec_l20Secret.j1 : Nat → Int → Int → Bool → List Int → Int → Option (ByteArray × Int)
  | 0, _, _, _, _, _ => none
  | k + 1, x1, x19, x20, x1000, x1001 => if x20 = true then ((spec_l20Secret.f k x1000 x1001 (wrap64 (x1 - 1))).bind fun bt158 => ((spec_MakNext.f k bt158.1).bind fun t160 => (some (t160, bt158.2)))) else (if x19 = 2 then ((spec_l20Secret.f k x1000 x1001 (wrap64 (x1 - 1))).bind fun bt161 => ((spec_MakKey.f k bt161.1).bind fun t163 => (some (t163, bt161.2)))) else (if x19 = 3 then ((spec_l20Secret.f k x1000 x1001 (wrap64 (x1 - 1))).bind fun bt164 => ((spec_l20Secret.f k x1000 bt164.2 (wrap64 (x1 - 1))).bind fun bt166 => ((spec_MakEpoch.f k bt164.1 bt166.1).bind fun t168 => (some (t168, bt166.2))))) else (if x19 = 4 then ((spec_l20Secret.f k x1000 x1001 (wrap64 (x1 - 1))).bind fun bt169 => ((spec_l20Rd_pick.f k x1000 bt169.2 8).bind fun bt171 => ((spec_MakSay.f k bt169.1 bt171.1).bind fun t173 => (some (t173, bt171.2))))) else ((spec_l20Secret.f k x1000 x1001 (wrap64 (x1 - 1))).bind fun bt174 => ((spec_l20Rd_pick.f k x1000 bt174.2 9).bind fun bt176 => ((spec_MakRoom.f k bt174.1 (wrap64 (1 + bt176.1))).bind fun t178 => (some (t178, bt176.2))))))))
def spec_l20Secret.f : Nat → List Int → Int → Int → Option (ByteArray × Int)
  | 0, _, _, _ => none
  | k + 1, s0_0, s0_1, a1 => if a1 = 0 then (spec_l20Secret.j0 k a1 true s0_0 s0_1) else ((spec_l20Rd_pick.f k s0_0 s0_1 3).bind fun bt149 => (spec_l20Secret.j0 k a1 (bt149.1 == 0) s0_0 bt149.2))
end
theorem spec_l20Secret.mono_l : ∀ k, (∀ y0 y1 y2, LeO (spec_l20Secret.f k y0 y1 y2) (spec_l20Secret.f (k + 1) y0 y1 y2)) ∧ (∀ y0 y1 y2 y3, LeO (spec_l20Secret.j0 k y0 y1 y2 y3) (spec_l20Secret.j0 (k + 1) y0 y1 y2 y3)) ∧ (∀ y0 y1 y2 y3 y4, LeO (spec_l20Secret.j1 k y0 y1 y2 y3 y4) (spec_l20Secret.j1 (k + 1) y0 y1 y2 y3 y4))
  | 0 => ⟨fun _ _ _ r h => by simp [spec_l20Secret.f] at h, fun _ _ _ _ r h => by simp [spec_l20Secret.j0] at h, fun _ _ _ _ _ r h => by simp [spec_l20Secret.j1] at h⟩
  | k + 1 => by
    obtain ⟨ih0, ih1, ih2⟩ := spec_l20Secret.mono_l k; refine ⟨?_, ?_, ?_⟩
    · intro y0 y1 y2
      unfold spec_l20Secret.f
      repeat' first
      | (with_reducible exact ih0 _ _ _)
      | (with_reducible exact ih1 _ _ _ _)
      | (with_reducible exact ih2 _ _ _ _ _)
      | (with_reducible exact spec_MakEpoch.mono _ _ _)
      | (with_reducible exact spec_MakKey.mono _ _)
      | (with_reducible exact spec_MakNew.mono _ _ _)
      | (with_reducible exact spec_MakNext.mono _ _)
      | (with_reducible exact spec_MakRoom.mono _ _ _)
      | (with_reducible exact spec_MakSay.mono _ _ _)
      | (with_reducible exact spec_l20Rd_pick.mono _ _ _ _)
      | (with_reducible exact LeO.refl _)
      | (with_reducible exact LeO.none _)
      | (with_reducible refine LeO.ite ?_ ?_)
      | (with_reducible refine LeO.bind ?_ (fun _ => ?_))
      | exact LeO.none _
      | refine LeO.ite ?_ ?_
      | refine LeO.bind ?_ (fun _ => ?_)
    · intro y0 y1 y2 y3
      unfold spec_l20Secret.j0
      repeat' first
      | (with_reducible exact ih0 _ _ _)
      | (with_reducible exact ih1 _ _ _ _)
      | (with_reducible exact ih2 _ _ _ _ _)
      | (with_reducible exact spec_MakEpoch.mono _ _ _)
      | (with_reducible exact spec_MakKey.mono _ _)
      | (with_reducible exact spec_MakNew.mono _ _ _)
      | (with_reducible exact spec_MakNext.mono _ _)
      | (with_reducible exact spec_MakRoom.mono _ _ _)
      | (with_reducible exact spec_MakSay.mono _ _ _)
      | (with_reducible exact spec_l20Rd_pick.mono _ _ _ _)
      | (with_reducible exact LeO.refl _)
      | (with_reducible exact LeO.none _)
      | (with_reducible refine LeO.ite ?_ ?_)
      | (with_reducible refine LeO.bind ?_ (fun _ => ?_))
      | exact LeO.none _
      | refine LeO.ite ?_ ?_
      | refine LeO.bind ?_ (fun _ => ?_)
    intro y0 y1 y2 y3 y4; unfold spec_l20Secret.j1
    repeat' first
    | (with_reducible exact ih0 _ _ _)
    | (with_reducible exact ih1 _ _ _ _)
    | (with_reducible exact ih2 _ _ _ _ _)
    | (with_reducible exact spec_MakEpoch.mono _ _ _)
    | (with_reducible exact spec_MakKey.mono _ _)
    | (with_reducible exact spec_MakNew.mono _ _ _)
    | (with_reducible exact spec_MakNext.mono _ _)
    | (with_reducible exact spec_MakRoom.mono _ _ _)
    | (with_reducible exact spec_MakSay.mono _ _ _)
    | (with_reducible exact spec_l20Rd_pick.mono _ _ _ _)
    | (with_reducible exact LeO.refl _)
    | (with_reducible exact LeO.none _)
    | (with_reducible refine LeO.ite ?_ ?_)
    | (with_reducible refine LeO.bind ?_ (fun _ => ?_))
    | exact LeO.none _
    | refine LeO.ite ?_ ?_
    | refine LeO.bind ?_ (fun _ => ?_)
theorem spec_l20Secret.mono : ∀ a0 a1 a2 k, LeO (spec_l20Secret.f k a0 a1 a2) (spec_l20Secret.f (k + 1) a0 a1 a2) := by
  intro a0 a1 a2 k; obtain ⟨ih0, ih1, ih2⟩ := spec_l20Secret.mono_l k; exact ih0 a0 a1 a2
set_option maxHeartbeats 8000000 in
set_option maxRecDepth 100000 in
theorem spec_l20Secret.calls (k : Nat) : ∀ (g : Nat) (s0_0 : List Int) (s0_1 : Int) (a1 : Int) (r1 : ByteArray) (r2 : Int) (w0 w : World) (hI : IsS81 w0 w g s0_0 s0_1) (hB : Below w0.heap.size w0 w) (h : spec_l20Secret.f k s0_0 s0_1 a1 = some (r1, r2)),
    Calls Tryd.prog 96 #[.pointer (some ⟨g, 0, none⟩), .int .i64 a1] w fun e w' => e = .returned (.string r1) ∧ IsS81 w0 w' g s0_0 r2 ∧ Below w0.heap.size w0 w' ∧ KeepBut w w' g none := by
  induction k using Nat.strongRecOn with
  | _ k ih =>
  intro g s0_0 s0_1 a1 r1 r2 w0 w hI hB h
  cases k with
  | zero => exact absurd h (by simp [spec_l20Secret.f])
  | succ k =>
  simp only [spec_l20Secret.f] at h; have HI0 := am_ hI; have HK := am_ (KeepBut.refl w g none); have HL := am_ hB.size; clear hI; have HW0 := am_ hB.size; have HB := am_ hB; clear hB; have H : (if a1 = 0 then (spec_l20Secret.j0 k a1 true s0_0 s0_1) else ((spec_l20Rd_pick.f k s0_0 s0_1 3).bind fun bt149 => (spec_l20Secret.j0 k a1 (bt149.1 == 0) s0_0 bt149.2))) = some (r1, r2) := h; clear h; have HC3 := am_ H; clear H; go_enter Tryd.func96, Tryd.ntmps96
  go_upto_region 1 with (fail)
  go_cut [11] (fun v11 wc => ∃ (kq : Nat) (x11_2 : Bool) (x1001_2 : Int), v11 = .bool x11_2 ∧ Aside0 (spec_l20Secret.j0 kq a1 x11_2 s0_0 x1001_2 = some (r1, r2)) ∧ Aside0 (kq ≤ k) ∧ Aside0 (IsS81 w0 wc g s0_0 x1001_2) ∧ Aside0 (KeepBut w wc g none) ∧ Aside0 (Below w0.heap.size w0 wc))
  case first =>
    have H := HC3.out; clear HC3; by_cases c4 : a1 = 0
    · rw [if_pos c4] at H
      have c4b0 : (a1 == 0) = true := beq_iff_eq.mpr c4; have c4b1 : (a1 != 0) = false := bne_eq_false_iff_eq.mpr c4; clear c4; (first | rw [c4b0] | (simp only [i64_w, i32_w]; rw [c4b0]) | skip); have H' := am_ H; clear H; go_wp2; go_meet
      case rel => exact ⟨_, (true), (s0_1), y4_, H', ⟨by first | omega | exact Nat.le_refl _⟩, ⟨y15_ HI0.out⟩, ⟨y9_ HK.out⟩, ⟨y8_ HB.out (IsS81.ge HI0.out)⟩⟩
    rw [if_neg c4] at H; have c4b0 : (a1 == 0) = false := beq_eq_false_iff_ne.mpr c4; have c4b1 : (a1 != 0) = true := bne_iff_ne.mpr c4; (first | rw [c4b0] | (simp only [i64_w, i32_w]; rw [c4b0]) | skip); replace H := Option.bind_eq_some_iff.mp H; obtain ⟨⟨t149, t150⟩, A50, H⟩ := H; replace H : (spec_l20Secret.j0 k a1 (t149 == 0) s0_0 t150) = some (r1, r2) := H; have A5 := am_ A50; clear A50; have H' := am_ H; clear H; go_wp2_with (first | (go_at_call 81; (with_reducible refine (spec_l20Rd_pick.calls k g s0_0 s0_1 3 t149 t150 w0 _ ?side1 ?side2 A5.out).mono ?_); (case side1 => exact y15_ HI0.out); (case side2 => exact y8_ HB.out (IsS81.ge HI0.out)); rintro e w6 ⟨rfl, hi, hb, hk⟩; replace HK := am_ (KeepBut.trans (y9_ HK.out) hk (.inl rfl)); replace HB := am_ (hb); replace HI0 := am_ (hi); (try clear hi hb hk))); go_meet
    case rel => exact ⟨_, ((t149 == 0)), (t150), y4_, H', ⟨by first | omega | exact Nat.le_refl _⟩, ⟨y15_ HI0.out⟩, ⟨y9_ HK.out⟩, ⟨y8_ HB.out (IsS81.ge HI0.out)⟩⟩
  case rest =>
    clear HC3; (try clear p2); (try clear c4); (try clear c4b0); (try clear c4b1); obtain ⟨kq, x11_2, x1001_2, rfl, HA, HJ2, HI0, HK, HB⟩ := hcut
    cases kq with
    | zero => exact absurd HA.out (by simp [spec_l20Secret.j0])
    | succ kj2 =>
      have H := HA.out; clear HA; simp only [spec_l20Secret.j0] at H; by_cases c7 : x11_2 = true
      · subst c7
        have H1 : ((spec_l20Rd_pick.f kj2 s0_0 x1001_2 3).bind fun bt151 => ((spec_l20Rd_pick.f kj2 s0_0 bt151.2 4).bind fun bt153 => ((spec_MakNew.f kj2 bt151.1 (wrap64 (1 + bt153.1))).bind fun t155 => (some (t155, bt153.2))))) = some (r1, r2) := by rw [if_pos rfl] at H; exact H
        clear H; have H := H1; clear H1; replace H := Option.bind_eq_some_iff.mp H; obtain ⟨⟨t151, t152⟩, A80, H⟩ := H; replace H : ((spec_l20Rd_pick.f kj2 s0_0 t152 4).bind fun bt153 => ((spec_MakNew.f kj2 t151 (wrap64 (1 + bt153.1))).bind fun t155 => (some (t155, bt153.2)))) = some (r1, r2) := H; have A8 := am_ A80; clear A80; replace H := Option.bind_eq_some_iff.mp H; obtain ⟨⟨t153, t154⟩, A90, H⟩ := H; replace H : ((spec_MakNew.f kj2 t151 (wrap64 (1 + t153))).bind fun t155 => (some (t155, t154))) = some (r1, r2) := H; have A9 := am_ A90; clear A90; replace H := Option.bind_eq_some_iff.mp H; obtain ⟨t155, A100, H⟩ := H; replace H : (some (t155, t154)) = some (r1, r2) := H; have A10 := am_ A100; clear A100; simp only [Option.some.injEq, Prod.mk.injEq] at H; obtain ⟨rfl, rfl⟩ := H; go_wp2_with (first | ((with_reducible refine gate_callee (f := 81) rfl ?_); refine goesL_ (some 13) rfl rfl Tryd.func81 (by kernel_rfl) rfl #[.pointer (some ⟨g, 0, none⟩), .int .i64 3] rfl y1_ ?_; (with_reducible refine (spec_l20Rd_pick.calls kj2 g s0_0 x1001_2 3 t151 t152 w0 _ ?side1 ?side2 A8.out).mono ?_); (case side1 => exact y15_ HI0.out); (case side2 => exact y8_ HB.out (IsS81.ge HI0.out)); rintro e w11 ⟨rfl, hi, hb, hk⟩; refine ⟨_, rfl, ?_⟩; replace HK := am_ (KeepBut.trans (y9_ HK.out) hk (.inl rfl)); replace HB := am_ (hb); replace HI0 := am_ (hi); (try clear hi hb hk)) | ((with_reducible refine gate_callee (f := 81) rfl ?_); refine goesL_ (some 15) rfl rfl Tryd.func81 (by kernel_rfl) rfl #[.pointer (some ⟨g, 0, none⟩), .int .i64 4] rfl y1_ ?_; (with_reducible refine (spec_l20Rd_pick.calls kj2 g s0_0 t152 4 t153 t154 w0 _ ?side1 ?side2 A9.out).mono ?_); (case side1 => exact y15_ HI0.out); (case side2 => exact y8_ HB.out (IsS81.ge HI0.out)); rintro e w12 ⟨rfl, hi, hb, hk⟩; refine ⟨_, rfl, ?_⟩; replace HK := am_ (KeepBut.trans (y9_ HK.out) hk (.inl rfl)); replace HB := am_ (hb); replace HI0 := am_ (hi); (try clear hi hb hk)) | ((with_reducible refine gate_callee (f := 108) rfl ?_); refine goesL_ (some 17) rfl rfl Tryd.func108 (by kernel_rfl) rfl #[.int .i64 t151, .int .i64 (wrap64 (1 + t153))] rfl y1_ ?_; (with_reducible refine (spec_MakNew.calls kj2 t151 (wrap64 (1 + t153)) t155 _ A10.out).mono ?_); rintro e w13 ⟨rfl, hb⟩; refine ⟨_, rfl, ?_⟩; replace HK := am_ (KeepBut.trans (y9_ HK.out) (KeepBut.of_below hb g none) (.inl rfl)); replace HB := am_ (below_step (y8_ HB.out (IsS81.ge HI0.out)) hb); replace HI0 := am_ (IsS81.below (y15_ HI0.out) hb); clear hb)); go_ret; exact ⟨y6_, y15_ HI0.out, y8_ HB.out (IsS81.ge HI0.out), y9_ HK.out⟩
      replace c7 := Bool.eq_false_iff.mpr c7; subst c7
      have H1 : ((spec_l20Rd_pick.f kj2 s0_0 x1001_2 6).bind fun bt156 => (if bt156.1 = 0 then (spec_l20Secret.j1 kj2 a1 bt156.1 (bt156.1 == 0) s0_0 bt156.2) else (spec_l20Secret.j1 kj2 a1 bt156.1 (bt156.1 == 1) s0_0 bt156.2))) = some (r1, r2) := by rw [if_neg (show ¬ (false = true) by decide)] at H; exact H
      clear H; have H := H1; clear H1; replace H := Option.bind_eq_some_iff.mp H; obtain ⟨⟨t156, t157⟩, A140, H⟩ := H; replace H : (if t156 = 0 then (spec_l20Secret.j1 kj2 a1 t156 (t156 == 0) s0_0 t157) else (spec_l20Secret.j1 kj2 a1 t156 (t156 == 1) s0_0 t157)) = some (r1, r2) := H; have A14 := am_ A140; clear A140; have HC15 := am_ H; clear H
      go_upto_if 20 with (first | ((with_reducible refine gate_callee (f := 81) rfl ?_); refine goesL_ (some 19) rfl rfl Tryd.func81 (by kernel_rfl) rfl #[.pointer (some ⟨g, 0, none⟩), .int .i64 6] rfl y1_ ?_; (with_reducible refine (spec_l20Rd_pick.calls kj2 g s0_0 x1001_2 6 t156 t157 w0 _ ?side1 ?side2 A14.out).mono ?_); (case side1 => exact y15_ HI0.out); (case side2 => exact y8_ HB.out (IsS81.ge HI0.out)); rintro e w16 ⟨rfl, hi, hb, hk⟩; refine ⟨_, rfl, ?_⟩; replace HK := am_ (KeepBut.trans (y9_ HK.out) hk (.inl rfl)); replace HB := am_ (hb); replace HI0 := am_ (hi); (try clear hi hb hk)))
      (try simp only [Act.put, List.setIfInBounds_toArray, List.set_cons_zero, List.set_cons_succ]); go_cut [20] (fun v20 wc => ∃ (kq : Nat) (x20_14 : Bool), v20 = .bool x20_14 ∧ Aside0 (spec_l20Secret.j1 kq a1 t156 x20_14 s0_0 t157 = some (r1, r2)) ∧ Aside0 (kq ≤ kj2) ∧ Aside0 (IsS81 w0 wc g s0_0 t157) ∧ Aside0 (KeepBut w wc g none) ∧ Aside0 (Below w0.heap.size w0 wc))
      case first =>
        have H := HC15.out; clear HC15; by_cases c17 : t156 = 0
        · rw [if_pos c17] at H
          have c17b0 : (t156 == 0) = true := beq_iff_eq.mpr c17; have c17b1 : (t156 != 0) = false := bne_eq_false_iff_eq.mpr c17; clear c17; (first | rw [c17b0] | (simp only [i64_w, i32_w]; rw [c17b0]) | skip); have H' := am_ H; clear H; go_wp2; go_meet
          case rel => exact ⟨_, ((t156 == 0)), y4_, H', ⟨by have := HJ2.out; first | omega | exact Nat.le_refl _⟩, ⟨y15_ HI0.out⟩, ⟨y9_ HK.out⟩, ⟨y8_ HB.out (IsS81.ge HI0.out)⟩⟩
        rw [if_neg c17] at H; have c17b0 : (t156 == 0) = false := beq_eq_false_iff_ne.mpr c17; have c17b1 : (t156 != 0) = true := bne_iff_ne.mpr c17; (first | rw [c17b0] | (simp only [i64_w, i32_w]; rw [c17b0]) | skip); have H' := am_ H; clear H; go_wp2; go_meet
        case rel => exact ⟨_, ((t156 == 1)), y4_, H', ⟨by have := HJ2.out; first | omega | exact Nat.le_refl _⟩, ⟨y15_ HI0.out⟩, ⟨y9_ HK.out⟩, ⟨y8_ HB.out (IsS81.ge HI0.out)⟩⟩
      case rest =>
        clear HC15; (try clear c1); (try clear p2); (try clear c4); (try clear c4b0); (try clear c4b1); (try clear p6); (try clear c7); (try clear c8); (try clear c9); (try clear c10); (try clear c17); (try clear c17b0); (try clear c17b1); (try clear p2); obtain ⟨kq, x20_14, rfl, HA, HJ14, HI0, HK, HB⟩ := hcut
        cases kq with
        | zero => exact absurd HA.out (by simp [spec_l20Secret.j1])
        | succ kj14 =>
          have H := HA.out; clear HA; simp only [spec_l20Secret.j1] at H; by_cases c18 : x20_14 = true
          · subst c18
            have H1 : ((spec_l20Secret.f kj14 s0_0 t157 (wrap64 (a1 - 1))).bind fun bt158 => ((spec_MakNext.f kj14 bt158.1).bind fun t160 => (some (t160, bt158.2)))) = some (r1, r2) := by rw [if_pos rfl] at H; exact H
            clear H; have H := H1; clear H1; replace H := Option.bind_eq_some_iff.mp H; obtain ⟨⟨t158, t159⟩, A190, H⟩ := H; replace H : ((spec_MakNext.f kj14 t158).bind fun t160 => (some (t160, t159))) = some (r1, r2) := H; have A19 := am_ A190; clear A190; replace H := Option.bind_eq_some_iff.mp H; obtain ⟨t160, A200, H⟩ := H; replace H : (some (t160, t159)) = some (r1, r2) := H; have A20 := am_ A200; clear A200; simp only [Option.some.injEq, Prod.mk.injEq] at H; obtain ⟨rfl, rfl⟩ := H; go_wp2_with (first | ((with_reducible refine gate_callee (f := 96) rfl ?_); refine goesL_ (some 26) rfl rfl Tryd.func96 (by kernel_rfl) rfl #[.pointer (some ⟨g, 0, none⟩), .int .i64 (wrap64 (a1 - 1))] rfl y1_ ?_; (with_reducible refine (ih kj14 (by have := HJ2.out; have := HJ14.out; omega) g s0_0 t157 (wrap64 (a1 - 1)) t158 t159 w0 _ ?side1 ?side2 A19.out).mono ?_); (case side1 => exact y15_ HI0.out); (case side2 => exact y8_ HB.out (IsS81.ge HI0.out)); rintro e w21 ⟨rfl, hi, hb, hk⟩; refine ⟨_, rfl, ?_⟩; replace HK := am_ (KeepBut.trans (y9_ HK.out) hk (.inl rfl)); replace HB := am_ (hb); replace HI0 := am_ (hi); (try clear hi hb hk)) | ((with_reducible refine gate_callee (f := 42) rfl ?_); refine goesL_ (some 27) rfl rfl Tryd.func42 (by kernel_rfl) rfl #[.string t158] rfl y1_ ?_; (with_reducible refine (spec_MakNext.calls kj14 t158 t160 _ A20.out).mono ?_); rintro e w22 ⟨rfl, hb⟩; refine ⟨_, rfl, ?_⟩; replace HK := am_ (KeepBut.trans (y9_ HK.out) (KeepBut.of_below hb g none) (.inl rfl)); replace HB := am_ (below_step (y8_ HB.out (IsS81.ge HI0.out)) hb); replace HI0 := am_ (IsS81.below (y15_ HI0.out) hb); clear hb)); go_ret; exact ⟨y6_, y15_ HI0.out, y8_ HB.out (IsS81.ge HI0.out), y9_ HK.out⟩
          replace c18 := Bool.eq_false_iff.mpr c18; subst c18
          have H1 : (if t156 = 2 then ((spec_l20Secret.f kj14 s0_0 t157 (wrap64 (a1 - 1))).bind fun bt161 => ((spec_MakKey.f kj14 bt161.1).bind fun t163 => (some (t163, bt161.2)))) else (if t156 = 3 then ((spec_l20Secret.f kj14 s0_0 t157 (wrap64 (a1 - 1))).bind fun bt164 => ((spec_l20Secret.f kj14 s0_0 bt164.2 (wrap64 (a1 - 1))).bind fun bt166 => ((spec_MakEpoch.f kj14 bt164.1 bt166.1).bind fun t168 => (some (t168, bt166.2))))) else (if t156 = 4 then ((spec_l20Secret.f kj14 s0_0 t157 (wrap64 (a1 - 1))).bind fun bt169 => ((spec_l20Rd_pick.f kj14 s0_0 bt169.2 8).bind fun bt171 => ((spec_MakSay.f kj14 bt169.1 bt171.1).bind fun t173 => (some (t173, bt171.2))))) else ((spec_l20Secret.f kj14 s0_0 t157 (wrap64 (a1 - 1))).bind fun bt174 => ((spec_l20Rd_pick.f kj14 s0_0 bt174.2 9).bind fun bt176 => ((spec_MakRoom.f kj14 bt174.1 (wrap64 (1 + bt176.1))).bind fun t178 => (some (t178, bt176.2)))))))) = some (r1, r2) := by rw [if_neg (show ¬ (false = true) by decide)] at H; exact H
          clear H; have H := H1; clear H1; by_cases c23 : t156 = 2
          · rw [if_pos c23] at H
            have c23b0 : (t156 == 2) = true := beq_iff_eq.mpr c23; have c23b1 : (t156 != 2) = false := bne_eq_false_iff_eq.mpr c23; clear c23; replace H := Option.bind_eq_some_iff.mp H; obtain ⟨⟨t161, t162⟩, A240, H⟩ := H; replace H : ((spec_MakKey.f kj14 t161).bind fun t163 => (some (t163, t162))) = some (r1, r2) := H; have A24 := am_ A240; clear A240; replace H := Option.bind_eq_some_iff.mp H; obtain ⟨t163, A250, H⟩ := H; replace H : (some (t163, t162)) = some (r1, r2) := H; have A25 := am_ A250; clear A250; simp only [Option.some.injEq, Prod.mk.injEq] at H; obtain ⟨rfl, rfl⟩ := H; go_wp2_with (first | ((with_reducible refine gate_callee (f := 96) rfl ?_); refine goesL_ (some 33) rfl rfl Tryd.func96 (by kernel_rfl) rfl #[.pointer (some ⟨g, 0, none⟩), .int .i64 (wrap64 (a1 - 1))] rfl y1_ ?_; (with_reducible refine (ih kj14 (by have := HJ2.out; have := HJ14.out; omega) g s0_0 t157 (wrap64 (a1 - 1)) t161 t162 w0 _ ?side1 ?side2 A24.out).mono ?_); (case side1 => exact y15_ HI0.out); (case side2 => exact y8_ HB.out (IsS81.ge HI0.out)); rintro e w26 ⟨rfl, hi, hb, hk⟩; refine ⟨_, rfl, ?_⟩; replace HK := am_ (KeepBut.trans (y9_ HK.out) hk (.inl rfl)); replace HB := am_ (hb); replace HI0 := am_ (hi); (try clear hi hb hk)) | ((with_reducible refine gate_callee (f := 43) rfl ?_); refine goesL_ (some 34) rfl rfl Tryd.func43 (by kernel_rfl) rfl #[.string t161] rfl y1_ ?_; (with_reducible refine (spec_MakKey.calls kj14 t161 t163 _ A25.out).mono ?_); rintro e w27 ⟨rfl, hb⟩; refine ⟨_, rfl, ?_⟩; replace HK := am_ (KeepBut.trans (y9_ HK.out) (KeepBut.of_below hb g none) (.inl rfl)); replace HB := am_ (below_step (y8_ HB.out (IsS81.ge HI0.out)) hb); replace HI0 := am_ (IsS81.below (y15_ HI0.out) hb); clear hb)); go_ret; exact ⟨y6_, y15_ HI0.out, y8_ HB.out (IsS81.ge HI0.out), y9_ HK.out⟩
          rw [if_neg c23] at H; have c23b0 : (t156 == 2) = false := beq_eq_false_iff_ne.mpr c23; have c23b1 : (t156 != 2) = true := bne_iff_ne.mpr c23; by_cases c28 : t156 = 3
          · rw [if_pos c28] at H
            have c28b0 : (t156 == 3) = true := beq_iff_eq.mpr c28; have c28b1 : (t156 != 3) = false := bne_eq_false_iff_eq.mpr c28; clear c28; replace H := Option.bind_eq_some_iff.mp H; obtain ⟨⟨t164, t165⟩, A290, H⟩ := H; replace H : ((spec_l20Secret.f kj14 s0_0 t165 (wrap64 (a1 - 1))).bind fun bt166 => ((spec_MakEpoch.f kj14 t164 bt166.1).bind fun t168 => (some (t168, bt166.2)))) = some (r1, r2) := H; have A29 := am_ A290; clear A290; replace H := Option.bind_eq_some_iff.mp H; obtain ⟨⟨t166, t167⟩, A300, H⟩ := H; replace H : ((spec_MakEpoch.f kj14 t164 t166).bind fun t168 => (some (t168, t167))) = some (r1, r2) := H; have A30 := am_ A300; clear A300; replace H := Option.bind_eq_some_iff.mp H; obtain ⟨t168, A310, H⟩ := H; replace H : (some (t168, t167)) = some (r1, r2) := H; have A31 := am_ A310; clear A310; simp only [Option.some.injEq, Prod.mk.injEq] at H; obtain ⟨rfl, rfl⟩ := H; go_wp2_with (first | ((with_reducible refine gate_callee (f := 96) rfl ?_); refine goesL_ (some 40) rfl rfl Tryd.func96 (by kernel_rfl) rfl #[.pointer (some ⟨g, 0, none⟩), .int .i64 (wrap64 (a1 - 1))] rfl y1_ ?_; (with_reducible refine (ih kj14 (by have := HJ2.out; have := HJ14.out; omega) g s0_0 t157 (wrap64 (a1 - 1)) t164 t165 w0 _ ?side1 ?side2 A29.out).mono ?_); (case side1 => exact y15_ HI0.out); (case side2 => exact y8_ HB.out (IsS81.ge HI0.out)); rintro e w32 ⟨rfl, hi, hb, hk⟩; refine ⟨_, rfl, ?_⟩; replace HK := am_ (KeepBut.trans (y9_ HK.out) hk (.inl rfl)); replace HB := am_ (hb); replace HI0 := am_ (hi); (try clear hi hb hk)) | ((with_reducible refine gate_callee (f := 96) rfl ?_); refine goesL_ (some 44) rfl rfl Tryd.func96 (by kernel_rfl) rfl #[.pointer (some ⟨g, 0, none⟩), .int .i64 (wrap64 (a1 - 1))] rfl y1_ ?_; (with_reducible refine (ih kj14 (by have := HJ2.out; have := HJ14.out; omega) g s0_0 t165 (wrap64 (a1 - 1)) t166 t167 w0 _ ?side1 ?side2 A30.out).mono ?_); (case side1 => exact y15_ HI0.out); (case side2 => exact y8_ HB.out (IsS81.ge HI0.out)); rintro e w33 ⟨rfl, hi, hb, hk⟩; refine ⟨_, rfl, ?_⟩; replace HK := am_ (KeepBut.trans (y9_ HK.out) hk (.inl rfl)); replace HB := am_ (hb); replace HI0 := am_ (hi); (try clear hi hb hk)) | ((with_reducible refine gate_callee (f := 37) rfl ?_); refine goesL_ (some 45) rfl rfl Tryd.func37 (by kernel_rfl) rfl #[.string t164, .string t166] rfl y1_ ?_; (with_reducible refine (spec_MakEpoch.calls kj14 t164 t166 t168 _ A31.out).mono ?_); rintro e w34 ⟨rfl, hb⟩; refine ⟨_, rfl, ?_⟩; replace HK := am_ (KeepBut.trans (y9_ HK.out) (KeepBut.of_below hb g none) (.inl rfl)); replace HB := am_ (below_step (y8_ HB.out (IsS81.ge HI0.out)) hb); replace HI0 := am_ (IsS81.below (y15_ HI0.out) hb); clear hb)); go_ret; exact ⟨y6_, y15_ HI0.out, y8_ HB.out (IsS81.ge HI0.out), y9_ HK.out⟩
          rw [if_neg c28] at H; have c28b0 : (t156 == 3) = false := beq_eq_false_iff_ne.mpr c28; have c28b1 : (t156 != 3) = true := bne_iff_ne.mpr c28; by_cases c35 : t156 = 4
          · rw [if_pos c35] at H
            have c35b0 : (t156 == 4) = true := beq_iff_eq.mpr c35; have c35b1 : (t156 != 4) = false := bne_eq_false_iff_eq.mpr c35; clear c35; replace H := Option.bind_eq_some_iff.mp H; obtain ⟨⟨t169, t170⟩, A360, H⟩ := H; replace H : ((spec_l20Rd_pick.f kj14 s0_0 t170 8).bind fun bt171 => ((spec_MakSay.f kj14 t169 bt171.1).bind fun t173 => (some (t173, bt171.2)))) = some (r1, r2) := H; have A36 := am_ A360; clear A360; replace H := Option.bind_eq_some_iff.mp H; obtain ⟨⟨t171, t172⟩, A370, H⟩ := H; replace H : ((spec_MakSay.f kj14 t169 t171).bind fun t173 => (some (t173, t172))) = some (r1, r2) := H; have A37 := am_ A370; clear A370; replace H := Option.bind_eq_some_iff.mp H; obtain ⟨t173, A380, H⟩ := H; replace H : (some (t173, t172)) = some (r1, r2) := H; have A38 := am_ A380; clear A380; simp only [Option.some.injEq, Prod.mk.injEq] at H; obtain ⟨rfl, rfl⟩ := H; go_wp2_with (first | ((with_reducible refine gate_callee (f := 96) rfl ?_); refine goesL_ (some 51) rfl rfl Tryd.func96 (by kernel_rfl) rfl #[.pointer (some ⟨g, 0, none⟩), .int .i64 (wrap64 (a1 - 1))] rfl y1_ ?_; (with_reducible refine (ih kj14 (by have := HJ2.out; have := HJ14.out; omega) g s0_0 t157 (wrap64 (a1 - 1)) t169 t170 w0 _ ?side1 ?side2 A36.out).mono ?_); (case side1 => exact y15_ HI0.out); (case side2 => exact y8_ HB.out (IsS81.ge HI0.out)); rintro e w39 ⟨rfl, hi, hb, hk⟩; refine ⟨_, rfl, ?_⟩; replace HK := am_ (KeepBut.trans (y9_ HK.out) hk (.inl rfl)); replace HB := am_ (hb); replace HI0 := am_ (hi); (try clear hi hb hk)) | ((with_reducible refine gate_callee (f := 81) rfl ?_); refine goesL_ (some 53) rfl rfl Tryd.func81 (by kernel_rfl) rfl #[.pointer (some ⟨g, 0, none⟩), .int .i64 8] rfl y1_ ?_; (with_reducible refine (spec_l20Rd_pick.calls kj14 g s0_0 t170 8 t171 t172 w0 _ ?side1 ?side2 A37.out).mono ?_); (case side1 => exact y15_ HI0.out); (case side2 => exact y8_ HB.out (IsS81.ge HI0.out)); rintro e w40 ⟨rfl, hi, hb, hk⟩; refine ⟨_, rfl, ?_⟩; replace HK := am_ (KeepBut.trans (y9_ HK.out) hk (.inl rfl)); replace HB := am_ (hb); replace HI0 := am_ (hi); (try clear hi hb hk)) | ((with_reducible refine gate_callee (f := 48) rfl ?_); refine goesL_ (some 54) rfl rfl Tryd.func48 (by kernel_rfl) rfl #[.string t169, .int .i64 t171] rfl y1_ ?_; (with_reducible refine (spec_MakSay.calls kj14 t169 t171 t173 _ A38.out).mono ?_); rintro e w41 ⟨rfl, hb⟩; refine ⟨_, rfl, ?_⟩; replace HK := am_ (KeepBut.trans (y9_ HK.out) (KeepBut.of_below hb g none) (.inl rfl)); replace HB := am_ (below_step (y8_ HB.out (IsS81.ge HI0.out)) hb); replace HI0 := am_ (IsS81.below (y15_ HI0.out) hb); clear hb)); go_ret; exact ⟨y6_, y15_ HI0.out, y8_ HB.out (IsS81.ge HI0.out), y9_ HK.out⟩
          rw [if_neg c35] at H; have c35b0 : (t156 == 4) = false := beq_eq_false_iff_ne.mpr c35; have c35b1 : (t156 != 4) = true := bne_iff_ne.mpr c35; replace H := Option.bind_eq_some_iff.mp H; obtain ⟨⟨t174, t175⟩, A420, H⟩ := H; replace H : ((spec_l20Rd_pick.f kj14 s0_0 t175 9).bind fun bt176 => ((spec_MakRoom.f kj14 t174 (wrap64 (1 + bt176.1))).bind fun t178 => (some (t178, bt176.2)))) = some (r1, r2) := H; have A42 := am_ A420; clear A420; replace H := Option.bind_eq_some_iff.mp H; obtain ⟨⟨t176, t177⟩, A430, H⟩ := H; replace H : ((spec_MakRoom.f kj14 t174 (wrap64 (1 + t176))).bind fun t178 => (some (t178, t177))) = some (r1, r2) := H; have A43 := am_ A430; clear A430; replace H := Option.bind_eq_some_iff.mp H; obtain ⟨t178, A440, H⟩ := H; replace H : (some (t178, t177)) = some (r1, r2) := H; have A44 := am_ A440; clear A440; simp only [Option.some.injEq, Prod.mk.injEq] at H; obtain ⟨rfl, rfl⟩ := H; go_wp2_with (first | ((with_reducible refine gate_callee (f := 96) rfl ?_); refine goesL_ (some 58) rfl rfl Tryd.func96 (by kernel_rfl) rfl #[.pointer (some ⟨g, 0, none⟩), .int .i64 (wrap64 (a1 - 1))] rfl y1_ ?_; (with_reducible refine (ih kj14 (by have := HJ2.out; have := HJ14.out; omega) g s0_0 t157 (wrap64 (a1 - 1)) t174 t175 w0 _ ?side1 ?side2 A42.out).mono ?_); (case side1 => exact y15_ HI0.out); (case side2 => exact y8_ HB.out (IsS81.ge HI0.out)); rintro e w45 ⟨rfl, hi, hb, hk⟩; refine ⟨_, rfl, ?_⟩; replace HK := am_ (KeepBut.trans (y9_ HK.out) hk (.inl rfl)); replace HB := am_ (hb); replace HI0 := am_ (hi); (try clear hi hb hk)) | ((with_reducible refine gate_callee (f := 81) rfl ?_); refine goesL_ (some 60) rfl rfl Tryd.func81 (by kernel_rfl) rfl #[.pointer (some ⟨g, 0, none⟩), .int .i64 9] rfl y1_ ?_; (with_reducible refine (spec_l20Rd_pick.calls kj14 g s0_0 t175 9 t176 t177 w0 _ ?side1 ?side2 A43.out).mono ?_); (case side1 => exact y15_ HI0.out); (case side2 => exact y8_ HB.out (IsS81.ge HI0.out)); rintro e w46 ⟨rfl, hi, hb, hk⟩; refine ⟨_, rfl, ?_⟩; replace HK := am_ (KeepBut.trans (y9_ HK.out) hk (.inl rfl)); replace HB := am_ (hb); replace HI0 := am_ (hi); (try clear hi hb hk)) | ((with_reducible refine gate_callee (f := 49) rfl ?_); refine goesL_ (some 62) rfl rfl Tryd.func49 (by kernel_rfl) rfl #[.string t174, .int .i64 (wrap64 (1 + t176))] rfl y1_ ?_; (with_reducible refine (spec_MakRoom.calls kj14 t174 (wrap64 (1 + t176)) t178 _ A44.out).mono ?_); rintro e w47 ⟨rfl, hb⟩; refine ⟨_, rfl, ?_⟩; replace HK := am_ (KeepBut.trans (y9_ HK.out) (KeepBut.of_below hb g none) (.inl rfl)); replace HB := am_ (below_step (y8_ HB.out (IsS81.ge HI0.out)) hb); replace HI0 := am_ (IsS81.below (y15_ HI0.out) hb); clear hb)); go_ret; exact ⟨y6_, y15_ HI0.out, y8_ HB.out (IsS81.ge HI0.out), y9_ HK.out⟩

/-! ### spec_l20Rd_odd: function 97 -/
def spec_l20Rd_odd.f (k : Nat) (s0_0 : List Int) (s0_1 : Int) (a1 : Int) : Option (Bool × Int) := if a1 < 9000 then ((spec_l20Rd_pick.f k s0_0 s0_1 a1).bind fun bt179 => (some ((bt179.1 == (wrap64 (a1 - 1))), bt179.2))) else (some (false, s0_1))
theorem spec_l20Rd_odd.mono : ∀ a0 a1 a2 k, LeO (spec_l20Rd_odd.f k a0 a1 a2) (spec_l20Rd_odd.f (k + 1) a0 a1 a2) := by
  intro a0 a1 a2 k; unfold spec_l20Rd_odd.f
  repeat' first
      | (with_reducible exact spec_l20Rd_pick.mono _ _ _ _)
      | (with_reducible exact LeO.refl _)
      | (with_reducible exact LeO.none _)
      | (with_reducible refine LeO.ite ?_ ?_)
      | (with_reducible refine LeO.bind ?_ (fun _ => ?_))
      | exact LeO.none _
      | refine LeO.ite ?_ ?_
      | refine LeO.bind ?_ (fun _ => ?_)
set_option maxHeartbeats 8000000 in
set_option maxRecDepth 100000 in
theorem spec_l20Rd_odd.calls (k : Nat) (g : Nat) (s0_0 : List Int) (s0_1 : Int) (a1 : Int) (r1 : Bool) (r2 : Int) (w0 w : World) (hI : IsS81 w0 w g s0_0 s0_1) (hB : Below w0.heap.size w0 w) (h : spec_l20Rd_odd.f k s0_0 s0_1 a1 = some (r1, r2)) :
    Calls Tryd.prog 97 #[.pointer (some ⟨g, 0, none⟩), .int .i64 a1] w fun e w' => e = .returned (.bool r1) ∧ IsS81 w0 w' g s0_0 r2 ∧ Below w0.heap.size w0 w' ∧ KeepBut w w' g none := by
  have HI0 := am_ hI; have HK := am_ (KeepBut.refl w g none); have HL := am_ hB.size; clear hI; have HW0 := am_ hB.size; have HB := am_ hB; clear hB; have H : (if a1 < 9000 then ((spec_l20Rd_pick.f k s0_0 s0_1 a1).bind fun bt179 => (some ((bt179.1 == (wrap64 (a1 - 1))), bt179.2))) else (some (false, s0_1))) = some (r1, r2) := h; clear h; by_cases c3 : a1 < 9000
  · rw [if_pos c3] at H
    have c3b0 : decide (a1 < 9000) = true := decide_eq_true c3; clear c3; replace H := Option.bind_eq_some_iff.mp H; obtain ⟨⟨t179, t180⟩, A40, H⟩ := H; replace H : (some ((t179 == (wrap64 (a1 - 1))), t180)) = some (r1, r2) := H; have A4 := am_ A40; clear A40; simp only [Option.some.injEq, Prod.mk.injEq] at H; obtain ⟨rfl, rfl⟩ := H; go_enter Tryd.func97, Tryd.ntmps97; go_wp2_with (first | (go_at_call 81; (with_reducible refine (spec_l20Rd_pick.calls k g s0_0 s0_1 a1 t179 t180 w0 _ ?side1 ?side2 A4.out).mono ?_); (case side1 => exact y15_ HI0.out); (case side2 => exact y8_ HB.out (IsS81.ge HI0.out)); rintro e w5 ⟨rfl, hi, hb, hk⟩; replace HK := am_ (KeepBut.trans (y9_ HK.out) hk (.inl rfl)); replace HB := am_ (hb); replace HI0 := am_ (hi); (try clear hi hb hk))); go_ret; exact ⟨y6_, y15_ HI0.out, y8_ HB.out (IsS81.ge HI0.out), y9_ HK.out⟩
  rw [if_neg c3] at H; have c3b0 : decide (a1 < 9000) = false := decide_eq_false c3; clear c3; simp only [Option.some.injEq, Prod.mk.injEq] at H; obtain ⟨rfl, rfl⟩ := H; go_enter Tryd.func97, Tryd.ntmps97; go_wp2; go_ret; exact ⟨y6_, y15_ HI0.out, y8_ HB.out (IsS81.ge HI0.out), y9_ HK.out⟩

end Go.Proofs.YtdcaipomjimplaaDoor.Wf
