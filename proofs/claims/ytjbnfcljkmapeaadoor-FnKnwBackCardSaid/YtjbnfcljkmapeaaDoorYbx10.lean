-- Written by this session's own program (wip/tools/pp.py) out of the translation, over functions given by hand. Lean checks it.
import Derived.Test.YtjbnfcljkmapeaaDoorYbx0
import Derived.Test.YtjbnfcljkmapeaaDoorYbx1
import Derived.Test.YtjbnfcljkmapeaaDoorYbx2
import Derived.Test.YtjbnfcljkmapeaaDoorYbx8
import Derived.Test.YtjbnfcljkmapeaaDoorYbx9
namespace Go.Proofs.YtjbnfcljkmapeaaDoor.Yb
open Go.RowKit Go.Proofs.YtjbnfcljkmapeaaDoorW.PrintWords Go.Proofs.YtjbnfcljkmapeaaDoorW.PrintLast Go.Proofs.YtjbnfcljkmapeaaDoorW.PrintMore
attribute [local go_sem] max2_int min2_int max_two min_two max_three min_three max_four min_four   -- for this text's walks alone
set_option linter.unusedVariables false
set_option linter.unusedSimpArgs false

/-! ### spec_l20SecretOr: function 36 -/
def spec_l20SecretOr.l0 : Nat → ByteArray → List Int → Int → Option (ByteArray × Int)
  | 0, _, _, _ => none
  | k + 1, x5, x1000, x1001 => if (x5.size : Int) ≤ 300 then (if 1 + x5.size ≤ 9223372036854775807 then (spec_l20SecretOr.l0 k ((⟨#[110]⟩ : ByteArray) ++ x5) x1000 x1001) else (none)) else (some (x5, x1001))
def spec_l20SecretOr.f (k : Nat) (s0_0 : List Int) (s0_1 : Int) (a1 : Int) : Option (ByteArray × Int) := (spec_l20Secret.f k s0_0 s0_1 4).bind fun bt196 => ((spec_l20Rd_odd.f k s0_0 bt196.2 a1).bind fun bt198 => (if bt198.1 = true then ((spec_l20Rd_pick.f k s0_0 bt198.2 4).bind fun bt200 => (if bt200.1 = 0 then ((spec_l20Bent.f k s0_0 bt200.2 bt196.1).bind fun bt202 => (some (bt202.1, bt202.2))) else (if bt200.1 = 1 then ((some (([(⟨#[]⟩ : ByteArray), (⟨#[65]⟩ : ByteArray), (⟨#[65, 48, 59]⟩ : ByteArray), (⟨#[65, 49, 48, 48, 59]⟩ : ByteArray), (⟨#[65, 48, 49, 59]⟩ : ByteArray), (⟨#[73, 49, 59]⟩ : ByteArray), (⟨#[110]⟩ : ByteArray), (⟨#[101]⟩ : ByteArray), (⟨#[101, 65, 49, 59]⟩ : ByteArray), (⟨#[109, 65]⟩ : ByteArray), (⟨#[114, 48, 65, 49, 59]⟩ : ByteArray), (⟨#[107, 65, 49, 59, 120]⟩ : ByteArray), (⟨#[109, 73, 65, 49, 59]⟩ : ByteArray)] : List ByteArray) : List ByteArray)).bind fun y204 => ((spec_l20Rd_pick.f k s0_0 bt200.2 13).bind fun bt207 => (if 0 ≤ bt207.1 then (if bt207.1 < (y204.length : Int) then (some (rdOf ByteArray.empty y204 bt207.1, bt207.2)) else (none)) else (none)))) else (if bt200.1 = 2 then (spec_l20SecretOr.l0 k bt196.1 s0_0 bt200.2) else (if bt196.1.size + bt196.1.size ≤ 9223372036854775807 then (some (bt196.1 ++ bt196.1, bt200.2)) else (none)))))) else (some (bt196.1, bt198.2))))
theorem spec_l20SecretOr.mono_l : ∀ k, (∀ y0 y1 y2, LeO (spec_l20SecretOr.l0 k y0 y1 y2) (spec_l20SecretOr.l0 (k + 1) y0 y1 y2))
  | 0 => fun _ _ _ r h => by simp [spec_l20SecretOr.l0] at h
  | k + 1 => by
    have ih0 := spec_l20SecretOr.mono_l k
    · intro y0 y1 y2
      unfold spec_l20SecretOr.l0
      repeat' first
      | (with_reducible exact ih0 _ _ _)
      | (with_reducible exact spec_l20Bent.mono _ _ _ _)
      | (with_reducible exact spec_l20Rd_odd.mono _ _ _ _)
      | (with_reducible exact spec_l20Rd_pick.mono _ _ _ _)
      | (with_reducible exact spec_l20Secret.mono _ _ _ _)
      | (with_reducible exact LeO.refl _)
      | (with_reducible exact LeO.none _)
      | (with_reducible refine LeO.ite ?_ ?_)
      | (with_reducible refine LeO.bind ?_ (fun _ => ?_))
      | exact LeO.none _
      | refine LeO.ite ?_ ?_
      | refine LeO.bind ?_ (fun _ => ?_)
theorem spec_l20SecretOr.mono : ∀ a0 a1 a2 k, LeO (spec_l20SecretOr.f k a0 a1 a2) (spec_l20SecretOr.f (k + 1) a0 a1 a2) := by
  intro a0 a1 a2 k
  have ih0 := spec_l20SecretOr.mono_l k
  unfold spec_l20SecretOr.f
  repeat' first
      | (with_reducible exact ih0 _ _ _)
      | (with_reducible exact spec_l20Bent.mono _ _ _ _)
      | (with_reducible exact spec_l20Rd_odd.mono _ _ _ _)
      | (with_reducible exact spec_l20Rd_pick.mono _ _ _ _)
      | (with_reducible exact spec_l20Secret.mono _ _ _ _)
      | (with_reducible exact LeO.refl _)
      | (with_reducible exact LeO.none _)
      | (with_reducible refine LeO.ite ?_ ?_)
      | (with_reducible refine LeO.bind ?_ (fun _ => ?_))
      | exact LeO.none _
      | refine LeO.ite ?_ ?_
      | refine LeO.bind ?_ (fun _ => ?_)
set_option maxHeartbeats 8000000 in
set_option maxRecDepth 100000 in
theorem spec_l20SecretOr.calls (k : Nat) (g : Nat) (s0_0 : List Int) (s0_1 : Int) (a1 : Int) (r1 : ByteArray) (r2 : Int) (w0 w : World) (hI : IsS69 w0 w g s0_0 s0_1) (hB : Below w0.heap.size w0 w) (h : spec_l20SecretOr.f k s0_0 s0_1 a1 = some (r1, r2)) :
    Calls Tryd.prog 36 #[.pointer (some ⟨g, 0, none⟩), .int .i64 a1] w fun e w' => e = .returned (.string r1) ∧ IsS69 w0 w' g s0_0 r2 ∧ Below w0.heap.size w0 w' ∧ KeepBut w w' g none := by
  have HI0 := Aside0.mk hI
  have HK := Aside0.mk (KeepBut.refl w g none)
  have HL := Aside0.mk hB.size
  clear hI
  have HW0 := Aside0.mk hB.size
  have HB := Aside0.mk hB
  clear hB
  have H : ((spec_l20Secret.f k s0_0 s0_1 4).bind fun bt196 => ((spec_l20Rd_odd.f k s0_0 bt196.2 a1).bind fun bt198 => (if bt198.1 = true then ((spec_l20Rd_pick.f k s0_0 bt198.2 4).bind fun bt200 => (if bt200.1 = 0 then ((spec_l20Bent.f k s0_0 bt200.2 bt196.1).bind fun bt202 => (some (bt202.1, bt202.2))) else (if bt200.1 = 1 then ((some (([(⟨#[]⟩ : ByteArray), (⟨#[65]⟩ : ByteArray), (⟨#[65, 48, 59]⟩ : ByteArray), (⟨#[65, 49, 48, 48, 59]⟩ : ByteArray), (⟨#[65, 48, 49, 59]⟩ : ByteArray), (⟨#[73, 49, 59]⟩ : ByteArray), (⟨#[110]⟩ : ByteArray), (⟨#[101]⟩ : ByteArray), (⟨#[101, 65, 49, 59]⟩ : ByteArray), (⟨#[109, 65]⟩ : ByteArray), (⟨#[114, 48, 65, 49, 59]⟩ : ByteArray), (⟨#[107, 65, 49, 59, 120]⟩ : ByteArray), (⟨#[109, 73, 65, 49, 59]⟩ : ByteArray)] : List ByteArray) : List ByteArray)).bind fun y204 => ((spec_l20Rd_pick.f k s0_0 bt200.2 13).bind fun bt207 => (if 0 ≤ bt207.1 then (if bt207.1 < (y204.length : Int) then (some (rdOf ByteArray.empty y204 bt207.1, bt207.2)) else (none)) else (none)))) else (if bt200.1 = 2 then (spec_l20SecretOr.l0 k bt196.1 s0_0 bt200.2) else (if bt196.1.size + bt196.1.size ≤ 9223372036854775807 then (some (bt196.1 ++ bt196.1, bt200.2)) else (none)))))) else (some (bt196.1, bt198.2))))) = some (r1, r2) := h
  clear h
  replace H := Option.bind_eq_some_iff.mp H
  obtain ⟨⟨t196, t197⟩, A30, H⟩ := H
  replace H : ((spec_l20Rd_odd.f k s0_0 t197 a1).bind fun bt198 => (if bt198.1 = true then ((spec_l20Rd_pick.f k s0_0 bt198.2 4).bind fun bt200 => (if bt200.1 = 0 then ((spec_l20Bent.f k s0_0 bt200.2 t196).bind fun bt202 => (some (bt202.1, bt202.2))) else (if bt200.1 = 1 then ((some (([(⟨#[]⟩ : ByteArray), (⟨#[65]⟩ : ByteArray), (⟨#[65, 48, 59]⟩ : ByteArray), (⟨#[65, 49, 48, 48, 59]⟩ : ByteArray), (⟨#[65, 48, 49, 59]⟩ : ByteArray), (⟨#[73, 49, 59]⟩ : ByteArray), (⟨#[110]⟩ : ByteArray), (⟨#[101]⟩ : ByteArray), (⟨#[101, 65, 49, 59]⟩ : ByteArray), (⟨#[109, 65]⟩ : ByteArray), (⟨#[114, 48, 65, 49, 59]⟩ : ByteArray), (⟨#[107, 65, 49, 59, 120]⟩ : ByteArray), (⟨#[109, 73, 65, 49, 59]⟩ : ByteArray)] : List ByteArray) : List ByteArray)).bind fun y204 => ((spec_l20Rd_pick.f k s0_0 bt200.2 13).bind fun bt207 => (if 0 ≤ bt207.1 then (if bt207.1 < (y204.length : Int) then (some (rdOf ByteArray.empty y204 bt207.1, bt207.2)) else (none)) else (none)))) else (if bt200.1 = 2 then (spec_l20SecretOr.l0 k t196 s0_0 bt200.2) else (if t196.size + t196.size ≤ 9223372036854775807 then (some (t196 ++ t196, bt200.2)) else (none)))))) else (some (t196, bt198.2)))) = some (r1, r2) := H
  have A3 := Aside0.mk A30
  clear A30
  replace H := Option.bind_eq_some_iff.mp H
  obtain ⟨⟨t198, t199⟩, A40, H⟩ := H
  replace H : (if t198 = true then ((spec_l20Rd_pick.f k s0_0 t199 4).bind fun bt200 => (if bt200.1 = 0 then ((spec_l20Bent.f k s0_0 bt200.2 t196).bind fun bt202 => (some (bt202.1, bt202.2))) else (if bt200.1 = 1 then ((some (([(⟨#[]⟩ : ByteArray), (⟨#[65]⟩ : ByteArray), (⟨#[65, 48, 59]⟩ : ByteArray), (⟨#[65, 49, 48, 48, 59]⟩ : ByteArray), (⟨#[65, 48, 49, 59]⟩ : ByteArray), (⟨#[73, 49, 59]⟩ : ByteArray), (⟨#[110]⟩ : ByteArray), (⟨#[101]⟩ : ByteArray), (⟨#[101, 65, 49, 59]⟩ : ByteArray), (⟨#[109, 65]⟩ : ByteArray), (⟨#[114, 48, 65, 49, 59]⟩ : ByteArray), (⟨#[107, 65, 49, 59, 120]⟩ : ByteArray), (⟨#[109, 73, 65, 49, 59]⟩ : ByteArray)] : List ByteArray) : List ByteArray)).bind fun y204 => ((spec_l20Rd_pick.f k s0_0 bt200.2 13).bind fun bt207 => (if 0 ≤ bt207.1 then (if bt207.1 < (y204.length : Int) then (some (rdOf ByteArray.empty y204 bt207.1, bt207.2)) else (none)) else (none)))) else (if bt200.1 = 2 then (spec_l20SecretOr.l0 k t196 s0_0 bt200.2) else (if t196.size + t196.size ≤ 9223372036854775807 then (some (t196 ++ t196, bt200.2)) else (none)))))) else (some (t196, t199))) = some (r1, r2) := H
  have A4 := Aside0.mk A40
  clear A40
  by_cases c5 : t198 = true
  · subst c5
    have H1 : ((spec_l20Rd_pick.f k s0_0 t199 4).bind fun bt200 => (if bt200.1 = 0 then ((spec_l20Bent.f k s0_0 bt200.2 t196).bind fun bt202 => (some (bt202.1, bt202.2))) else (if bt200.1 = 1 then ((some (([(⟨#[]⟩ : ByteArray), (⟨#[65]⟩ : ByteArray), (⟨#[65, 48, 59]⟩ : ByteArray), (⟨#[65, 49, 48, 48, 59]⟩ : ByteArray), (⟨#[65, 48, 49, 59]⟩ : ByteArray), (⟨#[73, 49, 59]⟩ : ByteArray), (⟨#[110]⟩ : ByteArray), (⟨#[101]⟩ : ByteArray), (⟨#[101, 65, 49, 59]⟩ : ByteArray), (⟨#[109, 65]⟩ : ByteArray), (⟨#[114, 48, 65, 49, 59]⟩ : ByteArray), (⟨#[107, 65, 49, 59, 120]⟩ : ByteArray), (⟨#[109, 73, 65, 49, 59]⟩ : ByteArray)] : List ByteArray) : List ByteArray)).bind fun y204 => ((spec_l20Rd_pick.f k s0_0 bt200.2 13).bind fun bt207 => (if 0 ≤ bt207.1 then (if bt207.1 < (y204.length : Int) then (some (rdOf ByteArray.empty y204 bt207.1, bt207.2)) else (none)) else (none)))) else (if bt200.1 = 2 then (spec_l20SecretOr.l0 k t196 s0_0 bt200.2) else (if t196.size + t196.size ≤ 9223372036854775807 then (some (t196 ++ t196, bt200.2)) else (none)))))) = some (r1, r2) := by rw [if_pos rfl] at H; exact H
    clear H
    have H := H1
    clear H1
    replace H := Option.bind_eq_some_iff.mp H
    obtain ⟨⟨t200, t201⟩, A60, H⟩ := H
    replace H : (if t200 = 0 then ((spec_l20Bent.f k s0_0 t201 t196).bind fun bt202 => (some (bt202.1, bt202.2))) else (if t200 = 1 then ((some (([(⟨#[]⟩ : ByteArray), (⟨#[65]⟩ : ByteArray), (⟨#[65, 48, 59]⟩ : ByteArray), (⟨#[65, 49, 48, 48, 59]⟩ : ByteArray), (⟨#[65, 48, 49, 59]⟩ : ByteArray), (⟨#[73, 49, 59]⟩ : ByteArray), (⟨#[110]⟩ : ByteArray), (⟨#[101]⟩ : ByteArray), (⟨#[101, 65, 49, 59]⟩ : ByteArray), (⟨#[109, 65]⟩ : ByteArray), (⟨#[114, 48, 65, 49, 59]⟩ : ByteArray), (⟨#[107, 65, 49, 59, 120]⟩ : ByteArray), (⟨#[109, 73, 65, 49, 59]⟩ : ByteArray)] : List ByteArray) : List ByteArray)).bind fun y204 => ((spec_l20Rd_pick.f k s0_0 t201 13).bind fun bt207 => (if 0 ≤ bt207.1 then (if bt207.1 < (y204.length : Int) then (some (rdOf ByteArray.empty y204 bt207.1, bt207.2)) else (none)) else (none)))) else (if t200 = 2 then (spec_l20SecretOr.l0 k t196 s0_0 t201) else (if t196.size + t196.size ≤ 9223372036854775807 then (some (t196 ++ t196, t201)) else (none))))) = some (r1, r2) := H
    have A6 := Aside0.mk A60
    clear A60
    by_cases c7 : t200 = 0
    · rw [if_pos c7] at H
      have c7b0 : (t200 == 0) = true := beq_iff_eq.mpr c7
      have c7b1 : (t200 != 0) = false := bne_eq_false_iff_eq.mpr c7
      clear c7
      replace H := Option.bind_eq_some_iff.mp H
      obtain ⟨⟨t202, t203⟩, A80, H⟩ := H
      replace H : (some (t202, t203)) = some (r1, r2) := H
      have A8 := Aside0.mk A80
      clear A80
      simp only [Option.some.injEq, Prod.mk.injEq] at H
      obtain ⟨rfl, rfl⟩ := H
      go_enter Tryd.func36, Tryd.ntmps36
      go_wp2_with (first | ((with_reducible refine gate_callee (f := 53) rfl ?_); refine goesL_ (some 7) rfl rfl Tryd.func53 (by kernel_rfl) rfl #[.pointer (some ⟨g, 0, none⟩), .int .i64 4] rfl y1_ ?_; (with_reducible refine (spec_l20Secret.calls k g s0_0 s0_1 4 t196 t197 w0 _ ?side1 ?side2 A3.out).mono ?_); (case side1 => exact y10_ HI0.out); (case side2 => exact y8_ HB.out (IsS69.ge HI0.out)); rintro e w9 ⟨rfl, hi, hb, hk⟩; refine ⟨_, rfl, ?_⟩; replace HK := Aside0.mk (KeepBut.trans (y9_ HK.out) hk (.inl rfl)); replace HB := Aside0.mk (hb); replace HI0 := Aside0.mk (hi); (try clear hi hb hk)) | ((with_reducible refine gate_callee (f := 54) rfl ?_); refine goesL_ (some 10) rfl rfl Tryd.func54 (by kernel_rfl) rfl #[.pointer (some ⟨g, 0, none⟩), .int .i64 a1] rfl y1_ ?_; (with_reducible refine (spec_l20Rd_odd.calls k g s0_0 t197 a1 true t199 w0 _ ?side1 ?side2 A4.out).mono ?_); (case side1 => exact y10_ HI0.out); (case side2 => exact y8_ HB.out (IsS69.ge HI0.out)); rintro e w10 ⟨rfl, hi, hb, hk⟩; refine ⟨_, rfl, ?_⟩; replace HK := Aside0.mk (KeepBut.trans (y9_ HK.out) hk (.inl rfl)); replace HB := Aside0.mk (hb); replace HI0 := Aside0.mk (hi); (try clear hi hb hk)) | ((with_reducible refine gate_callee (f := 52) rfl ?_); refine goesL_ (some 12) rfl rfl Tryd.func52 (by kernel_rfl) rfl #[.pointer (some ⟨g, 0, none⟩), .int .i64 4] rfl y1_ ?_; (with_reducible refine (spec_l20Rd_pick.calls k g s0_0 t199 4 t200 t201 w0 _ ?side1 ?side2 A6.out).mono ?_); (case side1 => exact y10_ HI0.out); (case side2 => exact y8_ HB.out (IsS69.ge HI0.out)); rintro e w11 ⟨rfl, hi, hb, hk⟩; refine ⟨_, rfl, ?_⟩; replace HK := Aside0.mk (KeepBut.trans (y9_ HK.out) hk (.inl rfl)); replace HB := Aside0.mk (hb); replace HI0 := Aside0.mk (hi); (try clear hi hb hk)) | ((with_reducible refine gate_callee (f := 55) rfl ?_); refine goesL_ (some 17) rfl rfl Tryd.func55 (by kernel_rfl) rfl #[.pointer (some ⟨g, 0, none⟩), .string t196] rfl y1_ ?_; (with_reducible refine (spec_l20Bent.calls k g s0_0 t201 t196 t202 t203 w0 _ ?side1 ?side2 A8.out).mono ?_); (case side1 => exact y10_ HI0.out); (case side2 => exact y8_ HB.out (IsS69.ge HI0.out)); rintro e w12 ⟨rfl, hi, hb, hk⟩; refine ⟨_, rfl, ?_⟩; replace HK := Aside0.mk (KeepBut.trans (y9_ HK.out) hk (.inl rfl)); replace HB := Aside0.mk (hb); replace HI0 := Aside0.mk (hi); (try clear hi hb hk)))
      go_ret
      exact ⟨y6_, y10_ HI0.out, y8_ HB.out (IsS69.ge HI0.out), y9_ HK.out⟩
    rw [if_neg c7] at H
    have c7b0 : (t200 == 0) = false := beq_eq_false_iff_ne.mpr c7
    have c7b1 : (t200 != 0) = true := bne_iff_ne.mpr c7
    by_cases c13 : t200 = 1
    · rw [if_pos c13] at H
      have c13b0 : (t200 == 1) = true := beq_iff_eq.mpr c13
      have c13b1 : (t200 != 1) = false := bne_eq_false_iff_eq.mpr c13
      clear c13
      obtain ⟨y204, hy204⟩ : ∃ y_ : List ByteArray, y_ = (([(⟨#[]⟩ : ByteArray), (⟨#[65]⟩ : ByteArray), (⟨#[65, 48, 59]⟩ : ByteArray), (⟨#[65, 49, 48, 48, 59]⟩ : ByteArray), (⟨#[65, 48, 49, 59]⟩ : ByteArray), (⟨#[73, 49, 59]⟩ : ByteArray), (⟨#[110]⟩ : ByteArray), (⟨#[101]⟩ : ByteArray), (⟨#[101, 65, 49, 59]⟩ : ByteArray), (⟨#[109, 65]⟩ : ByteArray), (⟨#[114, 48, 65, 49, 59]⟩ : ByteArray), (⟨#[107, 65, 49, 59, 120]⟩ : ByteArray), (⟨#[109, 73, 65, 49, 59]⟩ : ByteArray)] : List ByteArray)) := ⟨_, rfl⟩
      replace H : ((spec_l20Rd_pick.f k s0_0 t201 13).bind fun bt207 => (if 0 ≤ bt207.1 then (if bt207.1 < (y204.length : Int) then (some (rdOf ByteArray.empty y204 bt207.1, bt207.2)) else (none)) else (none))) = some (r1, r2) := by first | (rw [hy204]; with_reducible exact H) | (have H2_ := (Option.bind_some _ _).symm.trans H; rw [hy204]; with_reducible exact H2_) | (have H2_ := (Option.bind_some _ _).symm.trans H; with_reducible exact H2_) | with_reducible exact H | (rw [hy204]; exact H) | exact H
      have Ny204 := Aside0.mk hy204
      clear hy204
      replace H := Option.bind_eq_some_iff.mp H
      obtain ⟨⟨t207, t208⟩, A140, H⟩ := H
      replace H : (if 0 ≤ t207 then (if t207 < (y204.length : Int) then (some (rdOf ByteArray.empty y204 t207, t208)) else (none)) else (none)) = some (r1, r2) := H
      have A14 := Aside0.mk A140
      clear A140
      by_cases c15 : 0 ≤ t207
      · rw [if_pos c15] at H
        have c15b0 : decide (0 ≤ t207) = true := decide_eq_true c15
        clear c15
        by_cases c16 : t207 < (y204.length : Int)
        · rw [if_pos c16] at H
          have c16b0 : decide (t207 < (y204.length : Int)) = true := decide_eq_true c16
          clear c16
          simp only [Option.some.injEq, Prod.mk.injEq] at H
          obtain ⟨rfl, rfl⟩ := H
          go_enter Tryd.func36, Tryd.ntmps36
          go_wp2_with (first | ((with_reducible refine gate_callee (f := 53) rfl ?_); refine goesL_ (some 7) rfl rfl Tryd.func53 (by kernel_rfl) rfl #[.pointer (some ⟨g, 0, none⟩), .int .i64 4] rfl y1_ ?_; (with_reducible refine (spec_l20Secret.calls k g s0_0 s0_1 4 t196 t197 w0 _ ?side1 ?side2 A3.out).mono ?_); (case side1 => exact y10_ HI0.out); (case side2 => exact y8_ HB.out (IsS69.ge HI0.out)); rintro e w17 ⟨rfl, hi, hb, hk⟩; refine ⟨_, rfl, ?_⟩; replace HK := Aside0.mk (KeepBut.trans (y9_ HK.out) hk (.inl rfl)); replace HB := Aside0.mk (hb); replace HI0 := Aside0.mk (hi); (try clear hi hb hk)) | ((with_reducible refine gate_callee (f := 54) rfl ?_); refine goesL_ (some 10) rfl rfl Tryd.func54 (by kernel_rfl) rfl #[.pointer (some ⟨g, 0, none⟩), .int .i64 a1] rfl y1_ ?_; (with_reducible refine (spec_l20Rd_odd.calls k g s0_0 t197 a1 true t199 w0 _ ?side1 ?side2 A4.out).mono ?_); (case side1 => exact y10_ HI0.out); (case side2 => exact y8_ HB.out (IsS69.ge HI0.out)); rintro e w18 ⟨rfl, hi, hb, hk⟩; refine ⟨_, rfl, ?_⟩; replace HK := Aside0.mk (KeepBut.trans (y9_ HK.out) hk (.inl rfl)); replace HB := Aside0.mk (hb); replace HI0 := Aside0.mk (hi); (try clear hi hb hk)) | ((with_reducible refine gate_callee (f := 52) rfl ?_); refine goesL_ (some 12) rfl rfl Tryd.func52 (by kernel_rfl) rfl #[.pointer (some ⟨g, 0, none⟩), .int .i64 4] rfl y1_ ?_; (with_reducible refine (spec_l20Rd_pick.calls k g s0_0 t199 4 t200 t201 w0 _ ?side1 ?side2 A6.out).mono ?_); (case side1 => exact y10_ HI0.out); (case side2 => exact y8_ HB.out (IsS69.ge HI0.out)); rintro e w19 ⟨rfl, hi, hb, hk⟩; refine ⟨_, rfl, ?_⟩; replace HK := Aside0.mk (KeepBut.trans (y9_ HK.out) hk (.inl rfl)); replace HB := Aside0.mk (hb); replace HI0 := Aside0.mk (hi); (try clear hi hb hk)) | ((with_reducible refine gate_dst (N := 20) rfl ?_); refine Kd.R_lit Kd.string _ 9 ?hg (N := 20) ?hd (xs := ([(⟨#[]⟩ : ByteArray), (⟨#[65]⟩ : ByteArray), (⟨#[65, 48, 59]⟩ : ByteArray), (⟨#[65, 49, 48, 48, 59]⟩ : ByteArray), (⟨#[65, 48, 49, 59]⟩ : ByteArray), (⟨#[73, 49, 59]⟩ : ByteArray), (⟨#[110]⟩ : ByteArray), (⟨#[101]⟩ : ByteArray), (⟨#[101, 65, 49, 59]⟩ : ByteArray), (⟨#[109, 65]⟩ : ByteArray), (⟨#[114, 48, 65, 49, 59]⟩ : ByteArray), (⟨#[107, 65, 49, 59, 120]⟩ : ByteArray), (⟨#[109, 73, 65, 49, 59]⟩ : ByteArray)] : List ByteArray)) (inner := [.string (⟨#[]⟩ : ByteArray), .string (⟨#[65]⟩ : ByteArray), .string (⟨#[65, 48, 59]⟩ : ByteArray), .string (⟨#[65, 49, 48, 48, 59]⟩ : ByteArray), .string (⟨#[65, 48, 49, 59]⟩ : ByteArray), .string (⟨#[73, 49, 59]⟩ : ByteArray), .string (⟨#[110]⟩ : ByteArray), .string (⟨#[101]⟩ : ByteArray), .string (⟨#[101, 65, 49, 59]⟩ : ByteArray), .string (⟨#[109, 65]⟩ : ByteArray), .string (⟨#[114, 48, 65, 49, 59]⟩ : ByteArray), .string (⟨#[107, 65, 49, 59, 120]⟩ : ByteArray), .string (⟨#[109, 73, 65, 49, 59]⟩ : ByteArray)]) (ok := fun _ => True) (okp := fun _ => True) ?hr ?hp (fun _ hk => hk) trivial (Below.refl _ _) (Nat.le_refl _) (by simp) ?_; (case hd => rfl); (case hg => rfl); (case hr => first | (go_simp; done) | (go_simp; rfl)); (case hp => exact (Reps.one (show Kd.M Kd.string _ _ _ (⟨#[]⟩ : ByteArray) [.string (⟨#[]⟩ : ByteArray)] from rfl) (Reps.one (show Kd.M Kd.string _ _ _ (⟨#[65]⟩ : ByteArray) [.string (⟨#[65]⟩ : ByteArray)] from rfl) (Reps.one (show Kd.M Kd.string _ _ _ (⟨#[65, 48, 59]⟩ : ByteArray) [.string (⟨#[65, 48, 59]⟩ : ByteArray)] from rfl) (Reps.one (show Kd.M Kd.string _ _ _ (⟨#[65, 49, 48, 48, 59]⟩ : ByteArray) [.string (⟨#[65, 49, 48, 48, 59]⟩ : ByteArray)] from rfl) (Reps.one (show Kd.M Kd.string _ _ _ (⟨#[65, 48, 49, 59]⟩ : ByteArray) [.string (⟨#[65, 48, 49, 59]⟩ : ByteArray)] from rfl) (Reps.one (show Kd.M Kd.string _ _ _ (⟨#[73, 49, 59]⟩ : ByteArray) [.string (⟨#[73, 49, 59]⟩ : ByteArray)] from rfl) (Reps.one (show Kd.M Kd.string _ _ _ (⟨#[110]⟩ : ByteArray) [.string (⟨#[110]⟩ : ByteArray)] from rfl) (Reps.one (show Kd.M Kd.string _ _ _ (⟨#[101]⟩ : ByteArray) [.string (⟨#[101]⟩ : ByteArray)] from rfl) (Reps.one (show Kd.M Kd.string _ _ _ (⟨#[101, 65, 49, 59]⟩ : ByteArray) [.string (⟨#[101, 65, 49, 59]⟩ : ByteArray)] from rfl) (Reps.one (show Kd.M Kd.string _ _ _ (⟨#[109, 65]⟩ : ByteArray) [.string (⟨#[109, 65]⟩ : ByteArray)] from rfl) (Reps.one (show Kd.M Kd.string _ _ _ (⟨#[114, 48, 65, 49, 59]⟩ : ByteArray) [.string (⟨#[114, 48, 65, 49, 59]⟩ : ByteArray)] from rfl) (Reps.one (show Kd.M Kd.string _ _ _ (⟨#[107, 65, 49, 59, 120]⟩ : ByteArray) [.string (⟨#[107, 65, 49, 59, 120]⟩ : ByteArray)] from rfl) (Reps.one (show Kd.M Kd.string _ _ _ (⟨#[109, 73, 65, 49, 59]⟩ : ByteArray) [.string (⟨#[109, 73, 65, 49, 59]⟩ : ByteArray)] from rfl) (Reps.none _ _))))))))))))))); intro v205 w20 ho21 hb hg_ hnew_; clear hg_ hnew_; (first | rw [← Ny204.out] at ho21 | (simp only [Int.reduceToNat] at ho21; rw [← Ny204.out] at ho21)); have HO206 := Aside0.mk (Kd.R_lower ho21 (keep_size (w := w) (g := g) (row := none) (y9_ HK.out))); replace HK := Aside0.mk (KeepBut.trans (y9_ HK.out) (KeepBut.of_below hb g none) (.inl rfl)); replace HB := Aside0.mk (below_step (y8_ HB.out (IsS69.ge HI0.out)) hb); replace HI0 := Aside0.mk (IsS69.below (y10_ HI0.out) hb); clear hb ho21) | ((with_reducible refine gate_callee (f := 52) rfl ?_); refine goesL_ (some 22) rfl rfl Tryd.func52 (by kernel_rfl) rfl #[.pointer (some ⟨g, 0, none⟩), .int .i64 13] rfl y1_ ?_; (with_reducible refine (spec_l20Rd_pick.calls k g s0_0 t201 13 t207 t208 w0 _ ?side1 ?side2 A14.out).mono ?_); (case side1 => exact y10_ HI0.out); (case side2 => exact y8_ HB.out (IsS69.ge HI0.out)); rintro e w22 ⟨rfl, hi, hb, hk⟩; refine ⟨_, rfl, ?_⟩; replace HO206 := Aside0.mk (Kd.R_mono (Kd.R_keep (IsS69.apart (show IsS69 w0 _ g s0_0 t201 from y10_ HI0.out) (y11_ HO206.out) (by decide)) hk (fun _ h => h.2)) (fun _ h => h.1)); replace HK := Aside0.mk (KeepBut.trans (y9_ HK.out) hk (.inl rfl)); replace HB := Aside0.mk (hb); replace HI0 := Aside0.mk (hi); (try clear hi hb hk); obtain ⟨Ao23, co23, eo23⟩ := Kd.R_slice HO206.out; subst eo23; have p209 : 0 ≤ (t207 : Int) := of_decide_eq_true y3_; have q209 : t207 < (y204.length : Int) := of_decide_eq_true y3_; obtain ⟨ad209, e209, hx209_0⟩ := Kd.at_string (Kd.R_reads' HO206.out).2.2 t207 p209 q209; cases e209; replace p209 := eq_true p209; replace q209 := eq_true q209))
          go_ret
          exact ⟨y6_, y10_ HI0.out, y8_ HB.out (IsS69.ge HI0.out), y9_ HK.out⟩
        rw [if_neg c16] at H
        exact absurd H (by simp)
      rw [if_neg c15] at H
      exact absurd H (by simp)
    rw [if_neg c13] at H
    have c13b0 : (t200 == 1) = false := beq_eq_false_iff_ne.mpr c13
    have c13b1 : (t200 != 1) = true := bne_iff_ne.mpr c13
    by_cases c24 : t200 = 2
    · rw [if_pos c24] at H
      have c24b0 : (t200 == 2) = true := beq_iff_eq.mpr c24
      have c24b1 : (t200 != 2) = false := bne_eq_false_iff_eq.mpr c24
      clear c24
      have H' := Aside0.mk H
      clear H
      go_enter Tryd.func36, Tryd.ntmps36
      go_wp2_with (first | ((with_reducible refine gate_callee (f := 53) rfl ?_); refine goesL_ (some 7) rfl rfl Tryd.func53 (by kernel_rfl) rfl #[.pointer (some ⟨g, 0, none⟩), .int .i64 4] rfl y1_ ?_; (with_reducible refine (spec_l20Secret.calls k g s0_0 s0_1 4 t196 t197 w0 _ ?side1 ?side2 A3.out).mono ?_); (case side1 => exact y10_ HI0.out); (case side2 => exact y8_ HB.out (IsS69.ge HI0.out)); rintro e w25 ⟨rfl, hi, hb, hk⟩; refine ⟨_, rfl, ?_⟩; replace HK := Aside0.mk (KeepBut.trans (y9_ HK.out) hk (.inl rfl)); replace HB := Aside0.mk (hb); replace HI0 := Aside0.mk (hi); (try clear hi hb hk)) | ((with_reducible refine gate_callee (f := 54) rfl ?_); refine goesL_ (some 10) rfl rfl Tryd.func54 (by kernel_rfl) rfl #[.pointer (some ⟨g, 0, none⟩), .int .i64 a1] rfl y1_ ?_; (with_reducible refine (spec_l20Rd_odd.calls k g s0_0 t197 a1 true t199 w0 _ ?side1 ?side2 A4.out).mono ?_); (case side1 => exact y10_ HI0.out); (case side2 => exact y8_ HB.out (IsS69.ge HI0.out)); rintro e w26 ⟨rfl, hi, hb, hk⟩; refine ⟨_, rfl, ?_⟩; replace HK := Aside0.mk (KeepBut.trans (y9_ HK.out) hk (.inl rfl)); replace HB := Aside0.mk (hb); replace HI0 := Aside0.mk (hi); (try clear hi hb hk)) | ((with_reducible refine gate_callee (f := 52) rfl ?_); refine goesL_ (some 12) rfl rfl Tryd.func52 (by kernel_rfl) rfl #[.pointer (some ⟨g, 0, none⟩), .int .i64 4] rfl y1_ ?_; (with_reducible refine (spec_l20Rd_pick.calls k g s0_0 t199 4 t200 t201 w0 _ ?side1 ?side2 A6.out).mono ?_); (case side1 => exact y10_ HI0.out); (case side2 => exact y8_ HB.out (IsS69.ge HI0.out)); rintro e w27 ⟨rfl, hi, hb, hk⟩; refine ⟨_, rfl, ?_⟩; replace HK := Aside0.mk (KeepBut.trans (y9_ HK.out) hk (.inl rfl)); replace HB := Aside0.mk (hb); replace HI0 := Aside0.mk (hi); (try clear hi hb hk)))
      go_loopg [5] k (fun kq v5 w' => ∃ (x5_1 : ByteArray), v5 = .string x5_1 ∧ Aside0 (spec_l20SecretOr.l0 kq x5_1 s0_0 t201 = some (r1, r2)) ∧ Aside0 (kq ≤ k) ∧ Aside0 (IsS69 w0 w' g s0_0 t201) ∧ Aside0 (KeepBut w w' g none) ∧ Aside0 (Below w0.heap.size w0 w'))
      case atStart => exact ⟨(t196), y4_, H', ⟨Nat.le_refl _⟩, ⟨y10_ HI0.out⟩, ⟨y9_ HK.out⟩, ⟨y8_ HB.out (IsS69.ge HI0.out)⟩⟩
      case round =>
        clear H'
        try clear c1
        try clear c2
        try clear p2
        try clear q2
        try clear hx2
        try clear c3
        try clear c5
        try clear c7
        try clear c7b0
        try clear c7b1
        try clear c13
        try clear c13b0
        try clear c13b1
        try clear c15
        try clear c15b0
        try clear c16
        try clear c16b0
        try clear p20
        try clear q20
        try clear hx20
        try clear c24
        try clear c24b0
        try clear c24b1
        try clear hx209_0
        try clear p209
        try clear q209
        obtain ⟨x5_1, rfl, HA, HK1, HI0, HK, HB⟩ := hrel
        cases gk with
        | zero => exact absurd HA.out (by simp [spec_l20SecretOr.l0])
        | succ k1 =>
          have H := HA.out
          clear HA
          simp only [spec_l20SecretOr.l0] at H
          by_cases c28 : (x5_1.size : Int) ≤ 300
          · rw [if_pos c28] at H
            have c28b0 : decide ((x5_1.size : Int) ≤ 300) = true := decide_eq_true c28
            have c28b1 : decide (x5_1.size ≤ 300) = true := decide_eq_true (by omega)
            clear c28
            by_cases c29 : 1 + x5_1.size ≤ 9223372036854775807
            · rw [if_pos c29] at H
              have c29b0 := eq_true c29
              have c29b1 : decide (1 + x5_1.size ≤ 9223372036854775807) = true := decide_eq_true c29
              try have c29b2 : (9223372036854775807 < 1 + x5_1.size) = False := eq_false (Nat.not_lt.2 c29)
              have H' := Aside0.mk H
              clear H
              go_wp2
              go_roundg k1
              case measure => have := HK1.out; omega
              case rel => exact ⟨((⟨#[110]⟩ : ByteArray) ++ x5_1), y4_, H', ⟨by have := HK1.out; omega⟩, ⟨y10_ HI0.out⟩, ⟨y9_ HK.out⟩, ⟨y8_ HB.out (IsS69.ge HI0.out)⟩⟩
            rw [if_neg c29] at H
            exact absurd H (by simp)
          rw [if_neg c28] at H
          have c28b0 : decide ((x5_1.size : Int) ≤ 300) = false := decide_eq_false c28
          have c28b1 : decide (x5_1.size ≤ 300) = false := decide_eq_false (by omega)
          clear c28
          simp only [Option.some.injEq, Prod.mk.injEq] at H
          obtain ⟨rfl, rfl⟩ := H
          go_wp2
          go_ret
          exact ⟨y6_, y10_ HI0.out, y8_ HB.out (IsS69.ge HI0.out), y9_ HK.out⟩
    rw [if_neg c24] at H
    have c24b0 : (t200 == 2) = false := beq_eq_false_iff_ne.mpr c24
    have c24b1 : (t200 != 2) = true := bne_iff_ne.mpr c24
    by_cases c30 : t196.size + t196.size ≤ 9223372036854775807
    · rw [if_pos c30] at H
      have c30b0 := eq_true c30
      have c30b1 : decide (t196.size + t196.size ≤ 9223372036854775807) = true := decide_eq_true c30
      try have c30b2 : (9223372036854775807 < t196.size + t196.size) = False := eq_false (Nat.not_lt.2 c30)
      simp only [Option.some.injEq, Prod.mk.injEq] at H
      obtain ⟨rfl, rfl⟩ := H
      go_enter Tryd.func36, Tryd.ntmps36
      go_wp2_with (first | ((with_reducible refine gate_callee (f := 53) rfl ?_); refine goesL_ (some 7) rfl rfl Tryd.func53 (by kernel_rfl) rfl #[.pointer (some ⟨g, 0, none⟩), .int .i64 4] rfl y1_ ?_; (with_reducible refine (spec_l20Secret.calls k g s0_0 s0_1 4 t196 t197 w0 _ ?side1 ?side2 A3.out).mono ?_); (case side1 => exact y10_ HI0.out); (case side2 => exact y8_ HB.out (IsS69.ge HI0.out)); rintro e w31 ⟨rfl, hi, hb, hk⟩; refine ⟨_, rfl, ?_⟩; replace HK := Aside0.mk (KeepBut.trans (y9_ HK.out) hk (.inl rfl)); replace HB := Aside0.mk (hb); replace HI0 := Aside0.mk (hi); (try clear hi hb hk)) | ((with_reducible refine gate_callee (f := 54) rfl ?_); refine goesL_ (some 10) rfl rfl Tryd.func54 (by kernel_rfl) rfl #[.pointer (some ⟨g, 0, none⟩), .int .i64 a1] rfl y1_ ?_; (with_reducible refine (spec_l20Rd_odd.calls k g s0_0 t197 a1 true t199 w0 _ ?side1 ?side2 A4.out).mono ?_); (case side1 => exact y10_ HI0.out); (case side2 => exact y8_ HB.out (IsS69.ge HI0.out)); rintro e w32 ⟨rfl, hi, hb, hk⟩; refine ⟨_, rfl, ?_⟩; replace HK := Aside0.mk (KeepBut.trans (y9_ HK.out) hk (.inl rfl)); replace HB := Aside0.mk (hb); replace HI0 := Aside0.mk (hi); (try clear hi hb hk)) | ((with_reducible refine gate_callee (f := 52) rfl ?_); refine goesL_ (some 12) rfl rfl Tryd.func52 (by kernel_rfl) rfl #[.pointer (some ⟨g, 0, none⟩), .int .i64 4] rfl y1_ ?_; (with_reducible refine (spec_l20Rd_pick.calls k g s0_0 t199 4 t200 t201 w0 _ ?side1 ?side2 A6.out).mono ?_); (case side1 => exact y10_ HI0.out); (case side2 => exact y8_ HB.out (IsS69.ge HI0.out)); rintro e w33 ⟨rfl, hi, hb, hk⟩; refine ⟨_, rfl, ?_⟩; replace HK := Aside0.mk (KeepBut.trans (y9_ HK.out) hk (.inl rfl)); replace HB := Aside0.mk (hb); replace HI0 := Aside0.mk (hi); (try clear hi hb hk)))
      go_ret
      exact ⟨y6_, y10_ HI0.out, y8_ HB.out (IsS69.ge HI0.out), y9_ HK.out⟩
    rw [if_neg c30] at H
    exact absurd H (by simp)
  replace c5 := Bool.eq_false_iff.mpr c5
  subst c5
  have H1 : (some (t196, t199)) = some (r1, r2) := by rw [if_neg (show ¬ (false = true) by decide)] at H; exact H
  clear H
  have H := H1
  clear H1
  simp only [Option.some.injEq, Prod.mk.injEq] at H
  obtain ⟨rfl, rfl⟩ := H
  go_enter Tryd.func36, Tryd.ntmps36
  go_wp2_with (first | ((with_reducible refine gate_callee (f := 53) rfl ?_); refine goesL_ (some 7) rfl rfl Tryd.func53 (by kernel_rfl) rfl #[.pointer (some ⟨g, 0, none⟩), .int .i64 4] rfl y1_ ?_; (with_reducible refine (spec_l20Secret.calls k g s0_0 s0_1 4 t196 t197 w0 _ ?side1 ?side2 A3.out).mono ?_); (case side1 => exact y10_ HI0.out); (case side2 => exact y8_ HB.out (IsS69.ge HI0.out)); rintro e w34 ⟨rfl, hi, hb, hk⟩; refine ⟨_, rfl, ?_⟩; replace HK := Aside0.mk (KeepBut.trans (y9_ HK.out) hk (.inl rfl)); replace HB := Aside0.mk (hb); replace HI0 := Aside0.mk (hi); (try clear hi hb hk)) | ((with_reducible refine gate_callee (f := 54) rfl ?_); refine goesL_ (some 10) rfl rfl Tryd.func54 (by kernel_rfl) rfl #[.pointer (some ⟨g, 0, none⟩), .int .i64 a1] rfl y1_ ?_; (with_reducible refine (spec_l20Rd_odd.calls k g s0_0 t197 a1 false t199 w0 _ ?side1 ?side2 A4.out).mono ?_); (case side1 => exact y10_ HI0.out); (case side2 => exact y8_ HB.out (IsS69.ge HI0.out)); rintro e w35 ⟨rfl, hi, hb, hk⟩; refine ⟨_, rfl, ?_⟩; replace HK := Aside0.mk (KeepBut.trans (y9_ HK.out) hk (.inl rfl)); replace HB := Aside0.mk (hb); replace HI0 := Aside0.mk (hi); (try clear hi hb hk)))
  go_ret
  exact ⟨y6_, y10_ HI0.out, y8_ HB.out (IsS69.ge HI0.out), y9_ HK.out⟩

/-! ### spec_DrawMakEpoch: function 20 -/
def spec_DrawMakEpoch.f (k : Nat) (l0 : List Int) : Option (ByteArray × ByteArray) := (spec_l20Open.f l0).bind fun bt210 => ((spec_l20SecretOr.f k bt210.1 bt210.2 6).bind fun bt213 => ((spec_l20SecretOr.f k bt210.1 bt213.2 6).bind fun bt215 => (some (bt213.1, bt215.1))))
theorem spec_DrawMakEpoch.mono : ∀ a0 k, LeO (spec_DrawMakEpoch.f k a0) (spec_DrawMakEpoch.f (k + 1) a0) := by
  intro a0 k
  unfold spec_DrawMakEpoch.f
  repeat' first
      | (with_reducible exact spec_l20SecretOr.mono _ _ _ _)
      | (with_reducible exact LeO.refl _)
      | (with_reducible exact LeO.none _)
      | (with_reducible refine LeO.ite ?_ ?_)
      | (with_reducible refine LeO.bind ?_ (fun _ => ?_))
      | exact LeO.none _
      | refine LeO.ite ?_ ?_
      | refine LeO.bind ?_ (fun _ => ?_)
set_option maxHeartbeats 8000000 in
set_option maxRecDepth 100000 in
theorem spec_DrawMakEpoch.calls (k : Nat) (A0 : Option Addr) (c0 : Nat) (l0 : List Int) (r1 : ByteArray) (r2 : ByteArray) (w : World) (hr0 : Kd.C (Kd.int .u8) w A0 l0.length l0) (hc0 : l0.length ≤ c0) (h : spec_DrawMakEpoch.f k l0 = some (r1, r2)) :
    Calls Tryd.prog 20 #[.slice A0 l0.length c0] w fun e w' => e = .returned (.tuple #[.string r1, .string r2]) ∧ Below w.heap.size w w' := by
  have HR0 := Aside0.mk hr0
  have HC0 := Aside0.mk hc0
  clear hr0 hc0
  have HB := Aside0.mk (Below.refl w.heap.size w)
  have H : ((spec_l20Open.f l0).bind fun bt210 => ((spec_l20SecretOr.f k bt210.1 bt210.2 6).bind fun bt213 => ((spec_l20SecretOr.f k bt210.1 bt213.2 6).bind fun bt215 => (some (bt213.1, bt215.1))))) = some (r1, r2) := h
  clear h
  replace H := Option.bind_eq_some_iff.mp H
  obtain ⟨⟨t210, t211⟩, A20, H⟩ := H
  replace H : ((spec_l20SecretOr.f k t210 t211 6).bind fun bt213 => ((spec_l20SecretOr.f k t210 bt213.2 6).bind fun bt215 => (some (bt213.1, bt215.1)))) = some (r1, r2) := H
  have A2 := Aside0.mk A20
  clear A20
  replace H := Option.bind_eq_some_iff.mp H
  obtain ⟨⟨t213, t214⟩, A30, H⟩ := H
  replace H : ((spec_l20SecretOr.f k t210 t214 6).bind fun bt215 => (some (t213, bt215.1))) = some (r1, r2) := H
  have A3 := Aside0.mk A30
  clear A30
  replace H := Option.bind_eq_some_iff.mp H
  obtain ⟨⟨t215, t216⟩, A40, H⟩ := H
  replace H : (some (t213, t215)) = some (r1, r2) := H
  have A4 := Aside0.mk A40
  clear A40
  simp only [Option.some.injEq, Prod.mk.injEq] at H
  obtain ⟨rfl, rfl⟩ := H
  go_enter Tryd.func20, Tryd.ntmps20
  go_wp2_with (first | ((with_reducible refine gate_callee (f := 33) rfl ?_); refine goesL_ (some 6) rfl rfl Tryd.func33 (by kernel_rfl) rfl #[.slice A0 l0.length c0] rfl y1_ ?_; (with_reducible refine (spec_l20Open.calls _ _ l0 t210 t211 w _ ?side1 ?side2 ?side3 A2.out).mono ?_); (case side1 => exact y7_ HB.out); (case side2 => exact HR0.out); (case side3 => exact HC0.out); rintro e w5 ⟨g212, rfl, hi, hb, hb2⟩; refine ⟨_, rfl, ?_⟩; replace HB := Aside0.mk (hb); have HI212 := Aside0.mk (hi); (try clear hb); (try clear hb2); (try clear hk); (try clear hi)) | ((with_reducible refine gate_callee (f := 36) rfl ?_); refine goesL_ (some 8) rfl rfl Tryd.func36 (by kernel_rfl) rfl #[.pointer (some ⟨g212, 0, none⟩), .int .i64 6] rfl y1_ ?_; (with_reducible refine (spec_l20SecretOr.calls k g212 t210 t211 6 t213 t214 w _ ?side1 ?side2 A3.out).mono ?_); (case side1 => exact y10_ HI212.out); (case side2 => exact y8_ HB.out (IsS69.ge HI212.out)); rintro e w6 ⟨rfl, hi, hb, hk⟩; refine ⟨_, rfl, ?_⟩; replace HB := Aside0.mk (hb); replace HI212 := Aside0.mk (hi); (try clear hi hb hk)) | ((with_reducible refine gate_callee (f := 36) rfl ?_); refine goesL_ (some 10) rfl rfl Tryd.func36 (by kernel_rfl) rfl #[.pointer (some ⟨g212, 0, none⟩), .int .i64 6] rfl y1_ ?_; (with_reducible refine (spec_l20SecretOr.calls k g212 t210 t214 6 t215 t216 w _ ?side1 ?side2 A4.out).mono ?_); (case side1 => exact y10_ HI212.out); (case side2 => exact y8_ HB.out (IsS69.ge HI212.out)); rintro e w7 ⟨rfl, hi, hb, hk⟩; refine ⟨_, rfl, ?_⟩; replace HB := Aside0.mk (hb); replace HI212 := Aside0.mk (hi); (try clear hi hb hk)))
  go_ret2
  exact ⟨y6_, y8_ HB.out (IsS69.ge HI212.out)⟩

-- GIVEN: function 69 (strings_Join)

end Go.Proofs.YtjbnfcljkmapeaaDoor.Yb
