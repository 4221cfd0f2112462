-- Written by this session's own program (wip/tools/pp.py) out of the translation, over functions given by hand. Lean checks it.
import Derived.Test.YtjbnfcljkmapeaaDoorYbx0
import Derived.Test.YtjbnfcljkmapeaaDoorYbx11
namespace Go.Proofs.YtjbnfcljkmapeaaDoor.Yb
open Go.RowKit Go.Proofs.YtjbnfcljkmapeaaDoorW.PrintWords Go.Proofs.YtjbnfcljkmapeaaDoorW.PrintLast Go.Proofs.YtjbnfcljkmapeaaDoorW.PrintMore
attribute [local go_sem] max2_int min2_int max_two min_two max_three min_three max_four min_four   -- for this text's walks alone
set_option linter.unusedVariables false
set_option linter.unusedSimpArgs false

/-! ### impl_MakSay: function 25 -/
def impl_MakSay.f (k : Nat) (a0 : ByteArray) (a1 : Int) : Option (ByteArray) := (impl_isOne.f a1).bind fun t229 => (if t229 = true then ((impl_letter.f a1).bind fun t230 => (if 1 + t230.size ≤ 9223372036854775807 then ((impl_made.f k ((⟨#[109]⟩ : ByteArray) ++ t230) (([a0] : List ByteArray))).bind fun t234 => (some t234)) else (none))) else (some (⟨#[]⟩ : ByteArray)))
theorem impl_MakSay.mono : ∀ a0 a1 k, LeO (impl_MakSay.f k a0 a1) (impl_MakSay.f (k + 1) a0 a1) := by
  intro a0 a1 k
  unfold impl_MakSay.f
  repeat' first
      | (with_reducible exact impl_made.mono _ _ _)
      | (with_reducible exact LeO.refl _)
      | (with_reducible exact LeO.none _)
      | (with_reducible refine LeO.ite ?_ ?_)
      | (with_reducible refine LeO.bind ?_ (fun _ => ?_))
      | exact LeO.none _
      | refine LeO.ite ?_ ?_
      | refine LeO.bind ?_ (fun _ => ?_)
set_option maxHeartbeats 8000000 in
set_option maxRecDepth 100000 in
theorem impl_MakSay.calls (k : Nat) (a0 : ByteArray) (a1 : Int) (r : ByteArray) (w : World) (hG : GlobOk w) (h : impl_MakSay.f k a0 a1 = some r) :
    Calls Tryd.prog 25 #[.string a0, .int .i64 a1] w fun e w' => e = .returned (.string r) ∧ Below w.heap.size w w' := by
  have HB := Aside0.mk (Below.refl w.heap.size w)
  have HGL := Aside0.mk hG
  clear hG
  have H : ((impl_isOne.f a1).bind fun t229 => (if t229 = true then ((impl_letter.f a1).bind fun t230 => (if 1 + t230.size ≤ 9223372036854775807 then ((impl_made.f k ((⟨#[109]⟩ : ByteArray) ++ t230) (([a0] : List ByteArray))).bind fun t234 => (some t234)) else (none))) else (some (⟨#[]⟩ : ByteArray)))) = some r := h
  clear h
  replace H := Option.bind_eq_some_iff.mp H
  obtain ⟨t229, A30, H⟩ := H
  replace H : (if t229 = true then ((impl_letter.f a1).bind fun t230 => (if 1 + t230.size ≤ 9223372036854775807 then ((impl_made.f k ((⟨#[109]⟩ : ByteArray) ++ t230) (([a0] : List ByteArray))).bind fun t234 => (some t234)) else (none))) else (some (⟨#[]⟩ : ByteArray))) = some r := H
  have A3 := Aside0.mk A30
  clear A30
  by_cases c4 : t229 = true
  · subst c4
    have H1 : ((impl_letter.f a1).bind fun t230 => (if 1 + t230.size ≤ 9223372036854775807 then ((impl_made.f k ((⟨#[109]⟩ : ByteArray) ++ t230) (([a0] : List ByteArray))).bind fun t234 => (some t234)) else (none))) = some r := by rw [if_pos rfl] at H; exact H
    clear H
    have H := H1
    clear H1
    replace H := Option.bind_eq_some_iff.mp H
    obtain ⟨t230, A50, H⟩ := H
    replace H : (if 1 + t230.size ≤ 9223372036854775807 then ((impl_made.f k ((⟨#[109]⟩ : ByteArray) ++ t230) (([a0] : List ByteArray))).bind fun t234 => (some t234)) else (none)) = some r := H
    have A5 := Aside0.mk A50
    clear A50
    by_cases c6 : 1 + t230.size ≤ 9223372036854775807
    · rw [if_pos c6] at H
      have c6b0 := eq_true c6
      have c6b1 : decide (1 + t230.size ≤ 9223372036854775807) = true := decide_eq_true c6
      try have c6b2 : (9223372036854775807 < 1 + t230.size) = False := eq_false (Nat.not_lt.2 c6)
      obtain ⟨y231, hy231⟩ : ∃ y_ : List ByteArray, y_ = (([a0] : List ByteArray)) := ⟨_, rfl⟩
      replace H : ((impl_made.f k ((⟨#[109]⟩ : ByteArray) ++ t230) y231).bind fun t234 => (some t234)) = some r := by first | (rw [hy231]; with_reducible exact H) | (have H2_ := (Option.bind_some _ _).symm.trans H; rw [hy231]; with_reducible exact H2_) | (have H2_ := (Option.bind_some _ _).symm.trans H; with_reducible exact H2_) | with_reducible exact H | (rw [hy231]; exact H) | exact H
      have Ny231 := Aside0.mk hy231
      clear hy231
      replace H := Option.bind_eq_some_iff.mp H
      obtain ⟨t234, A70, H⟩ := H
      replace H : (some t234) = some r := H
      have A7 := Aside0.mk A70
      clear A70
      obtain rfl := Option.some.inj H
      go_enter Tryd.func25, Tryd.ntmps25
      go_wp2_with (first | ((with_reducible refine gate_callee (f := 46) rfl ?_); refine goesL_ (some 6) rfl rfl Tryd.func46 (by kernel_rfl) rfl #[.int .i64 a1] rfl y1_ ?_; (with_reducible refine (impl_isOne.calls a1 true _ A3.out).mono ?_); rintro e w' ⟨rfl, ⟨nd, rfl⟩⟩; refine ⟨_, rfl, ?_⟩) | ((with_reducible refine gate_callee (f := 47) rfl ?_); refine goesL_ (some 9) rfl rfl Tryd.func47 (by kernel_rfl) rfl #[.int .i64 a1] rfl y1_ ?_; (with_reducible refine (impl_letter.calls a1 t230 _ A5.out).mono ?_); rintro e w' ⟨rfl, ⟨nd, rfl⟩⟩; refine ⟨_, rfl, ?_⟩) | ((with_reducible refine gate_dst (N := 12) rfl ?_); refine Kd.R_lit Kd.string _ 9 ?hg (N := 12) ?hd (xs := ([a0] : List ByteArray)) (inner := [.string a0]) (ok := fun _ => True) (okp := fun _ => True) ?hr ?hp (fun _ hk => hk) trivial (Below.refl _ _) (Nat.le_refl _) (by simp) ?_; (case hd => rfl); (case hg => rfl); (case hr => first | (go_simp; done) | (go_simp; rfl)); (case hp => exact (Reps.one (show Kd.M Kd.string _ _ _ a0 [.string a0] from rfl) (Reps.none _ _))); intro v232 w8 ho9 hb hg_ hnew_; clear hg_ hnew_; (first | rw [← Ny231.out] at ho9 | (simp only [Int.reduceToNat] at ho9; rw [← Ny231.out] at ho9)); have HO233 := Aside0.mk (Kd.R_lower ho9 (below_size (y7_ HB.out))); replace HB := Aside0.mk (below_step (y7_ HB.out) hb); clear hb ho9; obtain ⟨Ao10, co10, eo10⟩ := Kd.R_slice HO233.out; subst eo10) | ((with_reducible refine gate_callee (f := 45) rfl ?_); refine goesL_ (some 13) rfl rfl Tryd.func45 (by kernel_rfl) rfl #[.string ((⟨#[109]⟩ : ByteArray) ++ t230), .slice Ao10 y231.length co10] rfl y1_ ?_; (with_reducible refine (impl_made.calls k ((⟨#[109]⟩ : ByteArray) ++ t230) _ _ y231 t234 _ ?side1 ?side2 ?side3 ?side4 A7.out).mono ?_); (case side1 => repeat (first | exact (Kd.R_reads' HO233.out).2.2 | (with_reducible refine Kd.C_alloc ?_ _) | (with_reducible refine Kd.C_drewN ?_ _) | (with_reducible refine Kd.C_drew ?_))); (case side2 => exact (Kd.R_reads' HO233.out).2.1); (case side3 => first | assumption | exact Flat.of_R (by assumption) | exact Flat.none_); (case side4 => exact GlobOk.below HGL.out (y7_ HB.out)); rintro e w11 ⟨rfl, hb⟩; refine ⟨_, rfl, ?_⟩; replace HO233 := Aside0.mk (Kd.R_below (y11_ HO233.out) hb); replace HB := Aside0.mk (below_step (y7_ HB.out) hb); clear hb))
      go_ret
      exact ⟨y6_, y7_ HB.out⟩
    rw [if_neg c6] at H
    exact absurd H (by simp)
  replace c4 := Bool.eq_false_iff.mpr c4
  subst c4
  have H1 : (some (⟨#[]⟩ : ByteArray)) = some r := by rw [if_neg (show ¬ (false = true) by decide)] at H; exact H
  clear H
  have H := H1
  clear H1
  obtain rfl := Option.some.inj H
  go_enter Tryd.func25, Tryd.ntmps25
  go_wp2_with (first | ((with_reducible refine gate_callee (f := 46) rfl ?_); refine goesL_ (some 6) rfl rfl Tryd.func46 (by kernel_rfl) rfl #[.int .i64 a1] rfl y1_ ?_; (with_reducible refine (impl_isOne.calls a1 false _ A3.out).mono ?_); rintro e w' ⟨rfl, ⟨nd, rfl⟩⟩; refine ⟨_, rfl, ?_⟩))
  go_ret
  exact ⟨y6_, y7_ HB.out⟩

-- GIVEN: function 49 (strconv_Itoa)

/-! ### impl_MakRoom: function 26 -/
def impl_MakRoom.f (k : Nat) (a0 : ByteArray) (a1 : Int) : Option (ByteArray) := (impl_in.f a1 1 9).bind fun t235 => (if t235 = true then ((strconv_Itoa.f a1).bind fun t236 => (if 1 + t236.size ≤ 9223372036854775807 then ((impl_made.f k ((⟨#[114]⟩ : ByteArray) ++ t236) (([a0] : List ByteArray))).bind fun t240 => (some t240)) else (none))) else (some (⟨#[]⟩ : ByteArray)))
theorem impl_MakRoom.mono : ∀ a0 a1 k, LeO (impl_MakRoom.f k a0 a1) (impl_MakRoom.f (k + 1) a0 a1) := by
  intro a0 a1 k
  unfold impl_MakRoom.f
  repeat' first
      | (with_reducible exact impl_made.mono _ _ _)
      | (with_reducible exact LeO.refl _)
      | (with_reducible exact LeO.none _)
      | (with_reducible refine LeO.ite ?_ ?_)
      | (with_reducible refine LeO.bind ?_ (fun _ => ?_))
      | exact LeO.none _
      | refine LeO.ite ?_ ?_
      | refine LeO.bind ?_ (fun _ => ?_)
set_option maxHeartbeats 8000000 in
set_option maxRecDepth 100000 in
theorem impl_MakRoom.calls (k : Nat) (a0 : ByteArray) (a1 : Int) (r : ByteArray) (w : World) (hG : GlobOk w) (h : impl_MakRoom.f k a0 a1 = some r) :
    Calls Tryd.prog 26 #[.string a0, .int .i64 a1] w fun e w' => e = .returned (.string r) ∧ Below w.heap.size w w' := by
  have HB := Aside0.mk (Below.refl w.heap.size w)
  have HGL := Aside0.mk hG
  clear hG
  have H : ((impl_in.f a1 1 9).bind fun t235 => (if t235 = true then ((strconv_Itoa.f a1).bind fun t236 => (if 1 + t236.size ≤ 9223372036854775807 then ((impl_made.f k ((⟨#[114]⟩ : ByteArray) ++ t236) (([a0] : List ByteArray))).bind fun t240 => (some t240)) else (none))) else (some (⟨#[]⟩ : ByteArray)))) = some r := h
  clear h
  replace H := Option.bind_eq_some_iff.mp H
  obtain ⟨t235, A30, H⟩ := H
  replace H : (if t235 = true then ((strconv_Itoa.f a1).bind fun t236 => (if 1 + t236.size ≤ 9223372036854775807 then ((impl_made.f k ((⟨#[114]⟩ : ByteArray) ++ t236) (([a0] : List ByteArray))).bind fun t240 => (some t240)) else (none))) else (some (⟨#[]⟩ : ByteArray))) = some r := H
  have A3 := Aside0.mk A30
  clear A30
  by_cases c4 : t235 = true
  · subst c4
    have H1 : ((strconv_Itoa.f a1).bind fun t236 => (if 1 + t236.size ≤ 9223372036854775807 then ((impl_made.f k ((⟨#[114]⟩ : ByteArray) ++ t236) (([a0] : List ByteArray))).bind fun t240 => (some t240)) else (none))) = some r := by rw [if_pos rfl] at H; exact H
    clear H
    have H := H1
    clear H1
    replace H := Option.bind_eq_some_iff.mp H
    obtain ⟨t236, A50, H⟩ := H
    replace H : (if 1 + t236.size ≤ 9223372036854775807 then ((impl_made.f k ((⟨#[114]⟩ : ByteArray) ++ t236) (([a0] : List ByteArray))).bind fun t240 => (some t240)) else (none)) = some r := H
    have A5 := Aside0.mk A50
    clear A50
    by_cases c6 : 1 + t236.size ≤ 9223372036854775807
    · rw [if_pos c6] at H
      have c6b0 := eq_true c6
      have c6b1 : decide (1 + t236.size ≤ 9223372036854775807) = true := decide_eq_true c6
      try have c6b2 : (9223372036854775807 < 1 + t236.size) = False := eq_false (Nat.not_lt.2 c6)
      obtain ⟨y237, hy237⟩ : ∃ y_ : List ByteArray, y_ = (([a0] : List ByteArray)) := ⟨_, rfl⟩
      replace H : ((impl_made.f k ((⟨#[114]⟩ : ByteArray) ++ t236) y237).bind fun t240 => (some t240)) = some r := by first | (rw [hy237]; with_reducible exact H) | (have H2_ := (Option.bind_some _ _).symm.trans H; rw [hy237]; with_reducible exact H2_) | (have H2_ := (Option.bind_some _ _).symm.trans H; with_reducible exact H2_) | with_reducible exact H | (rw [hy237]; exact H) | exact H
      have Ny237 := Aside0.mk hy237
      clear hy237
      replace H := Option.bind_eq_some_iff.mp H
      obtain ⟨t240, A70, H⟩ := H
      replace H : (some t240) = some r := H
      have A7 := Aside0.mk A70
      clear A70
      obtain rfl := Option.some.inj H
      go_enter Tryd.func26, Tryd.ntmps26
      go_wp2_with (first | ((with_reducible refine gate_callee (f := 48) rfl ?_); refine goesL_ (some 6) rfl rfl Tryd.func48 (by kernel_rfl) rfl #[.int .i64 a1, .int .i64 1, .int .i64 9] rfl y1_ ?_; (with_reducible refine (impl_in.calls a1 1 9 true _ A3.out).mono ?_); rintro e w' ⟨rfl, ⟨nd, rfl⟩⟩; refine ⟨_, rfl, ?_⟩) | ((with_reducible refine gate_callee (f := 49) rfl ?_); refine goesL_ (some 9) rfl rfl Tryd.func49 (by kernel_rfl) rfl #[.int .i64 a1] rfl y1_ ?_; (with_reducible refine (strconv_Itoa.calls a1 t236 _ A5.out).mono ?_); rintro e w' ⟨rfl, ⟨nd, rfl⟩⟩; refine ⟨_, rfl, ?_⟩) | ((with_reducible refine gate_dst (N := 12) rfl ?_); refine Kd.R_lit Kd.string _ 9 ?hg (N := 12) ?hd (xs := ([a0] : List ByteArray)) (inner := [.string a0]) (ok := fun _ => True) (okp := fun _ => True) ?hr ?hp (fun _ hk => hk) trivial (Below.refl _ _) (Nat.le_refl _) (by simp) ?_; (case hd => rfl); (case hg => rfl); (case hr => first | (go_simp; done) | (go_simp; rfl)); (case hp => exact (Reps.one (show Kd.M Kd.string _ _ _ a0 [.string a0] from rfl) (Reps.none _ _))); intro v238 w8 ho9 hb hg_ hnew_; clear hg_ hnew_; (first | rw [← Ny237.out] at ho9 | (simp only [Int.reduceToNat] at ho9; rw [← Ny237.out] at ho9)); have HO239 := Aside0.mk (Kd.R_lower ho9 (below_size (y7_ HB.out))); replace HB := Aside0.mk (below_step (y7_ HB.out) hb); clear hb ho9; obtain ⟨Ao10, co10, eo10⟩ := Kd.R_slice HO239.out; subst eo10) | ((with_reducible refine gate_callee (f := 45) rfl ?_); refine goesL_ (some 13) rfl rfl Tryd.func45 (by kernel_rfl) rfl #[.string ((⟨#[114]⟩ : ByteArray) ++ t236), .slice Ao10 y237.length co10] rfl y1_ ?_; (with_reducible refine (impl_made.calls k ((⟨#[114]⟩ : ByteArray) ++ t236) _ _ y237 t240 _ ?side1 ?side2 ?side3 ?side4 A7.out).mono ?_); (case side1 => repeat (first | exact (Kd.R_reads' HO239.out).2.2 | (with_reducible refine Kd.C_alloc ?_ _) | (with_reducible refine Kd.C_drewN ?_ _) | (with_reducible refine Kd.C_drew ?_))); (case side2 => exact (Kd.R_reads' HO239.out).2.1); (case side3 => first | assumption | exact Flat.of_R (by assumption) | exact Flat.none_); (case side4 => exact GlobOk.below HGL.out (y7_ HB.out)); rintro e w11 ⟨rfl, hb⟩; refine ⟨_, rfl, ?_⟩; replace HO239 := Aside0.mk (Kd.R_below (y11_ HO239.out) hb); replace HB := Aside0.mk (below_step (y7_ HB.out) hb); clear hb))
      go_ret
      exact ⟨y6_, y7_ HB.out⟩
    rw [if_neg c6] at H
    exact absurd H (by simp)
  replace c4 := Bool.eq_false_iff.mpr c4
  subst c4
  have H1 : (some (⟨#[]⟩ : ByteArray)) = some r := by rw [if_neg (show ¬ (false = true) by decide)] at H; exact H
  clear H
  have H := H1
  clear H1
  obtain rfl := Option.some.inj H
  go_enter Tryd.func26, Tryd.ntmps26
  go_wp2_with (first | ((with_reducible refine gate_callee (f := 48) rfl ?_); refine goesL_ (some 6) rfl rfl Tryd.func48 (by kernel_rfl) rfl #[.int .i64 a1, .int .i64 1, .int .i64 9] rfl y1_ ?_; (with_reducible refine (impl_in.calls a1 1 9 false _ A3.out).mono ?_); rintro e w' ⟨rfl, ⟨nd, rfl⟩⟩; refine ⟨_, rfl, ?_⟩))
  go_ret
  exact ⟨y6_, y7_ HB.out⟩

/-! ### impl_MakEpoch: function 27 -/
def impl_MakEpoch.f (k : Nat) (a0 : ByteArray) (a1 : ByteArray) : Option (ByteArray) := (impl_made.f k (⟨#[101]⟩ : ByteArray) (([a0, a1] : List ByteArray))).bind fun t244 => (some t244)
theorem impl_MakEpoch.mono : ∀ a0 a1 k, LeO (impl_MakEpoch.f k a0 a1) (impl_MakEpoch.f (k + 1) a0 a1) := by
  intro a0 a1 k
  unfold impl_MakEpoch.f
  repeat' first
      | (with_reducible exact impl_made.mono _ _ _)
      | (with_reducible exact LeO.refl _)
      | (with_reducible exact LeO.none _)
      | (with_reducible refine LeO.ite ?_ ?_)
      | (with_reducible refine LeO.bind ?_ (fun _ => ?_))
      | exact LeO.none _
      | refine LeO.ite ?_ ?_
      | refine LeO.bind ?_ (fun _ => ?_)
set_option maxHeartbeats 8000000 in
set_option maxRecDepth 100000 in
theorem impl_MakEpoch.calls (k : Nat) (a0 : ByteArray) (a1 : ByteArray) (r : ByteArray) (w : World) (hG : GlobOk w) (h : impl_MakEpoch.f k a0 a1 = some r) :
    Calls Tryd.prog 27 #[.string a0, .string a1] w fun e w' => e = .returned (.string r) ∧ Below w.heap.size w w' := by
  have HB := Aside0.mk (Below.refl w.heap.size w)
  have HGL := Aside0.mk hG
  clear hG
  have H : ((impl_made.f k (⟨#[101]⟩ : ByteArray) (([a0, a1] : List ByteArray))).bind fun t244 => (some t244)) = some r := h
  clear h
  obtain ⟨y241, hy241⟩ : ∃ y_ : List ByteArray, y_ = (([a0, a1] : List ByteArray)) := ⟨_, rfl⟩
  replace H : ((impl_made.f k (⟨#[101]⟩ : ByteArray) y241).bind fun t244 => (some t244)) = some r := by first | (rw [hy241]; with_reducible exact H) | (have H2_ := (Option.bind_some _ _).symm.trans H; rw [hy241]; with_reducible exact H2_) | (have H2_ := (Option.bind_some _ _).symm.trans H; with_reducible exact H2_) | with_reducible exact H | (rw [hy241]; exact H) | exact H
  have Ny241 := Aside0.mk hy241
  clear hy241
  replace H := Option.bind_eq_some_iff.mp H
  obtain ⟨t244, A30, H⟩ := H
  replace H : (some t244) = some r := H
  have A3 := Aside0.mk A30
  clear A30
  obtain rfl := Option.some.inj H
  go_enter Tryd.func27, Tryd.ntmps27
  go_wp2_with (first | ((with_reducible refine gate_dst (N := 7) rfl ?_); refine Kd.R_lit Kd.string _ 9 ?hg (N := 7) ?hd (xs := ([a0, a1] : List ByteArray)) (inner := [.string a0, .string a1]) (ok := fun _ => True) (okp := fun _ => True) ?hr ?hp (fun _ hk => hk) trivial (Below.refl _ _) (Nat.le_refl _) (by simp) ?_; (case hd => rfl); (case hg => rfl); (case hr => first | (go_simp; done) | (go_simp; rfl)); (case hp => exact (Reps.one (show Kd.M Kd.string _ _ _ a0 [.string a0] from rfl) (Reps.one (show Kd.M Kd.string _ _ _ a1 [.string a1] from rfl) (Reps.none _ _)))); intro v242 w4 ho5 hb hg_ hnew_; clear hg_ hnew_; (first | rw [← Ny241.out] at ho5 | (simp only [Int.reduceToNat] at ho5; rw [← Ny241.out] at ho5)); have HO243 := Aside0.mk (Kd.R_lower ho5 (below_size (y7_ HB.out))); replace HB := Aside0.mk (below_step (y7_ HB.out) hb); clear hb ho5; obtain ⟨Ao6, co6, eo6⟩ := Kd.R_slice HO243.out; subst eo6) | ((with_reducible refine gate_callee (f := 45) rfl ?_); refine goesL_ (some 8) rfl rfl Tryd.func45 (by kernel_rfl) rfl #[.string (⟨#[101]⟩ : ByteArray), .slice Ao6 y241.length co6] rfl y1_ ?_; (with_reducible refine (impl_made.calls k (⟨#[101]⟩ : ByteArray) _ _ y241 t244 _ ?side1 ?side2 ?side3 ?side4 A3.out).mono ?_); (case side1 => repeat (first | exact (Kd.R_reads' HO243.out).2.2 | (with_reducible refine Kd.C_alloc ?_ _) | (with_reducible refine Kd.C_drewN ?_ _) | (with_reducible refine Kd.C_drew ?_))); (case side2 => exact (Kd.R_reads' HO243.out).2.1); (case side3 => first | assumption | exact Flat.of_R (by assumption) | exact Flat.none_); (case side4 => exact GlobOk.below HGL.out (y7_ HB.out)); rintro e w7 ⟨rfl, hb⟩; refine ⟨_, rfl, ?_⟩; replace HO243 := Aside0.mk (Kd.R_below (y11_ HO243.out) hb); replace HB := Aside0.mk (below_step (y7_ HB.out) hb); clear hb))
  go_ret
  exact ⟨y6_, y7_ HB.out⟩

end Go.Proofs.YtjbnfcljkmapeaaDoor.Yb
