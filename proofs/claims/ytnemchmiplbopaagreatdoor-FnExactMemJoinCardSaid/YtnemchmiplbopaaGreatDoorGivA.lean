/- Contracts of four functions that the print does not take: strconv.Itoa below 100, strconv.Atoi of at most two figures, letter and numberOf; and what the walks need of the package's variable ErrSyntax. -/
import Derived.Test.YtnemchmiplbopaaGreatDoorShelf
import Derived.Test.YtnemchmiplbopaaGreatDoorNames
import Derived.Test.YtnemchmiplbopaaGreatDoorWMore
import Derived.WalkKit
import Derived.Handy
import Derived.BigQuiet
import Derived.Deep.QuietTactic
import Derived.WideLaws
import Derived.KernelRfl
import Derived.Lib.Split
namespace Go.Proofs.YtnemchmiplbopaaGreatDoor
open Go.RowKit Go.Proofs.YtnemchmiplbopaaGreatDoorW.PrintWords Go.Proofs.YtnemchmiplbopaaGreatDoorW.PrintLast Go.Proofs.YtnemchmiplbopaaGreatDoorW.PrintMore

/-- What the variable strconv.ErrSyntax holds: an error. -/
def GlobOk (w : World) : Prop := ∃ ev, w.cell? ⟨1, 0, none⟩ = some ev ∧ (ev = .nilIface ∨ ∃ te pe, ev = .iface te pe)
theorem GlobOk.below {w w' : World} (h : GlobOk w) (hb : Below w.heap.size w w') : GlobOk w' := by
  obtain ⟨ev, h1, h2⟩ := h
  exact ⟨ev, (hb.cell (p := ⟨1, 0, none⟩) (Lib.lt_of_cell h1)).trans h1, h2⟩
theorem GlobOk.below0 {w w' : World} (h : GlobOk w) (hb : Below w.heap.size w w') : GlobOk w' := h.below hb

/-! ### numberOf -/
/-- How many figures a text begins with, two at most. -/
def impl_numberOf.f (s : ByteArray) : Option (Int × ByteArray) :=
  if 0 < s.size ∧ 48 ≤ bt s 0 ∧ bt s 0 ≤ 57 then
    if bt s 0 = 48 then some (0, s)
    else if 1 < s.size ∧ 48 ≤ bt s 1 ∧ bt s 1 ≤ 57 then some (10 * (bt s 0 - 48) + (bt s 1 - 48), s.extract 2 s.size)
    else some (bt s 0 - 48, s.extract 1 s.size)
  else some (0, s)

theorem no_figures (s : ByteArray) (w : World) (hG : GlobOk w) (h : ¬ 0 < s.size) :
    Calls Tryz.prog 120 #[.string s] w fun e w' => e = .returned (.tuple #[.int .i64 0, .string s]) ∧ Below w.heap.size w w' := by
  obtain ⟨ev, hv, hev⟩ := hG
  have HA := Lib.hid (Tryz.strconv_Atoi_err ⟨#[]⟩ (by decide) rfl ev w hv hev)
  clear hv hev
  have f0 : decide (0 < s.size) = false := decide_eq_false h
  have f1 : decide ((0 : Int) < (s.size : Int)) = false := decide_eq_false (by omega)
  clear h
  go_enter Tryz.func120, Tryz.ntmps120
  go_wp2
  refine wp_loop_rounds 1 ?_
  rw [rounds_succ]
  go_wp2_with fail
  refine HA.out.mono ?_
  rintro e w' ⟨N, rfl, -, -, hb⟩
  go_wp2_with fail
  go_ret2
  exact ⟨rfl, hb⟩

theorem no_figure (s : ByteArray) (w : World) (hG : GlobOk w) (h : 0 < s.size) (h1 : bt s 0 < 48 ∨ 57 < bt s 0) :
    Calls Tryz.prog 120 #[.string s] w fun e w' => e = .returned (.tuple #[.int .i64 0, .string s]) ∧ Below w.heap.size w w' := by
  obtain ⟨ev, hv, hev⟩ := hG
  have HA := Lib.hid (Tryz.strconv_Atoi_err ⟨#[]⟩ (by decide) rfl ev w hv hev)
  clear hv hev
  have f0 : decide (0 < s.size) = true := decide_eq_true h
  have f1 : decide ((0 : Int) < (s.size : Int)) = true := decide_eq_true (by omega)
  have hx : ∀ h : 0 < s.size, ((s[0]'h).toNat : Int) = bt s 0 := bt_at s 0
  have qi : (0 < (s.size : Int)) = True := eq_true (by omega)
  replace h := eq_true h
  rcases h1 with h1 | h1
  · have g0 : decide (48 ≤ bt s 0) = false := decide_eq_false (by omega)
    clear h1
    go_enter Tryz.func120, Tryz.ntmps120
    go_wp2
    refine wp_loop_rounds 1 ?_
    rw [rounds_succ]
    go_wp2_with fail
    refine HA.out.mono ?_
    rintro e w' ⟨N, rfl, -, -, hb⟩
    go_wp2_with fail
    go_ret2
    exact ⟨rfl, hb⟩
  · have g0 : decide (48 ≤ bt s 0) = true := decide_eq_true (by omega)
    have g1 : decide (bt s 0 ≤ 57) = false := decide_eq_false (by omega)
    clear h1
    go_enter Tryz.func120, Tryz.ntmps120
    go_wp2
    refine wp_loop_rounds 1 ?_
    rw [rounds_succ]
    go_wp2_with fail
    refine HA.out.mono ?_
    rintro e w' ⟨N, rfl, -, -, hb⟩
    go_wp2_with fail
    go_ret2
    exact ⟨rfl, hb⟩

theorem atoi1 : ∀ x : Fin 10, Lib.atoi [UInt8.ofNat (48 + x.val)] = some (x.val : Int) := by decide +kernel
theorem atoi2 : ∀ x y : Fin 10, Lib.atoi [UInt8.ofNat (48 + x.val), UInt8.ofNat (48 + y.val)] = some (10 * (x.val : Int) + (y.val : Int)) := by decide +kernel
theorem byte_of (s : ByteArray) (i : Nat) (h : i < s.size) (a0 : 48 ≤ bt s i) (a1 : bt s i ≤ 57) : ∃ x : Fin 10, s[i] = UInt8.ofNat (48 + x.val) ∧ (x.val : Int) = bt s i - 48 := by
  have e := bt_at s i (by simpa using h)
  simp only [Int.toNat_natCast] at e
  refine ⟨⟨(s[i]).toNat - 48, by omega⟩, ?_, by simp only; omega⟩
  apply UInt8.toNat_inj.1
  have := (s[i]).toNat_lt
  simp only [UInt8.toNat_ofNat']
  omega
theorem cut1 (s : ByteArray) (h : 0 < s.size) : (s.extract 0 1).data.toList = [s[0]] := by
  rw [Lib.extract_from_zero]
  have h' : 0 < s.data.toList.length := h
  rw [List.take_one, List.head?_eq_getElem?, List.getElem?_eq_getElem h']
  rfl
theorem cut2 (s : ByteArray) (h : 1 < s.size) : (s.extract 0 2).data.toList = [s[0], s[1]] := by
  rw [Lib.extract_from_zero]
  have h' : 1 < s.data.toList.length := h
  rw [show (2 : Nat) = 1 + 1 from rfl, List.take_succ_eq_append_getElem h', List.take_one, List.head?_eq_getElem?, List.getElem?_eq_getElem (by omega)]
  rfl
theorem atoi_cut1 (s : ByteArray) (h : 0 < s.size) (a0 : 48 ≤ bt s 0) (a1 : bt s 0 ≤ 57) : Lib.atoi (s.extract 0 1).data.toList = some (bt s 0 - 48) := by
  obtain ⟨x, e1, e2⟩ := byte_of s 0 h a0 a1
  rw [cut1 s h, e1, atoi1 x, e2]
  rfl
theorem atoi_cut2 (s : ByteArray) (h : 1 < s.size) (a0 : 48 ≤ bt s 0) (a1 : bt s 0 ≤ 57) (b0 : 48 ≤ bt s 1) (b1 : bt s 1 ≤ 57) : Lib.atoi (s.extract 0 2).data.toList = some (10 * (bt s 0 - 48) + (bt s 1 - 48)) := by
  obtain ⟨x, e1, e2⟩ := byte_of s 0 (by omega) a0 a1
  obtain ⟨y, e3, e4⟩ := byte_of s 1 h b0 b1
  rw [cut2 s h, e1, e3, atoi2 x y, e2, e4]
  rfl
theorem cut_size (s : ByteArray) (k : Nat) (h : k ≤ 2) : (s.extract 0 k).size ≤ 18 := by
  rw [ByteArray.size_extract]
  omega

theorem one_figure (s : ByteArray) (w : World) (h : 0 < s.size) (a0 : 48 ≤ bt s 0) (a1 : bt s 0 ≤ 57) (hn : ¬ 1 < s.size) :
    Calls Tryz.prog 120 #[.string s] w fun e w' => e = .returned (if bt s 0 = 48 then .tuple #[.int .i64 0, .string s] else .tuple #[.int .i64 (bt s 0 - 48), .string (s.extract 1 s.size)]) ∧ Below w.heap.size w w' := by
  have HA := Lib.hid (Tryz.strconv_Atoi (s.extract 0 1) (bt s 0 - 48) (cut_size s 1 (by omega)) (atoi_cut1 s h a0 a1) w)
  have f0 : decide (0 < s.size) = true := decide_eq_true h
  have f1 : decide ((0 : Int) < (s.size : Int)) = true := decide_eq_true (by omega)
  have k0 : decide (1 ≤ s.size) = true := decide_eq_true h
  have k1 : decide ((1 : Int) ≤ (s.size : Int)) = true := decide_eq_true (by omega)
  have e0 : decide (1 < s.size) = false := decide_eq_false hn
  have e1 : decide ((1 : Int) < (s.size : Int)) = false := decide_eq_false (by omega)
  have hx : ∀ h : 0 < s.size, ((s[0]'h).toNat : Int) = bt s 0 := bt_at s 0
  have qi : (0 < (s.size : Int)) = True := eq_true (by omega)
  have qk : ((1 : Int) ≤ (s.size : Int)) = True := eq_true (by omega)
  have qk' : (1 ≤ s.size) = True := eq_true h
  replace h := eq_true h
  have g0 : decide (48 ≤ bt s 0) = true := decide_eq_true (by omega)
  have g1 : decide (bt s 0 ≤ 57) = true := decide_eq_true (by omega)
  by_cases hz : bt s 0 = 48
  · rw [if_pos hz]
    have Hz := Lib.hid hz
    have z0 : (bt s 0 == 48) = true := beq_iff_eq.2 hz
    clear a0 a1 hn hz
    go_enter Tryz.func120, Tryz.ntmps120
    go_wp2
    refine wp_loop_rounds 2 ?_
    rw [rounds_succ]
    go_wp2
    rw [rounds_succ]
    go_wp2_with fail
    refine HA.out.mono ?_
    rintro e w' ⟨rfl, t, rfl⟩
    go_wp2_with fail
    go_ret2
    exact ⟨rfl, Lib.bytesWorld_below _ _ _⟩
  · rw [if_neg hz]
    have z0 : (bt s 0 == 48) = false := beq_eq_false_iff_ne.2 hz
    clear a0 a1 hn hz
    go_enter Tryz.func120, Tryz.ntmps120
    go_wp2
    refine wp_loop_rounds 2 ?_
    rw [rounds_succ]
    go_wp2
    rw [rounds_succ]
    go_wp2_with fail
    refine HA.out.mono ?_
    rintro e w' ⟨rfl, t, rfl⟩
    go_wp2_with fail
    repeat (go_quiet (fail); try go_wp2)
    go_ret2
    exact ⟨rfl, pw_below_drewN (Lib.bytesWorld_below _ _ _) _⟩

theorem figure_stop (s : ByteArray) (w : World) (h : 1 < s.size) (a0 : 48 ≤ bt s 0) (a1 : bt s 0 ≤ 57) (hn : bt s 1 < 48 ∨ 57 < bt s 1) :
    Calls Tryz.prog 120 #[.string s] w fun e w' => e = .returned (if bt s 0 = 48 then .tuple #[.int .i64 0, .string s] else .tuple #[.int .i64 (bt s 0 - 48), .string (s.extract 1 s.size)]) ∧ Below w.heap.size w w' := by
  have HA := Lib.hid (Tryz.strconv_Atoi (s.extract 0 1) (bt s 0 - 48) (cut_size s 1 (by omega)) (atoi_cut1 s (by omega) a0 a1) w)
  have f0 : decide (0 < s.size) = true := decide_eq_true (by omega)
  have f1 : decide ((0 : Int) < (s.size : Int)) = true := decide_eq_true (by omega)
  have k0 : decide (1 ≤ s.size) = true := decide_eq_true (by omega)
  have k1 : decide ((1 : Int) ≤ (s.size : Int)) = true := decide_eq_true (by omega)
  have e0 : decide (1 < s.size) = true := decide_eq_true h
  have e1 : decide ((1 : Int) < (s.size : Int)) = true := decide_eq_true (by omega)
  have hx : ∀ h : 0 < s.size, ((s[0]'h).toNat : Int) = bt s 0 := bt_at s 0
  have hy : ∀ h : 1 < s.size, ((s[1]'h).toNat : Int) = bt s 1 := bt_at s 1
  have qi : (0 < (s.size : Int)) = True := eq_true (by omega)
  have qj : (1 < (s.size : Int)) = True := eq_true (by omega)
  have qk : ((1 : Int) ≤ (s.size : Int)) = True := eq_true (by omega)
  have qk' : (1 ≤ s.size) = True := eq_true (by omega)
  have q0 : (0 < s.size) = True := eq_true (by omega)
  replace h := eq_true h
  have g0 : decide (48 ≤ bt s 0) = true := decide_eq_true (by omega)
  have g1 : decide (bt s 0 ≤ 57) = true := decide_eq_true (by omega)
  have hm : decide (48 ≤ bt s 1) = false ∨ decide (48 ≤ bt s 1) = true ∧ decide (bt s 1 ≤ 57) = false := by
    rcases hn with hn | hn
    · exact .inl (decide_eq_false (by omega))
    · exact .inr ⟨decide_eq_true (by omega), decide_eq_false (by omega)⟩
  clear hn
  by_cases hz : bt s 0 = 48
  · rw [if_pos hz]
    have Hz := Lib.hid hz
    have z0 : (bt s 0 == 48) = true := beq_iff_eq.2 hz
    clear a0 a1 hz
    rcases hm with hm | ⟨hm, hm'⟩ <;>
    · go_enter Tryz.func120, Tryz.ntmps120
      go_wp2
      refine wp_loop_rounds 2 ?_
      rw [rounds_succ]
      go_wp2
      rw [rounds_succ]
      go_wp2_with fail
      refine HA.out.mono ?_
      rintro e w' ⟨rfl, t, rfl⟩
      go_wp2_with fail
      go_ret2
      exact ⟨rfl, Lib.bytesWorld_below _ _ _⟩
  · rw [if_neg hz]
    have z0 : (bt s 0 == 48) = false := beq_eq_false_iff_ne.2 hz
    clear a0 a1 hz
    rcases hm with hm | ⟨hm, hm'⟩ <;>
    · go_enter Tryz.func120, Tryz.ntmps120
      go_wp2
      refine wp_loop_rounds 2 ?_
      rw [rounds_succ]
      go_wp2
      rw [rounds_succ]
      go_wp2_with fail
      refine HA.out.mono ?_
      rintro e w' ⟨rfl, t, rfl⟩
      go_wp2_with fail
      repeat (go_quiet (fail); try go_wp2)
      go_ret2
      exact ⟨rfl, pw_below_drewN (Lib.bytesWorld_below _ _ _) _⟩

theorem two_figures (s : ByteArray) (w : World) (h : 1 < s.size) (a0 : 48 ≤ bt s 0) (a1 : bt s 0 ≤ 57) (b0 : 48 ≤ bt s 1) (b1 : bt s 1 ≤ 57) :
    Calls Tryz.prog 120 #[.string s] w fun e w' => e = .returned (if bt s 0 = 48 then .tuple #[.int .i64 0, .string s] else .tuple #[.int .i64 (10 * (bt s 0 - 48) + (bt s 1 - 48)), .string (s.extract 2 s.size)]) ∧ Below w.heap.size w w' := by
  have HA := Lib.hid (Tryz.strconv_Atoi (s.extract 0 2) (10 * (bt s 0 - 48) + (bt s 1 - 48)) (cut_size s 2 (by omega)) (atoi_cut2 s h a0 a1 b0 b1) w)
  have f0 : decide (0 < s.size) = true := decide_eq_true (by omega)
  have f1 : decide ((0 : Int) < (s.size : Int)) = true := decide_eq_true (by omega)
  have k0 : decide (2 ≤ s.size) = true := decide_eq_true (by omega)
  have k1 : decide ((2 : Int) ≤ (s.size : Int)) = true := decide_eq_true (by omega)
  have e0 : decide (1 < s.size) = true := decide_eq_true h
  have e1 : decide ((1 : Int) < (s.size : Int)) = true := decide_eq_true (by omega)
  have hx : ∀ h : 0 < s.size, ((s[0]'h).toNat : Int) = bt s 0 := bt_at s 0
  have hy : ∀ h : 1 < s.size, ((s[1]'h).toNat : Int) = bt s 1 := bt_at s 1
  have qi : (0 < (s.size : Int)) = True := eq_true (by omega)
  have qj : (1 < (s.size : Int)) = True := eq_true (by omega)
  have qk : ((2 : Int) ≤ (s.size : Int)) = True := eq_true (by omega)
  have qk' : (2 ≤ s.size) = True := eq_true (by omega)
  have q0 : (0 < s.size) = True := eq_true (by omega)
  have z2 : decide (2 < s.size) = true ∧ decide ((2 : Int) < (s.size : Int)) = true ∨ decide (2 < s.size) = false ∧ decide ((2 : Int) < (s.size : Int)) = false := by
    by_cases h2 : 2 < s.size
    · exact .inl ⟨decide_eq_true h2, decide_eq_true (by omega)⟩
    · exact .inr ⟨decide_eq_false h2, decide_eq_false (by omega)⟩
  replace h := eq_true h
  have g0 : decide (48 ≤ bt s 0) = true := decide_eq_true (by omega)
  have g1 : decide (bt s 0 ≤ 57) = true := decide_eq_true (by omega)
  have m0 : decide (48 ≤ bt s 1) = true := decide_eq_true (by omega)
  have m1 : decide (bt s 1 ≤ 57) = true := decide_eq_true (by omega)
  by_cases hz : bt s 0 = 48
  · rw [if_pos hz]
    have Hz := Lib.hid hz
    have z0 : (bt s 0 == 48) = true := beq_iff_eq.2 hz
    clear a0 a1 hz b0 b1
    rcases z2 with ⟨z2, z3⟩ | ⟨z2, z3⟩ <;>
    · go_enter Tryz.func120, Tryz.ntmps120
      go_wp2
      refine wp_loop_rounds 3 ?_
      rw [rounds_succ]
      go_wp2
      rw [rounds_succ]
      go_wp2
      rw [rounds_succ]
      go_wp2_with fail
      refine HA.out.mono ?_
      rintro e w' ⟨rfl, t, rfl⟩
      go_wp2_with fail
      go_ret2
      exact ⟨rfl, Lib.bytesWorld_below _ _ _⟩
  · rw [if_neg hz]
    have z0 : (bt s 0 == 48) = false := beq_eq_false_iff_ne.2 hz
    clear a0 a1 hz b0 b1
    rcases z2 with ⟨z2, z3⟩ | ⟨z2, z3⟩ <;>
    · go_enter Tryz.func120, Tryz.ntmps120
      go_wp2
      refine wp_loop_rounds 3 ?_
      rw [rounds_succ]
      go_wp2
      rw [rounds_succ]
      go_wp2
      rw [rounds_succ]
      go_wp2_with fail
      refine HA.out.mono ?_
      rintro e w' ⟨rfl, t, rfl⟩
      go_wp2_with fail
      repeat (go_quiet (fail); try go_wp2)
      go_ret2
      exact ⟨rfl, pw_below_drewN (Lib.bytesWorld_below _ _ _) _⟩

theorem impl_numberOf.calls (a0 : ByteArray) (r1 : Int) (r2 : ByteArray) (w : World) (hG : GlobOk w) (h : impl_numberOf.f a0 = some (r1, r2)) :
    Calls Tryz.prog 120 #[.string a0] w fun e w' => e = .returned (.tuple #[.int .i64 r1, .string r2]) ∧ Below w.heap.size w w' := by
  unfold impl_numberOf.f at h
  by_cases h0 : 0 < a0.size
  · by_cases d0 : 48 ≤ bt a0 0 ∧ bt a0 0 ≤ 57
    · rw [if_pos ⟨h0, d0⟩] at h
      by_cases hz : bt a0 0 = 48
      · rw [if_pos hz] at h
        simp only [Option.some.injEq, Prod.mk.injEq] at h
        obtain ⟨rfl, rfl⟩ := h
        by_cases h1 : 1 < a0.size
        · by_cases d1 : 48 ≤ bt a0 1 ∧ bt a0 1 ≤ 57
          · refine (two_figures a0 w h1 d0.1 d0.2 d1.1 d1.2).mono ?_
            rintro e w' ⟨rfl, hb⟩
            rw [if_pos hz]; exact ⟨rfl, hb⟩
          · refine (figure_stop a0 w h1 d0.1 d0.2 (by omega)).mono ?_
            rintro e w' ⟨rfl, hb⟩
            rw [if_pos hz]; exact ⟨rfl, hb⟩
        · refine (one_figure a0 w h0 d0.1 d0.2 h1).mono ?_
          rintro e w' ⟨rfl, hb⟩
          rw [if_pos hz]; exact ⟨rfl, hb⟩
      · rw [if_neg hz] at h
        by_cases h1 : 1 < a0.size
        · by_cases d1 : 48 ≤ bt a0 1 ∧ bt a0 1 ≤ 57
          · rw [if_pos ⟨h1, d1⟩] at h
            simp only [Option.some.injEq, Prod.mk.injEq] at h
            obtain ⟨rfl, rfl⟩ := h
            refine (two_figures a0 w h1 d0.1 d0.2 d1.1 d1.2).mono ?_
            rintro e w' ⟨rfl, hb⟩
            rw [if_neg hz]; exact ⟨rfl, hb⟩
          · rw [if_neg (fun h => d1 h.2)] at h
            simp only [Option.some.injEq, Prod.mk.injEq] at h
            obtain ⟨rfl, rfl⟩ := h
            refine (figure_stop a0 w h1 d0.1 d0.2 (by omega)).mono ?_
            rintro e w' ⟨rfl, hb⟩
            rw [if_neg hz]; exact ⟨rfl, hb⟩
        · rw [if_neg (fun h => h1 h.1)] at h
          simp only [Option.some.injEq, Prod.mk.injEq] at h
          obtain ⟨rfl, rfl⟩ := h
          refine (one_figure a0 w h0 d0.1 d0.2 h1).mono ?_
          rintro e w' ⟨rfl, hb⟩
          rw [if_neg hz]; exact ⟨rfl, hb⟩
    · rw [if_neg (fun h => d0 h.2)] at h
      simp only [Option.some.injEq, Prod.mk.injEq] at h
      obtain ⟨rfl, rfl⟩ := h
      exact no_figure a0 w hG h0 (by omega)
  · rw [if_neg (fun h => h0 h.1)] at h
    simp only [Option.some.injEq, Prod.mk.injEq] at h
    obtain ⟨rfl, rfl⟩ := h
    exact no_figures a0 w hG h0
end Go.Proofs.YtnemchmiplbopaaGreatDoor
