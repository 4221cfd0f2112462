-- Written by this session's own program (wip/tools/pp.py) out of the translation, over functions given by hand. Lean checks it.
import Derived.Test.YtjbnfcljkmapeaaDoorYcx0
import Derived.Test.YtjbnfcljkmapeaaDoorYcx7
import Derived.Test.YtjbnfcljkmapeaaDoorYcx8
namespace Go.Proofs.YtjbnfcljkmapeaaDoor.Yc
open Go.RowKit Go.Proofs.YtjbnfcljkmapeaaDoorW.PrintWords Go.Proofs.YtjbnfcljkmapeaaDoorW.PrintLast Go.Proofs.YtjbnfcljkmapeaaDoorW.PrintMore
attribute [local go_sem] max2_int min2_int max_two min_two max_three min_three max_four min_four   -- for this text's walks alone
set_option linter.unusedVariables false
set_option linter.unusedSimpArgs false

/-! ### spec_l2Make: function 42 -/
mutual
def spec_l2Make.j0 : Nat → List ByteArray → Int → Bool → Int → Int → Int → ByteArray → ByteArray → Option (Bool)
  | 0, _, _, _, _, _, _, _, _ => none
  | k + 1, x0, x12, x13, x157000, x157001, x157002, x157003, x157004 => if x13 = true then ((spec_l2Make.f k x0 x157003).bind fun t157 => (some t157)) else (if x12 = 4 then ((spec_l2Make.f k x0 x157003).bind fun t158 => (if t158 = true then ((spec_l2Make.f k x0 x157004).bind fun t159 => (some t159)) else (some false))) else (some false))
def spec_l2Make.f : Nat → List ByteArray → ByteArray → Option (Bool)
  | 0, _, _ => none
  | k + 1, l0, a1 => (spec_l2Has.f k l0 a1).bind fun t150 => (if t150 = true then (some true) else ((spec_l1How.f k a1).bind fun bt151 => (if bt151.1 = 2 then (spec_l2Make.j0 k l0 bt151.1 (bt151.1 == 2) bt151.1 bt151.2.1 bt151.2.2.1 bt151.2.2.2.1 bt151.2.2.2.2) else (if bt151.1 = 3 then (spec_l2Make.j0 k l0 bt151.1 (bt151.1 == 3) bt151.1 bt151.2.1 bt151.2.2.1 bt151.2.2.2.1 bt151.2.2.2.2) else (if bt151.1 = 5 then (spec_l2Make.j0 k l0 bt151.1 (bt151.1 == 5) bt151.1 bt151.2.1 bt151.2.2.1 bt151.2.2.2.1 bt151.2.2.2.2) else (spec_l2Make.j0 k l0 bt151.1 (bt151.1 == 6) bt151.1 bt151.2.1 bt151.2.2.1 bt151.2.2.2.1 bt151.2.2.2.2))))))
end
theorem spec_l2Make.mono_l : ∀ k, (∀ y0 y1, LeO (spec_l2Make.f k y0 y1) (spec_l2Make.f (k + 1) y0 y1)) ∧ (∀ y0 y1 y2 y3 y4 y5 y6 y7, LeO (spec_l2Make.j0 k y0 y1 y2 y3 y4 y5 y6 y7) (spec_l2Make.j0 (k + 1) y0 y1 y2 y3 y4 y5 y6 y7))
  | 0 => ⟨fun _ _ r h => by simp [spec_l2Make.f] at h, fun _ _ _ _ _ _ _ _ r h => by simp [spec_l2Make.j0] at h⟩
  | k + 1 => by
    obtain ⟨ih0, ih1⟩ := spec_l2Make.mono_l k
    refine ⟨?_, ?_⟩
    · intro y0 y1
      unfold spec_l2Make.f
      repeat' first
      | (with_reducible exact ih0 _ _)
      | (with_reducible exact ih1 _ _ _ _ _ _ _ _)
      | (with_reducible exact spec_l1How.mono _ _)
      | (with_reducible exact spec_l2Has.mono _ _ _)
      | (with_reducible exact LeO.refl _)
      | (with_reducible exact LeO.none _)
      | (with_reducible refine LeO.ite ?_ ?_)
      | (with_reducible refine LeO.bind ?_ (fun _ => ?_))
      | exact LeO.none _
      | refine LeO.ite ?_ ?_
      | refine LeO.bind ?_ (fun _ => ?_)
    intro y0 y1 y2 y3 y4 y5 y6 y7
    unfold spec_l2Make.j0
    repeat' first
    | (with_reducible exact ih0 _ _)
    | (with_reducible exact ih1 _ _ _ _ _ _ _ _)
    | (with_reducible exact spec_l1How.mono _ _)
    | (with_reducible exact spec_l2Has.mono _ _ _)
    | (with_reducible exact LeO.refl _)
    | (with_reducible exact LeO.none _)
    | (with_reducible refine LeO.ite ?_ ?_)
    | (with_reducible refine LeO.bind ?_ (fun _ => ?_))
    | exact LeO.none _
    | refine LeO.ite ?_ ?_
    | refine LeO.bind ?_ (fun _ => ?_)
theorem spec_l2Make.mono : ∀ a0 a1 k, LeO (spec_l2Make.f k a0 a1) (spec_l2Make.f (k + 1) a0 a1) := by
  intro a0 a1 k
  obtain ⟨ih0, ih1⟩ := spec_l2Make.mono_l k
  exact ih0 a0 a1
set_option maxHeartbeats 8000000 in
set_option maxRecDepth 100000 in
theorem spec_l2Make.calls (k : Nat) : ∀ (A0 : Option Addr) (c0 : Nat) (l0 : List ByteArray) (a1 : ByteArray) (r : Bool) (w : World) (hr0 : Kd.C Kd.string w A0 l0.length l0) (hc0 : l0.length ≤ c0) (h : spec_l2Make.f k l0 a1 = some r),
    Calls Tryd.prog 42 #[.slice A0 l0.length c0, .string a1] w fun e w' => e = .returned (.bool r) ∧ Below w.heap.size w w' := by
  induction k using Nat.strongRecOn with
  | _ k ih =>
  intro A0 c0 l0 a1 r w hr0 hc0 h
  cases k with
  | zero => exact absurd h (by simp [spec_l2Make.f])
  | succ k =>
  simp only [spec_l2Make.f] at h
  have hu35 := Tryd.underlying35
  have HR0 := Aside0.mk hr0
  have HC0 := Aside0.mk hc0
  clear hr0 hc0
  have HB := Aside0.mk (Below.refl w.heap.size w)
  have H : ((spec_l2Has.f k l0 a1).bind fun t150 => (if t150 = true then (some true) else ((spec_l1How.f k a1).bind fun bt151 => (if bt151.1 = 2 then (spec_l2Make.j0 k l0 bt151.1 (bt151.1 == 2) bt151.1 bt151.2.1 bt151.2.2.1 bt151.2.2.2.1 bt151.2.2.2.2) else (if bt151.1 = 3 then (spec_l2Make.j0 k l0 bt151.1 (bt151.1 == 3) bt151.1 bt151.2.1 bt151.2.2.1 bt151.2.2.2.1 bt151.2.2.2.2) else (if bt151.1 = 5 then (spec_l2Make.j0 k l0 bt151.1 (bt151.1 == 5) bt151.1 bt151.2.1 bt151.2.2.1 bt151.2.2.2.1 bt151.2.2.2.2) else (spec_l2Make.j0 k l0 bt151.1 (bt151.1 == 6) bt151.1 bt151.2.1 bt151.2.2.1 bt151.2.2.2.1 bt151.2.2.2.2))))))) = some r := h
  clear h
  replace H := Option.bind_eq_some_iff.mp H
  obtain ⟨t150, A30, H⟩ := H
  replace H : (if t150 = true then (some true) else ((spec_l1How.f k a1).bind fun bt151 => (if bt151.1 = 2 then (spec_l2Make.j0 k l0 bt151.1 (bt151.1 == 2) bt151.1 bt151.2.1 bt151.2.2.1 bt151.2.2.2.1 bt151.2.2.2.2) else (if bt151.1 = 3 then (spec_l2Make.j0 k l0 bt151.1 (bt151.1 == 3) bt151.1 bt151.2.1 bt151.2.2.1 bt151.2.2.2.1 bt151.2.2.2.2) else (if bt151.1 = 5 then (spec_l2Make.j0 k l0 bt151.1 (bt151.1 == 5) bt151.1 bt151.2.1 bt151.2.2.1 bt151.2.2.2.1 bt151.2.2.2.2) else (spec_l2Make.j0 k l0 bt151.1 (bt151.1 == 6) bt151.1 bt151.2.1 bt151.2.2.1 bt151.2.2.2.1 bt151.2.2.2.2)))))) = some r := H
  have A3 := Aside0.mk A30
  clear A30
  by_cases c4 : t150 = true
  · subst c4
    have H1 : (some true) = some r := by rw [if_pos rfl] at H; exact H
    clear H
    have H := H1
    clear H1
    obtain rfl := Option.some.inj H
    go_enter Tryd.func42, Tryd.ntmps42
    go_wp2_with (first | ((with_reducible refine gate_callee (f := 62) rfl ?_); refine goesL_ (some 8) rfl rfl Tryd.func62 (by kernel_rfl) rfl #[.slice A0 l0.length c0, .string a1] rfl y1_ ?_; (with_reducible refine (spec_l2Has.calls k _ _ l0 a1 true _ ?side1 ?side2 A3.out).mono ?_); (case side1 => repeat (first | exact HR0.out | (with_reducible refine Kd.C_alloc ?_ _) | (with_reducible refine Kd.C_drewN ?_ _) | (with_reducible refine Kd.C_drew ?_))); (case side2 => exact HC0.out); rintro e w' ⟨rfl, ⟨nd, rfl⟩⟩; refine ⟨_, rfl, ?_⟩))
    go_ret
    exact ⟨y6_, y7_ HB.out⟩
  replace c4 := Bool.eq_false_iff.mpr c4
  subst c4
  have H1 : ((spec_l1How.f k a1).bind fun bt151 => (if bt151.1 = 2 then (spec_l2Make.j0 k l0 bt151.1 (bt151.1 == 2) bt151.1 bt151.2.1 bt151.2.2.1 bt151.2.2.2.1 bt151.2.2.2.2) else (if bt151.1 = 3 then (spec_l2Make.j0 k l0 bt151.1 (bt151.1 == 3) bt151.1 bt151.2.1 bt151.2.2.1 bt151.2.2.2.1 bt151.2.2.2.2) else (if bt151.1 = 5 then (spec_l2Make.j0 k l0 bt151.1 (bt151.1 == 5) bt151.1 bt151.2.1 bt151.2.2.1 bt151.2.2.2.1 bt151.2.2.2.2) else (spec_l2Make.j0 k l0 bt151.1 (bt151.1 == 6) bt151.1 bt151.2.1 bt151.2.2.1 bt151.2.2.2.1 bt151.2.2.2.2))))) = some r := by rw [if_neg (show ¬ (false = true) by decide)] at H; exact H
  clear H
  have H := H1
  clear H1
  replace H := Option.bind_eq_some_iff.mp H
  obtain ⟨⟨t151, t152, t153, t154, t155⟩, A50, H⟩ := H
  replace H : (if t151 = 2 then (spec_l2Make.j0 k l0 t151 (t151 == 2) t151 t152 t153 t154 t155) else (if t151 = 3 then (spec_l2Make.j0 k l0 t151 (t151 == 3) t151 t152 t153 t154 t155) else (if t151 = 5 then (spec_l2Make.j0 k l0 t151 (t151 == 5) t151 t152 t153 t154 t155) else (spec_l2Make.j0 k l0 t151 (t151 == 6) t151 t152 t153 t154 t155)))) = some r := H
  have A5 := Aside0.mk A50
  clear A50
  have HC6 := Aside0.mk H
  clear H
  go_enter Tryd.func42, Tryd.ntmps42
  go_upto_if 13 with (first | ((with_reducible refine gate_callee (f := 62) rfl ?_); refine goesL_ (some 8) rfl rfl Tryd.func62 (by kernel_rfl) rfl #[.slice A0 l0.length c0, .string a1] rfl y1_ ?_; (with_reducible refine (spec_l2Has.calls k _ _ l0 a1 false _ ?side1 ?side2 A3.out).mono ?_); (case side1 => repeat (first | exact HR0.out | (with_reducible refine Kd.C_alloc ?_ _) | (with_reducible refine Kd.C_drewN ?_ _) | (with_reducible refine Kd.C_drew ?_))); (case side2 => exact HC0.out); rintro e w' ⟨rfl, ⟨nd, rfl⟩⟩; refine ⟨_, rfl, ?_⟩) | ((with_reducible refine gate_callee (f := 63) rfl ?_); refine goesL_ (some 10) rfl rfl Tryd.func63 (by kernel_rfl) rfl #[.string a1] rfl y1_ ?_; (with_reducible refine (spec_l1How.calls k a1 t151 t152 t153 t154 t155 _ A5.out).mono ?_); rintro e w7 ⟨rfl, hb⟩; refine ⟨_, rfl, ?_⟩; replace HB := Aside0.mk (below_step (y7_ HB.out) hb); clear hb) | ((with_reducible refine gate_dst (N := 5) rfl ?_); refine box_event ?hg (N := 5) ?hd (cs := #[.int .i64 0, .int .i64 0, .int .i64 0, .string (⟨#[]⟩ : ByteArray), .string (⟨#[]⟩ : ByteArray)]) (t := 35) ?hr ?_; (case hd => rfl); (case hg => rfl); (case hr => first | (go_simp; done) | (go_simp; rfl)); intro gb156 hg w8 hbox hb; have BK156 := Aside0.mk (hbox); have GW156 := Aside0.mk ((by rw [hg]; exact (below_size (y7_ HB.out)) : w.heap.size ≤ gb156)); have GE156 := Aside0.mk ((by rw [hg]; exact (below_size (y7_ HB.out)) : w.heap.size ≤ gb156)); replace HB := Aside0.mk (below_step (y7_ HB.out) hb); clear hb hbox hg; have hcz9_0 : w8.cell? ⟨gb156, 0, none⟩ = some (.int .i64 0) := (blk_cell BK156.out 0).trans rfl; have hcz9_1 : w8.cell? ⟨gb156, 1, none⟩ = some (.int .i64 0) := (blk_cell BK156.out 1).trans rfl; have hcz9_2 : w8.cell? ⟨gb156, 2, none⟩ = some (.int .i64 0) := (blk_cell BK156.out 2).trans rfl; have hcz9_3 : w8.cell? ⟨gb156, 3, none⟩ = some (.string (⟨#[]⟩ : ByteArray)) := (blk_cell BK156.out 3).trans rfl; have hcz9_4 : w8.cell? ⟨gb156, 4, none⟩ = some (.string (⟨#[]⟩ : ByteArray)) := (blk_cell BK156.out 4).trans rfl; have hfz9_0 := blk_frozen BK156.out 0; have hfz9_1 := blk_frozen BK156.out 1; have hfz9_2 := blk_frozen BK156.out 2; have hfz9_3 := blk_frozen BK156.out 3; have hfz9_4 := blk_frozen BK156.out 4))
  (try simp only [Act.put, List.setIfInBounds_toArray, List.set_cons_zero, List.set_cons_succ])
  go_cut [13] (fun v13 wc => ∃ (kq : Nat) (x13_5 : Bool), v13 = .bool x13_5 ∧ Aside0 (spec_l2Make.j0 kq l0 t151 x13_5 t151 t152 t153 t154 t155 = some r) ∧ Aside0 (kq ≤ k) ∧ Aside0 (wc.heap[gb156]? = some (.cells #[.int .i64 t151, .int .i64 t152, .int .i64 t153, .string t154, .string t155] 35 (0, 0))) ∧ Aside0 (Below w.heap.size w wc))
  case first =>
    have H := HC6.out
    clear HC6
    by_cases c10 : t151 = 2
    · rw [if_pos c10] at H
      have c10b0 : (t151 == 2) = true := beq_iff_eq.mpr c10
      have c10b1 : (t151 != 2) = false := bne_eq_false_iff_eq.mpr c10
      clear c10
      (first | rw [c10b0] | (simp only [i64_w, i32_w]; rw [c10b0]) | skip)
      have H' := Aside0.mk H
      clear H
      go_wp2
      go_meet
      case rel => exact ⟨_, ((t151 == 2)), y4_, H', ⟨by first | omega | exact Nat.le_refl _⟩, ⟨by (with_reducible repeat (first | refine blk_drewN ?_ _ | refine blk_drew ?_ | refine blk_alloc ?_ _)); refine blk_put (cs := #[.int .i64 t151, .int .i64 t152, .int .i64 t153, .string t154, .string (⟨#[]⟩ : ByteArray)]) ?_ 4 _ y5_; (with_reducible repeat (first | refine blk_drewN ?_ _ | refine blk_drew ?_ | refine blk_alloc ?_ _)); refine blk_put (cs := #[.int .i64 t151, .int .i64 t152, .int .i64 t153, .string (⟨#[]⟩ : ByteArray), .string (⟨#[]⟩ : ByteArray)]) ?_ 3 _ y5_; (with_reducible repeat (first | refine blk_drewN ?_ _ | refine blk_drew ?_ | refine blk_alloc ?_ _)); refine blk_put (cs := #[.int .i64 t151, .int .i64 t152, .int .i64 0, .string (⟨#[]⟩ : ByteArray), .string (⟨#[]⟩ : ByteArray)]) ?_ 2 _ y5_; (with_reducible repeat (first | refine blk_drewN ?_ _ | refine blk_drew ?_ | refine blk_alloc ?_ _)); refine blk_put (cs := #[.int .i64 t151, .int .i64 0, .int .i64 0, .string (⟨#[]⟩ : ByteArray), .string (⟨#[]⟩ : ByteArray)]) ?_ 1 _ y5_; (with_reducible repeat (first | refine blk_drewN ?_ _ | refine blk_drew ?_ | refine blk_alloc ?_ _)); refine blk_put (cs := #[.int .i64 0, .int .i64 0, .int .i64 0, .string (⟨#[]⟩ : ByteArray), .string (⟨#[]⟩ : ByteArray)]) ?_ 0 _ y5_; (with_reducible repeat (first | refine blk_drewN ?_ _ | refine blk_drew ?_ | refine blk_alloc ?_ _)); exact BK156.out⟩, ⟨y8_ HB.out GE156.out⟩⟩
    rw [if_neg c10] at H
    have c10b0 : (t151 == 2) = false := beq_eq_false_iff_ne.mpr c10
    have c10b1 : (t151 != 2) = true := bne_iff_ne.mpr c10
    (first | rw [c10b0] | (simp only [i64_w, i32_w]; rw [c10b0]) | skip)
    by_cases c11 : t151 = 3
    · rw [if_pos c11] at H
      have c11b0 : (t151 == 3) = true := beq_iff_eq.mpr c11
      have c11b1 : (t151 != 3) = false := bne_eq_false_iff_eq.mpr c11
      clear c11
      have H' := Aside0.mk H
      clear H
      go_wp2
      go_meet
      case rel => exact ⟨_, ((t151 == 3)), y4_, H', ⟨by first | omega | exact Nat.le_refl _⟩, ⟨by (with_reducible repeat (first | refine blk_drewN ?_ _ | refine blk_drew ?_ | refine blk_alloc ?_ _)); refine blk_put (cs := #[.int .i64 t151, .int .i64 t152, .int .i64 t153, .string t154, .string (⟨#[]⟩ : ByteArray)]) ?_ 4 _ y5_; (with_reducible repeat (first | refine blk_drewN ?_ _ | refine blk_drew ?_ | refine blk_alloc ?_ _)); refine blk_put (cs := #[.int .i64 t151, .int .i64 t152, .int .i64 t153, .string (⟨#[]⟩ : ByteArray), .string (⟨#[]⟩ : ByteArray)]) ?_ 3 _ y5_; (with_reducible repeat (first | refine blk_drewN ?_ _ | refine blk_drew ?_ | refine blk_alloc ?_ _)); refine blk_put (cs := #[.int .i64 t151, .int .i64 t152, .int .i64 0, .string (⟨#[]⟩ : ByteArray), .string (⟨#[]⟩ : ByteArray)]) ?_ 2 _ y5_; (with_reducible repeat (first | refine blk_drewN ?_ _ | refine blk_drew ?_ | refine blk_alloc ?_ _)); refine blk_put (cs := #[.int .i64 t151, .int .i64 0, .int .i64 0, .string (⟨#[]⟩ : ByteArray), .string (⟨#[]⟩ : ByteArray)]) ?_ 1 _ y5_; (with_reducible repeat (first | refine blk_drewN ?_ _ | refine blk_drew ?_ | refine blk_alloc ?_ _)); refine blk_put (cs := #[.int .i64 0, .int .i64 0, .int .i64 0, .string (⟨#[]⟩ : ByteArray), .string (⟨#[]⟩ : ByteArray)]) ?_ 0 _ y5_; (with_reducible repeat (first | refine blk_drewN ?_ _ | refine blk_drew ?_ | refine blk_alloc ?_ _)); exact BK156.out⟩, ⟨y8_ HB.out GE156.out⟩⟩
    rw [if_neg c11] at H
    have c11b0 : (t151 == 3) = false := beq_eq_false_iff_ne.mpr c11
    have c11b1 : (t151 != 3) = true := bne_iff_ne.mpr c11
    by_cases c12 : t151 = 5
    · rw [if_pos c12] at H
      have c12b0 : (t151 == 5) = true := beq_iff_eq.mpr c12
      have c12b1 : (t151 != 5) = false := bne_eq_false_iff_eq.mpr c12
      clear c12
      have H' := Aside0.mk H
      clear H
      go_wp2
      go_meet
      case rel => exact ⟨_, ((t151 == 5)), y4_, H', ⟨by first | omega | exact Nat.le_refl _⟩, ⟨by (with_reducible repeat (first | refine blk_drewN ?_ _ | refine blk_drew ?_ | refine blk_alloc ?_ _)); refine blk_put (cs := #[.int .i64 t151, .int .i64 t152, .int .i64 t153, .string t154, .string (⟨#[]⟩ : ByteArray)]) ?_ 4 _ y5_; (with_reducible repeat (first | refine blk_drewN ?_ _ | refine blk_drew ?_ | refine blk_alloc ?_ _)); refine blk_put (cs := #[.int .i64 t151, .int .i64 t152, .int .i64 t153, .string (⟨#[]⟩ : ByteArray), .string (⟨#[]⟩ : ByteArray)]) ?_ 3 _ y5_; (with_reducible repeat (first | refine blk_drewN ?_ _ | refine blk_drew ?_ | refine blk_alloc ?_ _)); refine blk_put (cs := #[.int .i64 t151, .int .i64 t152, .int .i64 0, .string (⟨#[]⟩ : ByteArray), .string (⟨#[]⟩ : ByteArray)]) ?_ 2 _ y5_; (with_reducible repeat (first | refine blk_drewN ?_ _ | refine blk_drew ?_ | refine blk_alloc ?_ _)); refine blk_put (cs := #[.int .i64 t151, .int .i64 0, .int .i64 0, .string (⟨#[]⟩ : ByteArray), .string (⟨#[]⟩ : ByteArray)]) ?_ 1 _ y5_; (with_reducible repeat (first | refine blk_drewN ?_ _ | refine blk_drew ?_ | refine blk_alloc ?_ _)); refine blk_put (cs := #[.int .i64 0, .int .i64 0, .int .i64 0, .string (⟨#[]⟩ : ByteArray), .string (⟨#[]⟩ : ByteArray)]) ?_ 0 _ y5_; (with_reducible repeat (first | refine blk_drewN ?_ _ | refine blk_drew ?_ | refine blk_alloc ?_ _)); exact BK156.out⟩, ⟨y8_ HB.out GE156.out⟩⟩
    rw [if_neg c12] at H
    have c12b0 : (t151 == 5) = false := beq_eq_false_iff_ne.mpr c12
    have c12b1 : (t151 != 5) = true := bne_iff_ne.mpr c12
    have H' := Aside0.mk H
    clear H
    go_wp2
    go_meet
    case rel => exact ⟨_, ((t151 == 6)), y4_, H', ⟨by first | omega | exact Nat.le_refl _⟩, ⟨by (with_reducible repeat (first | refine blk_drewN ?_ _ | refine blk_drew ?_ | refine blk_alloc ?_ _)); refine blk_put (cs := #[.int .i64 t151, .int .i64 t152, .int .i64 t153, .string t154, .string (⟨#[]⟩ : ByteArray)]) ?_ 4 _ y5_; (with_reducible repeat (first | refine blk_drewN ?_ _ | refine blk_drew ?_ | refine blk_alloc ?_ _)); refine blk_put (cs := #[.int .i64 t151, .int .i64 t152, .int .i64 t153, .string (⟨#[]⟩ : ByteArray), .string (⟨#[]⟩ : ByteArray)]) ?_ 3 _ y5_; (with_reducible repeat (first | refine blk_drewN ?_ _ | refine blk_drew ?_ | refine blk_alloc ?_ _)); refine blk_put (cs := #[.int .i64 t151, .int .i64 t152, .int .i64 0, .string (⟨#[]⟩ : ByteArray), .string (⟨#[]⟩ : ByteArray)]) ?_ 2 _ y5_; (with_reducible repeat (first | refine blk_drewN ?_ _ | refine blk_drew ?_ | refine blk_alloc ?_ _)); refine blk_put (cs := #[.int .i64 t151, .int .i64 0, .int .i64 0, .string (⟨#[]⟩ : ByteArray), .string (⟨#[]⟩ : ByteArray)]) ?_ 1 _ y5_; (with_reducible repeat (first | refine blk_drewN ?_ _ | refine blk_drew ?_ | refine blk_alloc ?_ _)); refine blk_put (cs := #[.int .i64 0, .int .i64 0, .int .i64 0, .string (⟨#[]⟩ : ByteArray), .string (⟨#[]⟩ : ByteArray)]) ?_ 0 _ y5_; (with_reducible repeat (first | refine blk_drewN ?_ _ | refine blk_drew ?_ | refine blk_alloc ?_ _)); exact BK156.out⟩, ⟨y8_ HB.out GE156.out⟩⟩
  case rest =>
    clear HC6
    try clear c1
    try clear p2
    try clear c4
    try clear c6
    try clear c10
    try clear c10b0
    try clear c10b1
    try clear c11
    try clear c11b0
    try clear c11b1
    try clear c12
    try clear c12b0
    try clear c12b1
    try clear hcz9_0
    try clear hcz9_1
    try clear hcz9_2
    try clear hcz9_3
    try clear hcz9_4
    try clear hfz9_0
    try clear hfz9_1
    try clear hfz9_2
    try clear hfz9_3
    try clear hfz9_4
    obtain ⟨kq, x13_5, rfl, HA, HJ5, BK156, HB⟩ := hcut
    cases kq with
    | zero => exact absurd HA.out (by simp [spec_l2Make.j0])
    | succ kj5 =>
      have H := HA.out
      clear HA
      simp only [spec_l2Make.j0] at H
      by_cases c13 : x13_5 = true
      · subst c13
        have H1 : ((spec_l2Make.f kj5 l0 t154).bind fun t157 => (some t157)) = some r := by rw [if_pos rfl] at H; exact H
        clear H
        have H := H1
        clear H1
        replace H := Option.bind_eq_some_iff.mp H
        obtain ⟨t157, A140, H⟩ := H
        replace H : (some t157) = some r := H
        have A14 := Aside0.mk A140
        clear A140
        obtain rfl := Option.some.inj H
        have hcz15_0 : wc.cell? ⟨gb156, 0, none⟩ = some (.int .i64 t151) := (blk_cell BK156.out 0).trans rfl
        have hcz15_1 : wc.cell? ⟨gb156, 1, none⟩ = some (.int .i64 t152) := (blk_cell BK156.out 1).trans rfl
        have hcz15_2 : wc.cell? ⟨gb156, 2, none⟩ = some (.int .i64 t153) := (blk_cell BK156.out 2).trans rfl
        have hcz15_3 : wc.cell? ⟨gb156, 3, none⟩ = some (.string t154) := (blk_cell BK156.out 3).trans rfl
        have hcz15_4 : wc.cell? ⟨gb156, 4, none⟩ = some (.string t155) := (blk_cell BK156.out 4).trans rfl
        have hfz15_0 := blk_frozen BK156.out 0
        have hfz15_1 := blk_frozen BK156.out 1
        have hfz15_2 := blk_frozen BK156.out 2
        have hfz15_3 := blk_frozen BK156.out 3
        have hfz15_4 := blk_frozen BK156.out 4
        go_wp2_with (first | ((with_reducible refine gate_callee (f := 42) rfl ?_); refine goesL_ (some 21) rfl rfl Tryd.func42 (by kernel_rfl) rfl #[.slice A0 l0.length c0, .string t154] rfl y1_ ?_; (with_reducible refine (ih kj5 (by have := HJ5.out; omega) _ _ l0 t154 t157 _ ?side1 ?side2 A14.out).mono ?_); (case side1 => repeat (first | exact (Kd.C_below HR0.out HB.out) | (with_reducible refine Kd.C_alloc ?_ _) | (with_reducible refine Kd.C_drewN ?_ _) | (with_reducible refine Kd.C_drew ?_))); (case side2 => exact HC0.out); rintro e w16 ⟨rfl, hb⟩; refine ⟨_, rfl, ?_⟩; replace BK156 := Aside0.mk (blk_below (g := gb156) (o := .cells #[.int .i64 t151, .int .i64 t152, .int .i64 t153, .string t154, .string t155] 35 (0, 0)) (y12_ BK156.out) hb); replace HB := Aside0.mk (below_step (y8_ HB.out GE156.out) hb); clear hb))
        go_ret
        exact ⟨y6_, y8_ HB.out GE156.out⟩
      replace c13 := Bool.eq_false_iff.mpr c13
      subst c13
      have H1 : (if t151 = 4 then ((spec_l2Make.f kj5 l0 t154).bind fun t158 => (if t158 = true then ((spec_l2Make.f kj5 l0 t155).bind fun t159 => (some t159)) else (some false))) else (some false)) = some r := by rw [if_neg (show ¬ (false = true) by decide)] at H; exact H
      clear H
      have H := H1
      clear H1
      by_cases c17 : t151 = 4
      · rw [if_pos c17] at H
        have c17b0 : (t151 == 4) = true := beq_iff_eq.mpr c17
        have c17b1 : (t151 != 4) = false := bne_eq_false_iff_eq.mpr c17
        clear c17
        replace H := Option.bind_eq_some_iff.mp H
        obtain ⟨t158, A180, H⟩ := H
        replace H : (if t158 = true then ((spec_l2Make.f kj5 l0 t155).bind fun t159 => (some t159)) else (some false)) = some r := H
        have A18 := Aside0.mk A180
        clear A180
        by_cases c19 : t158 = true
        · subst c19
          have H1 : ((spec_l2Make.f kj5 l0 t155).bind fun t159 => (some t159)) = some r := by rw [if_pos rfl] at H; exact H
          clear H
          have H := H1
          clear H1
          replace H := Option.bind_eq_some_iff.mp H
          obtain ⟨t159, A200, H⟩ := H
          replace H : (some t159) = some r := H
          have A20 := Aside0.mk A200
          clear A200
          obtain rfl := Option.some.inj H
          have hcz21_0 : wc.cell? ⟨gb156, 0, none⟩ = some (.int .i64 t151) := (blk_cell BK156.out 0).trans rfl
          have hcz21_1 : wc.cell? ⟨gb156, 1, none⟩ = some (.int .i64 t152) := (blk_cell BK156.out 1).trans rfl
          have hcz21_2 : wc.cell? ⟨gb156, 2, none⟩ = some (.int .i64 t153) := (blk_cell BK156.out 2).trans rfl
          have hcz21_3 : wc.cell? ⟨gb156, 3, none⟩ = some (.string t154) := (blk_cell BK156.out 3).trans rfl
          have hcz21_4 : wc.cell? ⟨gb156, 4, none⟩ = some (.string t155) := (blk_cell BK156.out 4).trans rfl
          have hfz21_0 := blk_frozen BK156.out 0
          have hfz21_1 := blk_frozen BK156.out 1
          have hfz21_2 := blk_frozen BK156.out 2
          have hfz21_3 := blk_frozen BK156.out 3
          have hfz21_4 := blk_frozen BK156.out 4
          go_wp2_with (first | ((with_reducible refine gate_callee (f := 42) rfl ?_); refine goesL_ (some 27) rfl rfl Tryd.func42 (by kernel_rfl) rfl #[.slice A0 l0.length c0, .string t154] rfl y1_ ?_; (with_reducible refine (ih kj5 (by have := HJ5.out; omega) _ _ l0 t154 true _ ?side1 ?side2 A18.out).mono ?_); (case side1 => repeat (first | exact (Kd.C_below HR0.out HB.out) | (with_reducible refine Kd.C_alloc ?_ _) | (with_reducible refine Kd.C_drewN ?_ _) | (with_reducible refine Kd.C_drew ?_))); (case side2 => exact HC0.out); rintro e w22 ⟨rfl, hb⟩; refine ⟨_, rfl, ?_⟩; replace BK156 := Aside0.mk (blk_below (g := gb156) (o := .cells #[.int .i64 t151, .int .i64 t152, .int .i64 t153, .string t154, .string t155] 35 (0, 0)) (y12_ BK156.out) hb); replace HB := Aside0.mk (below_step (y8_ HB.out GE156.out) hb); clear hb; have hcz23_0 : w22.cell? ⟨gb156, 0, none⟩ = some (.int .i64 t151) := (blk_cell BK156.out 0).trans rfl; have hcz23_1 : w22.cell? ⟨gb156, 1, none⟩ = some (.int .i64 t152) := (blk_cell BK156.out 1).trans rfl; have hcz23_2 : w22.cell? ⟨gb156, 2, none⟩ = some (.int .i64 t153) := (blk_cell BK156.out 2).trans rfl; have hcz23_3 : w22.cell? ⟨gb156, 3, none⟩ = some (.string t154) := (blk_cell BK156.out 3).trans rfl; have hcz23_4 : w22.cell? ⟨gb156, 4, none⟩ = some (.string t155) := (blk_cell BK156.out 4).trans rfl; have hfz23_0 := blk_frozen BK156.out 0; have hfz23_1 := blk_frozen BK156.out 1; have hfz23_2 := blk_frozen BK156.out 2; have hfz23_3 := blk_frozen BK156.out 3; have hfz23_4 := blk_frozen BK156.out 4) | (go_at_call 42; (with_reducible refine (ih kj5 (by have := HJ5.out; omega) _ _ l0 t155 t159 _ ?side1 ?side2 A20.out).mono ?_); (case side1 => repeat (first | exact (Kd.C_below HR0.out HB.out) | (with_reducible refine Kd.C_alloc ?_ _) | (with_reducible refine Kd.C_drewN ?_ _) | (with_reducible refine Kd.C_drew ?_))); (case side2 => exact HC0.out); rintro e w24 ⟨rfl, hb⟩; replace BK156 := Aside0.mk (blk_below (g := gb156) (o := .cells #[.int .i64 t151, .int .i64 t152, .int .i64 t153, .string t154, .string t155] 35 (0, 0)) (y12_ BK156.out) hb); replace HB := Aside0.mk (below_step (y8_ HB.out GE156.out) hb); clear hb))
          go_ret
          exact ⟨y6_, y8_ HB.out GE156.out⟩
        replace c19 := Bool.eq_false_iff.mpr c19
        subst c19
        have H1 : (some false) = some r := by rw [if_neg (show ¬ (false = true) by decide)] at H; exact H
        clear H
        have H := H1
        clear H1
        obtain rfl := Option.some.inj H
        have hcz25_0 : wc.cell? ⟨gb156, 0, none⟩ = some (.int .i64 t151) := (blk_cell BK156.out 0).trans rfl
        have hcz25_1 : wc.cell? ⟨gb156, 1, none⟩ = some (.int .i64 t152) := (blk_cell BK156.out 1).trans rfl
        have hcz25_2 : wc.cell? ⟨gb156, 2, none⟩ = some (.int .i64 t153) := (blk_cell BK156.out 2).trans rfl
        have hcz25_3 : wc.cell? ⟨gb156, 3, none⟩ = some (.string t154) := (blk_cell BK156.out 3).trans rfl
        have hcz25_4 : wc.cell? ⟨gb156, 4, none⟩ = some (.string t155) := (blk_cell BK156.out 4).trans rfl
        have hfz25_0 := blk_frozen BK156.out 0
        have hfz25_1 := blk_frozen BK156.out 1
        have hfz25_2 := blk_frozen BK156.out 2
        have hfz25_3 := blk_frozen BK156.out 3
        have hfz25_4 := blk_frozen BK156.out 4
        go_wp2_with (first | ((with_reducible refine gate_callee (f := 42) rfl ?_); refine goesL_ (some 27) rfl rfl Tryd.func42 (by kernel_rfl) rfl #[.slice A0 l0.length c0, .string t154] rfl y1_ ?_; (with_reducible refine (ih kj5 (by have := HJ5.out; omega) _ _ l0 t154 false _ ?side1 ?side2 A18.out).mono ?_); (case side1 => repeat (first | exact (Kd.C_below HR0.out HB.out) | (with_reducible refine Kd.C_alloc ?_ _) | (with_reducible refine Kd.C_drewN ?_ _) | (with_reducible refine Kd.C_drew ?_))); (case side2 => exact HC0.out); rintro e w26 ⟨rfl, hb⟩; refine ⟨_, rfl, ?_⟩; replace BK156 := Aside0.mk (blk_below (g := gb156) (o := .cells #[.int .i64 t151, .int .i64 t152, .int .i64 t153, .string t154, .string t155] 35 (0, 0)) (y12_ BK156.out) hb); replace HB := Aside0.mk (below_step (y8_ HB.out GE156.out) hb); clear hb))
        go_ret
        exact ⟨y6_, y8_ HB.out GE156.out⟩
      rw [if_neg c17] at H
      have c17b0 : (t151 == 4) = false := beq_eq_false_iff_ne.mpr c17
      have c17b1 : (t151 != 4) = true := bne_iff_ne.mpr c17
      obtain rfl := Option.some.inj H
      go_wp2
      go_ret
      exact ⟨y6_, y8_ HB.out GE156.out⟩

end Go.Proofs.YtjbnfcljkmapeaaDoor.Yc
