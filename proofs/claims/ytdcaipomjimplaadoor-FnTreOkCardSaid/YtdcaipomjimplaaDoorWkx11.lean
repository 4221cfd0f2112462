-- Written by this session's own program (wip/tools/pp.py) out of the translation, over functions given by hand. Lean checks it.
import Derived.Test.YtdcaipomjimplaaDoorWkx0
import Derived.Test.YtdcaipomjimplaaDoorWkx1
import Derived.Test.YtdcaipomjimplaaDoorWkx5
import Derived.Test.YtdcaipomjimplaaDoorWkx10
namespace Go.Proofs.YtdcaipomjimplaaDoor.Wk
open Go.RowKit Go.Proofs.YtdcaipomjimplaaDoorW.PrintWords Go.Proofs.YtdcaipomjimplaaDoorW.PrintLast Go.Proofs.YtdcaipomjimplaaDoorW.PrintMore
attribute [local go_sem] max2_int min2_int max_two min_two max_three min_three max_four min_four   -- for this text's walks alone
set_option linter.unusedVariables false
set_option linter.unusedSimpArgs false

/-! ### spec_TreOk: function 54 -/
mutual
def spec_TreOk.l0 : Nat → Int → List ByteArray → Option (Bool)
  | 0, _, _ => none
  | k + 1, x3, x217000 => if x3 < 15 then (if 0 ≤ x3 then (if x3 < (x217000.length : Int) then (if (rdOf ByteArray.empty x217000 x3).toList = ([] : List UInt8) then (spec_TreOk.j1 k x3 false x217000) else ((spec_SecOk.f k (rdOf ByteArray.empty x217000 x3)).bind fun t219 => (if t219 = true then ((spec_l1How.f k (rdOf ByteArray.empty x217000 x3)).bind fun bt221 => (spec_TreOk.j1 k x3 (bt221.1 != 3) x217000)) else (spec_TreOk.j1 k x3 true x217000)))) else (none)) else (none)) else (some true)
def spec_TreOk.j1 : Nat → Int → Bool → List ByteArray → Option (Bool)
  | 0, _, _, _ => none
  | k + 1, x3, x36, x217000 => if x36 = true then (some false) else (spec_TreOk.l0 k (wrap64 (x3 + 1)) x217000)
end
def spec_TreOk.f (k : Nat) (l0_0 : List ByteArray) : Option (Bool) := if (l0_0.length : Int) = 15 then (spec_TreOk.l0 k 0 l0_0) else (some false)
theorem spec_TreOk.mono_l : ∀ k, (∀ y0 y1, LeO (spec_TreOk.l0 k y0 y1) (spec_TreOk.l0 (k + 1) y0 y1)) ∧ (∀ y0 y1 y2, LeO (spec_TreOk.j1 k y0 y1 y2) (spec_TreOk.j1 (k + 1) y0 y1 y2))
  | 0 => ⟨fun _ _ r h => by simp [spec_TreOk.l0] at h, fun _ _ _ r h => by simp [spec_TreOk.j1] at h⟩
  | k + 1 => by
    obtain ⟨ih0, ih1⟩ := spec_TreOk.mono_l k; refine ⟨?_, ?_⟩
    · intro y0 y1
      unfold spec_TreOk.l0
      repeat' first
      | (with_reducible exact ih0 _ _)
      | (with_reducible exact ih1 _ _ _)
      | (with_reducible exact spec_SecOk.mono _ _)
      | (with_reducible exact spec_l1How.mono _ _)
      | (with_reducible exact LeO.refl _)
      | (with_reducible exact LeO.none _)
      | (with_reducible refine LeO.ite ?_ ?_)
      | (with_reducible refine LeO.bind ?_ (fun _ => ?_))
      | exact LeO.none _
      | refine LeO.ite ?_ ?_
      | refine LeO.bind ?_ (fun _ => ?_)
    intro y0 y1 y2; unfold spec_TreOk.j1
    repeat' first
    | (with_reducible exact ih0 _ _)
    | (with_reducible exact ih1 _ _ _)
    | (with_reducible exact spec_SecOk.mono _ _)
    | (with_reducible exact spec_l1How.mono _ _)
    | (with_reducible exact LeO.refl _)
    | (with_reducible exact LeO.none _)
    | (with_reducible refine LeO.ite ?_ ?_)
    | (with_reducible refine LeO.bind ?_ (fun _ => ?_))
    | exact LeO.none _
    | refine LeO.ite ?_ ?_
    | refine LeO.bind ?_ (fun _ => ?_)
theorem spec_TreOk.mono : ∀ a0 k, LeO (spec_TreOk.f k a0) (spec_TreOk.f (k + 1) a0) := by
  intro a0 k; obtain ⟨ih0, ih1⟩ := spec_TreOk.mono_l k; unfold spec_TreOk.f
  repeat' first
      | (with_reducible exact ih0 _ _)
      | (with_reducible exact ih1 _ _ _)
      | (with_reducible exact spec_SecOk.mono _ _)
      | (with_reducible exact spec_l1How.mono _ _)
      | (with_reducible exact LeO.refl _)
      | (with_reducible exact LeO.none _)
      | (with_reducible refine LeO.ite ?_ ?_)
      | (with_reducible refine LeO.bind ?_ (fun _ => ?_))
      | exact LeO.none _
      | refine LeO.ite ?_ ?_
      | refine LeO.bind ?_ (fun _ => ?_)
set_option maxHeartbeats 8000000 in
set_option maxRecDepth 100000 in
theorem spec_TreOk.calls (k : Nat) (A0_0 : Option Addr) (c0_0 : Nat) (l0_0 : List ByteArray) (r : Bool) (w : World) (hr0_0 : Kd.C Kd.string w A0_0 l0_0.length l0_0) (hc0_0 : l0_0.length ≤ c0_0) (h : spec_TreOk.f k l0_0 = some r) :
    Calls Tryd.prog 54 #[.agg #[.slice A0_0 l0_0.length c0_0]] w fun e w' => e = .returned (.bool r) ∧ Below w.heap.size w w' := by
  have hu55 := Tryd.underlying55
  have hfl37_0 : ∀ (fv0 fv1 fv2 fv3 fv4 : Value) (W : World), (Instr.field 37 (.agg #[fv0, fv1, fv2, fv3, fv4]) 0).run Tryd.prog W = .ok fv0 W := fun _ _ _ _ _ _ => by kernel_rfl
  have HR0_0 := am_ hr0_0; have HC0_0 := am_ hc0_0; clear hr0_0 hc0_0; have HB := am_ (Below.refl w.heap.size w); have H : (if (l0_0.length : Int) = 15 then (spec_TreOk.l0 k 0 l0_0) else (some false)) = some r := h; clear h; by_cases c2 : (l0_0.length : Int) = 15
  · rw [if_pos c2] at H
    have c2b0 : ((l0_0.length : Int) == 15) = true := beq_iff_eq.mpr c2; have c2b1 : ((l0_0.length : Int) != 15) = false := bne_eq_false_iff_eq.mpr c2; clear c2; have H' := am_ H; clear H; go_enter Tryd.func54, Tryd.ntmps54; go_wp2_with (first | ((with_reducible refine gate_dst (N := 1) rfl ?_); refine box_event ?hg (N := 1) ?hd (cs := #[.slice A0_0 l0_0.length c0_0]) (t := 55) ?hr ?_; (case hd => rfl); (case hg => rfl); (case hr => first | (go_simp; done) | (go_simp; rfl)); intro gb216 hg w3 hbox hb; have BK216 := am_ (hbox); have GW216 := am_ ((by rw [hg]; exact (below_size (y7_ HB.out)) : w.heap.size ≤ gb216)); have GE216 := am_ ((by rw [hg]; exact (below_size (y7_ HB.out)) : w.heap.size ≤ gb216)); replace HB := am_ (below_step (y7_ HB.out) hb); clear hb hbox hg; have hcz4_0 : w3.cell? ⟨gb216, 0, none⟩ = some (.slice A0_0 l0_0.length c0_0) := (blk_cell BK216.out 0).trans rfl; have hfz4_0 := blk_frozen BK216.out 0))
    go_loopg [3] k (fun kq v3 w' => ∃ (x3_1 : Int), v3 = .int .i64 x3_1 ∧ Aside0 (spec_TreOk.l0 kq x3_1 l0_0 = some r) ∧ Aside0 (kq ≤ k) ∧ Aside0 (w'.heap[gb216]? = some (.cells #[(.slice A0_0 l0_0.length c0_0)] 55 (0, 0))) ∧ Aside0 (Below w.heap.size w w'))
    case atStart => exact ⟨(0), y4_, H', ⟨Nat.le_refl _⟩, ⟨by (with_reducible repeat (first | refine blk_drewN ?_ _ | refine blk_drew ?_ | refine blk_alloc ?_ _)); exact BK216.out⟩, ⟨y8_ HB.out GE216.out⟩⟩
    case round =>
      clear H'; (try clear c2); (try clear c2b0); (try clear c2b1); (try clear p2); (try clear hcz4_0); (try clear hfz4_0); obtain ⟨x3_1, rfl, HA, HK1, BK216, HB⟩ := hrel
      cases gk with
      | zero => exact absurd HA.out (by simp [spec_TreOk.l0])
      | succ k1 =>
        have H := HA.out; clear HA; simp only [spec_TreOk.l0] at H; by_cases c5 : x3_1 < 15
        · rw [if_pos c5] at H
          have c5b0 : decide (x3_1 < 15) = true := decide_eq_true c5; clear c5; have HC6 := am_ H; clear H
          go_upto_region 6 with (fail)
          go_cut [36] (fun v36 wc => ∃ (kq : Nat) (x36_5 : Bool), v36 = .bool x36_5 ∧ Aside0 (spec_TreOk.j1 kq x3_1 x36_5 l0_0 = some r) ∧ Aside0 (kq ≤ k1) ∧ Aside0 (wc.heap[gb216]? = some (.cells #[(.slice A0_0 l0_0.length c0_0)] 55 (0, 0))) ∧ Aside0 (Below w.heap.size w wc))
          case first =>
            have H := HC6.out; clear HC6; by_cases c7 : 0 ≤ x3_1
            · rw [if_pos c7] at H
              have c7b0 : decide (0 ≤ x3_1) = true := decide_eq_true c7; clear c7; (first | rw [c7b0] | (simp only [i64_w, i32_w]; rw [c7b0]) | skip); by_cases c8 : x3_1 < (l0_0.length : Int)
              · rw [if_pos c8] at H
                have c8b0 : decide (x3_1 < (l0_0.length : Int)) = true := decide_eq_true c8; clear c8; by_cases c9 : (rdOf ByteArray.empty l0_0 x3_1).toList = ([] : List UInt8)
                · rw [if_pos c9] at H
                  have c9b0 : ((rdOf ByteArray.empty l0_0 x3_1).toList == ([] : List UInt8)) = true := beq_iff_eq.mpr c9; have c9b1 : ((rdOf ByteArray.empty l0_0 x3_1).toList != ([] : List UInt8)) = false := bne_eq_false_iff_eq.mpr c9; clear c9; have H' := am_ H; clear H; have hcz10_0 : wr.cell? ⟨gb216, 0, none⟩ = some (.slice A0_0 l0_0.length c0_0) := (blk_cell BK216.out 0).trans rfl; have hfz10_0 := blk_frozen BK216.out 0; have p217 : 0 ≤ (x3_1 : Int) := of_decide_eq_true y3_; have q217 : x3_1 < (l0_0.length : Int) := of_decide_eq_true y3_; obtain ⟨ad217, e217, hx217_0⟩ := Kd.at_string HR0_0.out x3_1 p217 q217
                  cases e217
                  replace hx217_0 := (HB.out.cell (World.block_lt_of_cell? w _ hx217_0)).trans hx217_0; replace p217 := eq_true p217; replace q217 := eq_true q217; go_wp2; go_meet
                  case rel => exact ⟨_, (false), y4_, H', ⟨by have := HK1.out; first | omega | exact Nat.le_refl _⟩, ⟨by (with_reducible repeat (first | refine blk_drewN ?_ _ | refine blk_drew ?_ | refine blk_alloc ?_ _)); exact BK216.out⟩, ⟨y8_ HB.out GE216.out⟩⟩
                rw [if_neg c9] at H; have c9b0 : ((rdOf ByteArray.empty l0_0 x3_1).toList == ([] : List UInt8)) = false := beq_eq_false_iff_ne.mpr c9; have c9b1 : ((rdOf ByteArray.empty l0_0 x3_1).toList != ([] : List UInt8)) = true := bne_iff_ne.mpr c9; replace H := Option.bind_eq_some_iff.mp H; obtain ⟨t219, A110, H⟩ := H; replace H : (if t219 = true then ((spec_l1How.f k1 (rdOf ByteArray.empty l0_0 x3_1)).bind fun bt221 => (spec_TreOk.j1 k1 x3_1 (bt221.1 != 3) l0_0)) else (spec_TreOk.j1 k1 x3_1 true l0_0)) = some r := H; have A11 := am_ A110; clear A110; by_cases c12 : t219 = true
                · subst c12
                  have H1 : ((spec_l1How.f k1 (rdOf ByteArray.empty l0_0 x3_1)).bind fun bt221 => (spec_TreOk.j1 k1 x3_1 (bt221.1 != 3) l0_0)) = some r := by rw [if_pos rfl] at H; exact H
                  clear H; have H := H1; clear H1; replace H := Option.bind_eq_some_iff.mp H; obtain ⟨⟨t221, t222, t223, t224, t225⟩, A130, H⟩ := H; replace H : (spec_TreOk.j1 k1 x3_1 (t221 != 3) l0_0) = some r := H; have A13 := am_ A130; clear A130; have H' := am_ H; clear H; have hcz14_0 : wr.cell? ⟨gb216, 0, none⟩ = some (.slice A0_0 l0_0.length c0_0) := (blk_cell BK216.out 0).trans rfl; have hfz14_0 := blk_frozen BK216.out 0; have p217 : 0 ≤ (x3_1 : Int) := of_decide_eq_true y3_; have q217 : x3_1 < (l0_0.length : Int) := of_decide_eq_true y3_; obtain ⟨ad217, e217, hx217_0⟩ := Kd.at_string HR0_0.out x3_1 p217 q217
                  cases e217
                  replace hx217_0 := (HB.out.cell (World.block_lt_of_cell? w _ hx217_0)).trans hx217_0; replace p217 := eq_true p217; replace q217 := eq_true q217; have p218 : 0 ≤ (x3_1 : Int) := of_decide_eq_true y3_; have q218 : x3_1 < (l0_0.length : Int) := of_decide_eq_true y3_; obtain ⟨ad218, e218, hx218_0⟩ := Kd.at_string HR0_0.out x3_1 p218 q218
                  obtain rfl : ad217 = ad218 := (by injection e218)
                  replace hx218_0 := (HB.out.cell (World.block_lt_of_cell? w _ hx218_0)).trans hx218_0; replace p218 := eq_true p218; replace q218 := eq_true q218; go_wp2_with (first | (go_at_call 30; (with_reducible refine (spec_SecOk.calls k1 (rdOf ByteArray.empty l0_0 x3_1) true _ A11.out).mono ?_); rintro e w15 ⟨rfl, hb⟩; replace BK216 := am_ (blk_below (g := gb216) (o := .cells #[.slice (some ad217) l0_0.length c0_0] 55 (0, 0)) (y12_ BK216.out) hb); replace HB := am_ (below_step (y8_ HB.out GE216.out) hb); clear hb; have hcz16_0 : w15.cell? ⟨gb216, 0, none⟩ = some (.slice (some ad217) l0_0.length c0_0) := (blk_cell BK216.out 0).trans rfl; have hfz16_0 := blk_frozen BK216.out 0; have p220 : 0 ≤ (x3_1 : Int) := of_decide_eq_true y3_; have q220 : x3_1 < (l0_0.length : Int) := of_decide_eq_true y3_; obtain ⟨ad220, e220, hx220_0⟩ := Kd.at_string HR0_0.out x3_1 p220 q220; obtain rfl : ad217 = ad220 := (by injection e220); replace hx220_0 := (HB.out.cell (World.block_lt_of_cell? w _ hx220_0)).trans hx220_0; replace p220 := eq_true p220; replace q220 := eq_true q220) | (go_at_call 72; (with_reducible refine (spec_l1How.calls k1 (rdOf ByteArray.empty l0_0 x3_1) t221 t222 t223 t224 t225 _ A13.out).mono ?_); rintro e w17 ⟨rfl, hb⟩; replace BK216 := am_ (blk_below (g := gb216) (o := .cells #[.slice (some ad217) l0_0.length c0_0] 55 (0, 0)) (y12_ BK216.out) hb); replace HB := am_ (below_step (y8_ HB.out GE216.out) hb); clear hb)); go_meet
                  case rel => exact ⟨_, ((t221 != 3)), y4_, H', ⟨by have := HK1.out; first | omega | exact Nat.le_refl _⟩, ⟨by (with_reducible repeat (first | refine blk_drewN ?_ _ | refine blk_drew ?_ | refine blk_alloc ?_ _)); exact BK216.out⟩, ⟨y8_ HB.out GE216.out⟩⟩
                replace c12 := Bool.eq_false_iff.mpr c12; subst c12
                have H1 : (spec_TreOk.j1 k1 x3_1 true l0_0) = some r := by rw [if_neg (show ¬ (false = true) by decide)] at H; exact H
                clear H; have H := H1; clear H1; have H' := am_ H; clear H; have hcz18_0 : wr.cell? ⟨gb216, 0, none⟩ = some (.slice A0_0 l0_0.length c0_0) := (blk_cell BK216.out 0).trans rfl; have hfz18_0 := blk_frozen BK216.out 0; have p217 : 0 ≤ (x3_1 : Int) := of_decide_eq_true y3_; have q217 : x3_1 < (l0_0.length : Int) := of_decide_eq_true y3_; obtain ⟨ad217, e217, hx217_0⟩ := Kd.at_string HR0_0.out x3_1 p217 q217
                cases e217
                replace hx217_0 := (HB.out.cell (World.block_lt_of_cell? w _ hx217_0)).trans hx217_0; replace p217 := eq_true p217; replace q217 := eq_true q217; have p218 : 0 ≤ (x3_1 : Int) := of_decide_eq_true y3_; have q218 : x3_1 < (l0_0.length : Int) := of_decide_eq_true y3_; obtain ⟨ad218, e218, hx218_0⟩ := Kd.at_string HR0_0.out x3_1 p218 q218
                obtain rfl : ad217 = ad218 := (by injection e218)
                replace hx218_0 := (HB.out.cell (World.block_lt_of_cell? w _ hx218_0)).trans hx218_0; replace p218 := eq_true p218; replace q218 := eq_true q218; go_wp2_with (first | (go_at_call 30; (with_reducible refine (spec_SecOk.calls k1 (rdOf ByteArray.empty l0_0 x3_1) false _ A11.out).mono ?_); rintro e w19 ⟨rfl, hb⟩; replace BK216 := am_ (blk_below (g := gb216) (o := .cells #[.slice (some ad217) l0_0.length c0_0] 55 (0, 0)) (y12_ BK216.out) hb); replace HB := am_ (below_step (y8_ HB.out GE216.out) hb); clear hb)); go_meet
                case rel => exact ⟨_, (true), y4_, H', ⟨by have := HK1.out; first | omega | exact Nat.le_refl _⟩, ⟨by (with_reducible repeat (first | refine blk_drewN ?_ _ | refine blk_drew ?_ | refine blk_alloc ?_ _)); exact BK216.out⟩, ⟨y8_ HB.out GE216.out⟩⟩
              rw [if_neg c8] at H; exact absurd H (by simp)
            rw [if_neg c7] at H; exact absurd H (by simp)
          case rest =>
            clear HC6; (try clear c1); (try clear c2); (try clear c2b0); (try clear c2b1); (try clear p2); (try clear q2); (try clear hx2); (try clear c5); (try clear c5b0); (try clear c7); (try clear c7b0); (try clear c8); (try clear c8b0); (try clear c9); (try clear c9b0); (try clear c9b1); (try clear c12); (try clear hcz10_0); (try clear hcz14_0); (try clear hcz16_0); (try clear hcz18_0); (try clear hcz4_0); (try clear hfz10_0); (try clear hfz14_0); (try clear hfz16_0); (try clear hfz18_0); (try clear hfz4_0); (try clear hx217_0); (try clear hx218_0); (try clear hx220_0); (try clear p2); (try clear p217); (try clear p218); (try clear p220); (try clear q217); (try clear q218); (try clear q220); obtain ⟨kq, x36_5, rfl, HA, HJ5, BK216, HB⟩ := hcut
            cases kq with
            | zero => exact absurd HA.out (by simp [spec_TreOk.j1])
            | succ kj5 =>
              have H := HA.out; clear HA; simp only [spec_TreOk.j1] at H; by_cases c20 : x36_5 = true
              · subst c20
                have H1 : (some false) = some r := by rw [if_pos rfl] at H; exact H
                clear H; have H := H1; clear H1; obtain rfl := Option.some.inj H; go_wp2; go_ret; exact ⟨y6_, y8_ HB.out GE216.out⟩
              replace c20 := Bool.eq_false_iff.mpr c20; subst c20
              have H1 : (spec_TreOk.l0 kj5 (wrap64 (x3_1 + 1)) l0_0) = some r := by rw [if_neg (show ¬ (false = true) by decide)] at H; exact H
              clear H; have H := H1; clear H1; have H' := am_ H; clear H; go_wp2
              go_roundg kj5
              case measure => have := HK1.out; have := HJ5.out; omega
              case rel => exact ⟨(wrap64 (x3_1 + 1)), y4_, H', ⟨by have := HK1.out; have := HJ5.out; omega⟩, ⟨by (with_reducible repeat (first | refine blk_drewN ?_ _ | refine blk_drew ?_ | refine blk_alloc ?_ _)); exact BK216.out⟩, ⟨y8_ HB.out GE216.out⟩⟩
        rw [if_neg c5] at H; have c5b0 : decide (x3_1 < 15) = false := decide_eq_false c5; clear c5; obtain rfl := Option.some.inj H; go_wp2; go_ret; exact ⟨y6_, y8_ HB.out GE216.out⟩
  rw [if_neg c2] at H; have c2b0 : ((l0_0.length : Int) == 15) = false := beq_eq_false_iff_ne.mpr c2; have c2b1 : ((l0_0.length : Int) != 15) = true := bne_iff_ne.mpr c2; obtain rfl := Option.some.inj H; go_enter Tryd.func54, Tryd.ntmps54; go_wp2_with (first | ((with_reducible refine gate_dst (N := 1) rfl ?_); refine box_event ?hg (N := 1) ?hd (cs := #[.slice A0_0 l0_0.length c0_0]) (t := 55) ?hr ?_; (case hd => rfl); (case hg => rfl); (case hr => first | (go_simp; done) | (go_simp; rfl)); intro gb216 hg w21 hbox hb; have BK216 := am_ (hbox); have GW216 := am_ ((by rw [hg]; exact (below_size (y7_ HB.out)) : w.heap.size ≤ gb216)); have GE216 := am_ ((by rw [hg]; exact (below_size (y7_ HB.out)) : w.heap.size ≤ gb216)); replace HB := am_ (below_step (y7_ HB.out) hb); clear hb hbox hg; have hcz22_0 : w21.cell? ⟨gb216, 0, none⟩ = some (.slice A0_0 l0_0.length c0_0) := (blk_cell BK216.out 0).trans rfl; have hfz22_0 := blk_frozen BK216.out 0)); go_ret; exact ⟨y6_, y8_ HB.out GE216.out⟩

/-! ### spec_TreUp: function 25 -/
def spec_TreUp.l0 : Nat → List Int → Int → Option (List Int)
  | 0, _, _ => none
  | k + 1, x3, x4 => if x4 > 0 then (if x3.length < 17592186044416 then (spec_TreUp.l0 k (x3 ++ [wrap64 (Int.tdiv (wrap64 (x4 - 1)) 2)]) (wrap64 (Int.tdiv (wrap64 (x4 - 1)) 2))) else (none)) else (some x3)
def spec_TreUp.f (k : Nat) (a0 : Int) : Option (List Int) := (some (([] : List Int) : List Int)).bind fun y226 => ((spec_l1In.f a0 0 14).bind fun t229 => (if t229 = true then (spec_TreUp.l0 k y226 a0) else (some y226)))
theorem spec_TreUp.mono_l : ∀ k, (∀ y0 y1, LeO (spec_TreUp.l0 k y0 y1) (spec_TreUp.l0 (k + 1) y0 y1))
  | 0 => fun _ _ r h => by simp [spec_TreUp.l0] at h
  | k + 1 => by
    have ih0 := spec_TreUp.mono_l k
    · intro y0 y1
      unfold spec_TreUp.l0
      repeat' first
      | (with_reducible exact ih0 _ _)
      | (with_reducible exact LeO.refl _)
      | (with_reducible exact LeO.none _)
      | (with_reducible refine LeO.ite ?_ ?_)
      | (with_reducible refine LeO.bind ?_ (fun _ => ?_))
      | exact LeO.none _
      | refine LeO.ite ?_ ?_
      | refine LeO.bind ?_ (fun _ => ?_)
theorem spec_TreUp.mono : ∀ a0 k, LeO (spec_TreUp.f k a0) (spec_TreUp.f (k + 1) a0) := by
  intro a0 k; have ih0 := spec_TreUp.mono_l k; unfold spec_TreUp.f
  repeat' first
      | (with_reducible exact ih0 _ _)
      | (with_reducible exact LeO.refl _)
      | (with_reducible exact LeO.none _)
      | (with_reducible refine LeO.ite ?_ ?_)
      | (with_reducible refine LeO.bind ?_ (fun _ => ?_))
      | exact LeO.none _
      | refine LeO.ite ?_ ?_
      | refine LeO.bind ?_ (fun _ => ?_)
set_option maxHeartbeats 8000000 in
set_option maxRecDepth 100000 in
theorem spec_TreUp.calls (k : Nat) (a0 : Int) (r : List Int) (w : World) (h : spec_TreUp.f k a0 = some r) :
    Calls Tryd.prog 25 #[.int .i64 a0] w fun e w' => ∃ v0_ : Value, e = .returned (v0_) ∧ Kd.R (Kd.int .i64) 3 w' w.heap.size (fun _ => True) v0_ r ∧ Below w.heap.size w w' := by
  have HB := am_ (Below.refl w.heap.size w); have H : ((some (([] : List Int) : List Int)).bind fun y226 => ((spec_l1In.f a0 0 14).bind fun t229 => (if t229 = true then (spec_TreUp.l0 k y226 a0) else (some y226)))) = some r := h; clear h
  obtain ⟨y226, hy226⟩ : ∃ y_ : List Int, y_ = (([] : List Int)) := ⟨_, rfl⟩
  replace H : ((spec_l1In.f a0 0 14).bind fun t229 => (if t229 = true then (spec_TreUp.l0 k y226 a0) else (some y226))) = some r := by first | (rw [hy226]; with_reducible exact H) | (have H2_ := (Option.bind_some _ _).symm.trans H; rw [hy226]; with_reducible exact H2_) | (have H2_ := (Option.bind_some _ _).symm.trans H; with_reducible exact H2_) | with_reducible exact H | (rw [hy226]; exact H) | exact H
  have Ny226 := am_ hy226; clear hy226; replace H := Option.bind_eq_some_iff.mp H; obtain ⟨t229, A20, H⟩ := H; replace H : (if t229 = true then (spec_TreUp.l0 k y226 a0) else (some y226)) = some r := H; have A2 := am_ A20; clear A20; by_cases c3 : t229 = true
  · subst c3
    have H1 : (spec_TreUp.l0 k y226 a0) = some r := by rw [if_pos rfl] at H; exact H
    clear H; have H := H1; clear H1; have H' := am_ H; clear H; go_enter Tryd.func25, Tryd.ntmps25; go_wp2_with (first | ((with_reducible refine gate_dst (N := 5) rfl ?_); refine Kd.R_lit (Kd.int .i64) _ 3 ?hg (N := 5) ?hd (xs := ([] : List Int)) (inner := []) (ok := fun _ => True) (okp := fun _ => True) ?hr ?hp (fun _ hk => hk) trivial (Below.refl _ _) (Nat.le_refl _) (by simp) ?_; (case hd => rfl); (case hg => rfl); (case hr => first | (go_simp; done) | (go_simp; rfl)); (case hp => exact (Reps.none _ _)); intro v227 w4 ho5 hb hg_ hnew_; clear hg_ hnew_; (first | rw [← Ny226.out] at ho5 | (simp only [Int.reduceToNat] at ho5; rw [← Ny226.out] at ho5)); have HO228 := am_ (Kd.R_lower ho5 (below_size (y7_ HB.out))); replace HB := am_ (below_step (y7_ HB.out) hb); clear hb ho5) | ((with_reducible refine gate_callee (f := 68) rfl ?_); refine goesL_ (some 7) rfl rfl Tryd.func68 (by kernel_rfl) rfl #[.int .i64 a0, .int .i64 0, .int .i64 14] rfl y1_ ?_; (with_reducible refine (spec_l1In.calls a0 0 14 true _ A2.out).mono ?_); rintro e w' ⟨rfl, ⟨nd, rfl⟩⟩; refine ⟨_, rfl, ?_⟩))
    go_loopg [3, 4] k (fun kq v3 v4 w' => ∃ (x3_1 : List Int) (x4_1 : Int), v4 = .int .i64 x4_1 ∧ Aside0 (spec_TreUp.l0 kq x3_1 x4_1 = some r) ∧ Aside0 (kq ≤ k) ∧ Aside0 (Kd.R (Kd.int .i64) 3 w' w.heap.size (fun _ => True) v3 x3_1) ∧ Aside0 (Below w.heap.size w w'))
    case atStart => exact ⟨(y226), (a0), y4_, H', ⟨Nat.le_refl _⟩, ⟨by (with_reducible repeat (first | apply Kd.R_alloc | apply Kd.R_drewN | apply Kd.R_drew)); exact HO228.out⟩, ⟨y7_ HB.out⟩⟩
    case round =>
      clear H'; (try clear c2); (try clear p2); (try clear c3); obtain ⟨x3_1, x4_1, rfl, HA, HK1, HO_3, HB⟩ := hrel
      cases gk with
      | zero => exact absurd HA.out (by simp [spec_TreUp.l0])
      | succ k1 =>
        have H := HA.out; clear HA; simp only [spec_TreUp.l0] at H; by_cases c6 : x4_1 > 0
        · rw [if_pos c6] at H
          have c6b0 : decide (0 < x4_1) = true := decide_eq_true c6; clear c6; by_cases c7 : x3_1.length < 17592186044416
          · rw [if_pos c7] at H
            have LMc7 := am_ c7; clear c7
            obtain ⟨y230, hy230⟩ : ∃ y_ : List Int, y_ = (x3_1 ++ [wrap64 (Int.tdiv (wrap64 (x4_1 - 1)) 2)]) := ⟨_, rfl⟩
            replace H : (spec_TreUp.l0 k1 y230 (wrap64 (Int.tdiv (wrap64 (x4_1 - 1)) 2))) = some r := by first | (rw [hy230]; with_reducible exact H) | (have H2_ := (Option.bind_some _ _).symm.trans H; rw [hy230]; with_reducible exact H2_) | (have H2_ := (Option.bind_some _ _).symm.trans H; with_reducible exact H2_) | with_reducible exact H | (rw [hy230]; exact H) | exact H
            have Ny230 := am_ hy230; clear hy230; have H' := am_ H; clear H; go_wp2_with (first | ((with_reducible refine gate_builtin (b := .append) (xs := #[.tmp 16, .tmp 18]) rfl ?_); at_builtin; refine Kd.R_append (Kd.int .i64) (w0 := w) w.heap.size rfl (.tmp 16) (.tmp 18) 27 3 (.int .i64 0) 8 rfl Tryd.underlying27 info3 rfl (by decide) (by omega) u3 x3_1 (wrap64 (Int.tdiv (wrap64 (x4_1 - 1)) 2)) [.int .i64 (wrap64 (Int.tdiv (wrap64 (x4_1 - 1)) 2))] (fun _ => True) (fun _ => False) rfl rfl ?aP (fun _ hk => hk.elim) ?aF ?aO ?aB ?aS ?aL ?_; (case aP => exact rfl); (case aB => exact (y7_ HB.out)); (case aF => exact (fun _ _ => trivial)); (case aO => exact (y11_ HO_3.out)); (case aS => exact (below_size (y7_ HB.out))); (case aL => have := LMc7.out; omega); intro v231 w8 ho hb hg hat; rw [← Ny230.out] at ho; replace HB := am_ (hb); have HO232 := am_ (ho); clear HO_3; clear ho hb hg hat))
            go_roundg k1
            case measure => have := HK1.out; omega
            case rel => exact ⟨(y230), (wrap64 (Int.tdiv (wrap64 (x4_1 - 1)) 2)), y4_, H', ⟨by have := HK1.out; omega⟩, ⟨by (with_reducible repeat (first | apply Kd.R_alloc | apply Kd.R_drewN | apply Kd.R_drew)); exact HO232.out⟩, ⟨y7_ HB.out⟩⟩
          rw [if_neg c7] at H; exact absurd H (by simp)
        rw [if_neg c6] at H; have c6b0 : decide (0 < x4_1) = false := decide_eq_false c6; clear c6; obtain rfl := Option.some.inj H; go_wp2; go_ret; exact ⟨_, y6_, by (with_reducible repeat (first | apply Kd.R_alloc | apply Kd.R_drewN | apply Kd.R_drew)); exact HO_3.out, y7_ HB.out⟩
  replace c3 := Bool.eq_false_iff.mpr c3; subst c3
  have H1 : (some y226) = some r := by rw [if_neg (show ¬ (false = true) by decide)] at H; exact H
  clear H; have H := H1; clear H1; obtain rfl := Option.some.inj H; go_enter Tryd.func25, Tryd.ntmps25; go_wp2_with (first | ((with_reducible refine gate_dst (N := 5) rfl ?_); refine Kd.R_lit (Kd.int .i64) _ 3 ?hg (N := 5) ?hd (xs := ([] : List Int)) (inner := []) (ok := fun _ => True) (okp := fun _ => True) ?hr ?hp (fun _ hk => hk) trivial (Below.refl _ _) (Nat.le_refl _) (by simp) ?_; (case hd => rfl); (case hg => rfl); (case hr => first | (go_simp; done) | (go_simp; rfl)); (case hp => exact (Reps.none _ _)); intro v227 w9 ho10 hb hg_ hnew_; clear hg_ hnew_; (first | rw [← Ny226.out] at ho10 | (simp only [Int.reduceToNat] at ho10; rw [← Ny226.out] at ho10)); have HO228 := am_ (Kd.R_lower ho10 (below_size (y7_ HB.out))); replace HB := am_ (below_step (y7_ HB.out) hb); clear hb ho10) | ((with_reducible refine gate_callee (f := 68) rfl ?_); refine goesL_ (some 7) rfl rfl Tryd.func68 (by kernel_rfl) rfl #[.int .i64 a0, .int .i64 0, .int .i64 14] rfl y1_ ?_; (with_reducible refine (spec_l1In.calls a0 0 14 false _ A2.out).mono ?_); rintro e w' ⟨rfl, ⟨nd, rfl⟩⟩; refine ⟨_, rfl, ?_⟩)); go_ret; exact ⟨_, y6_, by (with_reducible repeat (first | apply Kd.R_alloc | apply Kd.R_drewN | apply Kd.R_drew)); exact HO228.out, y7_ HB.out⟩

/-! ### spec_TreLeaf: function 92 -/
def spec_TreLeaf.f (a0 : Int) : Option (Int) := (spec_l1In.f a0 0 7).bind fun t233 => (if t233 = true then (some (wrap64 (7 + a0))) else (some (-1)))
set_option maxHeartbeats 8000000 in
set_option maxRecDepth 100000 in
theorem spec_TreLeaf.calls (a0 : Int) (r : Int) (w : World) (h : spec_TreLeaf.f a0 = some r) :
    Calls Tryd.prog 92 #[.int .i64 a0] w fun e w' => e = .returned (.int .i64 r) ∧ Drawn0 w w' := by
  have H : ((spec_l1In.f a0 0 7).bind fun t233 => (if t233 = true then (some (wrap64 (7 + a0))) else (some (-1)))) = some r := h; clear h; replace H := Option.bind_eq_some_iff.mp H; obtain ⟨t233, A20, H⟩ := H; replace H : (if t233 = true then (some (wrap64 (7 + a0))) else (some (-1))) = some r := H; have A2 := am_ A20; clear A20; by_cases c3 : t233 = true
  · subst c3
    have H1 : (some (wrap64 (7 + a0))) = some r := by rw [if_pos rfl] at H; exact H
    clear H; have H := H1; clear H1; obtain rfl := Option.some.inj H; go_enter Tryd.func92, Tryd.ntmps92; go_wp2_with (first | ((with_reducible refine gate_callee (f := 68) rfl ?_); refine goesL_ (some 4) rfl rfl Tryd.func68 (by kernel_rfl) rfl #[.int .i64 a0, .int .i64 0, .int .i64 7] rfl y1_ ?_; (with_reducible refine (spec_l1In.calls a0 0 7 true _ A2.out).mono ?_); rintro e w' ⟨rfl, ⟨nd, rfl⟩⟩; refine ⟨_, rfl, ?_⟩)); go_ret; exact ⟨by first | rfl | (simp; done) | (simp [*]; done), by repeat (first | exact Drawn0.refl _ | apply Drawn0.step)⟩
  replace c3 := Bool.eq_false_iff.mpr c3; subst c3
  have H1 : (some (-1)) = some r := by rw [if_neg (show ¬ (false = true) by decide)] at H; exact H
  clear H; have H := H1; clear H1; obtain rfl := Option.some.inj H; go_enter Tryd.func92, Tryd.ntmps92; go_wp2_with (first | ((with_reducible refine gate_callee (f := 68) rfl ?_); refine goesL_ (some 4) rfl rfl Tryd.func68 (by kernel_rfl) rfl #[.int .i64 a0, .int .i64 0, .int .i64 7] rfl y1_ ?_; (with_reducible refine (spec_l1In.calls a0 0 7 false _ A2.out).mono ?_); rintro e w' ⟨rfl, ⟨nd, rfl⟩⟩; refine ⟨_, rfl, ?_⟩)); go_ret; exact ⟨by first | rfl | (simp; done) | (simp [*]; done), by repeat (first | exact Drawn0.refl _ | apply Drawn0.step)⟩

end Go.Proofs.YtdcaipomjimplaaDoor.Wk
