-- Written by this session's own program (wip/tools/pp.py) out of the translation, over functions given by hand. Lean checks it.
import Derived.Test.YtnemchmiplbopaaDoorXqx0
import Derived.Test.YtnemchmiplbopaaDoorXqx6
import Derived.Test.YtnemchmiplbopaaDoorXqx7
namespace Go.Proofs.YtnemchmiplbopaaDoor.Xq
open Go.RowKit Go.Proofs.YtnemchmiplbopaaDoorW.PrintWords Go.Proofs.YtnemchmiplbopaaDoorW.PrintLast Go.Proofs.YtnemchmiplbopaaDoorW.PrintMore
attribute [local go_sem] max2_int min2_int max_two min_two max_three min_three max_four min_four   -- for this text's walks alone
set_option linter.unusedVariables false
set_option linter.unusedSimpArgs false

/-! ### spec_TreOk: function 44 -/
mutual
def spec_TreOk.l0 : Nat → Int → List ByteArray → Option (Bool)
  | 0, _, _ => none
  | k + 1, x3, x144000 => if x3 < 15 then (if 0 ≤ x3 then (if x3 < (x144000.length : Int) then (if (rdOf ByteArray.empty x144000 x3).toList = ([] : List UInt8) then (spec_TreOk.j1 k x3 false x144000) else ((spec_SecOk.f k (rdOf ByteArray.empty x144000 x3)).bind fun t146 => (if t146 = true then ((spec_l1How.f k (rdOf ByteArray.empty x144000 x3)).bind fun bt148 => (spec_TreOk.j1 k x3 (bt148.1 != 3) x144000)) else (spec_TreOk.j1 k x3 true x144000)))) else (none)) else (none)) else (some true)
def spec_TreOk.j1 : Nat → Int → Bool → List ByteArray → Option (Bool)
  | 0, _, _, _ => none
  | k + 1, x3, x36, x144000 => if x36 = true then (some false) else (spec_TreOk.l0 k (wrap64 (x3 + 1)) x144000)
end
def spec_TreOk.f (k : Nat) (l0_0 : List ByteArray) : Option (Bool) := if (l0_0.length : Int) = 15 then (spec_TreOk.l0 k 0 l0_0) else (some false)
theorem spec_TreOk.mono_l : ∀ k, (∀ y0 y1, LeO (spec_TreOk.l0 k y0 y1) (spec_TreOk.l0 (k + 1) y0 y1)) ∧ (∀ y0 y1 y2, LeO (spec_TreOk.j1 k y0 y1 y2) (spec_TreOk.j1 (k + 1) y0 y1 y2))
  | 0 => ⟨fun _ _ r h => by simp [spec_TreOk.l0] at h, fun _ _ _ r h => by simp [spec_TreOk.j1] at h⟩
  | k + 1 => by
    obtain ⟨ih0, ih1⟩ := spec_TreOk.mono_l k; refine ⟨?_, ?_⟩
    · intro y0 y1
      unfold spec_TreOk.l0
      repeat' first
      | (with_reducible exact ih0 _ _)
      | (with_reducible exact ih1 _ _ _)
      | (with_reducible exact spec_SecOk.mono _ _)
      | (with_reducible exact spec_l1How.mono _ _)
      | (with_reducible exact LeO.refl _)
      | (with_reducible exact LeO.none _)
      | (with_reducible refine LeO.ite ?_ ?_)
      | (with_reducible refine LeO.bind ?_ (fun _ => ?_))
      | exact LeO.none _
      | refine LeO.ite ?_ ?_
      | refine LeO.bind ?_ (fun _ => ?_)
    intro y0 y1 y2; unfold spec_TreOk.j1
    repeat' first
    | (with_reducible exact ih0 _ _)
    | (with_reducible exact ih1 _ _ _)
    | (with_reducible exact spec_SecOk.mono _ _)
    | (with_reducible exact spec_l1How.mono _ _)
    | (with_reducible exact LeO.refl _)
    | (with_reducible exact LeO.none _)
    | (with_reducible refine LeO.ite ?_ ?_)
    | (with_reducible refine LeO.bind ?_ (fun _ => ?_))
    | exact LeO.none _
    | refine LeO.ite ?_ ?_
    | refine LeO.bind ?_ (fun _ => ?_)
theorem spec_TreOk.mono : ∀ a0 k, LeO (spec_TreOk.f k a0) (spec_TreOk.f (k + 1) a0) := by
  intro a0 k; obtain ⟨ih0, ih1⟩ := spec_TreOk.mono_l k; unfold spec_TreOk.f
  repeat' first
      | (with_reducible exact ih0 _ _)
      | (with_reducible exact ih1 _ _ _)
      | (with_reducible exact spec_SecOk.mono _ _)
      | (with_reducible exact spec_l1How.mono _ _)
      | (with_reducible exact LeO.refl _)
      | (with_reducible exact LeO.none _)
      | (with_reducible refine LeO.ite ?_ ?_)
      | (with_reducible refine LeO.bind ?_ (fun _ => ?_))
      | exact LeO.none _
      | refine LeO.ite ?_ ?_
      | refine LeO.bind ?_ (fun _ => ?_)
set_option maxHeartbeats 8000000 in
set_option maxRecDepth 100000 in
theorem spec_TreOk.calls (k : Nat) (A0_0 : Option Addr) (c0_0 : Nat) (l0_0 : List ByteArray) (r : Bool) (w : World) (hr0_0 : Kd.C Kd.string w A0_0 l0_0.length l0_0) (hc0_0 : l0_0.length ≤ c0_0) (h : spec_TreOk.f k l0_0 = some r) :
    Calls Tryd.prog 44 #[.agg #[.slice A0_0 l0_0.length c0_0]] w fun e w' => e = .returned (.bool r) ∧ Below w.heap.size w w' := by
  have hu71 := Tryd.underlying71
  have hfl67_0 : ∀ (fv0 fv1 fv2 fv3 fv4 : Value) (W : World), (Instr.field 67 (.agg #[fv0, fv1, fv2, fv3, fv4]) 0).run Tryd.prog W = .ok fv0 W := fun _ _ _ _ _ _ => by kernel_rfl
  have HR0_0 := am_ hr0_0; have HC0_0 := am_ hc0_0; clear hr0_0 hc0_0; have HB := am_ (Below.refl w.heap.size w); have H : (if (l0_0.length : Int) = 15 then (spec_TreOk.l0 k 0 l0_0) else (some false)) = some r := h; clear h; by_cases c2 : (l0_0.length : Int) = 15
  · rw [if_pos c2] at H
    have c2b0 : ((l0_0.length : Int) == 15) = true := beq_iff_eq.mpr c2; have c2b1 : ((l0_0.length : Int) != 15) = false := bne_eq_false_iff_eq.mpr c2; clear c2; have H' := am_ H; clear H; go_enter Tryd.func44, Tryd.ntmps44; go_wp2_with (first | ((with_reducible refine gate_dst (N := 1) rfl ?_); refine box_event ?hg (N := 1) ?hd (cs := #[.slice A0_0 l0_0.length c0_0]) (t := 71) ?hr ?_; (case hd => rfl); (case hg => rfl); (case hr => first | (go_simp; done) | (go_simp; rfl)); intro gb143 hg w3 hbox hb; have BK143 := am_ (hbox); have GW143 := am_ ((by rw [hg]; exact (below_size (y7_ HB.out)) : w.heap.size ≤ gb143)); have GE143 := am_ ((by rw [hg]; exact (below_size (y7_ HB.out)) : w.heap.size ≤ gb143)); replace HB := am_ (below_step (y7_ HB.out) hb); clear hb hbox hg; have hcz4_0 : w3.cell? ⟨gb143, 0, none⟩ = some (.slice A0_0 l0_0.length c0_0) := (blk_cell BK143.out 0).trans rfl; have hfz4_0 := blk_frozen BK143.out 0))
    go_loopg [3] k (fun kq v3 w' => ∃ (x3_1 : Int), v3 = .int .i64 x3_1 ∧ Aside0 (spec_TreOk.l0 kq x3_1 l0_0 = some r) ∧ Aside0 (kq ≤ k) ∧ Aside0 (w'.heap[gb143]? = some (.cells #[(.slice A0_0 l0_0.length c0_0)] 71 (0, 0))) ∧ Aside0 (Below w.heap.size w w'))
    case atStart => exact ⟨(0), y4_, H', ⟨Nat.le_refl _⟩, ⟨by (with_reducible repeat (first | refine blk_drewN ?_ _ | refine blk_drew ?_ | refine blk_alloc ?_ _)); exact BK143.out⟩, ⟨y8_ HB.out GE143.out⟩⟩
    case round =>
      clear H'; (try clear c2); (try clear c2b0); (try clear c2b1); (try clear p2); (try clear c4); (try clear hcz4_0); (try clear hfz4_0); obtain ⟨x3_1, rfl, HA, HK1, BK143, HB⟩ := hrel
      cases gk with
      | zero => exact absurd HA.out (by simp [spec_TreOk.l0])
      | succ k1 =>
        have H := HA.out; clear HA; simp only [spec_TreOk.l0] at H; by_cases c5 : x3_1 < 15
        · rw [if_pos c5] at H
          have c5b0 : decide (x3_1 < 15) = true := decide_eq_true c5; clear c5; have HC6 := am_ H; clear H
          go_upto_region 6 with (fail)
          go_cut [36] (fun v36 wc => ∃ (kq : Nat) (x36_5 : Bool), v36 = .bool x36_5 ∧ Aside0 (spec_TreOk.j1 kq x3_1 x36_5 l0_0 = some r) ∧ Aside0 (kq ≤ k1) ∧ Aside0 (wc.heap[gb143]? = some (.cells #[(.slice A0_0 l0_0.length c0_0)] 71 (0, 0))) ∧ Aside0 (Below w.heap.size w wc))
          case first =>
            have H := HC6.out; clear HC6; by_cases c7 : 0 ≤ x3_1
            · rw [if_pos c7] at H
              have c7b0 : decide (0 ≤ x3_1) = true := decide_eq_true c7; clear c7; (first | rw [c7b0] | (simp only [i64_w, i32_w]; rw [c7b0]) | skip); by_cases c8 : x3_1 < (l0_0.length : Int)
              · rw [if_pos c8] at H
                have c8b0 : decide (x3_1 < (l0_0.length : Int)) = true := decide_eq_true c8; clear c8; by_cases c9 : (rdOf ByteArray.empty l0_0 x3_1).toList = ([] : List UInt8)
                · rw [if_pos c9] at H
                  have c9b0 : ((rdOf ByteArray.empty l0_0 x3_1).toList == ([] : List UInt8)) = true := beq_iff_eq.mpr c9; have c9b1 : ((rdOf ByteArray.empty l0_0 x3_1).toList != ([] : List UInt8)) = false := bne_eq_false_iff_eq.mpr c9; clear c9; have H' := am_ H; clear H; have hcz10_0 : wr.cell? ⟨gb143, 0, none⟩ = some (.slice A0_0 l0_0.length c0_0) := (blk_cell BK143.out 0).trans rfl; have hfz10_0 := blk_frozen BK143.out 0; have p144 : 0 ≤ (x3_1 : Int) := of_decide_eq_true y3_; have q144 : x3_1 < (l0_0.length : Int) := of_decide_eq_true y3_; obtain ⟨ad144, e144, hx144_0⟩ := Kd.at_string HR0_0.out x3_1 p144 q144
                  cases e144
                  replace hx144_0 := (HB.out.cell (World.block_lt_of_cell? w _ hx144_0)).trans hx144_0; replace p144 := eq_true p144; replace q144 := eq_true q144; go_wp2; go_meet
                  case rel => exact ⟨_, (false), y4_, H', ⟨by have := HK1.out; first | omega | exact Nat.le_refl _⟩, ⟨by (with_reducible repeat (first | refine blk_drewN ?_ _ | refine blk_drew ?_ | refine blk_alloc ?_ _)); exact BK143.out⟩, ⟨y8_ HB.out GE143.out⟩⟩
                rw [if_neg c9] at H; have c9b0 : ((rdOf ByteArray.empty l0_0 x3_1).toList == ([] : List UInt8)) = false := beq_eq_false_iff_ne.mpr c9; have c9b1 : ((rdOf ByteArray.empty l0_0 x3_1).toList != ([] : List UInt8)) = true := bne_iff_ne.mpr c9; replace H := Option.bind_eq_some_iff.mp H; obtain ⟨t146, A110, H⟩ := H; replace H : (if t146 = true then ((spec_l1How.f k1 (rdOf ByteArray.empty l0_0 x3_1)).bind fun bt148 => (spec_TreOk.j1 k1 x3_1 (bt148.1 != 3) l0_0)) else (spec_TreOk.j1 k1 x3_1 true l0_0)) = some r := H; have A11 := am_ A110; clear A110; by_cases c12 : t146 = true
                · subst c12
                  have H1 : ((spec_l1How.f k1 (rdOf ByteArray.empty l0_0 x3_1)).bind fun bt148 => (spec_TreOk.j1 k1 x3_1 (bt148.1 != 3) l0_0)) = some r := by rw [if_pos rfl] at H; exact H
                  clear H; have H := H1; clear H1; replace H := Option.bind_eq_some_iff.mp H; obtain ⟨⟨t148, t149, t150, t151, t152⟩, A130, H⟩ := H; replace H : (spec_TreOk.j1 k1 x3_1 (t148 != 3) l0_0) = some r := H; have A13 := am_ A130; clear A130; have H' := am_ H; clear H; have hcz14_0 : wr.cell? ⟨gb143, 0, none⟩ = some (.slice A0_0 l0_0.length c0_0) := (blk_cell BK143.out 0).trans rfl; have hfz14_0 := blk_frozen BK143.out 0; have p144 : 0 ≤ (x3_1 : Int) := of_decide_eq_true y3_; have q144 : x3_1 < (l0_0.length : Int) := of_decide_eq_true y3_; obtain ⟨ad144, e144, hx144_0⟩ := Kd.at_string HR0_0.out x3_1 p144 q144
                  cases e144
                  replace hx144_0 := (HB.out.cell (World.block_lt_of_cell? w _ hx144_0)).trans hx144_0; replace p144 := eq_true p144; replace q144 := eq_true q144; have p145 : 0 ≤ (x3_1 : Int) := of_decide_eq_true y3_; have q145 : x3_1 < (l0_0.length : Int) := of_decide_eq_true y3_; obtain ⟨ad145, e145, hx145_0⟩ := Kd.at_string HR0_0.out x3_1 p145 q145
                  obtain rfl : ad144 = ad145 := (by injection e145)
                  replace hx145_0 := (HB.out.cell (World.block_lt_of_cell? w _ hx145_0)).trans hx145_0; replace p145 := eq_true p145; replace q145 := eq_true q145; go_wp2_with (first | (go_at_call 28; (with_reducible refine (spec_SecOk.calls k1 (rdOf ByteArray.empty l0_0 x3_1) true _ A11.out).mono ?_); rintro e w15 ⟨rfl, hb⟩; replace BK143 := am_ (blk_below (g := gb143) (o := .cells #[.slice (some ad144) l0_0.length c0_0] 71 (0, 0)) (y12_ BK143.out) hb); replace HB := am_ (below_step (y8_ HB.out GE143.out) hb); clear hb; have hcz16_0 : w15.cell? ⟨gb143, 0, none⟩ = some (.slice (some ad144) l0_0.length c0_0) := (blk_cell BK143.out 0).trans rfl; have hfz16_0 := blk_frozen BK143.out 0; have p147 : 0 ≤ (x3_1 : Int) := of_decide_eq_true y3_; have q147 : x3_1 < (l0_0.length : Int) := of_decide_eq_true y3_; obtain ⟨ad147, e147, hx147_0⟩ := Kd.at_string HR0_0.out x3_1 p147 q147; obtain rfl : ad144 = ad147 := (by injection e147); replace hx147_0 := (HB.out.cell (World.block_lt_of_cell? w _ hx147_0)).trans hx147_0; replace p147 := eq_true p147; replace q147 := eq_true q147) | (go_at_call 43; (with_reducible refine (spec_l1How.calls k1 (rdOf ByteArray.empty l0_0 x3_1) t148 t149 t150 t151 t152 _ A13.out).mono ?_); rintro e w17 ⟨rfl, hb⟩; replace BK143 := am_ (blk_below (g := gb143) (o := .cells #[.slice (some ad144) l0_0.length c0_0] 71 (0, 0)) (y12_ BK143.out) hb); replace HB := am_ (below_step (y8_ HB.out GE143.out) hb); clear hb)); go_meet
                  case rel => exact ⟨_, ((t148 != 3)), y4_, H', ⟨by have := HK1.out; first | omega | exact Nat.le_refl _⟩, ⟨by (with_reducible repeat (first | refine blk_drewN ?_ _ | refine blk_drew ?_ | refine blk_alloc ?_ _)); exact BK143.out⟩, ⟨y8_ HB.out GE143.out⟩⟩
                replace c12 := Bool.eq_false_iff.mpr c12; subst c12
                have H1 : (spec_TreOk.j1 k1 x3_1 true l0_0) = some r := by rw [if_neg (show ¬ (false = true) by decide)] at H; exact H
                clear H; have H := H1; clear H1; have H' := am_ H; clear H; have hcz18_0 : wr.cell? ⟨gb143, 0, none⟩ = some (.slice A0_0 l0_0.length c0_0) := (blk_cell BK143.out 0).trans rfl; have hfz18_0 := blk_frozen BK143.out 0; have p144 : 0 ≤ (x3_1 : Int) := of_decide_eq_true y3_; have q144 : x3_1 < (l0_0.length : Int) := of_decide_eq_true y3_; obtain ⟨ad144, e144, hx144_0⟩ := Kd.at_string HR0_0.out x3_1 p144 q144
                cases e144
                replace hx144_0 := (HB.out.cell (World.block_lt_of_cell? w _ hx144_0)).trans hx144_0; replace p144 := eq_true p144; replace q144 := eq_true q144; have p145 : 0 ≤ (x3_1 : Int) := of_decide_eq_true y3_; have q145 : x3_1 < (l0_0.length : Int) := of_decide_eq_true y3_; obtain ⟨ad145, e145, hx145_0⟩ := Kd.at_string HR0_0.out x3_1 p145 q145
                obtain rfl : ad144 = ad145 := (by injection e145)
                replace hx145_0 := (HB.out.cell (World.block_lt_of_cell? w _ hx145_0)).trans hx145_0; replace p145 := eq_true p145; replace q145 := eq_true q145; go_wp2_with (first | (go_at_call 28; (with_reducible refine (spec_SecOk.calls k1 (rdOf ByteArray.empty l0_0 x3_1) false _ A11.out).mono ?_); rintro e w19 ⟨rfl, hb⟩; replace BK143 := am_ (blk_below (g := gb143) (o := .cells #[.slice (some ad144) l0_0.length c0_0] 71 (0, 0)) (y12_ BK143.out) hb); replace HB := am_ (below_step (y8_ HB.out GE143.out) hb); clear hb)); go_meet
                case rel => exact ⟨_, (true), y4_, H', ⟨by have := HK1.out; first | omega | exact Nat.le_refl _⟩, ⟨by (with_reducible repeat (first | refine blk_drewN ?_ _ | refine blk_drew ?_ | refine blk_alloc ?_ _)); exact BK143.out⟩, ⟨y8_ HB.out GE143.out⟩⟩
              rw [if_neg c8] at H; exact absurd H (by simp)
            rw [if_neg c7] at H; exact absurd H (by simp)
          case rest =>
            clear HC6; (try clear c1); (try clear p1); (try clear q1); (try clear hx1); (try clear c2); (try clear c2b0); (try clear c2b1); (try clear p2); (try clear c4); (try clear c5); (try clear c5b0); (try clear c7); (try clear c7b0); (try clear c8); (try clear c8b0); (try clear c9); (try clear c9b0); (try clear c9b1); (try clear c12); (try clear p14); (try clear q14); (try clear hx14); (try clear hcz10_0); (try clear hcz14_0); (try clear hcz16_0); (try clear hcz18_0); (try clear hcz4_0); (try clear hfz10_0); (try clear hfz14_0); (try clear hfz16_0); (try clear hfz18_0); (try clear hfz4_0); (try clear hx144_0); (try clear hx145_0); (try clear hx147_0); (try clear p144); (try clear p145); (try clear p147); (try clear p2); (try clear q144); (try clear q145); (try clear q147); obtain ⟨kq, x36_5, rfl, HA, HJ5, BK143, HB⟩ := hcut
            cases kq with
            | zero => exact absurd HA.out (by simp [spec_TreOk.j1])
            | succ kj5 =>
              have H := HA.out; clear HA; simp only [spec_TreOk.j1] at H; by_cases c20 : x36_5 = true
              · subst c20
                have H1 : (some false) = some r := by rw [if_pos rfl] at H; exact H
                clear H; have H := H1; clear H1; obtain rfl := Option.some.inj H; go_wp2; go_ret; exact ⟨y6_, y8_ HB.out GE143.out⟩
              replace c20 := Bool.eq_false_iff.mpr c20; subst c20
              have H1 : (spec_TreOk.l0 kj5 (wrap64 (x3_1 + 1)) l0_0) = some r := by rw [if_neg (show ¬ (false = true) by decide)] at H; exact H
              clear H; have H := H1; clear H1; have H' := am_ H; clear H; go_wp2
              go_roundg kj5
              case measure => have := HK1.out; have := HJ5.out; omega
              case rel => exact ⟨(wrap64 (x3_1 + 1)), y4_, H', ⟨by have := HK1.out; have := HJ5.out; omega⟩, ⟨by (with_reducible repeat (first | refine blk_drewN ?_ _ | refine blk_drew ?_ | refine blk_alloc ?_ _)); exact BK143.out⟩, ⟨y8_ HB.out GE143.out⟩⟩
        rw [if_neg c5] at H; have c5b0 : decide (x3_1 < 15) = false := decide_eq_false c5; clear c5; obtain rfl := Option.some.inj H; go_wp2; go_ret; exact ⟨y6_, y8_ HB.out GE143.out⟩
  rw [if_neg c2] at H; have c2b0 : ((l0_0.length : Int) == 15) = false := beq_eq_false_iff_ne.mpr c2; have c2b1 : ((l0_0.length : Int) != 15) = true := bne_iff_ne.mpr c2; obtain rfl := Option.some.inj H; go_enter Tryd.func44, Tryd.ntmps44; go_wp2_with (first | ((with_reducible refine gate_dst (N := 1) rfl ?_); refine box_event ?hg (N := 1) ?hd (cs := #[.slice A0_0 l0_0.length c0_0]) (t := 71) ?hr ?_; (case hd => rfl); (case hg => rfl); (case hr => first | (go_simp; done) | (go_simp; rfl)); intro gb143 hg w21 hbox hb; have BK143 := am_ (hbox); have GW143 := am_ ((by rw [hg]; exact (below_size (y7_ HB.out)) : w.heap.size ≤ gb143)); have GE143 := am_ ((by rw [hg]; exact (below_size (y7_ HB.out)) : w.heap.size ≤ gb143)); replace HB := am_ (below_step (y7_ HB.out) hb); clear hb hbox hg; have hcz22_0 : w21.cell? ⟨gb143, 0, none⟩ = some (.slice A0_0 l0_0.length c0_0) := (blk_cell BK143.out 0).trans rfl; have hfz22_0 := blk_frozen BK143.out 0)); go_ret; exact ⟨y6_, y8_ HB.out GE143.out⟩

/-! ### spec_l4Key: function 45 -/
def spec_l4Key.f (k : Nat) (a0 : ByteArray) : Option (Bool) := (spec_SecOk.f k a0).bind fun t153 => (if t153 = true then ((spec_l1How.f k a0).bind fun bt154 => (some (bt154.1 == 3))) else (some false))
theorem spec_l4Key.mono : ∀ a0 k, LeO (spec_l4Key.f k a0) (spec_l4Key.f (k + 1) a0) := by
  intro a0 k; unfold spec_l4Key.f
  repeat' first
      | (with_reducible exact spec_SecOk.mono _ _)
      | (with_reducible exact spec_l1How.mono _ _)
      | (with_reducible exact LeO.refl _)
      | (with_reducible exact LeO.none _)
      | (with_reducible refine LeO.ite ?_ ?_)
      | (with_reducible refine LeO.bind ?_ (fun _ => ?_))
      | exact LeO.none _
      | refine LeO.ite ?_ ?_
      | refine LeO.bind ?_ (fun _ => ?_)
set_option maxHeartbeats 8000000 in
set_option maxRecDepth 100000 in
theorem spec_l4Key.calls (k : Nat) (a0 : ByteArray) (r : Bool) (w : World) (h : spec_l4Key.f k a0 = some r) :
    Calls Tryd.prog 45 #[.string a0] w fun e w' => e = .returned (.bool r) ∧ Below w.heap.size w w' := by
  have hfl67_0 : ∀ (fv0 fv1 fv2 fv3 fv4 : Value) (W : World), (Instr.field 67 (.agg #[fv0, fv1, fv2, fv3, fv4]) 0).run Tryd.prog W = .ok fv0 W := fun _ _ _ _ _ _ => by kernel_rfl
  have HB := am_ (Below.refl w.heap.size w); have H : ((spec_SecOk.f k a0).bind fun t153 => (if t153 = true then ((spec_l1How.f k a0).bind fun bt154 => (some (bt154.1 == 3))) else (some false))) = some r := h; clear h; replace H := Option.bind_eq_some_iff.mp H; obtain ⟨t153, A20, H⟩ := H; replace H : (if t153 = true then ((spec_l1How.f k a0).bind fun bt154 => (some (bt154.1 == 3))) else (some false)) = some r := H; have A2 := am_ A20; clear A20; by_cases c3 : t153 = true
  · subst c3
    have H1 : ((spec_l1How.f k a0).bind fun bt154 => (some (bt154.1 == 3))) = some r := by rw [if_pos rfl] at H; exact H
    clear H; have H := H1; clear H1; replace H := Option.bind_eq_some_iff.mp H; obtain ⟨⟨t154, t155, t156, t157, t158⟩, A40, H⟩ := H; replace H : (some (t154 == 3)) = some r := H; have A4 := am_ A40; clear A40; obtain rfl := Option.some.inj H; go_enter Tryd.func45, Tryd.ntmps45; go_wp2_with (first | ((with_reducible refine gate_callee (f := 28) rfl ?_); refine goesL_ (some 4) rfl rfl Tryd.func28 (by kernel_rfl) rfl #[.string a0] rfl y1_ ?_; (with_reducible refine (spec_SecOk.calls k a0 true _ A2.out).mono ?_); rintro e w5 ⟨rfl, hb⟩; refine ⟨_, rfl, ?_⟩; replace HB := am_ (below_step (y7_ HB.out) hb); clear hb) | (go_at_call 43; (with_reducible refine (spec_l1How.calls k a0 t154 t155 t156 t157 t158 _ A4.out).mono ?_); rintro e w6 ⟨rfl, hb⟩; replace HB := am_ (below_step (y7_ HB.out) hb); clear hb)); go_ret; exact ⟨y6_, y7_ HB.out⟩
  replace c3 := Bool.eq_false_iff.mpr c3; subst c3
  have H1 : (some false) = some r := by rw [if_neg (show ¬ (false = true) by decide)] at H; exact H
  clear H; have H := H1; clear H1; obtain rfl := Option.some.inj H; go_enter Tryd.func45, Tryd.ntmps45; go_wp2_with (first | ((with_reducible refine gate_callee (f := 28) rfl ?_); refine goesL_ (some 4) rfl rfl Tryd.func28 (by kernel_rfl) rfl #[.string a0] rfl y1_ ?_; (with_reducible refine (spec_SecOk.calls k a0 false _ A2.out).mono ?_); rintro e w7 ⟨rfl, hb⟩; refine ⟨_, rfl, ?_⟩; replace HB := am_ (below_step (y7_ HB.out) hb); clear hb)); go_ret; exact ⟨y6_, y7_ HB.out⟩

end Go.Proofs.YtnemchmiplbopaaDoor.Xq
