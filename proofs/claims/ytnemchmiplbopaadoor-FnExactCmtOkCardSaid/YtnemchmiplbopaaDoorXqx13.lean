-- Written by this session's own program (wip/tools/pp.py) out of the translation, over functions given by hand. Lean checks it.
import Derived.Test.YtnemchmiplbopaaDoorXqx0
namespace Go.Proofs.YtnemchmiplbopaaDoor.Xq
open Go.RowKit Go.Proofs.YtnemchmiplbopaaDoorW.PrintWords Go.Proofs.YtnemchmiplbopaaDoorW.PrintLast Go.Proofs.YtnemchmiplbopaaDoorW.PrintMore
attribute [local go_sem] max2_int min2_int max_two min_two max_three min_three max_four min_four   -- for this text's walks alone
set_option linter.unusedVariables false
set_option linter.unusedSimpArgs false

/-! ### laws_eqStringS: function 11 -/
def laws_eqStringS.l0 : Nat → List ByteArray → List ByteArray → Int → Option (Bool)
  | 0, _, _, _ => none
  | k + 1, x0, x1, x5 => if x5 < (x0.length : Int) then (if 0 ≤ x5 then (if x5 < (x1.length : Int) then (if (rdOf ByteArray.empty x0 x5).toList = (rdOf ByteArray.empty x1 x5).toList then (laws_eqStringS.l0 k x0 x1 (wrap64 (x5 + 1))) else (some false)) else (none)) else (none)) else (some true)
def laws_eqStringS.f (k : Nat) (l0 : List ByteArray) (l1 : List ByteArray) : Option (Bool) := if (l0.length : Int) = (l1.length : Int) then (laws_eqStringS.l0 k l0 l1 0) else (some false)
theorem laws_eqStringS.mono_l : ∀ k, (∀ y0 y1 y2, LeO (laws_eqStringS.l0 k y0 y1 y2) (laws_eqStringS.l0 (k + 1) y0 y1 y2))
  | 0 => fun _ _ _ r h => by simp [laws_eqStringS.l0] at h
  | k + 1 => by
    have ih0 := laws_eqStringS.mono_l k
    · intro y0 y1 y2
      unfold laws_eqStringS.l0
      repeat' first
      | (with_reducible exact ih0 _ _ _)
      | (with_reducible exact LeO.refl _)
      | (with_reducible exact LeO.none _)
      | (with_reducible refine LeO.ite ?_ ?_)
      | (with_reducible refine LeO.bind ?_ (fun _ => ?_))
      | exact LeO.none _
      | refine LeO.ite ?_ ?_
      | refine LeO.bind ?_ (fun _ => ?_)
theorem laws_eqStringS.mono : ∀ a0 a1 k, LeO (laws_eqStringS.f k a0 a1) (laws_eqStringS.f (k + 1) a0 a1) := by
  intro a0 a1 k; have ih0 := laws_eqStringS.mono_l k; unfold laws_eqStringS.f
  repeat' first
      | (with_reducible exact ih0 _ _ _)
      | (with_reducible exact LeO.refl _)
      | (with_reducible exact LeO.none _)
      | (with_reducible refine LeO.ite ?_ ?_)
      | (with_reducible refine LeO.bind ?_ (fun _ => ?_))
      | exact LeO.none _
      | refine LeO.ite ?_ ?_
      | refine LeO.bind ?_ (fun _ => ?_)
set_option maxHeartbeats 8000000 in
set_option maxRecDepth 100000 in
theorem laws_eqStringS.calls (k : Nat) (A0 : Option Addr) (c0 : Nat) (l0 : List ByteArray) (A1 : Option Addr) (c1 : Nat) (l1 : List ByteArray) (r : Bool) (w : World) (hr0 : Kd.C Kd.string w A0 l0.length l0) (hc0 : l0.length ≤ c0) (hr1 : Kd.C Kd.string w A1 l1.length l1) (hc1 : l1.length ≤ c1) (h : laws_eqStringS.f k l0 l1 = some r) :
    Calls Tryd.prog 11 #[.slice A0 l0.length c0, .slice A1 l1.length c1] w fun e w' => e = .returned (.bool r) ∧ Drawn0 w w' := by
  have HR0 := am_ hr0; have HC0 := am_ hc0; clear hr0 hc0; have HR1 := am_ hr1; have HC1 := am_ hc1; clear hr1 hc1; have H : (if (l0.length : Int) = (l1.length : Int) then (laws_eqStringS.l0 k l0 l1 0) else (some false)) = some r := h; clear h; by_cases c3 : (l0.length : Int) = (l1.length : Int)
  · rw [if_pos c3] at H
    have c3b0 : ((l0.length : Int) == (l1.length : Int)) = true := beq_iff_eq.mpr c3; have c3b1 : ((l0.length : Int) != (l1.length : Int)) = false := bne_eq_false_iff_eq.mpr c3
    have c3b2 : (l0.length == l1.length) = true := by first | simpa using c3 | (simp at c3 ⊢; omega)
    clear c3; have H' := am_ H; clear H; go_enter Tryd.func11, Tryd.ntmps11; go_wp2
    repeat (go_quiet (fail); try go_wp2)
    go_loopg [5] k (fun kq v5 w' => ∃ (x5_1 : Int), v5 = .int .i64 x5_1 ∧ Aside0 (laws_eqStringS.l0 kq l0 l1 x5_1 = some r) ∧ Aside0 (kq ≤ k) ∧ Drawn0 w w')
    case atStart => exact ⟨(0), y4_, H', ⟨Nat.le_refl _⟩, by repeat (first | exact Drawn0.refl _ | apply Drawn0.step)⟩
    case round =>
      clear H'; (try clear c1); (try clear p2); (try clear c3); (try clear c3b0); (try clear c3b1); (try clear c3b2); obtain ⟨x5_1, rfl, HA, HK1, ⟨m1, rfl⟩⟩ := hrel
      cases gk with
      | zero => exact absurd HA.out (by simp [laws_eqStringS.l0])
      | succ k1 =>
        have H := HA.out; clear HA; simp only [laws_eqStringS.l0] at H; by_cases c4 : x5_1 < (l0.length : Int)
        · rw [if_pos c4] at H
          have c4b0 : decide (x5_1 < (l0.length : Int)) = true := decide_eq_true c4; clear c4; by_cases c5 : 0 ≤ x5_1
          · rw [if_pos c5] at H
            have c5b0 : decide (0 ≤ x5_1) = true := decide_eq_true c5; clear c5; by_cases c6 : x5_1 < (l1.length : Int)
            · rw [if_pos c6] at H
              have c6b0 : decide (x5_1 < (l1.length : Int)) = true := decide_eq_true c6; clear c6; by_cases c7 : (rdOf ByteArray.empty l0 x5_1).toList = (rdOf ByteArray.empty l1 x5_1).toList
              · rw [if_pos c7] at H
                have c7b0 : ((rdOf ByteArray.empty l0 x5_1).toList == (rdOf ByteArray.empty l1 x5_1).toList) = true := beq_iff_eq.mpr c7; have c7b1 : ((rdOf ByteArray.empty l0 x5_1).toList != (rdOf ByteArray.empty l1 x5_1).toList) = false := bne_eq_false_iff_eq.mpr c7; clear c7; have H' := am_ H; clear H; have p236 : 0 ≤ (x5_1 : Int) := of_decide_eq_true y3_; have q236 : x5_1 < (l0.length : Int) := of_decide_eq_true y3_; obtain ⟨ad236, e236, hx236_0⟩ := Kd.at_string HR0.out x5_1 p236 q236
                cases e236
                replace p236 := eq_true p236; replace q236 := eq_true q236; have p237 : 0 ≤ (x5_1 : Int) := of_decide_eq_true y3_; have q237 : x5_1 < (l1.length : Int) := of_decide_eq_true y3_; obtain ⟨ad237, e237, hx237_0⟩ := Kd.at_string HR1.out x5_1 p237 q237
                cases e237
                replace p237 := eq_true p237; replace q237 := eq_true q237; go_wp2
                repeat (go_quiet (fail); try go_wp2)
                go_roundg k1
                case measure => have := HK1.out; omega
                case rel => exact ⟨(wrap64 (x5_1 + 1)), y4_, H', ⟨by have := HK1.out; omega⟩, by repeat (first | exact Drawn0.refl _ | apply Drawn0.step)⟩
              rw [if_neg c7] at H; have c7b0 : ((rdOf ByteArray.empty l0 x5_1).toList == (rdOf ByteArray.empty l1 x5_1).toList) = false := beq_eq_false_iff_ne.mpr c7; have c7b1 : ((rdOf ByteArray.empty l0 x5_1).toList != (rdOf ByteArray.empty l1 x5_1).toList) = true := bne_iff_ne.mpr c7; obtain rfl := Option.some.inj H; have p236 : 0 ≤ (x5_1 : Int) := of_decide_eq_true y3_; have q236 : x5_1 < (l0.length : Int) := of_decide_eq_true y3_; obtain ⟨ad236, e236, hx236_0⟩ := Kd.at_string HR0.out x5_1 p236 q236
              cases e236
              replace p236 := eq_true p236; replace q236 := eq_true q236; have p237 : 0 ≤ (x5_1 : Int) := of_decide_eq_true y3_; have q237 : x5_1 < (l1.length : Int) := of_decide_eq_true y3_; obtain ⟨ad237, e237, hx237_0⟩ := Kd.at_string HR1.out x5_1 p237 q237
              cases e237
              replace p237 := eq_true p237; replace q237 := eq_true q237; go_wp2
              repeat (go_quiet (fail); try go_wp2)
              go_ret; exact ⟨by first | rfl | (simp; done) | (simp [*]; done), by repeat (first | exact Drawn0.refl _ | apply Drawn0.step)⟩
            rw [if_neg c6] at H; exact absurd H (by simp)
          rw [if_neg c5] at H; exact absurd H (by simp)
        rw [if_neg c4] at H; have c4b0 : decide (x5_1 < (l0.length : Int)) = false := decide_eq_false c4; clear c4; obtain rfl := Option.some.inj H; go_wp2
        repeat (go_quiet (fail); try go_wp2)
        go_ret; exact ⟨by first | rfl | (simp; done) | (simp [*]; done), by repeat (first | exact Drawn0.refl _ | apply Drawn0.step)⟩
  rw [if_neg c3] at H; have c3b0 : ((l0.length : Int) == (l1.length : Int)) = false := beq_eq_false_iff_ne.mpr c3; have c3b1 : ((l0.length : Int) != (l1.length : Int)) = true := bne_iff_ne.mpr c3
  have c3b2 : (l0.length == l1.length) = false := by first | simpa using c3 | (simp at c3 ⊢; omega)
  obtain rfl := Option.some.inj H; go_enter Tryd.func11, Tryd.ntmps11; go_wp2
  repeat (go_quiet (fail); try go_wp2)
  go_ret; exact ⟨by first | rfl | (simp; done) | (simp [*]; done), by repeat (first | exact Drawn0.refl _ | apply Drawn0.step)⟩

/-! ### laws_eqKnwBox: function 39 -/
def laws_eqKnwBox.f (a0_0 : ByteArray) (a0_1 : ByteArray) (a1_0 : ByteArray) (a1_1 : ByteArray) : Option (Bool) := if a0_0.toList = a1_0.toList then (if a0_1.toList = a1_1.toList then (some true) else (some false)) else (some false)
set_option maxHeartbeats 8000000 in
set_option maxRecDepth 100000 in
theorem laws_eqKnwBox.calls (a0_0 : ByteArray) (a0_1 : ByteArray) (a1_0 : ByteArray) (a1_1 : ByteArray) (r : Bool) (w : World) (h : laws_eqKnwBox.f a0_0 a0_1 a1_0 a1_1 = some r) :
    Calls Tryd.prog 39 #[.agg #[.string a0_0, .string a0_1], .agg #[.string a1_0, .string a1_1]] w fun e w' => e = .returned (.bool r) ∧ Below w.heap.size w w' := by
  have hu45 := Tryd.underlying45; have HB := am_ (Below.refl w.heap.size w); have H : (if a0_0.toList = a1_0.toList then (if a0_1.toList = a1_1.toList then (some true) else (some false)) else (some false)) = some r := h; clear h; by_cases c3 : a0_0.toList = a1_0.toList
  · rw [if_pos c3] at H
    have c3b0 : (a0_0.toList == a1_0.toList) = true := beq_iff_eq.mpr c3; have c3b1 : (a0_0.toList != a1_0.toList) = false := bne_eq_false_iff_eq.mpr c3; clear c3; by_cases c4 : a0_1.toList = a1_1.toList
    · rw [if_pos c4] at H; have c4b0 : (a0_1.toList == a1_1.toList) = true := beq_iff_eq.mpr c4; have c4b1 : (a0_1.toList != a1_1.toList) = false := bne_eq_false_iff_eq.mpr c4; clear c4; obtain rfl := Option.some.inj H; go_enter Tryd.func39, Tryd.ntmps39; go_wp2_with (first | ((with_reducible refine gate_dst (N := 2) rfl ?_); refine box_event ?hg (N := 2) ?hd (cs := #[.string a0_0, .string a0_1]) (t := 45) ?hr ?_; (case hd => rfl); (case hg => rfl); (case hr => first | (go_simp; done) | (go_simp; rfl)); intro gb238 hg w5 hbox hb; have BK238 := am_ (hbox); have GW238 := am_ ((by rw [hg]; exact (below_size (y7_ HB.out)) : w.heap.size ≤ gb238)); have GE238 := am_ ((by rw [hg]; exact (below_size (y7_ HB.out)) : w.heap.size ≤ gb238)); replace HB := am_ (below_step (y7_ HB.out) hb); clear hb hbox hg) | ((with_reducible refine gate_dst (N := 3) rfl ?_); refine box_event ?hg (N := 3) ?hd (cs := #[.string a1_0, .string a1_1]) (t := 45) ?hr ?_; (case hd => rfl); (case hg => rfl); (case hr => first | (go_simp; done) | (go_simp; rfl)); intro gb239 hg w6 hbox hb; have BK239 := am_ (hbox); have GW239 := am_ ((by rw [hg]; exact (below_size (y8_ HB.out GE238.out)) : w.heap.size ≤ gb239)); have GE239 := am_ ((by rw [hg]; exact (below_size (y8_ HB.out GE238.out)) : w.heap.size ≤ gb239)); replace HB := am_ (below_step (y8_ HB.out GE238.out) hb); have NB238_239 := am_ ((by rw [hg]; exact Nat.ne_of_lt (blk_lt (g := gb238) (o := .cells #[.string a0_0, .string a0_1] 45 (0, 0)) (y12_ BK238.out)) : gb238 ≠ gb239)); have NB239_238 := am_ ((by rw [hg]; exact Nat.ne_of_gt (blk_lt (g := gb238) (o := .cells #[.string a0_0, .string a0_1] 45 (0, 0)) (y12_ BK238.out)) : gb239 ≠ gb238)); replace BK238 := am_ (blk_below (g := gb238) (o := .cells #[.string a0_0, .string a0_1] 45 (0, 0)) (y12_ BK238.out) hb); clear hb hbox hg; have hnb7 := NB238_239.out; have hnc7 := NB239_238.out; obtain ⟨hcz8_0, hcz8_1⟩ := cc2_ BK238.out; obtain ⟨hfz8_0, hfz8_1⟩ := cf2_ BK238.out; obtain ⟨hcz9_0, hcz9_1⟩ := cc2_ BK239.out; have hfz9_0 := blk_frozen BK239.out 0; have hfz9_1 := blk_frozen BK239.out 1)); go_ret; exact ⟨y6_, by repeat (first | (with_reducible first | exact HB.out | apply below_alloc | apply pw_below_drewN | apply below_drew1 | refine below_set ?_ GE238.out | refine below_set ?_ GE239.out) | exact HB.out)⟩
    rw [if_neg c4] at H; have c4b0 : (a0_1.toList == a1_1.toList) = false := beq_eq_false_iff_ne.mpr c4; have c4b1 : (a0_1.toList != a1_1.toList) = true := bne_iff_ne.mpr c4; obtain rfl := Option.some.inj H; go_enter Tryd.func39, Tryd.ntmps39; go_wp2_with (first | ((with_reducible refine gate_dst (N := 2) rfl ?_); refine box_event ?hg (N := 2) ?hd (cs := #[.string a0_0, .string a0_1]) (t := 45) ?hr ?_; (case hd => rfl); (case hg => rfl); (case hr => first | (go_simp; done) | (go_simp; rfl)); intro gb238 hg w10 hbox hb; have BK238 := am_ (hbox); have GW238 := am_ ((by rw [hg]; exact (below_size (y7_ HB.out)) : w.heap.size ≤ gb238)); have GE238 := am_ ((by rw [hg]; exact (below_size (y7_ HB.out)) : w.heap.size ≤ gb238)); replace HB := am_ (below_step (y7_ HB.out) hb); clear hb hbox hg) | ((with_reducible refine gate_dst (N := 3) rfl ?_); refine box_event ?hg (N := 3) ?hd (cs := #[.string a1_0, .string a1_1]) (t := 45) ?hr ?_; (case hd => rfl); (case hg => rfl); (case hr => first | (go_simp; done) | (go_simp; rfl)); intro gb239 hg w11 hbox hb; have BK239 := am_ (hbox); have GW239 := am_ ((by rw [hg]; exact (below_size (y8_ HB.out GE238.out)) : w.heap.size ≤ gb239)); have GE239 := am_ ((by rw [hg]; exact (below_size (y8_ HB.out GE238.out)) : w.heap.size ≤ gb239)); replace HB := am_ (below_step (y8_ HB.out GE238.out) hb); have NB238_239 := am_ ((by rw [hg]; exact Nat.ne_of_lt (blk_lt (g := gb238) (o := .cells #[.string a0_0, .string a0_1] 45 (0, 0)) (y12_ BK238.out)) : gb238 ≠ gb239)); have NB239_238 := am_ ((by rw [hg]; exact Nat.ne_of_gt (blk_lt (g := gb238) (o := .cells #[.string a0_0, .string a0_1] 45 (0, 0)) (y12_ BK238.out)) : gb239 ≠ gb238)); replace BK238 := am_ (blk_below (g := gb238) (o := .cells #[.string a0_0, .string a0_1] 45 (0, 0)) (y12_ BK238.out) hb); clear hb hbox hg; have hnb12 := NB238_239.out; have hnc12 := NB239_238.out; obtain ⟨hcz13_0, hcz13_1⟩ := cc2_ BK238.out; obtain ⟨hfz13_0, hfz13_1⟩ := cf2_ BK238.out; obtain ⟨hcz14_0, hcz14_1⟩ := cc2_ BK239.out; have hfz14_0 := blk_frozen BK239.out 0; have hfz14_1 := blk_frozen BK239.out 1)); go_ret; exact ⟨y6_, by repeat (first | (with_reducible first | exact HB.out | apply below_alloc | apply pw_below_drewN | apply below_drew1 | refine below_set ?_ GE238.out | refine below_set ?_ GE239.out) | exact HB.out)⟩
  rw [if_neg c3] at H; have c3b0 : (a0_0.toList == a1_0.toList) = false := beq_eq_false_iff_ne.mpr c3; have c3b1 : (a0_0.toList != a1_0.toList) = true := bne_iff_ne.mpr c3; obtain rfl := Option.some.inj H; go_enter Tryd.func39, Tryd.ntmps39; go_wp2_with (first | ((with_reducible refine gate_dst (N := 2) rfl ?_); refine box_event ?hg (N := 2) ?hd (cs := #[.string a0_0, .string a0_1]) (t := 45) ?hr ?_; (case hd => rfl); (case hg => rfl); (case hr => first | (go_simp; done) | (go_simp; rfl)); intro gb238 hg w15 hbox hb; have BK238 := am_ (hbox); have GW238 := am_ ((by rw [hg]; exact (below_size (y7_ HB.out)) : w.heap.size ≤ gb238)); have GE238 := am_ ((by rw [hg]; exact (below_size (y7_ HB.out)) : w.heap.size ≤ gb238)); replace HB := am_ (below_step (y7_ HB.out) hb); clear hb hbox hg) | ((with_reducible refine gate_dst (N := 3) rfl ?_); refine box_event ?hg (N := 3) ?hd (cs := #[.string a1_0, .string a1_1]) (t := 45) ?hr ?_; (case hd => rfl); (case hg => rfl); (case hr => first | (go_simp; done) | (go_simp; rfl)); intro gb239 hg w16 hbox hb; have BK239 := am_ (hbox); have GW239 := am_ ((by rw [hg]; exact (below_size (y8_ HB.out GE238.out)) : w.heap.size ≤ gb239)); have GE239 := am_ ((by rw [hg]; exact (below_size (y8_ HB.out GE238.out)) : w.heap.size ≤ gb239)); replace HB := am_ (below_step (y8_ HB.out GE238.out) hb); have NB238_239 := am_ ((by rw [hg]; exact Nat.ne_of_lt (blk_lt (g := gb238) (o := .cells #[.string a0_0, .string a0_1] 45 (0, 0)) (y12_ BK238.out)) : gb238 ≠ gb239)); have NB239_238 := am_ ((by rw [hg]; exact Nat.ne_of_gt (blk_lt (g := gb238) (o := .cells #[.string a0_0, .string a0_1] 45 (0, 0)) (y12_ BK238.out)) : gb239 ≠ gb238)); replace BK238 := am_ (blk_below (g := gb238) (o := .cells #[.string a0_0, .string a0_1] 45 (0, 0)) (y12_ BK238.out) hb); clear hb hbox hg; have hnb17 := NB238_239.out; have hnc17 := NB239_238.out; obtain ⟨hcz18_0, hcz18_1⟩ := cc2_ BK238.out; obtain ⟨hfz18_0, hfz18_1⟩ := cf2_ BK238.out; obtain ⟨hcz19_0, hcz19_1⟩ := cc2_ BK239.out; have hfz19_0 := blk_frozen BK239.out 0; have hfz19_1 := blk_frozen BK239.out 1)); go_ret; exact ⟨y6_, by repeat (first | (with_reducible first | exact HB.out | apply below_alloc | apply pw_below_drewN | apply below_drew1 | refine below_set ?_ GE238.out | refine below_set ?_ GE239.out) | exact HB.out)⟩

end Go.Proofs.YtnemchmiplbopaaDoor.Xq
