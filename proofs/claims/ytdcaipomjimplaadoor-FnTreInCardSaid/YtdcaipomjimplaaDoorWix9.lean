-- Written by this session's own program (wip/tools/pp.py) out of the translation, over functions given by hand. Lean checks it.
import Derived.Test.YtdcaipomjimplaaDoorWix0
import Derived.Test.YtdcaipomjimplaaDoorWix1
import Derived.Test.YtdcaipomjimplaaDoorWix5
import Derived.Test.YtdcaipomjimplaaDoorWix6
import Derived.Test.YtdcaipomjimplaaDoorWix8
namespace Go.Proofs.YtdcaipomjimplaaDoor.Wi
open Go.RowKit Go.Proofs.YtdcaipomjimplaaDoorW.PrintWords Go.Proofs.YtdcaipomjimplaaDoorW.PrintLast Go.Proofs.YtdcaipomjimplaaDoorW.PrintMore
attribute [local go_sem] max2_int min2_int max_two min_two max_three min_three max_four min_four   -- for this text's walks alone
set_option linter.unusedVariables false
set_option linter.unusedSimpArgs false

/-! ### spec_TreClear: function 106 -/
def spec_TreClear.j0 : Nat → Int → Bool → List ByteArray → Option (List ByteArray)
  | 0, _, _, _ => none
  | k + 1, x1, x12, x255000 => if x12 = true then (some ([] : List ByteArray)) else ((spec_l3Copy.f x255000).bind fun t258 => ((spec_l3Clear.f k t258 x1).bind fun t261 => (some t261)))
def spec_TreClear.f (k : Nat) (l0_0 : List ByteArray) (a1 : Int) : Option (List ByteArray) := (spec_TreOk.f k l0_0).bind fun t256 => (if t256 = true then ((spec_l1In.f a1 0 7).bind fun t257 => (spec_TreClear.j0 k a1 (!t257) l0_0)) else (spec_TreClear.j0 k a1 true l0_0))
theorem spec_TreClear.mono_l : ∀ k, (∀ y0 y1 y2, LeO (spec_TreClear.j0 k y0 y1 y2) (spec_TreClear.j0 (k + 1) y0 y1 y2))
  | 0 => fun _ _ _ r h => by simp [spec_TreClear.j0] at h
  | k + 1 => by
    have ih0 := spec_TreClear.mono_l k
    · intro y0 y1 y2
      unfold spec_TreClear.j0
      repeat' first
      | (with_reducible exact ih0 _ _ _)
      | (with_reducible exact spec_TreOk.mono _ _)
      | (with_reducible exact spec_l3Clear.mono _ _ _)
      | (with_reducible exact LeO.refl _)
      | (with_reducible exact LeO.none _)
      | (with_reducible refine LeO.ite ?_ ?_)
      | (with_reducible refine LeO.bind ?_ (fun _ => ?_))
      | exact LeO.none _
      | refine LeO.ite ?_ ?_
      | refine LeO.bind ?_ (fun _ => ?_)
theorem spec_TreClear.mono : ∀ a0 a1 k, LeO (spec_TreClear.f k a0 a1) (spec_TreClear.f (k + 1) a0 a1) := by
  intro a0 a1 k; have ih0 := spec_TreClear.mono_l k; unfold spec_TreClear.f
  repeat' first
      | (with_reducible exact ih0 _ _ _)
      | (with_reducible exact spec_TreOk.mono _ _)
      | (with_reducible exact spec_l3Clear.mono _ _ _)
      | (with_reducible exact LeO.refl _)
      | (with_reducible exact LeO.none _)
      | (with_reducible refine LeO.ite ?_ ?_)
      | (with_reducible refine LeO.bind ?_ (fun _ => ?_))
      | exact LeO.none _
      | refine LeO.ite ?_ ?_
      | refine LeO.bind ?_ (fun _ => ?_)
set_option maxHeartbeats 8000000 in
set_option maxRecDepth 100000 in
theorem spec_TreClear.calls (k : Nat) (A0_0 : Option Addr) (c0_0 : Nat) (l0_0 : List ByteArray) (a1 : Int) (r : List ByteArray) (w : World) (hr0_0 : Kd.C Kd.string w A0_0 l0_0.length l0_0) (hc0_0 : l0_0.length ≤ c0_0) (h : spec_TreClear.f k l0_0 a1 = some r) :
    Calls Tryd.prog 106 #[.agg #[.slice A0_0 l0_0.length c0_0], .int .i64 a1] w fun e w' => ∃ v0_ : Value, e = .returned (.agg #[v0_]) ∧ Kd.R Kd.string 9 w' w.heap.size (fun _ => True) v0_ r ∧ Below w.heap.size w w' := by
  have hu55 := Tryd.underlying55; have HR0_0 := am_ hr0_0; have HC0_0 := am_ hc0_0; clear hr0_0 hc0_0; have HB := am_ (Below.refl w.heap.size w); have H : ((spec_TreOk.f k l0_0).bind fun t256 => (if t256 = true then ((spec_l1In.f a1 0 7).bind fun t257 => (spec_TreClear.j0 k a1 (!t257) l0_0)) else (spec_TreClear.j0 k a1 true l0_0))) = some r := h; clear h; have HC3 := am_ H; clear H; go_enter Tryd.func106, Tryd.ntmps106
  go_upto_region 1 with (first | ((with_reducible refine gate_dst (N := 2) rfl ?_); refine box_event ?hg (N := 2) ?hd (cs := #[.slice A0_0 l0_0.length c0_0]) (t := 55) ?hr ?_; (case hd => rfl); (case hg => rfl); (case hr => first | (go_simp; done) | (go_simp; rfl)); intro gb254 hg w4 hbox hb; have BK254 := am_ (hbox); have GW254 := am_ ((by rw [hg]; exact (below_size (y7_ HB.out)) : w.heap.size ≤ gb254)); have GE254 := am_ ((by rw [hg]; exact (below_size (y7_ HB.out)) : w.heap.size ≤ gb254)); replace HB := am_ (below_step (y7_ HB.out) hb); clear hb hbox hg) | ((with_reducible refine gate_dst (N := 4) rfl ?_); refine box_event ?hg (N := 4) ?hd (cs := #[.slice none 0 0]) (t := 55) ?hr ?_; (case hd => rfl); (case hg => rfl); (case hr => first | (go_simp; done) | (go_simp; rfl)); intro gb255 hg w5 hbox hb; have BK255 := am_ (hbox); have GW255 := am_ ((by rw [hg]; exact (below_size (y8_ HB.out GE254.out)) : w.heap.size ≤ gb255)); have GE255 := am_ ((by rw [hg]; exact (below_size (y8_ HB.out GE254.out)) : w.heap.size ≤ gb255)); replace HB := am_ (below_step (y8_ HB.out GE254.out) hb); have NB254_255 := am_ ((by rw [hg]; exact Nat.ne_of_lt (blk_lt (g := gb254) (o := .cells #[.slice A0_0 l0_0.length c0_0] 55 (0, 0)) (y12_ BK254.out)) : gb254 ≠ gb255)); have NB255_254 := am_ ((by rw [hg]; exact Nat.ne_of_gt (blk_lt (g := gb254) (o := .cells #[.slice A0_0 l0_0.length c0_0] 55 (0, 0)) (y12_ BK254.out)) : gb255 ≠ gb254)); replace BK254 := am_ (blk_below (g := gb254) (o := .cells #[.slice A0_0 l0_0.length c0_0] 55 (0, 0)) (y12_ BK254.out) hb); clear hb hbox hg))
  (try simp only [Act.put, List.setIfInBounds_toArray, List.set_cons_zero, List.set_cons_succ]); go_cut [12] (fun v12 wc => ∃ (kq : Nat) (x12_2 : Bool), v12 = .bool x12_2 ∧ Aside0 (spec_TreClear.j0 kq a1 x12_2 l0_0 = some r) ∧ Aside0 (kq ≤ k) ∧ Aside0 (wc.heap[gb254]? = some (.cells #[(.slice A0_0 l0_0.length c0_0)] 55 (0, 0))) ∧ Aside0 (wc.heap[gb255]? = some (.cells #[(.slice none 0 0)] 55 (0, 0))) ∧ Aside0 (Below w.heap.size w wc))
  case first =>
    have H := HC3.out; clear HC3; replace H := Option.bind_eq_some_iff.mp H; obtain ⟨t256, A60, H⟩ := H; replace H : (if t256 = true then ((spec_l1In.f a1 0 7).bind fun t257 => (spec_TreClear.j0 k a1 (!t257) l0_0)) else (spec_TreClear.j0 k a1 true l0_0)) = some r := H; have A6 := am_ A60; clear A60; by_cases c7 : t256 = true
    · subst c7
      have H1 : ((spec_l1In.f a1 0 7).bind fun t257 => (spec_TreClear.j0 k a1 (!t257) l0_0)) = some r := by rw [if_pos rfl] at H; exact H
      clear H; have H := H1; clear H1; replace H := Option.bind_eq_some_iff.mp H; obtain ⟨t257, A80, H⟩ := H; replace H : (spec_TreClear.j0 k a1 (!t257) l0_0) = some r := H; have A8 := am_ A80; clear A80; have H' := am_ H; clear H; have hnb9 := NB254_255.out; have hnc9 := NB255_254.out; have hcz10_0 : w5.cell? ⟨gb254, 0, none⟩ = some (.slice A0_0 l0_0.length c0_0) := (blk_cell BK254.out 0).trans rfl; have hfz10_0 := blk_frozen BK254.out 0; go_wp2_with (first | ((with_reducible refine gate_callee (f := 54) rfl ?_); refine goesL_ (some 6) rfl rfl Tryd.func54 (by kernel_rfl) rfl #[.agg #[.slice A0_0 l0_0.length c0_0]] rfl y1_ ?_; (with_reducible refine (spec_TreOk.calls k _ _ l0_0 true _ ?side1 ?side2 A6.out).mono ?_); (case side1 => repeat (first | exact (Kd.C_below HR0_0.out HB.out) | (with_reducible refine Kd.C_alloc ?_ _) | (with_reducible refine Kd.C_drewN ?_ _) | (with_reducible refine Kd.C_drew ?_))); (case side2 => exact HC0_0.out); rintro e w11 ⟨rfl, hb⟩; refine ⟨_, rfl, ?_⟩; replace BK254 := am_ (blk_below (g := gb254) (o := .cells #[.slice A0_0 l0_0.length c0_0] 55 (0, 0)) (y12_ BK254.out) hb); replace BK255 := am_ (blk_below (g := gb255) (o := .cells #[.slice none 0 0] 55 (0, 0)) (y12_ BK255.out) hb); replace HB := am_ (below_step (by repeat (first | (with_reducible first | exact HB.out | apply below_alloc | apply pw_below_drewN | apply below_drew1 | refine below_set ?_ GE254.out | refine below_set ?_ GE255.out) | exact HB.out)) hb); clear hb) | (go_at_call 68; (with_reducible refine (spec_l1In.calls a1 0 7 t257 _ A8.out).mono ?_); rintro e w' ⟨rfl, ⟨nd, rfl⟩⟩)); go_meet
      case rel => exact ⟨_, (!t257), y4_, H', ⟨by first | omega | exact Nat.le_refl _⟩, ⟨by (with_reducible repeat (first | refine blk_drewN ?_ _ | refine blk_drew ?_ | refine blk_alloc ?_ _)); exact BK254.out⟩, ⟨by (with_reducible repeat (first | refine blk_drewN ?_ _ | refine blk_drew ?_ | refine blk_alloc ?_ _)); exact BK255.out⟩, ⟨by repeat (first | (with_reducible first | exact HB.out | apply below_alloc | apply pw_below_drewN | apply below_drew1 | refine below_set ?_ GE254.out | refine below_set ?_ GE255.out) | exact HB.out)⟩⟩
    replace c7 := Bool.eq_false_iff.mpr c7; subst c7
    have H1 : (spec_TreClear.j0 k a1 true l0_0) = some r := by rw [if_neg (show ¬ (false = true) by decide)] at H; exact H
    clear H; have H := H1; clear H1; have H' := am_ H; clear H; have hnb12 := NB254_255.out; have hnc12 := NB255_254.out; have hcz13_0 : w5.cell? ⟨gb254, 0, none⟩ = some (.slice A0_0 l0_0.length c0_0) := (blk_cell BK254.out 0).trans rfl; have hfz13_0 := blk_frozen BK254.out 0; go_wp2_with (first | ((with_reducible refine gate_callee (f := 54) rfl ?_); refine goesL_ (some 6) rfl rfl Tryd.func54 (by kernel_rfl) rfl #[.agg #[.slice A0_0 l0_0.length c0_0]] rfl y1_ ?_; (with_reducible refine (spec_TreOk.calls k _ _ l0_0 false _ ?side1 ?side2 A6.out).mono ?_); (case side1 => repeat (first | exact (Kd.C_below HR0_0.out HB.out) | (with_reducible refine Kd.C_alloc ?_ _) | (with_reducible refine Kd.C_drewN ?_ _) | (with_reducible refine Kd.C_drew ?_))); (case side2 => exact HC0_0.out); rintro e w14 ⟨rfl, hb⟩; refine ⟨_, rfl, ?_⟩; replace BK254 := am_ (blk_below (g := gb254) (o := .cells #[.slice A0_0 l0_0.length c0_0] 55 (0, 0)) (y12_ BK254.out) hb); replace BK255 := am_ (blk_below (g := gb255) (o := .cells #[.slice none 0 0] 55 (0, 0)) (y12_ BK255.out) hb); replace HB := am_ (below_step (by repeat (first | (with_reducible first | exact HB.out | apply below_alloc | apply pw_below_drewN | apply below_drew1 | refine below_set ?_ GE254.out | refine below_set ?_ GE255.out) | exact HB.out)) hb); clear hb)); go_meet
    case rel => exact ⟨_, (true), y4_, H', ⟨by first | omega | exact Nat.le_refl _⟩, ⟨by (with_reducible repeat (first | refine blk_drewN ?_ _ | refine blk_drew ?_ | refine blk_alloc ?_ _)); exact BK254.out⟩, ⟨by (with_reducible repeat (first | refine blk_drewN ?_ _ | refine blk_drew ?_ | refine blk_alloc ?_ _)); exact BK255.out⟩, ⟨by repeat (first | (with_reducible first | exact HB.out | apply below_alloc | apply pw_below_drewN | apply below_drew1 | refine below_set ?_ GE254.out | refine below_set ?_ GE255.out) | exact HB.out)⟩⟩
  case rest =>
    clear HC3; (try clear c1); (try clear p2); (try clear c5); (try clear c7); (try clear c9); (try clear c10); (try clear c12); (try clear hcz10_0); (try clear hcz13_0); (try clear hfz10_0); (try clear hfz13_0); obtain ⟨kq, x12_2, rfl, HA, HJ2, BK254, BK255, HB⟩ := hcut
    cases kq with
    | zero => exact absurd HA.out (by simp [spec_TreClear.j0])
    | succ kj2 =>
      have H := HA.out; clear HA; simp only [spec_TreClear.j0] at H; by_cases c15 : x12_2 = true
      · subst c15
        have H1 : (some ([] : List ByteArray)) = some r := by rw [if_pos rfl] at H; exact H
        clear H; have H := H1; clear H1; obtain rfl := Option.some.inj H; have hnb16 := NB255_254.out; have hnc16 := NB254_255.out; have hcz17_0 : wc.cell? ⟨gb255, 0, none⟩ = some (.slice none 0 0) := (blk_cell BK255.out 0).trans rfl; have hfz17_0 := blk_frozen BK255.out 0; go_wp2; refine bodyPost_ret (results_cell_row rfl _ _ gb255 55 #[.slice none 0 0] (0, 0) _ rfl (by (with_reducible repeat (first | refine blk_drewN ?_ _ | refine blk_drew ?_ | refine blk_alloc ?_ _)); refine blk_put (cs := #[.slice none 0 0]) ?_ 0 _ y5_; (with_reducible repeat (first | refine blk_drewN ?_ _ | refine blk_drew ?_ | refine blk_alloc ?_ _)); exact BK255.out) Tryd.underlying55 rfl (by kernel_rfl)) rfl ?_; exact ⟨_, y6_, by first | exact Kd.R_nil _ _ _ _ _ | exact Kd.N_nil _ _ _ _ _ | exact Kd.V_nil _ _ _ _ _ | exact Kd.Q_nil _ _ _ _ _ | exact Kd.S_nil _ _ _ _ _, by repeat (first | (with_reducible first | exact HB.out | apply below_alloc | apply pw_below_drewN | apply below_drew1 | refine below_set ?_ GE254.out | refine below_set ?_ GE255.out) | exact HB.out)⟩
      replace c15 := Bool.eq_false_iff.mpr c15; subst c15
      have H1 : ((spec_l3Copy.f l0_0).bind fun t258 => ((spec_l3Clear.f kj2 t258 a1).bind fun t261 => (some t261))) = some r := by rw [if_neg (show ¬ (false = true) by decide)] at H; exact H
      clear H; have H := H1; clear H1; replace H := Option.bind_eq_some_iff.mp H; obtain ⟨t258, A180, H⟩ := H; replace H : ((spec_l3Clear.f kj2 t258 a1).bind fun t261 => (some t261)) = some r := H; have A18 := am_ A180; clear A180; replace H := Option.bind_eq_some_iff.mp H; obtain ⟨t261, A190, H⟩ := H; replace H : (some t261) = some r := H; have A19 := am_ A190; clear A190; obtain rfl := Option.some.inj H; have hnb20 := NB254_255.out; have hnc20 := NB255_254.out; have hcz21_0 : wc.cell? ⟨gb254, 0, none⟩ = some (.slice A0_0 l0_0.length c0_0) := (blk_cell BK254.out 0).trans rfl; have hfz21_0 := blk_frozen BK254.out 0; go_wp2_with (first | ((with_reducible refine gate_callee (f := 119) rfl ?_); refine goesL_ (some 15) rfl rfl Tryd.func119 (by kernel_rfl) rfl #[.agg #[.slice A0_0 l0_0.length c0_0]] rfl y1_ ?_; (with_reducible refine (spec_l3Copy.calls _ _ l0_0 t258 _ ?side1 ?side2 A18.out).mono ?_); (case side1 => repeat (first | exact (Kd.C_below HR0_0.out HB.out) | (with_reducible refine Kd.C_alloc ?_ _) | (with_reducible refine Kd.C_drewN ?_ _) | (with_reducible refine Kd.C_drew ?_))); (case side2 => exact HC0_0.out); rintro e w22 ⟨v259, rfl, ho0, hb⟩; refine ⟨_, rfl, ?_⟩; have HO260 := am_ (Kd.R_lower ho0 (below_size (by repeat (first | (with_reducible first | exact HB.out | apply below_alloc | apply pw_below_drewN | apply below_drew1 | refine below_set ?_ GE254.out | refine below_set ?_ GE255.out) | exact HB.out)))); replace BK254 := am_ (blk_below (g := gb254) (o := .cells #[.slice A0_0 l0_0.length c0_0] 55 (0, 0)) (y12_ BK254.out) hb); replace BK255 := am_ (blk_below (g := gb255) (o := .cells #[.slice none 0 0] 55 (0, 0)) (y12_ BK255.out) hb); replace HB := am_ (below_step (by repeat (first | (with_reducible first | exact HB.out | apply below_alloc | apply pw_below_drewN | apply below_drew1 | refine below_set ?_ GE254.out | refine below_set ?_ GE255.out) | exact HB.out)) hb); (try clear hb); (try clear hb2); (try clear hk); (try clear hi); (try clear ho0); obtain ⟨Ao23, co23, eo23⟩ := Kd.R_slice HO260.out; subst eo23) | ((with_reducible refine gate_callee (f := 118) rfl ?_); refine goesL_ (some 17) rfl rfl Tryd.func118 (by kernel_rfl) rfl #[.agg #[.slice Ao23 t258.length co23], .int .i64 a1] rfl y1_ ?_; (with_reducible refine (spec_l3Clear.calls kj2 (fun k_ => some k_ = (.slice Ao23 t258.length co23 : Value).ownBlock) (.slice Ao23 t258.length co23) t258 a1 t261 w _ ?side1 ?side2 A19.out).mono ?_); (case side1 => repeat (first | (with_reducible first | exact HB.out | apply below_alloc | apply pw_below_drewN | apply below_drew1 | refine below_set ?_ GE254.out | refine below_set ?_ GE255.out) | exact HB.out)); (case side2 => exact Kd.R_tight rfl HO260.out); rintro e w24 ⟨v262, rfl, ho0, hb, hkp⟩; refine ⟨_, rfl, ?_⟩; replace BK254 := am_ (blk_kept (y12_ BK254.out) hkp (fun hs_ => (fun e_ => (Kd.R_ne HO260.out BK254.out (by decide)) e_) hs_)); replace BK255 := am_ (blk_kept (y12_ BK255.out) hkp (fun hs_ => (fun e_ => (Kd.R_ne HO260.out BK255.out (by decide)) e_) hs_)); have HO263 := am_ (Kd.R_mono (ok' := fun k_ => True) ho0 (fun k_ hk_ => trivial)); replace HB := am_ (hb); clear HO260; (try clear hb); (try clear hkp); (try clear ho0); obtain ⟨Ao25, co25, eo25⟩ := Kd.R_slice HO263.out; subst eo25; have hcz26_0 : w24.cell? ⟨gb255, 0, none⟩ = some (.slice none 0 0) := (blk_cell BK255.out 0).trans rfl; have hfz26_0 := blk_frozen BK255.out 0)); refine bodyPost_ret (results_cell_row rfl _ _ gb255 55 #[.slice Ao25 t261.length co25] (0, 0) _ rfl (by (with_reducible repeat (first | refine blk_drewN ?_ _ | refine blk_drew ?_ | refine blk_alloc ?_ _)); refine blk_put (cs := #[.slice none 0 0]) ?_ 0 _ y5_; (with_reducible repeat (first | refine blk_drewN ?_ _ | refine blk_drew ?_ | refine blk_alloc ?_ _)); exact BK255.out) Tryd.underlying55 rfl (by kernel_rfl)) rfl ?_; exact ⟨_, y6_, by (with_reducible repeat (first | apply Kd.R_alloc | apply Kd.R_drewN | apply Kd.R_drew)); exact Kd.R_mono (Kd.R_far (p := ⟨gb255, 0, none⟩) (Kd.R_types HO263.out BK255.out (by decide)) (fun _ hk => hk.2) (.slice Ao25 t261.length co25)) (fun _ hk => trivial), by repeat (first | (with_reducible first | exact HB.out | apply below_alloc | apply pw_below_drewN | apply below_drew1 | refine below_set ?_ GE254.out | refine below_set ?_ GE255.out) | exact HB.out)⟩

/-! ### spec_l3Set: function 120 -/
def spec_l3Set.l0 : Nat → ByteArray → List Int → Int → List ByteArray → Option (List ByteArray)
  | 0, _, _, _, _ => none
  | k + 1, x2, x8, x9, x265000 => if x9 < (x8.length : Int) then ((spec_MakNext.f k x2).bind fun t272 => (if 0 ≤ x9 then ((spec_MakKey.f k t272).bind fun t274 => (if 0 ≤ (rd x8 x9) then (if (rd x8 x9) < (x265000.length : Int) then (spec_l3Set.l0 k t272 x8 (wrap64 (x9 + 1)) (x265000.set ((rd x8 x9) : Int).toNat t274)) else (none)) else (none))) else (none))) else (some x265000)
def spec_l3Set.f (k : Nat) (l0_0 : List ByteArray) (a1 : Int) (a2 : ByteArray) : Option (List ByteArray) := (spec_TreLeaf.f a1).bind fun t266 => ((spec_MakKey.f k a2).bind fun t267 => (if 0 ≤ t266 then (if t266 < (l0_0.length : Int) then ((spec_TreUp.f k t266).bind fun t269 => (spec_l3Set.l0 k a2 t269 0 (l0_0.set (t266 : Int).toNat t267))) else (none)) else (none)))
theorem spec_l3Set.mono_l : ∀ k, (∀ y0 y1 y2 y3, LeO (spec_l3Set.l0 k y0 y1 y2 y3) (spec_l3Set.l0 (k + 1) y0 y1 y2 y3))
  | 0 => fun _ _ _ _ r h => by simp [spec_l3Set.l0] at h
  | k + 1 => by
    have ih0 := spec_l3Set.mono_l k
    · intro y0 y1 y2 y3
      unfold spec_l3Set.l0
      repeat' first
      | (with_reducible exact ih0 _ _ _ _)
      | (with_reducible exact spec_MakKey.mono _ _)
      | (with_reducible exact spec_MakNext.mono _ _)
      | (with_reducible exact spec_TreUp.mono _ _)
      | (with_reducible exact LeO.refl _)
      | (with_reducible exact LeO.none _)
      | (with_reducible refine LeO.ite ?_ ?_)
      | (with_reducible refine LeO.bind ?_ (fun _ => ?_))
      | exact LeO.none _
      | refine LeO.ite ?_ ?_
      | refine LeO.bind ?_ (fun _ => ?_)
theorem spec_l3Set.mono : ∀ a0 a1 a2 k, LeO (spec_l3Set.f k a0 a1 a2) (spec_l3Set.f (k + 1) a0 a1 a2) := by
  intro a0 a1 a2 k; have ih0 := spec_l3Set.mono_l k; unfold spec_l3Set.f
  repeat' first
      | (with_reducible exact ih0 _ _ _ _)
      | (with_reducible exact spec_MakKey.mono _ _)
      | (with_reducible exact spec_MakNext.mono _ _)
      | (with_reducible exact spec_TreUp.mono _ _)
      | (with_reducible exact LeO.refl _)
      | (with_reducible exact LeO.none _)
      | (with_reducible refine LeO.ite ?_ ?_)
      | (with_reducible refine LeO.bind ?_ (fun _ => ?_))
      | exact LeO.none _
      | refine LeO.ite ?_ ?_
      | refine LeO.bind ?_ (fun _ => ?_)
def spec_l3Set.T8 : Bool × List (List Nat × List Nat) := (true, [([], []), ([0], [0]), ([], []), ([], []), ([2, 3], [2, 3]), ([4], [4]), ([], []), ([6], [6]), ([1, 5, 0, 1, 2, 3, 4, 5, 6, 7], [1, 5]), ([8, 7, 7, 0, 1, 2, 3, 4, 5, 6, 7], [7, 8])])
def spec_l3Set.B8 : List Nat := [0, 1, 0, 0, 12, 28, 0, 64, 255, 511]
theorem spec_l3Set.tab8 : rtab .any (opsOf Tryd.f120 8) = spec_l3Set.T8 := by kernel_rfl
theorem spec_l3Set.bits8 : waitsOk spec_l3Set.T8.2 spec_l3Set.B8 = true := by kernel_rfl
set_option maxHeartbeats 8000000 in
set_option maxRecDepth 100000 in
theorem spec_l3Set.calls (k : Nat) (P0_0_ : Nat → Prop) (u9000_ : Value) (l0_0 : List ByteArray) (a1 : Int) (a2 : ByteArray) (r : List ByteArray) (w0 w : World) (hB : Below w0.heap.size w0 w) (ho0_0 : Kd.R Kd.string 9 w w0.heap.size P0_0_ u9000_ l0_0) (h : spec_l3Set.f k l0_0 a1 a2 = some r) :
    Calls Tryd.prog 120 #[.agg #[u9000_], .int .i64 a1, .string a2] w fun e w' => ∃ v0_ : Value, e = .returned (.agg #[v0_]) ∧ Kd.R Kd.string 9 w' w0.heap.size (fun k_ => (P0_0_ k_ ∨ w.heap.size ≤ k_)) v0_ r ∧ Below w0.heap.size w0 w' ∧ Kept w w' (fun k_ => P0_0_ k_) := by
  have hu55 := Tryd.underlying55; have HO0_0 := am_ (show Kd.R Kd.string 9 w w0.heap.size (fun k_ => (P0_0_ k_ ∨ w.heap.size ≤ k_)) u9000_ l0_0 from Kd.R_mono ho0_0 (fun k_ hk => (.inl hk))); have HK := am_ (Kept.refl w (fun k_ => P0_0_ k_)); have HW0 := am_ hB.size; have HB := am_ hB; clear hB; have H : ((spec_TreLeaf.f a1).bind fun t266 => ((spec_MakKey.f k a2).bind fun t267 => (if 0 ≤ t266 then (if t266 < (l0_0.length : Int) then ((spec_TreUp.f k t266).bind fun t269 => (spec_l3Set.l0 k a2 t269 0 (l0_0.set (t266 : Int).toNat t267))) else (none)) else (none)))) = some r := h; clear h; replace H := Option.bind_eq_some_iff.mp H; obtain ⟨t266, A40, H⟩ := H; replace H : ((spec_MakKey.f k a2).bind fun t267 => (if 0 ≤ t266 then (if t266 < (l0_0.length : Int) then ((spec_TreUp.f k t266).bind fun t269 => (spec_l3Set.l0 k a2 t269 0 (l0_0.set (t266 : Int).toNat t267))) else (none)) else (none))) = some r := H; have A4 := am_ A40; clear A40; replace H := Option.bind_eq_some_iff.mp H; obtain ⟨t267, A50, H⟩ := H; replace H : (if 0 ≤ t266 then (if t266 < (l0_0.length : Int) then ((spec_TreUp.f k t266).bind fun t269 => (spec_l3Set.l0 k a2 t269 0 (l0_0.set (t266 : Int).toNat t267))) else (none)) else (none)) = some r := H; have A5 := am_ A50; clear A50; by_cases c6 : 0 ≤ t266
  · rw [if_pos c6] at H
    have c6b0 : decide (0 ≤ t266) = true := decide_eq_true c6; clear c6; by_cases c7 : t266 < (l0_0.length : Int)
    · rw [if_pos c7] at H
      have c7b0 : decide (t266 < (l0_0.length : Int)) = true := decide_eq_true c7; clear c7
      obtain ⟨y268, hy268⟩ : ∃ y_ : List ByteArray, y_ = (l0_0.set (t266 : Int).toNat t267) := ⟨_, rfl⟩
      replace H : ((spec_TreUp.f k t266).bind fun t269 => (spec_l3Set.l0 k a2 t269 0 y268)) = some r := by first | (rw [hy268]; with_reducible exact H) | (have H2_ := (Option.bind_some _ _).symm.trans H; rw [hy268]; with_reducible exact H2_) | (have H2_ := (Option.bind_some _ _).symm.trans H; with_reducible exact H2_) | with_reducible exact H | (rw [hy268]; exact H) | exact H
      have Ny268 := am_ hy268; clear hy268; replace H := Option.bind_eq_some_iff.mp H; obtain ⟨t269, A90, H⟩ := H; replace H : (spec_l3Set.l0 k a2 t269 0 y268) = some r := H; have A9 := am_ A90; clear A90; have H' := am_ H; clear H; obtain ⟨Ao10, co10, eo10⟩ := Kd.R_slice HO0_0.out; subst eo10; go_enter Tryd.func120, Tryd.ntmps120
      try go_wp2_with (first | ((with_reducible refine gate_dst (N := 3) rfl ?_); refine box_event ?hg (N := 3) ?hd (cs := #[.slice Ao10 l0_0.length co10]) (t := 55) ?hr ?_; (case hd => rfl); (case hg => rfl); (case hr => first | (go_simp; done) | (go_simp; rfl)); intro gb264 hg w11 hbox hb; replace HO0_0 := am_ (Kd.R_below (y11_ HO0_0.out) hb); have BK264 := am_ (hbox); have GW264 := am_ ((by rw [hg]; exact (by first | exact HK.out.1 | exact (show Kept w _ (fun k_ => P0_0_ k_) from y16_ HK.out).1) : w.heap.size ≤ gb264)); replace HK := am_ (Kept.below (S := (fun k_ => P0_0_ k_)) (y16_ HK.out) hb); have GE264 := am_ ((by rw [hg]; exact (below_size (y7_ HB.out)) : w0.heap.size ≤ gb264)); replace HB := am_ (below_step (y7_ HB.out) hb); clear hb hbox hg) | ((with_reducible refine gate_dst (N := 6) rfl ?_); refine box_event ?hg (N := 6) ?hd (cs := #[.slice none 0 0]) (t := 55) ?hr ?_; (case hd => rfl); (case hg => rfl); (case hr => first | (go_simp; done) | (go_simp; rfl)); intro gb265 hg w12 hbox hb; replace HO0_0 := am_ (Kd.R_below (y11_ HO0_0.out) hb); have BK265 := am_ (hbox); have GW265 := am_ ((by rw [hg]; exact (by first | exact HK.out.1 | exact (show Kept w _ (fun k_ => P0_0_ k_) from by repeat (first | (with_reducible first | exact HK.out | apply Kept.alloc | apply Kept.drewN | apply Kept.drew | refine Kept.setCell ?_ (.inr GW264.out) _) | exact HK.out)).1) : w.heap.size ≤ gb265)); replace HK := am_ (Kept.below (S := (fun k_ => P0_0_ k_)) (by repeat (first | (with_reducible first | exact HK.out | apply Kept.alloc | apply Kept.drewN | apply Kept.drew | refine Kept.setCell ?_ (.inr GW264.out) _) | exact HK.out)) hb); have GE265 := am_ ((by rw [hg]; exact (below_size (y8_ HB.out GE264.out)) : w0.heap.size ≤ gb265)); replace HB := am_ (below_step (y8_ HB.out GE264.out) hb); have NB264_265 := am_ ((by rw [hg]; exact Nat.ne_of_lt (blk_lt (g := gb264) (o := .cells #[.slice Ao10 l0_0.length co10] 55 (0, 0)) (y12_ BK264.out)) : gb264 ≠ gb265)); have NB265_264 := am_ ((by rw [hg]; exact Nat.ne_of_gt (blk_lt (g := gb264) (o := .cells #[.slice Ao10 l0_0.length co10] 55 (0, 0)) (y12_ BK264.out)) : gb265 ≠ gb264)); replace BK264 := am_ (blk_below (g := gb264) (o := .cells #[.slice Ao10 l0_0.length co10] 55 (0, 0)) (y12_ BK264.out) hb); clear hb hbox hg) | ((with_reducible refine gate_callee (f := 92) rfl ?_); refine goesL_ (some 11) rfl rfl Tryd.func92 (by kernel_rfl) rfl #[.int .i64 a1] rfl y1_ ?_; (with_reducible refine (spec_TreLeaf.calls a1 t266 _ A4.out).mono ?_); rintro e w' ⟨rfl, ⟨nd, rfl⟩⟩; refine ⟨_, rfl, ?_⟩; (try (rw [drewN_self w12]; generalize hq_ : World.drewN w12 _ = w12; have n0_ : Aside0 (Kd.R Kd.string 9 w12 w0.heap.size (fun k_ => (P0_0_ k_ ∨ w.heap.size ≤ k_)) (.slice Ao10 l0_0.length co10) l0_0) := ⟨by rw [← hq_]; exact (y11_ HO0_0.out)⟩; have n1_ : Aside0 (w12.heap[gb264]? = some (.cells #[.slice Ao10 l0_0.length co10] 55 (0, 0))) := ⟨by rw [← hq_]; exact (y12_ BK264.out)⟩; have n2_ : Aside0 (w12.heap[gb265]? = some (.cells #[.slice none 0 0] 55 (0, 0))) := ⟨by rw [← hq_]; exact (y12_ BK265.out)⟩; have n3_ : Aside0 (Kept w w12 (fun k_ => P0_0_ k_)) := ⟨by rw [← hq_]; exact (by repeat (first | (with_reducible first | exact HK.out | apply Kept.alloc | apply Kept.drewN | apply Kept.drew | refine Kept.setCell ?_ (.inr GW264.out) _ | refine Kept.setCell ?_ (.inr GW265.out) _) | exact HK.out))⟩; have n4_ : Aside0 (Below w0.heap.size w0 w12) := ⟨by rw [← hq_]; exact (by repeat (first | (with_reducible first | exact HB.out | apply below_alloc | apply pw_below_drewN | apply below_drew1 | refine below_set ?_ GE264.out | refine below_set ?_ GE265.out) | exact HB.out))⟩; clear HO0_0 BK264 BK265 HK HB hq_; have HO0_0 := n0_; have BK264 := n1_; have BK265 := n2_; have HK := n3_; have HB := n4_; clear n0_ n1_ n2_ n3_ n4_))))
      have n0_ := am_ (Kd.R_drew HO0_0.out); have n1_ := am_ (blk_drew BK264.out); have n2_ := am_ (blk_drew BK265.out); have n3_ := am_ (Kept.drew HK.out); have n4_ := am_ (below_drew1 HB.out); clear HO0_0; clear BK264; clear BK265; clear HK; clear HB; have HO0_0 := n0_; have BK264 := n1_; have BK265 := n2_; have HK := n3_; have HB := n4_; clear n0_ n1_ n2_ n3_ n4_; refine start_ (n := 7) (S := fun w' => w'.cell? ⟨gb264, 0, none⟩ = some (.slice Ao10 l0_0.length co10)) (ds := [6]) #[false, false, false, false, false, false, false] (by kernel_rfl) rfl rfl ((blk_cell BK264.out 0).trans rfl) (fun hHeld => ?_); generalize w12.drew = w13 at HO0_0 BK264 BK265 HK HB hHeld ⊢; refine pure_ (i := 0) (N := some 12) (v := ?_) (a' := ?_) #[true, false, false, false, false, false, false] rfl rfl (by kernel_rfl) (fun _ _ _ h => h) (Or.inl ⟨by rfl, ?_⟩) ?_ ?_; rotate_left
      · intro w'
        go_simp
        with_reducible rfl
      rotate_left
      · simp only [Act.put, List.setIfInBounds_toArray, List.set_cons_zero, List.set_cons_succ, i64_w, i32_w]
        rfl
      refine pure_ (i := 2) (N := some 14) (v := ?_) (a' := ?_) #[true, false, true, false, false, false, false] rfl rfl (by kernel_rfl) (fun _ _ _ h => h) (Or.inl ⟨by rfl, ?_⟩) ?_ ?_; rotate_left
      · intro w'
        go_simp
        with_reducible rfl
      rotate_left
      · simp only [Act.put, List.setIfInBounds_toArray, List.set_cons_zero, List.set_cons_succ, i64_w, i32_w]
        rfl
      refine pure_ (i := 3) (N := some 15) (v := ?_) (a' := ?_) #[true, false, true, true, false, false, false] rfl rfl (by kernel_rfl) (fun _ _ _ h => h) (Or.inl ⟨by rfl, ?_⟩) ?_ ?_; rotate_left
      · intro w'
        go_simp
        with_reducible rfl
      rotate_left
      · simp only [Act.put, List.setIfInBounds_toArray, List.set_cons_zero, List.set_cons_succ, i64_w, i32_w]
        rfl
      refine take_ (i := 1) (N := some 13) (v := ?_) (a' := ?_) #[true, true, true, true, false, false, false] rfl rfl (by kernel_rfl) (fun _ _ _ h => h) (Or.inl ⟨by rfl, ?_⟩) hHeld ?_ ?_; rotate_left
      · intro w' s0
        go_simp
        with_reducible rfl
      rotate_left
      · simp only [Act.put, List.setIfInBounds_toArray, List.set_cons_zero, List.set_cons_succ, i64_w, i32_w]
        rfl
      refine one_ (i := 4) (N := some 16) #[true, true, true, true, true, false, false] rfl rfl (by kernel_rfl) (by decide) (fun K hK => ?_); refine goes_ Tryd.func43 (by kernel_rfl) rfl #[.string a2] (by rfl) rfl rfl y1_ ?_
      with_reducible refine (spec_MakKey.calls k a2 t267 _ A5.out).mono ?_
      rintro e w14 ⟨rfl, hb⟩; refine ⟨_, rfl, ?_⟩; have n0_ := am_ (Kd.R_below (y11_ HO0_0.out) hb); have n1_ := am_ (blk_below (g := gb264) (o := .cells #[.slice Ao10 l0_0.length co10] 55 (0, 0)) (y12_ BK264.out) hb); have n2_ := am_ (blk_below (g := gb265) (o := .cells #[.slice none 0 0] 55 (0, 0)) (y12_ BK265.out) hb); have n3_ := am_ (Kept.below (S := (fun k_ => P0_0_ k_)) (by repeat (first | (with_reducible first | exact HK.out | apply Kept.alloc | apply Kept.drewN | apply Kept.drew | refine Kept.setCell ?_ (.inr GW264.out) _ | refine Kept.setCell ?_ (.inr GW265.out) _) | exact HK.out)) hb); have n4_ := am_ (below_step (by repeat (first | (with_reducible first | exact HB.out | apply below_alloc | apply pw_below_drewN | apply below_drew1 | refine below_set ?_ GE264.out | refine below_set ?_ GE265.out) | exact HB.out)) hb); clear HO0_0; clear BK264; clear BK265; clear HK; clear HB; have HO0_0 := n0_; have BK264 := n1_; have BK265 := n2_; have HK := n3_; have HB := n4_; clear n0_ n1_ n2_ n3_ n4_; (try clear hb); (try clear hb2); (try clear hk); (try clear hi); have p8 : 0 ≤ (t266 : Int) := of_decide_eq_true y3_; have q8 : (t266 : Int) < ((l0_0.length : Int) : Int) := of_decide_eq_true y3_; obtain ⟨go8, co8, eo8, gb8, gl8, cl8, HG8⟩ := Kd.R_form HO0_0.out (by omega); (first | cases eo8 | (injection eo8 with ea_ en_ ec_; (first | subst ea_ | (injection ea_ with ea_; subst ea_)); subst ec_; clear en_)); have GB8 := am_ gb8; have GG8 := am_ HG8; clear gb8 gl8 HG8; have HMgo8 := am_ (show (P0_0_ go8 ∨ w.heap.size ≤ go8) from (HO0_0.out.1 _ rfl)); obtain ⟨hx8_0, hf8_0⟩ := Kd.R_celln (⟨#[]⟩ : ByteArray) HO0_0.out (t266 : Int) p8 q8; replace p8 := eq_true p8; replace q8 := eq_true q8; have HP15 := Kd.R_putn HO0_0.out (t266 : Int) t267; rw [← Ny268.out] at HP15; have HQ15 := am_ HP15; clear HP15; refine hK.out _ _ ((blk_cell BK264.out 0).trans rfl) (fun hHeld => ?_); clear hK K; refine norm_ (a' := ?_) ?_ ?_; rotate_left
      · show Act.put _ (some 16) _ = _
        simp only [Act.put, List.setIfInBounds_toArray, List.set_cons_zero, List.set_cons_succ, i64_w, i32_w]
        rfl
      refine pure_ (i := 5) (N := some 17) (v := ?_) (a' := ?_) #[true, true, true, true, true, true, false] rfl rfl (by kernel_rfl) (fun _ _ _ h => h) (Or.inl ⟨by rfl, ?_⟩) ?_ ?_; rotate_left
      · intro w'
        go_simp
        with_reducible rfl
      rotate_left
      · simp only [Act.put, List.setIfInBounds_toArray, List.set_cons_zero, List.set_cons_succ, i64_w, i32_w]
        rfl
      refine last_ (i := 6) (N := none) #[true, true, true, true, true, true, true] rfl rfl (by kernel_rfl) (by decide) (fun K hK => ?_); refine skip_ (w1 := ?_) (by rfl) rfl ?_ ?_; rotate_left
      · go_simp
        rfl
      refine hK.out _ _ ?_; clear hK K; refine done_ (by kernel_rfl) ?_
      try go_wp2_with (first | ((with_reducible refine gate_callee (f := 25) rfl ?_); refine goesL_ (some 19) rfl rfl Tryd.func25 (by kernel_rfl) rfl #[.int .i64 t266] rfl y1_ ?_; (with_reducible refine (spec_TreUp.calls k t266 t269 _ A9.out).mono ?_); rintro e w16 ⟨v270, rfl, ho0, hb⟩; refine ⟨_, rfl, ?_⟩; have HO271 := am_ (Kd.R_lower (Kd.R_newM (M := fun k_ => (P0_0_ k_ ∨ w.heap.size ≤ k_)) ho0 (show Kept w _ (fun k_ => P0_0_ k_) from by repeat (first | (with_reducible first | exact HK.out | apply Kept.alloc | apply Kept.drewN | apply Kept.drew | refine Kept.setCell ?_ HMgo8.out _ | refine Kept.setCell ?_ (.inr GW264.out) _ | refine Kept.setCell ?_ (.inr GW265.out) _) | exact HK.out)).1 (fun k_ h_ => .inr h_)) (below_size (by repeat (first | (with_reducible first | exact HB.out | apply below_alloc | apply pw_below_drewN | apply below_drew1 | refine below_set ?_ GB8.out | refine below_set ?_ GE264.out | refine below_set ?_ GE265.out) | exact HB.out)))); replace BK264 := am_ (blk_below (g := gb264) (o := .cells #[.slice (some ⟨go8, 0, none⟩) l0_0.length co10] 55 (0, 0)) (by (with_reducible repeat (first | refine blk_drewN ?_ _ | refine blk_drew ?_ | refine blk_alloc ?_ _)); refine blk_far ?_ (by have h_ := Kd.R_ne HO0_0.out BK264.out (by decide); intro e_; exact h_ (by rw [e_]; rfl)) _; (with_reducible repeat (first | refine blk_drewN ?_ _ | refine blk_drew ?_ | refine blk_alloc ?_ _)); exact BK264.out) hb); replace BK265 := am_ (blk_below (g := gb265) (o := .cells #[.slice none 0 0] 55 (0, 0)) (by (with_reducible repeat (first | refine blk_drewN ?_ _ | refine blk_drew ?_ | refine blk_alloc ?_ _)); refine blk_far ?_ (by have h_ := Kd.R_ne HO0_0.out BK265.out (by decide); intro e_; exact h_ (by rw [e_]; rfl)) _; (with_reducible repeat (first | refine blk_drewN ?_ _ | refine blk_drew ?_ | refine blk_alloc ?_ _)); exact BK265.out) hb); replace HO0_0 := am_ (Kd.R_below (y11_ HQ15.out) hb); replace HK := am_ (Kept.below (S := (fun k_ => P0_0_ k_)) (by repeat (first | (with_reducible first | exact HK.out | apply Kept.alloc | apply Kept.drewN | apply Kept.drew | refine Kept.setCell ?_ HMgo8.out _ | refine Kept.setCell ?_ (.inr GW264.out) _ | refine Kept.setCell ?_ (.inr GW265.out) _) | exact HK.out)) hb); replace HB := am_ (below_step (by repeat (first | (with_reducible first | exact HB.out | apply below_alloc | apply pw_below_drewN | apply below_drew1 | refine below_set ?_ GB8.out | refine below_set ?_ GE264.out | refine below_set ?_ GE265.out) | exact HB.out)) hb); (try clear hb); (try clear hb2); (try clear hk); (try clear hi); (try clear ho0)))
      go_loopg [2, 9] k (fun kq v2 v9 w' => ∃ (x2_1 : ByteArray) (x9_1 : Int) (x265000_1 : List ByteArray) (u265000 : Value), v2 = .string x2_1 ∧ v9 = .int .i64 x9_1 ∧ Aside0 (spec_l3Set.l0 kq x2_1 t269 x9_1 x265000_1 = some r) ∧ Aside0 (kq ≤ k) ∧ Aside0 (Kd.R (Kd.int .i64) 3 w' w0.heap.size (fun k_ => (P0_0_ k_ ∨ w.heap.size ≤ k_)) v270 t269) ∧ Aside0 (Kd.R Kd.string 9 w' w0.heap.size (fun k_ => (P0_0_ k_ ∨ w.heap.size ≤ k_)) u265000 x265000_1) ∧ Aside0 (w'.heap[gb264]? = some (.cells #[u265000] 55 (0, 0))) ∧ Aside0 (w'.heap[gb265]? = some (.cells #[(.slice none 0 0)] 55 (0, 0))) ∧ Aside0 (Kept w w' (fun k_ => P0_0_ k_)) ∧ Aside0 (Below w0.heap.size w0 w'))
      case atStart => exact ⟨(a2), (0), (y268), (.slice (some ⟨go8, 0, none⟩) l0_0.length co10), y4_, y4_, H', ⟨Nat.le_refl _⟩, ⟨by (with_reducible repeat (first | apply Kd.R_alloc | apply Kd.R_drewN | apply Kd.R_drew)); exact Kd.R_mono HO271.out (fun _ hk => hk.1)⟩, ⟨by (with_reducible repeat (first | apply Kd.R_alloc | apply Kd.R_drewN | apply Kd.R_drew)); exact HO0_0.out⟩, ⟨by (with_reducible repeat (first | refine blk_drewN ?_ _ | refine blk_drew ?_ | refine blk_alloc ?_ _)); exact BK264.out⟩, ⟨by (with_reducible repeat (first | refine blk_drewN ?_ _ | refine blk_drew ?_ | refine blk_alloc ?_ _)); exact BK265.out⟩, ⟨by repeat (first | (with_reducible first | exact HK.out | apply Kept.alloc | apply Kept.drewN | apply Kept.drew | refine Kept.setCell ?_ (.inr GW264.out) _ | refine Kept.setCell ?_ (.inr GW265.out) _) | exact HK.out)⟩, ⟨by repeat (first | (with_reducible first | exact HB.out | apply below_alloc | apply pw_below_drewN | apply below_drew1 | refine below_set ?_ GE264.out | refine below_set ?_ GE265.out) | exact HB.out)⟩⟩
      case round =>
        clear H'; (try clear c1); (try clear c2); (try clear p2); (try clear c4); (try clear c6); (try clear c6b0); (try clear c7); (try clear c7b0); (try clear p8); (try clear q8); (try clear hx8); (try clear hf8); (try clear c9); (try clear c12); (try clear hx8_0); (try clear p8); (try clear q8); obtain ⟨x2_1, x9_1, x265000_1, u265000, rfl, rfl, HA, HK1, HO_8, HO_265000, BK264, BK265, HK, HB⟩ := hrel
        cases gk with
        | zero => exact absurd HA.out (by simp [spec_l3Set.l0])
        | succ k1 =>
          have H := HA.out; clear HA; simp only [spec_l3Set.l0] at H; by_cases c17 : x9_1 < (t269.length : Int)
          · rw [if_pos c17] at H
            have c17b0 : decide (x9_1 < (t269.length : Int)) = true := decide_eq_true c17; clear c17; replace H := Option.bind_eq_some_iff.mp H; obtain ⟨t272, A180, H⟩ := H; replace H : (if 0 ≤ x9_1 then ((spec_MakKey.f k1 t272).bind fun t274 => (if 0 ≤ (rd t269 x9_1) then (if (rd t269 x9_1) < (x265000_1.length : Int) then (spec_l3Set.l0 k1 t272 t269 (wrap64 (x9_1 + 1)) (x265000_1.set ((rd t269 x9_1) : Int).toNat t274)) else (none)) else (none))) else (none)) = some r := H; have A18 := am_ A180; clear A180; by_cases c19 : 0 ≤ x9_1
            · rw [if_pos c19] at H
              have c19b0 : decide (0 ≤ x9_1) = true := decide_eq_true c19; clear c19; replace H := Option.bind_eq_some_iff.mp H; obtain ⟨t274, A200, H⟩ := H; replace H : (if 0 ≤ (rd t269 x9_1) then (if (rd t269 x9_1) < (x265000_1.length : Int) then (spec_l3Set.l0 k1 t272 t269 (wrap64 (x9_1 + 1)) (x265000_1.set ((rd t269 x9_1) : Int).toNat t274)) else (none)) else (none)) = some r := H; have A20 := am_ A200; clear A200; by_cases c21 : 0 ≤ (rd t269 x9_1)
              · rw [if_pos c21] at H
                have c21b0 : decide (0 ≤ (rd t269 x9_1)) = true := decide_eq_true c21; clear c21; by_cases c22 : (rd t269 x9_1) < (x265000_1.length : Int)
                · rw [if_pos c22] at H
                  have c22b0 : decide ((rd t269 x9_1) < (x265000_1.length : Int)) = true := decide_eq_true c22; clear c22
                  obtain ⟨y275, hy275⟩ : ∃ y_ : List ByteArray, y_ = (x265000_1.set ((rd t269 x9_1) : Int).toNat t274) := ⟨_, rfl⟩
                  replace H : (spec_l3Set.l0 k1 t272 t269 (wrap64 (x9_1 + 1)) y275) = some r := by first | (rw [hy275]; with_reducible exact H) | (have H2_ := (Option.bind_some _ _).symm.trans H; rw [hy275]; with_reducible exact H2_) | (have H2_ := (Option.bind_some _ _).symm.trans H; with_reducible exact H2_) | with_reducible exact H | (rw [hy275]; exact H) | exact H
                  have Ny275 := am_ hy275; clear hy275; have H' := am_ H; clear H; obtain ⟨Ao24, co24, eo24⟩ := Kd.R_slice HO_8.out; subst eo24
                  try go_wp2_with (first | ((with_reducible refine gate_callee (f := 42) rfl ?_); refine goesL_ (some 27) rfl rfl Tryd.func42 (by kernel_rfl) rfl #[.string x2_1] rfl y1_ ?_; (with_reducible refine (spec_MakNext.calls k1 x2_1 t272 _ A18.out).mono ?_); rintro e w25 ⟨rfl, hb⟩; refine ⟨_, rfl, ?_⟩; replace HO_8 := am_ (Kd.R_below (y11_ HO_8.out) hb); replace HO_265000 := am_ (Kd.R_below (y11_ HO_265000.out) hb); replace BK264 := am_ (blk_below (g := gb264) (o := .cells #[u265000] 55 (0, 0)) (y12_ BK264.out) hb); replace BK265 := am_ (blk_below (g := gb265) (o := .cells #[.slice none 0 0] 55 (0, 0)) (y12_ BK265.out) hb); replace HK := am_ (Kept.below (S := (fun k_ => P0_0_ k_)) (by repeat (first | (with_reducible first | exact HK.out | apply Kept.alloc | apply Kept.drewN | apply Kept.drew | refine Kept.setCell ?_ (.inr GW264.out) _ | refine Kept.setCell ?_ (.inr GW265.out) _) | exact HK.out)) hb); replace HB := am_ (below_step (by repeat (first | (with_reducible first | exact HB.out | apply below_alloc | apply pw_below_drewN | apply below_drew1 | refine below_set ?_ GE264.out | refine below_set ?_ GE265.out) | exact HB.out)) hb); clear hb))
                  have n0_ := am_ (Kd.R_drew HO_8.out); have n1_ := am_ (Kd.R_drew HO_265000.out); have n2_ := am_ (blk_drew BK264.out); have n3_ := am_ (blk_drew BK265.out); have n4_ := am_ (Kept.drew HK.out); have n5_ := am_ (below_drew1 HB.out); clear HO_8; clear HO_265000; clear BK264; clear BK265; clear HK; clear HB; have HO_8 := n0_; have HO_265000 := n1_; have BK264 := n2_; have BK265 := n3_; have HK := n4_; have HB := n5_; clear n0_ n1_ n2_ n3_ n4_ n5_; have p273 : 0 ≤ (x9_1 : Int) := of_decide_eq_true y3_; have q273 : x9_1 < (t269.length : Int) := of_decide_eq_true y3_; obtain ⟨ad273, e273, hx273_0⟩ := Kd.at_int (Kd.R_reads' HO_8.out).2.2 x9_1 p273 q273
                  cases e273
                  replace p273 := eq_true p273; replace q273 := eq_true q273; refine start_ (n := 10) (S := fun w' => w'.cell? ⟨gb264, 0, none⟩ = some (u265000) ∧ w'.cell? (ad273.add (x9_1).toNat) = some (.int .i64 (rd t269 x9_1))) (ds := [9]) #[false, false, false, false, false, false, false, false, false, false] (by kernel_rfl) rfl rfl ⟨(blk_cell BK264.out 0).trans rfl, hx273_0⟩ (fun hHeld => ?_); refine with_tabW spec_l3Set.tab8 spec_l3Set.bits8 (fun HT_ HW_ => ?_); generalize w25.drew = w26 at HO_8 HO_265000 BK264 BK265 HK HB hx273_0 hHeld ⊢; refine pure_ (i := 0) (N := some 28) (v := ?_) (a' := ?_) #[true, false, false, false, false, false, false, false, false, false] rfl rfl (any_of HT_.out (by kernel_rfl)) (fun _ _ _ h => h) (Or.inl ⟨by rfl, ?_⟩) ?_ ?_; rotate_left
                  · intro w'
                    go_simp
                    with_reducible rfl
                  rotate_left
                  · simp only [Act.put, List.setIfInBounds_toArray, List.set_cons_zero, List.set_cons_succ, i64_w, i32_w]
                    rfl
                  refine pure_ (i := 2) (N := some 30) (v := ?_) (a' := ?_) #[true, false, true, false, false, false, false, false, false, false] rfl rfl (any_of HT_.out (by kernel_rfl)) (fun _ _ _ h => h) (Or.inl ⟨by rfl, ?_⟩) ?_ ?_; rotate_left
                  · intro w'
                    go_simp
                    with_reducible rfl
                  rotate_left
                  · simp only [Act.put, List.setIfInBounds_toArray, List.set_cons_zero, List.set_cons_succ, i64_w, i32_w]
                    rfl
                  refine pure_ (i := 3) (N := some 31) (v := ?_) (a' := ?_) #[true, false, true, true, false, false, false, false, false, false] rfl rfl (any_of HT_.out (by kernel_rfl)) (fun _ _ _ h => h) (Or.inl ⟨by rfl, ?_⟩) ?_ ?_; rotate_left
                  · intro w'
                    go_simp
                    with_reducible rfl
                  rotate_left
                  · simp only [Act.put, List.setIfInBounds_toArray, List.set_cons_zero, List.set_cons_succ, i64_w, i32_w]
                    rfl
                  refine pure_ (i := 4) (N := some 32) (v := ?_) (a' := ?_) #[true, false, true, true, true, false, false, false, false, false] rfl rfl (any_of HT_.out (by kernel_rfl)) (fun _ _ _ h => h) (Or.inl ⟨by rfl, ?_⟩) ?_ ?_; rotate_left
                  · intro w'
                    go_simp
                    with_reducible rfl
                  rotate_left
                  · simp only [Act.put, List.setIfInBounds_toArray, List.set_cons_zero, List.set_cons_succ, i64_w, i32_w]
                    rfl
                  refine pure_ (i := 6) (N := some 34) (v := ?_) (a' := ?_) #[true, false, true, true, true, false, true, false, false, false] rfl rfl (any_of HT_.out (by kernel_rfl)) (fun _ _ _ h => h) (Or.inl ⟨by rfl, ?_⟩) ?_ ?_; rotate_left
                  · intro w'
                    go_simp
                    with_reducible rfl
                  rotate_left
                  · simp only [Act.put, List.setIfInBounds_toArray, List.set_cons_zero, List.set_cons_succ, i64_w, i32_w]
                    rfl
                  refine take_ (i := 1) (N := some 29) (v := ?_) (a' := ?_) #[true, true, true, true, true, false, true, false, false, false] rfl rfl (take_ofW HT_.out HW_.out (by kernel_rfl)) (fun _ _ _ h => h) (Or.inl ⟨by rfl, ?_⟩) hHeld ?_ ?_; rotate_left
                  · rintro w' ⟨s0, s1⟩
                    go_simp
                    with_reducible rfl
                  rotate_left
                  · simp only [Act.put, List.setIfInBounds_toArray, List.set_cons_zero, List.set_cons_succ, i64_w, i32_w]
                    rfl
                  refine take_ (i := 5) (N := some 33) (v := ?_) (a' := ?_) #[true, true, true, true, true, true, true, false, false, false] rfl rfl (take_ofW HT_.out HW_.out (by kernel_rfl)) (fun _ _ _ h => h) (Or.inl ⟨by rfl, ?_⟩) hHeld ?_ ?_; rotate_left
                  · rintro w' ⟨s0, s1⟩
                    go_simp
                    with_reducible rfl
                  rotate_left
                  · simp only [Act.put, List.setIfInBounds_toArray, List.set_cons_zero, List.set_cons_succ, i64_w, i32_w]
                    rfl
                  refine one_ (i := 7) (N := some 35) #[true, true, true, true, true, true, true, true, false, false] rfl rfl (one_of HT_.out (by kernel_rfl)) (by decide) (fun K hK => ?_); refine goes_ Tryd.func43 (by kernel_rfl) rfl #[.string t272] (by rfl) rfl rfl y1_ ?_
                  with_reducible refine (spec_MakKey.calls k1 t272 t274 _ A20.out).mono ?_
                  rintro e w27 ⟨rfl, hb⟩; have HS1_ := (hb.cell (World.block_lt_of_cell? _ _ (hHeld.2))).trans (hHeld.2); refine ⟨_, rfl, ?_⟩; have n0_ := am_ (Kd.R_below (y11_ HO_8.out) hb); have n1_ := am_ (Kd.R_below (y11_ HO_265000.out) hb); have n2_ := am_ (blk_below (g := gb264) (o := .cells #[u265000] 55 (0, 0)) (y12_ BK264.out) hb); have n3_ := am_ (blk_below (g := gb265) (o := .cells #[.slice none 0 0] 55 (0, 0)) (y12_ BK265.out) hb); have n4_ := am_ (Kept.below (S := (fun k_ => P0_0_ k_)) (by repeat (first | (with_reducible first | exact HK.out | apply Kept.alloc | apply Kept.drewN | apply Kept.drew | refine Kept.setCell ?_ (.inr GW264.out) _ | refine Kept.setCell ?_ (.inr GW265.out) _) | exact HK.out)) hb); have n5_ := am_ (below_step (by repeat (first | (with_reducible first | exact HB.out | apply below_alloc | apply pw_below_drewN | apply below_drew1 | refine below_set ?_ GE264.out | refine below_set ?_ GE265.out) | exact HB.out)) hb); clear HO_8; clear HO_265000; clear BK264; clear BK265; clear HK; clear HB; have HO_8 := n0_; have HO_265000 := n1_; have BK264 := n2_; have BK265 := n3_; have HK := n4_; have HB := n5_; clear n0_ n1_ n2_ n3_ n4_ n5_; (try clear hb); (try clear hb2); (try clear hk); (try clear hi); have p23 : 0 ≤ ((rd t269 x9_1) : Int) := of_decide_eq_true y3_; have q23 : ((rd t269 x9_1) : Int) < ((x265000_1.length : Int) : Int) := of_decide_eq_true y3_; obtain ⟨go23, co23, eo23, gb23, gl23, cl23, HG23⟩ := Kd.R_form HO_265000.out (by omega); (first | cases eo23 | (injection eo23 with ea_ en_ ec_; (first | subst ea_ | (injection ea_ with ea_; subst ea_)); subst ec_; clear en_)); have GB23 := am_ gb23; have GG23 := am_ HG23; clear gb23 gl23 HG23; have HMgo23 := am_ (show (P0_0_ go23 ∨ w.heap.size ≤ go23) from (HO_265000.out.1 _ rfl)); obtain ⟨hx23_0, hf23_0⟩ := Kd.R_celln (⟨#[]⟩ : ByteArray) HO_265000.out ((rd t269 x9_1) : Int) p23 q23; replace p23 := eq_true p23; replace q23 := eq_true q23; have HP28 := Kd.R_putn HO_265000.out ((rd t269 x9_1) : Int) t274; rw [← Ny275.out] at HP28; have HQ28 := am_ HP28; clear HP28; refine hK.out _ _ ⟨(blk_cell BK264.out 0).trans rfl, HS1_⟩ (fun hHeld => ?_); clear hK K; refine norm_ (a' := ?_) ?_ ?_; rotate_left
                  · show Act.put _ (some 35) _ = _
                    simp only [Act.put, List.setIfInBounds_toArray, List.set_cons_zero, List.set_cons_succ, i64_w, i32_w]
                    rfl
                  refine pure_ (i := 8) (N := some 36) (v := ?_) (a' := ?_) #[true, true, true, true, true, true, true, true, true, false] rfl rfl (any_of HT_.out (by kernel_rfl)) (fun _ _ _ h => h) (Or.inl ⟨by rfl, ?_⟩) ?_ ?_; rotate_left
                  · intro w'
                    go_simp
                    with_reducible rfl
                  rotate_left
                  · simp only [Act.put, List.setIfInBounds_toArray, List.set_cons_zero, List.set_cons_succ, i64_w, i32_w]
                    rfl
                  refine last_ (i := 9) (N := none) #[true, true, true, true, true, true, true, true, true, true] rfl rfl (one_of HT_.out (by kernel_rfl)) (by decide) (fun K hK => ?_); refine skip_ (w1 := ?_) (by rfl) rfl ?_ ?_; rotate_left
                  · go_simp
                    rfl
                  refine hK.out _ _ ?_; clear hK K; refine done_ (done_of HT_.out (by kernel_rfl)) ?_
                  try go_wp2
                  go_roundg k1
                  case measure => have := HK1.out; omega
                  case rel => exact ⟨(t272), (wrap64 (x9_1 + 1)), (y275), (.slice (some ⟨go23, 0, none⟩) x265000_1.length co23), y4_, y4_, H', ⟨by have := HK1.out; omega⟩, ⟨by (with_reducible repeat (first | apply Kd.R_alloc | apply Kd.R_drewN | apply Kd.R_drew)); exact Kd.R_mono (Kd.R_far (p := ⟨go23, ((rd t269 x9_1) : Int).toNat, none⟩) (Kd.R_types HO_8.out GG23.out (by decide)) (fun _ hk => hk.2) (.string t274)) (fun _ hk => hk.1)⟩, ⟨by (with_reducible repeat (first | apply Kd.R_alloc | apply Kd.R_drewN | apply Kd.R_drew)); exact HQ28.out⟩, ⟨by (with_reducible repeat (first | refine blk_drewN ?_ _ | refine blk_drew ?_ | refine blk_alloc ?_ _)); refine blk_far ?_ (by have h_ := Kd.R_ne HO_265000.out BK264.out (by decide); intro e_; exact h_ (by rw [e_]; rfl)) _; (with_reducible repeat (first | refine blk_drewN ?_ _ | refine blk_drew ?_ | refine blk_alloc ?_ _)); exact BK264.out⟩, ⟨by (with_reducible repeat (first | refine blk_drewN ?_ _ | refine blk_drew ?_ | refine blk_alloc ?_ _)); refine blk_far ?_ (by have h_ := Kd.R_ne HO_265000.out BK265.out (by decide); intro e_; exact h_ (by rw [e_]; rfl)) _; (with_reducible repeat (first | refine blk_drewN ?_ _ | refine blk_drew ?_ | refine blk_alloc ?_ _)); exact BK265.out⟩, ⟨by repeat (first | (with_reducible first | exact HK.out | apply Kept.alloc | apply Kept.drewN | apply Kept.drew | refine Kept.setCell ?_ HMgo23.out _ | refine Kept.setCell ?_ (.inr GW264.out) _ | refine Kept.setCell ?_ (.inr GW265.out) _) | exact HK.out)⟩, ⟨by repeat (first | (with_reducible first | exact HB.out | apply below_alloc | apply pw_below_drewN | apply below_drew1 | refine below_set ?_ GB23.out | refine below_set ?_ GE264.out | refine below_set ?_ GE265.out) | exact HB.out)⟩⟩
                rw [if_neg c22] at H; exact absurd H (by simp)
              rw [if_neg c21] at H; exact absurd H (by simp)
            rw [if_neg c19] at H; exact absurd H (by simp)
          rw [if_neg c17] at H; have c17b0 : decide (x9_1 < (t269.length : Int)) = false := decide_eq_false c17; clear c17; obtain rfl := Option.some.inj H; obtain ⟨Ao29, co29, eo29⟩ := Kd.R_slice HO_8.out; subst eo29; have hnb30 := NB264_265.out; have hnc30 := NB265_264.out; have hcz31_0 : wr.cell? ⟨gb264, 0, none⟩ = some (u265000) := (blk_cell BK264.out 0).trans rfl; have hfz31_0 := blk_frozen BK264.out 0; obtain ⟨Ao32, co32, eo32⟩ := Kd.R_slice HO_265000.out; subst eo32; have hcz33_0 : wr.cell? ⟨gb265, 0, none⟩ = some (.slice none 0 0) := (blk_cell BK265.out 0).trans rfl; have hfz33_0 := blk_frozen BK265.out 0; go_wp2; refine bodyPost_ret (results_cell_row rfl _ _ gb265 55 #[.slice Ao32 x265000_1.length co32] (0, 0) _ rfl (by (with_reducible repeat (first | refine blk_drewN ?_ _ | refine blk_drew ?_ | refine blk_alloc ?_ _)); refine blk_put (cs := #[.slice none 0 0]) ?_ 0 _ y5_; (with_reducible repeat (first | refine blk_drewN ?_ _ | refine blk_drew ?_ | refine blk_alloc ?_ _)); exact BK265.out) Tryd.underlying55 rfl (by kernel_rfl)) rfl ?_; exact ⟨_, y6_, by (with_reducible repeat (first | apply Kd.R_alloc | apply Kd.R_drewN | apply Kd.R_drew)); exact Kd.R_mono (Kd.R_far (p := ⟨gb265, 0, none⟩) (Kd.R_types HO_265000.out BK265.out (by decide)) (fun _ hk => hk.2) (.slice Ao32 x265000_1.length co32)) (fun _ hk => hk.1), by repeat (first | (with_reducible first | exact HB.out | apply below_alloc | apply pw_below_drewN | apply below_drew1 | refine below_set ?_ GE264.out | refine below_set ?_ GE265.out) | exact HB.out), by repeat (first | (with_reducible first | exact HK.out | apply Kept.alloc | apply Kept.drewN | apply Kept.drew | refine Kept.setCell ?_ (.inr GW264.out) _ | refine Kept.setCell ?_ (.inr GW265.out) _) | exact HK.out)⟩
    rw [if_neg c7] at H; exact absurd H (by simp)
  rw [if_neg c6] at H; exact absurd H (by simp)

end Go.Proofs.YtdcaipomjimplaaDoor.Wi
