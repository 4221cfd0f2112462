-- Written by this session's own program (wip/tools/pp.py) out of the translation, over functions given by hand. Lean checks it.
import Derived.Test.YtdcaipomjimplaaDoorWcx0
import Derived.Test.YtdcaipomjimplaaDoorWcx1
import Derived.Test.YtdcaipomjimplaaDoorWcx5
import Derived.Test.YtdcaipomjimplaaDoorWcx6
import Derived.Test.YtdcaipomjimplaaDoorWcx10
namespace Go.Proofs.YtdcaipomjimplaaDoor.Wc
open Go.RowKit Go.Proofs.YtdcaipomjimplaaDoorW.PrintWords Go.Proofs.YtdcaipomjimplaaDoorW.PrintLast Go.Proofs.YtdcaipomjimplaaDoorW.PrintMore
attribute [local go_sem] max2_int min2_int max_two min_two max_three min_three max_four min_four   -- for this text's walks alone
set_option linter.unusedVariables false
set_option linter.unusedSimpArgs false

/-! ### spec_DrawTreCover: function 62 -/
def spec_DrawTreCover.f (k : Nat) (l0 : List Int) : Option (List ByteArray × Int) := (spec_l20Open.f l0).bind fun bt366 => ((spec_l20Tree.f k bt366.1 bt366.2 9).bind fun bt369 => ((spec_l20Node.f k bt366.1 bt369.2).bind fun bt373 => (some (bt369.1, bt373.1))))
theorem spec_DrawTreCover.mono : ∀ a0 k, LeO (spec_DrawTreCover.f k a0) (spec_DrawTreCover.f (k + 1) a0) := by
  intro a0 k; unfold spec_DrawTreCover.f
  repeat' first
      | (with_reducible exact spec_l20Node.mono _ _ _)
      | (with_reducible exact spec_l20Tree.mono _ _ _ _)
      | (with_reducible exact LeO.refl _)
      | (with_reducible exact LeO.none _)
      | (with_reducible refine LeO.ite ?_ ?_)
      | (with_reducible refine LeO.bind ?_ (fun _ => ?_))
      | exact LeO.none _
      | refine LeO.ite ?_ ?_
      | refine LeO.bind ?_ (fun _ => ?_)
set_option maxHeartbeats 8000000 in
set_option maxRecDepth 100000 in
theorem spec_DrawTreCover.calls (k : Nat) (A0 : Option Addr) (c0 : Nat) (l0 : List Int) (r1 : List ByteArray) (r2 : Int) (w : World) (hr0 : Kd.C (Kd.int .u8) w A0 l0.length l0) (hc0 : l0.length ≤ c0) (h : spec_DrawTreCover.f k l0 = some (r1, r2)) :
    Calls Tryd.prog 62 #[.slice A0 l0.length c0] w fun e w' => ∃ v0_ : Value, e = .returned (.tuple #[.agg #[v0_], .int .i64 r2]) ∧ Kd.Q Kd.string 9 w' w.heap.size (fun _ => True) v0_ r1 ∧ Below w.heap.size w w' := by
  have hu55 := Tryd.underlying55; have HR0 := am_ hr0; have HC0 := am_ hc0; clear hr0 hc0; have HB := am_ (Below.refl w.heap.size w); have H : ((spec_l20Open.f l0).bind fun bt366 => ((spec_l20Tree.f k bt366.1 bt366.2 9).bind fun bt369 => ((spec_l20Node.f k bt366.1 bt369.2).bind fun bt373 => (some (bt369.1, bt373.1))))) = some (r1, r2) := h; clear h; replace H := Option.bind_eq_some_iff.mp H; obtain ⟨⟨t366, t367⟩, A20, H⟩ := H; replace H : ((spec_l20Tree.f k t366 t367 9).bind fun bt369 => ((spec_l20Node.f k t366 bt369.2).bind fun bt373 => (some (bt369.1, bt373.1)))) = some (r1, r2) := H; have A2 := am_ A20; clear A20; replace H := Option.bind_eq_some_iff.mp H; obtain ⟨⟨t369, t372⟩, A30, H⟩ := H; replace H : ((spec_l20Node.f k t366 t372).bind fun bt373 => (some (t369, bt373.1))) = some (r1, r2) := H; have A3 := am_ A30; clear A30; replace H := Option.bind_eq_some_iff.mp H; obtain ⟨⟨t373, t374⟩, A40, H⟩ := H; replace H : (some (t369, t373)) = some (r1, r2) := H; have A4 := am_ A40; clear A40; simp only [Option.some.injEq, Prod.mk.injEq] at H; obtain ⟨rfl, rfl⟩ := H; go_enter Tryd.func62, Tryd.ntmps62; go_wp2_with (first | ((with_reducible refine gate_dst (N := 2) rfl ?_); refine box_event ?hg (N := 2) ?hd (cs := #[.slice none 0 0]) (t := 55) ?hr ?_; (case hd => rfl); (case hg => rfl); (case hr => first | (go_simp; done) | (go_simp; rfl)); intro gb365 hg w5 hbox hb; have BK365 := am_ (hbox); have GW365 := am_ ((by rw [hg]; exact (below_size (y7_ HB.out)) : w.heap.size ≤ gb365)); have GE365 := am_ ((by rw [hg]; exact (below_size (y7_ HB.out)) : w.heap.size ≤ gb365)); replace HB := am_ (below_step (y7_ HB.out) hb); clear hb hbox hg) | ((with_reducible refine gate_callee (f := 65) rfl ?_); refine goesL_ (some 6) rfl rfl Tryd.func65 (by kernel_rfl) rfl #[.slice A0 l0.length c0] rfl y1_ ?_; (with_reducible refine (spec_l20Open.calls _ _ l0 t366 t367 w _ ?side1 ?side2 ?side3 A2.out).mono ?_); (case side1 => exact y8_ HB.out GE365.out); (case side2 => exact HR0.out); (case side3 => exact HC0.out); rintro e w6 ⟨g368, rfl, hi, hb, hb2⟩; refine ⟨_, rfl, ?_⟩; replace HB := am_ (hb); have HI368 := am_ (hi); have NB368_365 := am_ (IsS81.ne_blk hi (blk_below (g := gb365) (o := .cells #[.slice none 0 0] 55 (0, 0)) (y12_ BK365.out) hb2) (by decide)); have NB365_368 := am_ (Ne.symm (IsS81.ne_blk hi (blk_below (g := gb365) (o := .cells #[.slice none 0 0] 55 (0, 0)) (y12_ BK365.out) hb2) (by decide))); replace BK365 := am_ (blk_below (g := gb365) (o := .cells #[.slice none 0 0] 55 (0, 0)) (y12_ BK365.out) hb2); (try clear hb); (try clear hb2); (try clear hk); (try clear hi)) | ((with_reducible refine gate_callee (f := 86) rfl ?_); refine goesL_ (some 8) rfl rfl Tryd.func86 (by kernel_rfl) rfl #[.pointer (some ⟨g368, 0, none⟩), .int .i64 9] rfl y1_ ?_; (with_reducible refine (spec_l20Tree.calls k g368 t366 t367 9 t369 t372 w _ ?side1 ?side2 A3.out).mono ?_); (case side1 => repeat (first | (with_reducible first | exact HI368.out | apply IsS81.alloc | apply IsS81.drewN | apply IsS81.drew | apply IsS81.set_1 | refine IsS81.far ?_ NB368_365.out _) | exact HI368.out)); (case side2 => repeat (first | (with_reducible first | exact HB.out | apply below_alloc | apply pw_below_drewN | apply below_drew1 | refine below_set ?_ (IsS81.ge HI368.out) | refine below_set ?_ GE365.out) | exact HB.out)); rintro e w7 ⟨v370, rfl, ho0, hi, hb, hk⟩; refine ⟨_, rfl, ?_⟩; replace BK365 := am_ (KeepBut.blk hk (g' := gb365) (o := .cells #[.slice none 0 0] 55 (0, 0)) (y12_ BK365.out) NB365_368.out (by simp)); have HO371 := am_ (Kd.Q_lower ho0 (below_size (by repeat (first | (with_reducible first | exact HB.out | apply below_alloc | apply pw_below_drewN | apply below_drew1 | refine below_set ?_ (IsS81.ge HI368.out) | refine below_set ?_ GE365.out) | exact HB.out)))); replace HB := am_ (hb); replace HI368 := am_ (hi); (try clear hb); (try clear hb2); (try clear hk); (try clear hi); (try clear ho0)) | ((with_reducible refine gate_callee (f := 66) rfl ?_); refine goesL_ (some 10) rfl rfl Tryd.func66 (by kernel_rfl) rfl #[.pointer (some ⟨g368, 0, none⟩)] rfl y1_ ?_; (with_reducible refine (spec_l20Node.calls k g368 t366 t372 t373 t374 w _ ?side1 ?side2 A4.out).mono ?_); (case side1 => repeat (first | (with_reducible first | exact HI368.out | apply IsS81.alloc | apply IsS81.drewN | apply IsS81.drew | apply IsS81.set_1 | refine IsS81.far ?_ NB368_365.out _) | exact HI368.out)); (case side2 => repeat (first | (with_reducible first | exact HB.out | apply below_alloc | apply pw_below_drewN | apply below_drew1 | refine below_set ?_ (IsS81.ge HI368.out) | refine below_set ?_ GE365.out) | exact HB.out)); rintro e w8 ⟨rfl, hi, hb, hk⟩; refine ⟨_, rfl, ?_⟩; replace BK365 := am_ (KeepBut.blk hk (g' := gb365) (o := .cells #[.slice none 0 0] 55 (0, 0)) (y12_ BK365.out) NB365_368.out (by simp)); replace HO371 := am_ (Kd.Q_mono (Kd.Q_keep (IsS81.apartQ (show IsS81 w _ g368 t366 t372 from by repeat (first | (with_reducible first | exact HI368.out | apply IsS81.alloc | apply IsS81.drewN | apply IsS81.drew | apply IsS81.set_1 | refine IsS81.far ?_ NB368_365.out _) | exact HI368.out)) (y13_ HO371.out) (by decide)) hk (fun _ h => h.2)) (fun _ h => h.1)); replace HB := am_ (hb); replace HI368 := am_ (hi); (try clear hi hb hk); obtain ⟨Ao9, co9, eo9, _⟩ := Kd.Q_slice HO371.out; subst eo9; have hnb10 := NB365_368.out; have hnc10 := NB368_365.out; have hcz11_0 : w8.cell? ⟨gb365, 0, none⟩ = some (.slice none 0 0) := (blk_cell BK365.out 0).trans rfl; have hfz11_0 := blk_frozen BK365.out 0)); refine bodyPost_ret (results_ct rfl _ _ gb365 55 #[.slice Ao9 t369.length co9] (0, 0) _ rfl (by (with_reducible repeat (first | refine blk_drewN ?_ _ | refine blk_drew ?_ | refine blk_alloc ?_ _)); refine blk_put (cs := #[.slice none 0 0]) ?_ 0 _ y5_; (with_reducible repeat (first | refine blk_drewN ?_ _ | refine blk_drew ?_ | refine blk_alloc ?_ _)); exact BK365.out) Tryd.underlying55 rfl (by kernel_rfl)) rfl ?_; exact ⟨_, y6_, by (with_reducible repeat (first | apply Kd.Q_alloc | apply Kd.Q_drewN | apply Kd.Q_drew)); exact Kd.Q_mono (Kd.Q_far (p := ⟨gb365, 0, none⟩) (Kd.Q_types HO371.out BK365.out (by decide)) (fun _ hk => hk.2) (.slice Ao9 t369.length co9)) (fun _ hk => trivial), by repeat (first | (with_reducible first | exact HB.out | apply below_alloc | apply pw_below_drewN | apply below_drew1 | refine below_set ?_ (IsS81.ge HI368.out) | refine below_set ?_ GE365.out) | exact HB.out)⟩

/-! ### impl_TreTree_cover: function 94 -/
def impl_TreTree_cover.f : Nat → List ByteArray → Int → Option (List Int)
  | 0, _, _ => none
  | k + 1, l0_0, a1 => if 0 ≤ a1 then (if a1 < (l0_0.length : Int) then (if (rdOf ByteArray.empty l0_0 a1).toList = ([] : List UInt8) then (if a1 ≥ 7 then (some ([] : List Int)) else ((impl_TreTree_cover.f k l0_0 (wrap64 ((wrap64 (2 * a1)) + 1))).bind fun t380 => ((impl_TreTree_cover.f k l0_0 (wrap64 ((wrap64 (2 * a1)) + 2))).bind fun t383 => (if t380.length + t383.length < 17592186044416 then (some (t380 ++ t383)) else (none))))) else (some (([a1] : List Int)))) else (none)) else (none)
theorem impl_TreTree_cover.mono_l : ∀ k, (∀ y0 y1, LeO (impl_TreTree_cover.f k y0 y1) (impl_TreTree_cover.f (k + 1) y0 y1))
  | 0 => fun _ _ r h => by simp [impl_TreTree_cover.f] at h
  | k + 1 => by
    have ih0 := impl_TreTree_cover.mono_l k
    · intro y0 y1
      unfold impl_TreTree_cover.f
      repeat' first
      | (with_reducible exact ih0 _ _)
      | (with_reducible exact LeO.refl _)
      | (with_reducible exact LeO.none _)
      | (with_reducible refine LeO.ite ?_ ?_)
      | (with_reducible refine LeO.bind ?_ (fun _ => ?_))
      | exact LeO.none _
      | refine LeO.ite ?_ ?_
      | refine LeO.bind ?_ (fun _ => ?_)
theorem impl_TreTree_cover.mono : ∀ a0 a1 k, LeO (impl_TreTree_cover.f k a0 a1) (impl_TreTree_cover.f (k + 1) a0 a1) := by
  intro a0 a1 k; have ih0 := impl_TreTree_cover.mono_l k; exact ih0 a0 a1
def impl_TreTree_cover.T5 : Bool × List (List Nat × List Nat) := (true, [([], []), ([], []), ([1], [1]), ([2], [2]), ([0, 3], [0, 3]), ([], []), ([], []), ([6], [6]), ([7], [7]), ([5, 8, 4], [5, 8]), ([4, 9, 9], [4, 9]), ([10, 10, 0, 1, 2, 3, 4, 5, 6, 7, 8, 9, 10], [10])])
def impl_TreTree_cover.B5 : List Nat := [0, 0, 2, 6, 15, 0, 0, 64, 192, 511, 1023, 2047]
theorem impl_TreTree_cover.tab5 : rtab .any (opsOf Tryd.f94 5) = impl_TreTree_cover.T5 := by kernel_rfl
theorem impl_TreTree_cover.bits5 : waitsOk impl_TreTree_cover.T5.2 impl_TreTree_cover.B5 = true := by kernel_rfl
set_option maxHeartbeats 8000000 in
set_option maxRecDepth 100000 in
theorem impl_TreTree_cover.calls (k : Nat) : ∀ (A0_0 : Option Addr) (c0_0 : Nat) (l0_0 : List ByteArray) (a1 : Int) (r : List Int) (w : World) (hr0_0 : Kd.C Kd.string w A0_0 l0_0.length l0_0) (hc0_0 : l0_0.length ≤ c0_0) (h : impl_TreTree_cover.f k l0_0 a1 = some r),
    Calls Tryd.prog 94 #[.agg #[.slice A0_0 l0_0.length c0_0], .int .i64 a1] w fun e w' => ∃ v0_ : Value, e = .returned (v0_) ∧ Kd.R (Kd.int .i64) 3 w' w.heap.size (fun _ => True) v0_ r ∧ Below w.heap.size w w' := by
  induction k using Nat.strongRecOn with
  | _ k ih =>
  intro A0_0 c0_0 l0_0 a1 r w hr0_0 hc0_0 h
  cases k with
  | zero => exact absurd h (by simp [impl_TreTree_cover.f])
  | succ k =>
  simp only [impl_TreTree_cover.f] at h; have hu55 := Tryd.underlying55; have HR0_0 := am_ hr0_0; have HC0_0 := am_ hc0_0; clear hr0_0 hc0_0; have HB := am_ (Below.refl w.heap.size w); have H : (if 0 ≤ a1 then (if a1 < (l0_0.length : Int) then (if (rdOf ByteArray.empty l0_0 a1).toList = ([] : List UInt8) then (if a1 ≥ 7 then (some ([] : List Int)) else ((impl_TreTree_cover.f k l0_0 (wrap64 ((wrap64 (2 * a1)) + 1))).bind fun t380 => ((impl_TreTree_cover.f k l0_0 (wrap64 ((wrap64 (2 * a1)) + 2))).bind fun t383 => (if t380.length + t383.length < 17592186044416 then (some (t380 ++ t383)) else (none))))) else (some (([a1] : List Int)))) else (none)) else (none)) = some r := h; clear h; by_cases c3 : 0 ≤ a1
  · rw [if_pos c3] at H
    have c3b0 : decide (0 ≤ a1) = true := decide_eq_true c3; clear c3; by_cases c4 : a1 < (l0_0.length : Int)
    · rw [if_pos c4] at H
      have c4b0 : decide (a1 < (l0_0.length : Int)) = true := decide_eq_true c4; clear c4; by_cases c5 : (rdOf ByteArray.empty l0_0 a1).toList = ([] : List UInt8)
      · rw [if_pos c5] at H
        have c5b0 : ((rdOf ByteArray.empty l0_0 a1).toList == ([] : List UInt8)) = true := beq_iff_eq.mpr c5; have c5b1 : ((rdOf ByteArray.empty l0_0 a1).toList != ([] : List UInt8)) = false := bne_eq_false_iff_eq.mpr c5; clear c5; by_cases c6 : a1 ≥ 7
        · rw [if_pos c6] at H
          have c6b0 : decide (7 ≤ a1) = true := decide_eq_true c6; clear c6; obtain rfl := Option.some.inj H; go_enter Tryd.func94, Tryd.ntmps94; go_wp2_with (first | ((with_reducible refine gate_dst (N := 2) rfl ?_); refine box_event ?hg (N := 2) ?hd (cs := #[.slice A0_0 l0_0.length c0_0]) (t := 55) ?hr ?_; (case hd => rfl); (case hg => rfl); (case hr => first | (go_simp; done) | (go_simp; rfl)); intro gb375 hg w7 hbox hb; have BK375 := am_ (hbox); have GW375 := am_ ((by rw [hg]; exact (below_size (y7_ HB.out)) : w.heap.size ≤ gb375)); have GE375 := am_ ((by rw [hg]; exact (below_size (y7_ HB.out)) : w.heap.size ≤ gb375)); replace HB := am_ (below_step (y7_ HB.out) hb); clear hb hbox hg; have hcz8_0 : w7.cell? ⟨gb375, 0, none⟩ = some (.slice A0_0 l0_0.length c0_0) := (blk_cell BK375.out 0).trans rfl; have hfz8_0 := blk_frozen BK375.out 0; have p376 : 0 ≤ (a1 : Int) := of_decide_eq_true y3_; have q376 : a1 < (l0_0.length : Int) := of_decide_eq_true y3_; obtain ⟨ad376, e376, hx376_0⟩ := Kd.at_string HR0_0.out a1 p376 q376; cases e376; replace hx376_0 := (HB.out.cell (World.block_lt_of_cell? w _ hx376_0)).trans hx376_0; replace p376 := eq_true p376; replace q376 := eq_true q376)); go_ret; exact ⟨_, y6_, by first | exact Kd.R_nil _ _ _ _ _ | exact Kd.N_nil _ _ _ _ _ | exact Kd.V_nil _ _ _ _ _ | exact Kd.Q_nil _ _ _ _ _ | exact Kd.S_nil _ _ _ _ _, y8_ HB.out GE375.out⟩
        rw [if_neg c6] at H; have c6b0 : decide (7 ≤ a1) = false := decide_eq_false c6; clear c6; replace H := Option.bind_eq_some_iff.mp H; obtain ⟨t380, A90, H⟩ := H; replace H : ((impl_TreTree_cover.f k l0_0 (wrap64 ((wrap64 (2 * a1)) + 2))).bind fun t383 => (if t380.length + t383.length < 17592186044416 then (some (t380 ++ t383)) else (none))) = some r := H; have A9 := am_ A90; clear A90; replace H := Option.bind_eq_some_iff.mp H; obtain ⟨t383, A100, H⟩ := H; replace H : (if t380.length + t383.length < 17592186044416 then (some (t380 ++ t383)) else (none)) = some r := H; have A10 := am_ A100; clear A100; by_cases c11 : t380.length + t383.length < 17592186044416
        · rw [if_pos c11] at H
          have LMc11 := am_ c11; clear c11
          obtain ⟨y386, hy386⟩ : ∃ y_ : List Int, y_ = (t380 ++ t383) := ⟨_, rfl⟩
          replace H : (some y386) = some r := by first | (rw [hy386]; with_reducible exact H) | (have H2_ := (Option.bind_some _ _).symm.trans H; rw [hy386]; with_reducible exact H2_) | (have H2_ := (Option.bind_some _ _).symm.trans H; with_reducible exact H2_) | with_reducible exact H | (rw [hy386]; exact H) | exact H
          have Ny386 := am_ hy386; clear hy386; obtain rfl := Option.some.inj H; go_enter Tryd.func94, Tryd.ntmps94
          try go_wp2_with (first | ((with_reducible refine gate_dst (N := 2) rfl ?_); refine box_event ?hg (N := 2) ?hd (cs := #[.slice A0_0 l0_0.length c0_0]) (t := 55) ?hr ?_; (case hd => rfl); (case hg => rfl); (case hr => first | (go_simp; done) | (go_simp; rfl)); intro gb375 hg w12 hbox hb; have BK375 := am_ (hbox); have GW375 := am_ ((by rw [hg]; exact (below_size (y7_ HB.out)) : w.heap.size ≤ gb375)); have GE375 := am_ ((by rw [hg]; exact (below_size (y7_ HB.out)) : w.heap.size ≤ gb375)); replace HB := am_ (below_step (y7_ HB.out) hb); clear hb hbox hg; have hcz13_0 : w12.cell? ⟨gb375, 0, none⟩ = some (.slice A0_0 l0_0.length c0_0) := (blk_cell BK375.out 0).trans rfl; have hfz13_0 := blk_frozen BK375.out 0; have p376 : 0 ≤ (a1 : Int) := of_decide_eq_true y3_; have q376 : a1 < (l0_0.length : Int) := of_decide_eq_true y3_; obtain ⟨ad376, e376, hx376_0⟩ := Kd.at_string HR0_0.out a1 p376 q376; cases e376; replace hx376_0 := (HB.out.cell (World.block_lt_of_cell? w _ hx376_0)).trans hx376_0; replace p376 := eq_true p376; replace q376 := eq_true q376))
          have n0_ := am_ (blk_drew BK375.out); have n1_ := am_ (below_drew1 HB.out); clear BK375; clear HB; have BK375 := n0_; have HB := n1_; clear n0_ n1_; refine start_ (n := 12) (S := fun w' => w'.cell? ⟨gb375, 0, none⟩ = some (.slice (some ad376) l0_0.length c0_0)) (ds := []) #[false, false, false, false, false, false, false, false, false, false, false, false] (by kernel_rfl) rfl rfl ((blk_cell BK375.out 0).trans rfl) (fun hHeld => ?_); refine with_tabW impl_TreTree_cover.tab5 impl_TreTree_cover.bits5 (fun HT_ HW_ => ?_); generalize w12.drew = w14 at BK375 HB hHeld ⊢; refine pure_ (i := 1) (N := some 18) (v := ?_) (a' := ?_) #[false, true, false, false, false, false, false, false, false, false, false, false] rfl rfl (any_of HT_.out (by kernel_rfl)) (fun _ _ _ h => h) (Or.inl ⟨by rfl, ?_⟩) ?_ ?_; rotate_left
          · intro w'
            go_simp
            with_reducible rfl
          rotate_left
          · simp only [Act.put, List.setIfInBounds_toArray, List.set_cons_zero, List.set_cons_succ, i64_w, i32_w]
            rfl
          refine pure_ (i := 2) (N := some 19) (v := ?_) (a' := ?_) #[false, true, true, false, false, false, false, false, false, false, false, false] rfl rfl (any_of HT_.out (by kernel_rfl)) (fun _ _ _ h => h) (Or.inl ⟨by rfl, ?_⟩) ?_ ?_; rotate_left
          · intro w'
            go_simp
            with_reducible rfl
          rotate_left
          · simp only [Act.put, List.setIfInBounds_toArray, List.set_cons_zero, List.set_cons_succ, i64_w, i32_w]
            rfl
          refine pure_ (i := 3) (N := some 20) (v := ?_) (a' := ?_) #[false, true, true, true, false, false, false, false, false, false, false, false] rfl rfl (any_of HT_.out (by kernel_rfl)) (fun _ _ _ h => h) (Or.inl ⟨by rfl, ?_⟩) ?_ ?_; rotate_left
          · intro w'
            go_simp
            with_reducible rfl
          rotate_left
          · simp only [Act.put, List.setIfInBounds_toArray, List.set_cons_zero, List.set_cons_succ, i64_w, i32_w]
            rfl
          refine pure_ (i := 6) (N := some 23) (v := ?_) (a' := ?_) #[false, true, true, true, false, false, true, false, false, false, false, false] rfl rfl (any_of HT_.out (by kernel_rfl)) (fun _ _ _ h => h) (Or.inl ⟨by rfl, ?_⟩) ?_ ?_; rotate_left
          · intro w'
            go_simp
            with_reducible rfl
          rotate_left
          · simp only [Act.put, List.setIfInBounds_toArray, List.set_cons_zero, List.set_cons_succ, i64_w, i32_w]
            rfl
          refine pure_ (i := 7) (N := some 24) (v := ?_) (a' := ?_) #[false, true, true, true, false, false, true, true, false, false, false, false] rfl rfl (any_of HT_.out (by kernel_rfl)) (fun _ _ _ h => h) (Or.inl ⟨by rfl, ?_⟩) ?_ ?_; rotate_left
          · intro w'
            go_simp
            with_reducible rfl
          rotate_left
          · simp only [Act.put, List.setIfInBounds_toArray, List.set_cons_zero, List.set_cons_succ, i64_w, i32_w]
            rfl
          refine pure_ (i := 8) (N := some 25) (v := ?_) (a' := ?_) #[false, true, true, true, false, false, true, true, true, false, false, false] rfl rfl (any_of HT_.out (by kernel_rfl)) (fun _ _ _ h => h) (Or.inl ⟨by rfl, ?_⟩) ?_ ?_; rotate_left
          · intro w'
            go_simp
            with_reducible rfl
          rotate_left
          · simp only [Act.put, List.setIfInBounds_toArray, List.set_cons_zero, List.set_cons_succ, i64_w, i32_w]
            rfl
          refine take_ (i := 0) (N := some 17) (v := ?_) (a' := ?_) #[true, true, true, true, false, false, true, true, true, false, false, false] rfl rfl (take_ofW HT_.out HW_.out (by kernel_rfl)) (fun _ _ _ h => h) (Or.inl ⟨by rfl, ?_⟩) hHeld ?_ ?_; rotate_left
          · intro w' s0
            go_simp
            with_reducible rfl
          rotate_left
          · simp only [Act.put, List.setIfInBounds_toArray, List.set_cons_zero, List.set_cons_succ, i64_w, i32_w]
            rfl
          refine take_ (i := 5) (N := some 22) (v := ?_) (a' := ?_) #[true, true, true, true, false, true, true, true, true, false, false, false] rfl rfl (take_ofW HT_.out HW_.out (by kernel_rfl)) (fun _ _ _ h => h) (Or.inl ⟨by rfl, ?_⟩) hHeld ?_ ?_; rotate_left
          · intro w' s0
            go_simp
            with_reducible rfl
          rotate_left
          · simp only [Act.put, List.setIfInBounds_toArray, List.set_cons_zero, List.set_cons_succ, i64_w, i32_w]
            rfl
          refine one_ (i := 4) (N := some 21) #[true, true, true, true, true, true, true, true, true, false, false, false] rfl rfl (one_of HT_.out (by kernel_rfl)) (by decide) (fun K hK => ?_); refine goes_ Tryd.func94 (by kernel_rfl) rfl #[.agg #[.slice (some ad376) l0_0.length c0_0], .int .i64 (wrap64 ((wrap64 (2 * a1)) + 1))] (by rfl) rfl rfl y1_ ?_
          with_reducible refine (ih k (by omega) _ _ l0_0 (wrap64 ((wrap64 (2 * a1)) + 1)) t380 _ ?side1 ?side2 A9.out).mono ?_
          (case side1 => repeat (first | exact (Kd.C_below HR0_0.out HB.out) | (with_reducible refine Kd.C_alloc ?_ _) | (with_reducible refine Kd.C_drewN ?_ _) | (with_reducible refine Kd.C_drew ?_)))
          (case side2 => exact HC0_0.out)
          rintro e w15 ⟨v381, rfl, ho0, hb⟩; refine ⟨_, rfl, ?_⟩; have n0_ := am_ (Kd.R_lower ho0 (below_size (y8_ HB.out GE375.out))); have n1_ := am_ (blk_below (g := gb375) (o := .cells #[.slice (some ad376) l0_0.length c0_0] 55 (0, 0)) (y12_ BK375.out) hb); have n2_ := am_ (below_step (y8_ HB.out GE375.out) hb); clear BK375; clear HB; have HO382 := n0_; have BK375 := n1_; have HB := n2_; clear n0_ n1_ n2_; (try clear hb); (try clear hb2); (try clear hk); (try clear hi); (try clear ho0); refine hK.out _ _ ((blk_cell BK375.out 0).trans rfl) (fun hHeld => ?_); clear hK K; refine norm_ (a' := ?_) ?_ ?_; rotate_left
          · show Act.put _ (some 21) _ = _
            simp only [Act.put, List.setIfInBounds_toArray, List.set_cons_zero, List.set_cons_succ, i64_w, i32_w]
            rfl
          refine one_ (i := 9) (N := some 26) #[true, true, true, true, true, true, true, true, true, true, false, false] rfl rfl (one_of HT_.out (by kernel_rfl)) (by decide) (fun K hK => ?_); refine goes_ Tryd.func94 (by kernel_rfl) rfl #[.agg #[.slice (some ad376) l0_0.length c0_0], .int .i64 (wrap64 ((wrap64 (2 * a1)) + 2))] (by rfl) rfl rfl y1_ ?_
          with_reducible refine (ih k (by omega) _ _ l0_0 (wrap64 ((wrap64 (2 * a1)) + 2)) t383 _ ?side1 ?side2 A10.out).mono ?_
          (case side1 => repeat (first | exact (Kd.C_below HR0_0.out HB.out) | (with_reducible refine Kd.C_alloc ?_ _) | (with_reducible refine Kd.C_drewN ?_ _) | (with_reducible refine Kd.C_drew ?_)))
          (case side2 => exact HC0_0.out)
          rintro e w16 ⟨v384, rfl, ho0, hb⟩; refine ⟨_, rfl, ?_⟩; have n0_ := am_ (Kd.R_elder' (y11_ HO382.out) (Kd.R_base ho0) hb); have n1_ := am_ (Kd.R_lower (Kd.R_new' ho0 (Kd.R_lt (y11_ HO382.out))) (below_size (y8_ HB.out GE375.out))); have n2_ := am_ (blk_below (g := gb375) (o := .cells #[.slice (some ad376) l0_0.length c0_0] 55 (0, 0)) (y12_ BK375.out) hb); have n3_ := am_ (below_step (y8_ HB.out GE375.out) hb); clear HO382; clear BK375; clear HB; have HO382 := n0_; have HO385 := n1_; have BK375 := n2_; have HB := n3_; clear n0_ n1_ n2_ n3_; (try clear hb); (try clear hb2); (try clear hk); (try clear hi); (try clear ho0); obtain ⟨Ao18, co18, eo18⟩ := Kd.R_slice HO385.out; (first | subst eo18 | (injection eo18 with f1_ f2_ f3_; have f4_ := f1_.symm; have f5_ := f3_.symm; clear f1_ f2_ f3_; subst f4_; subst f5_)); refine hK.out _ _ ((blk_cell BK375.out 0).trans rfl) (fun hHeld => ?_); clear hK K; refine norm_ (a' := ?_) ?_ ?_; rotate_left
          · show Act.put _ (some 26) _ = _
            simp only [Act.put, List.setIfInBounds_toArray, List.set_cons_zero, List.set_cons_succ, i64_w, i32_w]
            rfl
          refine one_ (i := 10) (N := some 27) #[true, true, true, true, true, true, true, true, true, true, true, false] rfl rfl (one_of HT_.out (by kernel_rfl)) (by decide) (fun K hK => ?_); refine Kd.R_append_rows_step (Kd.int .i64) (w0 := w) w.heap.size (by rfl) (.tmp 21) (.tmp 26) 27 3 (.int .i64 0) 8 rfl Tryd.underlying27 info3 rfl (by decide) (by omega) v381 t380 t383 _ _ _ (fun k_ => some k_ ≠ (.slice Ao18 t383.length co18 : Value).ownBlock) (fun _ => False) rfl rfl ?aO ?aR (fun _ _ h => h) (fun _ h => h.elim) ?aF ?aB ?aS ?aL ?_
          (case aR => repeat (first | exact (Kd.R_reads' HO385.out).2.2 | (with_reducible refine Kd.C_alloc ?_ _) | (with_reducible refine Kd.C_drewN ?_ _) | (with_reducible refine Kd.C_drew ?_)))
          (case aB => exact (y8_ HB.out GE375.out))
          (case aF => exact (fun k_ hk => Kd.fresh' (Kd.R_lt (y11_ HO385.out)) k_ hk))
          (case aO => exact (by (with_reducible repeat (first | apply Kd.R_alloc | apply Kd.R_drewN | apply Kd.R_drew)); exact Kd.R_mono HO382.out (fun _ hk => hk.2)))
          (case aS => exact (below_size (y8_ HB.out GE375.out)))
          (case aL => have := LMc11.out; omega)
          intro v387 w17 ho hb hg hat; rw [← Ny386.out] at ho; have n0_ := am_ (blk_grown (g := gb375) (o := .cells #[.slice (some ad376) l0_0.length c0_0] 55 (0, 0)) (y12_ BK375.out) hg (Kd.R_ne HO382.out BK375.out (by decide))); have n1_ := am_ (Kd.R_after (ok := (fun _ => True)) (y11_ HO385.out) hg hat); have n2_ := am_ (hb); have n3_ := am_ (ho); clear BK375; clear HO385; clear HB; clear HO382; have BK375 := n0_; have HO385 := n1_; have HB := n2_; have HO388 := n3_; clear n0_ n1_ n2_ n3_; clear ho hb hg hat; refine hK.out _ _ ((blk_cell BK375.out 0).trans rfl) (fun hHeld => ?_); clear hK K; refine norm_ (a' := ?_) ?_ ?_; rotate_left
          · show Act.put _ (some 27) _ = _
            simp only [Act.put, List.setIfInBounds_toArray, List.set_cons_zero, List.set_cons_succ, i64_w, i32_w]
            rfl
          refine pure_ (i := 11) (N := some 4) (v := ?_) (a' := ?_) #[true, true, true, true, true, true, true, true, true, true, true, true] rfl rfl (any_of HT_.out (by kernel_rfl)) (fun _ _ _ h => h) (Or.inl ⟨by rfl, ?_⟩) ?_ ?_; rotate_left
          · intro w'
            go_simp
            with_reducible rfl
          rotate_left
          · simp only [Act.put, List.setIfInBounds_toArray, List.set_cons_zero, List.set_cons_succ, i64_w, i32_w]
            rfl
          refine done_ (done_of HT_.out (by kernel_rfl)) ?_
          try go_wp2
          go_ret; exact ⟨_, y6_, by (with_reducible repeat (first | apply Kd.R_alloc | apply Kd.R_drewN | apply Kd.R_drew)); exact Kd.R_mono HO388.out (fun _ hk => trivial), y8_ HB.out GE375.out⟩
        rw [if_neg c11] at H; exact absurd H (by simp)
      rw [if_neg c5] at H; have c5b0 : ((rdOf ByteArray.empty l0_0 a1).toList == ([] : List UInt8)) = false := beq_eq_false_iff_ne.mpr c5; have c5b1 : ((rdOf ByteArray.empty l0_0 a1).toList != ([] : List UInt8)) = true := bne_iff_ne.mpr c5
      obtain ⟨y377, hy377⟩ : ∃ y_ : List Int, y_ = (([a1] : List Int)) := ⟨_, rfl⟩
      replace H : (some y377) = some r := by first | (rw [hy377]; with_reducible exact H) | (have H2_ := (Option.bind_some _ _).symm.trans H; rw [hy377]; with_reducible exact H2_) | (have H2_ := (Option.bind_some _ _).symm.trans H; with_reducible exact H2_) | with_reducible exact H | (rw [hy377]; exact H) | exact H
      have Ny377 := am_ hy377; clear hy377; obtain rfl := Option.some.inj H; go_enter Tryd.func94, Tryd.ntmps94; go_wp2_with (first | ((with_reducible refine gate_dst (N := 2) rfl ?_); refine box_event ?hg (N := 2) ?hd (cs := #[.slice A0_0 l0_0.length c0_0]) (t := 55) ?hr ?_; (case hd => rfl); (case hg => rfl); (case hr => first | (go_simp; done) | (go_simp; rfl)); intro gb375 hg w19 hbox hb; have BK375 := am_ (hbox); have GW375 := am_ ((by rw [hg]; exact (below_size (y7_ HB.out)) : w.heap.size ≤ gb375)); have GE375 := am_ ((by rw [hg]; exact (below_size (y7_ HB.out)) : w.heap.size ≤ gb375)); replace HB := am_ (below_step (y7_ HB.out) hb); clear hb hbox hg; have hcz20_0 : w19.cell? ⟨gb375, 0, none⟩ = some (.slice A0_0 l0_0.length c0_0) := (blk_cell BK375.out 0).trans rfl; have hfz20_0 := blk_frozen BK375.out 0; have p376 : 0 ≤ (a1 : Int) := of_decide_eq_true y3_; have q376 : a1 < (l0_0.length : Int) := of_decide_eq_true y3_; obtain ⟨ad376, e376, hx376_0⟩ := Kd.at_string HR0_0.out a1 p376 q376; cases e376; replace hx376_0 := (HB.out.cell (World.block_lt_of_cell? w _ hx376_0)).trans hx376_0; replace p376 := eq_true p376; replace q376 := eq_true q376) | ((with_reducible refine gate_dst (N := 13) rfl ?_); refine Kd.R_lit (Kd.int .i64) _ 3 ?hg (N := 13) ?hd (xs := ([a1] : List Int)) (inner := [.int .i64 a1]) (ok := fun _ => True) (okp := fun _ => True) ?hr ?hp (fun _ hk => hk) trivial (Below.refl _ _) (Nat.le_refl _) (by simp) ?_; (case hd => rfl); (case hg => rfl); (case hr => first | (go_simp; done) | (go_simp; rfl)); (case hp => exact (Reps.one (show Kd.M (Kd.int .i64) _ _ _ a1 [.int .i64 a1] from rfl) (Reps.none _ _))); intro v378 w21 ho22 hb hg_ hnew_; clear hg_ hnew_; (first | rw [← Ny377.out] at ho22 | (simp only [Int.reduceToNat] at ho22; rw [← Ny377.out] at ho22)); have HO379 := am_ (Kd.R_lower ho22 (below_size (y8_ HB.out GE375.out))); replace BK375 := am_ (blk_below (g := gb375) (o := .cells #[.slice (some ad376) l0_0.length c0_0] 55 (0, 0)) (y12_ BK375.out) hb); replace HB := am_ (below_step (y8_ HB.out GE375.out) hb); clear hb ho22)); go_ret; exact ⟨_, y6_, by (with_reducible repeat (first | apply Kd.R_alloc | apply Kd.R_drewN | apply Kd.R_drew)); exact HO379.out, y8_ HB.out GE375.out⟩
    rw [if_neg c4] at H; exact absurd H (by simp)
  rw [if_neg c3] at H; exact absurd H (by simp)

/-! ### impl_TreCover: function 63 -/
def impl_TreCover.j0 : Nat → Int → Bool → List ByteArray → Option (List Int)
  | 0, _, _, _ => none
  | k + 1, x1, x12, x390000 => if x12 = true then (some ([] : List Int)) else ((impl_TreTree_cover.f k x390000 x1).bind fun t392 => ((impl_clone_int.f t392).bind fun t395 => (some t395)))
def impl_TreCover.f (k : Nat) (l0_0 : List ByteArray) (a1 : Int) : Option (List Int) := (impl_TreOk.f l0_0).bind fun t390 => (if t390 = true then ((impl_isNode.f a1).bind fun t391 => (impl_TreCover.j0 k a1 (!t391) l0_0)) else (impl_TreCover.j0 k a1 true l0_0))
theorem impl_TreCover.mono_l : ∀ k, (∀ y0 y1 y2, LeO (impl_TreCover.j0 k y0 y1 y2) (impl_TreCover.j0 (k + 1) y0 y1 y2))
  | 0 => fun _ _ _ r h => by simp [impl_TreCover.j0] at h
  | k + 1 => by
    have ih0 := impl_TreCover.mono_l k
    · intro y0 y1 y2
      unfold impl_TreCover.j0
      repeat' first
      | (with_reducible exact ih0 _ _ _)
      | (with_reducible exact impl_TreTree_cover.mono _ _ _)
      | (with_reducible exact LeO.refl _)
      | (with_reducible exact LeO.none _)
      | (with_reducible refine LeO.ite ?_ ?_)
      | (with_reducible refine LeO.bind ?_ (fun _ => ?_))
      | exact LeO.none _
      | refine LeO.ite ?_ ?_
      | refine LeO.bind ?_ (fun _ => ?_)
theorem impl_TreCover.mono : ∀ a0 a1 k, LeO (impl_TreCover.f k a0 a1) (impl_TreCover.f (k + 1) a0 a1) := by
  intro a0 a1 k; have ih0 := impl_TreCover.mono_l k; unfold impl_TreCover.f
  repeat' first
      | (with_reducible exact ih0 _ _ _)
      | (with_reducible exact impl_TreTree_cover.mono _ _ _)
      | (with_reducible exact LeO.refl _)
      | (with_reducible exact LeO.none _)
      | (with_reducible refine LeO.ite ?_ ?_)
      | (with_reducible refine LeO.bind ?_ (fun _ => ?_))
      | exact LeO.none _
      | refine LeO.ite ?_ ?_
      | refine LeO.bind ?_ (fun _ => ?_)
set_option maxHeartbeats 8000000 in
set_option maxRecDepth 100000 in
theorem impl_TreCover.calls (k : Nat) (A0_0 : Option Addr) (c0_0 : Nat) (l0_0 : List ByteArray) (a1 : Int) (r : List Int) (w : World) (hr0_0 : Kd.C Kd.string w A0_0 l0_0.length l0_0) (hc0_0 : l0_0.length ≤ c0_0) (hG : GlobOk w) (h : impl_TreCover.f k l0_0 a1 = some r) :
    Calls Tryd.prog 63 #[.agg #[.slice A0_0 l0_0.length c0_0], .int .i64 a1] w fun e w' => ∃ v0_ : Value, e = .returned (v0_) ∧ Kd.Q (Kd.int .i64) 3 w' w.heap.size (fun _ => True) v0_ r ∧ Below w.heap.size w w' := by
  have hu55 := Tryd.underlying55; have HR0_0 := am_ hr0_0; have HC0_0 := am_ hc0_0; clear hr0_0 hc0_0; have HB := am_ (Below.refl w.heap.size w); have HGL := am_ hG; clear hG; have H : ((impl_TreOk.f l0_0).bind fun t390 => (if t390 = true then ((impl_isNode.f a1).bind fun t391 => (impl_TreCover.j0 k a1 (!t391) l0_0)) else (impl_TreCover.j0 k a1 true l0_0))) = some r := h; clear h; have HC3 := am_ H; clear H; go_enter Tryd.func63, Tryd.ntmps63
  go_upto_region 1 with (first | ((with_reducible refine gate_dst (N := 2) rfl ?_); refine box_event ?hg (N := 2) ?hd (cs := #[.slice A0_0 l0_0.length c0_0]) (t := 55) ?hr ?_; (case hd => rfl); (case hg => rfl); (case hr => first | (go_simp; done) | (go_simp; rfl)); intro gb389 hg w4 hbox hb; have BK389 := am_ (hbox); have GW389 := am_ ((by rw [hg]; exact (below_size (y7_ HB.out)) : w.heap.size ≤ gb389)); have GE389 := am_ ((by rw [hg]; exact (below_size (y7_ HB.out)) : w.heap.size ≤ gb389)); replace HB := am_ (below_step (y7_ HB.out) hb); clear hb hbox hg))
  (try simp only [Act.put, List.setIfInBounds_toArray, List.set_cons_zero, List.set_cons_succ]); go_cut [12] (fun v12 wc => ∃ (kq : Nat) (x12_2 : Bool), v12 = .bool x12_2 ∧ Aside0 (impl_TreCover.j0 kq a1 x12_2 l0_0 = some r) ∧ Aside0 (kq ≤ k) ∧ Aside0 (wc.heap[gb389]? = some (.cells #[(.slice A0_0 l0_0.length c0_0)] 55 (0, 0))) ∧ Aside0 (Below w.heap.size w wc))
  case first =>
    have H := HC3.out; clear HC3; replace H := Option.bind_eq_some_iff.mp H; obtain ⟨t390, A50, H⟩ := H; replace H : (if t390 = true then ((impl_isNode.f a1).bind fun t391 => (impl_TreCover.j0 k a1 (!t391) l0_0)) else (impl_TreCover.j0 k a1 true l0_0)) = some r := H; have A5 := am_ A50; clear A50; by_cases c6 : t390 = true
    · subst c6
      have H1 : ((impl_isNode.f a1).bind fun t391 => (impl_TreCover.j0 k a1 (!t391) l0_0)) = some r := by rw [if_pos rfl] at H; exact H
      clear H; have H := H1; clear H1; replace H := Option.bind_eq_some_iff.mp H; obtain ⟨t391, A70, H⟩ := H; replace H : (impl_TreCover.j0 k a1 (!t391) l0_0) = some r := H; have A7 := am_ A70; clear A70; have H' := am_ H; clear H; have hcz8_0 : w4.cell? ⟨gb389, 0, none⟩ = some (.slice A0_0 l0_0.length c0_0) := (blk_cell BK389.out 0).trans rfl; have hfz8_0 := blk_frozen BK389.out 0; go_wp2_with (first | ((with_reducible refine gate_callee (f := 53) rfl ?_); refine goesL_ (some 6) rfl rfl Tryd.func53 (by kernel_rfl) rfl #[.agg #[.slice A0_0 l0_0.length c0_0]] rfl y1_ ?_; (with_reducible refine (impl_TreOk.calls _ _ l0_0 true _ ?side1 ?side2 ?side3 A5.out).mono ?_); (case side1 => repeat (first | exact (Kd.C_below HR0_0.out HB.out) | (with_reducible refine Kd.C_alloc ?_ _) | (with_reducible refine Kd.C_drewN ?_ _) | (with_reducible refine Kd.C_drew ?_))); (case side2 => exact HC0_0.out); (case side3 => exact GlobOk.below HGL.out (y8_ HB.out GE389.out)); rintro e w9 ⟨rfl, hb⟩; refine ⟨_, rfl, ?_⟩; replace BK389 := am_ (blk_below (g := gb389) (o := .cells #[.slice A0_0 l0_0.length c0_0] 55 (0, 0)) (y12_ BK389.out) hb); replace HB := am_ (below_step (y8_ HB.out GE389.out) hb); clear hb) | (go_at_call 67; (with_reducible refine (impl_isNode.calls a1 t391 _ A7.out).mono ?_); rintro e w' ⟨rfl, ⟨nd, rfl⟩⟩)); go_meet
      case rel => exact ⟨_, (!t391), y4_, H', ⟨by first | omega | exact Nat.le_refl _⟩, ⟨by (with_reducible repeat (first | refine blk_drewN ?_ _ | refine blk_drew ?_ | refine blk_alloc ?_ _)); exact BK389.out⟩, ⟨y8_ HB.out GE389.out⟩⟩
    replace c6 := Bool.eq_false_iff.mpr c6; subst c6
    have H1 : (impl_TreCover.j0 k a1 true l0_0) = some r := by rw [if_neg (show ¬ (false = true) by decide)] at H; exact H
    clear H; have H := H1; clear H1; have H' := am_ H; clear H; have hcz10_0 : w4.cell? ⟨gb389, 0, none⟩ = some (.slice A0_0 l0_0.length c0_0) := (blk_cell BK389.out 0).trans rfl; have hfz10_0 := blk_frozen BK389.out 0; go_wp2_with (first | ((with_reducible refine gate_callee (f := 53) rfl ?_); refine goesL_ (some 6) rfl rfl Tryd.func53 (by kernel_rfl) rfl #[.agg #[.slice A0_0 l0_0.length c0_0]] rfl y1_ ?_; (with_reducible refine (impl_TreOk.calls _ _ l0_0 false _ ?side1 ?side2 ?side3 A5.out).mono ?_); (case side1 => repeat (first | exact (Kd.C_below HR0_0.out HB.out) | (with_reducible refine Kd.C_alloc ?_ _) | (with_reducible refine Kd.C_drewN ?_ _) | (with_reducible refine Kd.C_drew ?_))); (case side2 => exact HC0_0.out); (case side3 => exact GlobOk.below HGL.out (y8_ HB.out GE389.out)); rintro e w11 ⟨rfl, hb⟩; refine ⟨_, rfl, ?_⟩; replace BK389 := am_ (blk_below (g := gb389) (o := .cells #[.slice A0_0 l0_0.length c0_0] 55 (0, 0)) (y12_ BK389.out) hb); replace HB := am_ (below_step (y8_ HB.out GE389.out) hb); clear hb)); go_meet
    case rel => exact ⟨_, (true), y4_, H', ⟨by first | omega | exact Nat.le_refl _⟩, ⟨by (with_reducible repeat (first | refine blk_drewN ?_ _ | refine blk_drew ?_ | refine blk_alloc ?_ _)); exact BK389.out⟩, ⟨y8_ HB.out GE389.out⟩⟩
  case rest =>
    clear HC3; (try clear p2); (try clear c5); (try clear c6); (try clear hcz10_0); (try clear hcz8_0); (try clear hfz10_0); (try clear hfz8_0); obtain ⟨kq, x12_2, rfl, HA, HJ2, BK389, HB⟩ := hcut
    cases kq with
    | zero => exact absurd HA.out (by simp [impl_TreCover.j0])
    | succ kj2 =>
      have H := HA.out; clear HA; simp only [impl_TreCover.j0] at H; by_cases c12 : x12_2 = true
      · subst c12
        have H1 : (some ([] : List Int)) = some r := by rw [if_pos rfl] at H; exact H
        clear H; have H := H1; clear H1; obtain rfl := Option.some.inj H; go_wp2; go_ret; exact ⟨_, y6_, Kd.Q_of_R (by first | exact Kd.R_nil _ _ _ _ _ | exact Kd.N_nil _ _ _ _ _ | exact Kd.V_nil _ _ _ _ _ | exact Kd.Q_nil _ _ _ _ _ | exact Kd.S_nil _ _ _ _ _), y8_ HB.out GE389.out⟩
      replace c12 := Bool.eq_false_iff.mpr c12; subst c12
      have H1 : ((impl_TreTree_cover.f kj2 l0_0 a1).bind fun t392 => ((impl_clone_int.f t392).bind fun t395 => (some t395))) = some r := by rw [if_neg (show ¬ (false = true) by decide)] at H; exact H
      clear H; have H := H1; clear H1; replace H := Option.bind_eq_some_iff.mp H; obtain ⟨t392, A130, H⟩ := H; replace H : ((impl_clone_int.f t392).bind fun t395 => (some t395)) = some r := H; have A13 := am_ A130; clear A130; replace H := Option.bind_eq_some_iff.mp H; obtain ⟨t395, A140, H⟩ := H; replace H : (some t395) = some r := H; have A14 := am_ A140; clear A140; obtain rfl := Option.some.inj H; have hcz15_0 : wc.cell? ⟨gb389, 0, none⟩ = some (.slice A0_0 l0_0.length c0_0) := (blk_cell BK389.out 0).trans rfl; have hfz15_0 := blk_frozen BK389.out 0; go_wp2_with (first | ((with_reducible refine gate_callee (f := 94) rfl ?_); refine goesL_ (some 15) rfl rfl Tryd.func94 (by kernel_rfl) rfl #[.agg #[.slice A0_0 l0_0.length c0_0], .int .i64 a1] rfl y1_ ?_; (with_reducible refine (impl_TreTree_cover.calls kj2 _ _ l0_0 a1 t392 _ ?side1 ?side2 A13.out).mono ?_); (case side1 => repeat (first | exact (Kd.C_below HR0_0.out HB.out) | (with_reducible refine Kd.C_alloc ?_ _) | (with_reducible refine Kd.C_drewN ?_ _) | (with_reducible refine Kd.C_drew ?_))); (case side2 => exact HC0_0.out); rintro e w16 ⟨v393, rfl, ho0, hb⟩; refine ⟨_, rfl, ?_⟩; have HO394 := am_ (Kd.R_lower ho0 (below_size (y8_ HB.out GE389.out))); replace BK389 := am_ (blk_below (g := gb389) (o := .cells #[.slice A0_0 l0_0.length c0_0] 55 (0, 0)) (y12_ BK389.out) hb); replace HB := am_ (below_step (y8_ HB.out GE389.out) hb); (try clear hb); (try clear hb2); (try clear hk); (try clear hi); (try clear ho0); obtain ⟨Ao17, co17, eo17⟩ := Kd.R_slice HO394.out; subst eo17) | ((with_reducible refine gate_callee (f := 90) rfl ?_); refine goesL_ (some 16) rfl rfl Tryd.func90 (by kernel_rfl) rfl #[.slice Ao17 t392.length co17] rfl y1_ ?_; (with_reducible refine (impl_clone_int.calls _ _ t392 t395 _ ?side1 ?side2 A14.out).mono ?_); (case side1 => repeat (first | exact (Kd.R_reads' HO394.out).2.2 | (with_reducible refine Kd.C_alloc ?_ _) | (with_reducible refine Kd.C_drewN ?_ _) | (with_reducible refine Kd.C_drew ?_))); (case side2 => exact (Kd.R_reads' HO394.out).2.1); rintro e w18 ⟨v396, rfl, ho0, hb⟩; refine ⟨_, rfl, ?_⟩; have HO397 := am_ (Kd.Q_lower (Kd.Q_new' ho0 (Kd.R_lt (y11_ HO394.out))) (below_size (y8_ HB.out GE389.out))); replace HO394 := am_ (Kd.R_elder' (y11_ HO394.out) (Kd.Q_base ho0) hb); replace BK389 := am_ (blk_below (g := gb389) (o := .cells #[.slice A0_0 l0_0.length c0_0] 55 (0, 0)) (y12_ BK389.out) hb); replace HB := am_ (below_step (y8_ HB.out GE389.out) hb); (try clear hb); (try clear hb2); (try clear hk); (try clear hi); (try clear ho0))); go_ret; exact ⟨_, y6_, by (with_reducible repeat (first | apply Kd.Q_alloc | apply Kd.Q_drewN | apply Kd.Q_drew)); exact Kd.Q_mono HO397.out (fun _ hk => trivial), y8_ HB.out GE389.out⟩

/-! ### spec_l3Cover: function 95 -/
def spec_l3Cover.f : Nat → List ByteArray → Int → Option (List Int)
  | 0, _, _ => none
  | k + 1, l0_0, a1 => if 0 ≤ a1 then (if a1 < (l0_0.length : Int) then (if (rdOf ByteArray.empty l0_0 a1).toList = ([] : List UInt8) then (if a1 ≥ 7 then (some (([] : List Int))) else ((spec_l3Cover.f k l0_0 (wrap64 ((wrap64 (2 * a1)) + 1))).bind fun t406 => ((spec_l3Cover.f k l0_0 (wrap64 ((wrap64 (2 * a1)) + 2))).bind fun t409 => (if t406.length + t409.length < 17592186044416 then (some (t406 ++ t409)) else (none))))) else (some (([a1] : List Int)))) else (none)) else (none)
theorem spec_l3Cover.mono_l : ∀ k, (∀ y0 y1, LeO (spec_l3Cover.f k y0 y1) (spec_l3Cover.f (k + 1) y0 y1))
  | 0 => fun _ _ r h => by simp [spec_l3Cover.f] at h
  | k + 1 => by
    have ih0 := spec_l3Cover.mono_l k
    · intro y0 y1
      unfold spec_l3Cover.f
      repeat' first
      | (with_reducible exact ih0 _ _)
      | (with_reducible exact LeO.refl _)
      | (with_reducible exact LeO.none _)
      | (with_reducible refine LeO.ite ?_ ?_)
      | (with_reducible refine LeO.bind ?_ (fun _ => ?_))
      | exact LeO.none _
      | refine LeO.ite ?_ ?_
      | refine LeO.bind ?_ (fun _ => ?_)
theorem spec_l3Cover.mono : ∀ a0 a1 k, LeO (spec_l3Cover.f k a0 a1) (spec_l3Cover.f (k + 1) a0 a1) := by
  intro a0 a1 k; have ih0 := spec_l3Cover.mono_l k; exact ih0 a0 a1
def spec_l3Cover.T5 : Bool × List (List Nat × List Nat) := (true, [([], []), ([], []), ([1], [1]), ([2], [2]), ([0, 3], [0, 3]), ([], []), ([], []), ([6], [6]), ([7], [7]), ([5, 8, 4], [5, 8]), ([4, 9, 9], [4, 9]), ([10, 10, 0, 1, 2, 3, 4, 5, 6, 7, 8, 9, 10], [10])])
def spec_l3Cover.B5 : List Nat := [0, 0, 2, 6, 15, 0, 0, 64, 192, 511, 1023, 2047]
theorem spec_l3Cover.tab5 : rtab .any (opsOf Tryd.f95 5) = spec_l3Cover.T5 := by kernel_rfl
theorem spec_l3Cover.bits5 : waitsOk spec_l3Cover.T5.2 spec_l3Cover.B5 = true := by kernel_rfl
set_option maxHeartbeats 8000000 in
set_option maxRecDepth 100000 in
theorem spec_l3Cover.calls (k : Nat) : ∀ (A0_0 : Option Addr) (c0_0 : Nat) (l0_0 : List ByteArray) (a1 : Int) (r : List Int) (w : World) (hr0_0 : Kd.C Kd.string w A0_0 l0_0.length l0_0) (hc0_0 : l0_0.length ≤ c0_0) (h : spec_l3Cover.f k l0_0 a1 = some r),
    Calls Tryd.prog 95 #[.agg #[.slice A0_0 l0_0.length c0_0], .int .i64 a1] w fun e w' => ∃ v0_ : Value, e = .returned (v0_) ∧ Kd.R (Kd.int .i64) 3 w' w.heap.size (fun _ => True) v0_ r ∧ Below w.heap.size w w' := by
  induction k using Nat.strongRecOn with
  | _ k ih =>
  intro A0_0 c0_0 l0_0 a1 r w hr0_0 hc0_0 h
  cases k with
  | zero => exact absurd h (by simp [spec_l3Cover.f])
  | succ k =>
  simp only [spec_l3Cover.f] at h; have hu55 := Tryd.underlying55; have HR0_0 := am_ hr0_0; have HC0_0 := am_ hc0_0; clear hr0_0 hc0_0; have HB := am_ (Below.refl w.heap.size w); have H : (if 0 ≤ a1 then (if a1 < (l0_0.length : Int) then (if (rdOf ByteArray.empty l0_0 a1).toList = ([] : List UInt8) then (if a1 ≥ 7 then (some (([] : List Int))) else ((spec_l3Cover.f k l0_0 (wrap64 ((wrap64 (2 * a1)) + 1))).bind fun t406 => ((spec_l3Cover.f k l0_0 (wrap64 ((wrap64 (2 * a1)) + 2))).bind fun t409 => (if t406.length + t409.length < 17592186044416 then (some (t406 ++ t409)) else (none))))) else (some (([a1] : List Int)))) else (none)) else (none)) = some r := h; clear h; by_cases c3 : 0 ≤ a1
  · rw [if_pos c3] at H
    have c3b0 : decide (0 ≤ a1) = true := decide_eq_true c3; clear c3; by_cases c4 : a1 < (l0_0.length : Int)
    · rw [if_pos c4] at H
      have c4b0 : decide (a1 < (l0_0.length : Int)) = true := decide_eq_true c4; clear c4; by_cases c5 : (rdOf ByteArray.empty l0_0 a1).toList = ([] : List UInt8)
      · rw [if_pos c5] at H
        have c5b0 : ((rdOf ByteArray.empty l0_0 a1).toList == ([] : List UInt8)) = true := beq_iff_eq.mpr c5; have c5b1 : ((rdOf ByteArray.empty l0_0 a1).toList != ([] : List UInt8)) = false := bne_eq_false_iff_eq.mpr c5; clear c5; by_cases c6 : a1 ≥ 7
        · rw [if_pos c6] at H
          have c6b0 : decide (7 ≤ a1) = true := decide_eq_true c6; clear c6
          obtain ⟨y403, hy403⟩ : ∃ y_ : List Int, y_ = (([] : List Int)) := ⟨_, rfl⟩
          replace H : (some y403) = some r := by first | (rw [hy403]; with_reducible exact H) | (have H2_ := (Option.bind_some _ _).symm.trans H; rw [hy403]; with_reducible exact H2_) | (have H2_ := (Option.bind_some _ _).symm.trans H; with_reducible exact H2_) | with_reducible exact H | (rw [hy403]; exact H) | exact H
          have Ny403 := am_ hy403; clear hy403; obtain rfl := Option.some.inj H; go_enter Tryd.func95, Tryd.ntmps95; go_wp2_with (first | ((with_reducible refine gate_dst (N := 2) rfl ?_); refine box_event ?hg (N := 2) ?hd (cs := #[.slice A0_0 l0_0.length c0_0]) (t := 55) ?hr ?_; (case hd => rfl); (case hg => rfl); (case hr => first | (go_simp; done) | (go_simp; rfl)); intro gb398 hg w7 hbox hb; have BK398 := am_ (hbox); have GW398 := am_ ((by rw [hg]; exact (below_size (y7_ HB.out)) : w.heap.size ≤ gb398)); have GE398 := am_ ((by rw [hg]; exact (below_size (y7_ HB.out)) : w.heap.size ≤ gb398)); replace HB := am_ (below_step (y7_ HB.out) hb); clear hb hbox hg; have hcz8_0 : w7.cell? ⟨gb398, 0, none⟩ = some (.slice A0_0 l0_0.length c0_0) := (blk_cell BK398.out 0).trans rfl; have hfz8_0 := blk_frozen BK398.out 0; have p399 : 0 ≤ (a1 : Int) := of_decide_eq_true y3_; have q399 : a1 < (l0_0.length : Int) := of_decide_eq_true y3_; obtain ⟨ad399, e399, hx399_0⟩ := Kd.at_string HR0_0.out a1 p399 q399; cases e399; replace hx399_0 := (HB.out.cell (World.block_lt_of_cell? w _ hx399_0)).trans hx399_0; replace p399 := eq_true p399; replace q399 := eq_true q399) | ((with_reducible refine gate_dst (N := 15) rfl ?_); refine Kd.R_lit (Kd.int .i64) _ 3 ?hg (N := 15) ?hd (xs := ([] : List Int)) (inner := []) (ok := fun _ => True) (okp := fun _ => True) ?hr ?hp (fun _ hk => hk) trivial (Below.refl _ _) (Nat.le_refl _) (by simp) ?_; (case hd => rfl); (case hg => rfl); (case hr => first | (go_simp; done) | (go_simp; rfl)); (case hp => exact (Reps.none _ _)); intro v404 w9 ho10 hb hg_ hnew_; clear hg_ hnew_; (first | rw [← Ny403.out] at ho10 | (simp only [Int.reduceToNat] at ho10; rw [← Ny403.out] at ho10)); have HO405 := am_ (Kd.R_lower ho10 (below_size (y8_ HB.out GE398.out))); replace BK398 := am_ (blk_below (g := gb398) (o := .cells #[.slice (some ad399) l0_0.length c0_0] 55 (0, 0)) (y12_ BK398.out) hb); replace HB := am_ (below_step (y8_ HB.out GE398.out) hb); clear hb ho10)); go_ret; exact ⟨_, y6_, by (with_reducible repeat (first | apply Kd.R_alloc | apply Kd.R_drewN | apply Kd.R_drew)); exact HO405.out, y8_ HB.out GE398.out⟩
        rw [if_neg c6] at H; have c6b0 : decide (7 ≤ a1) = false := decide_eq_false c6; clear c6; replace H := Option.bind_eq_some_iff.mp H; obtain ⟨t406, A110, H⟩ := H; replace H : ((spec_l3Cover.f k l0_0 (wrap64 ((wrap64 (2 * a1)) + 2))).bind fun t409 => (if t406.length + t409.length < 17592186044416 then (some (t406 ++ t409)) else (none))) = some r := H; have A11 := am_ A110; clear A110; replace H := Option.bind_eq_some_iff.mp H; obtain ⟨t409, A120, H⟩ := H; replace H : (if t406.length + t409.length < 17592186044416 then (some (t406 ++ t409)) else (none)) = some r := H; have A12 := am_ A120; clear A120; by_cases c13 : t406.length + t409.length < 17592186044416
        · rw [if_pos c13] at H
          have LMc13 := am_ c13; clear c13
          obtain ⟨y412, hy412⟩ : ∃ y_ : List Int, y_ = (t406 ++ t409) := ⟨_, rfl⟩
          replace H : (some y412) = some r := by first | (rw [hy412]; with_reducible exact H) | (have H2_ := (Option.bind_some _ _).symm.trans H; rw [hy412]; with_reducible exact H2_) | (have H2_ := (Option.bind_some _ _).symm.trans H; with_reducible exact H2_) | with_reducible exact H | (rw [hy412]; exact H) | exact H
          have Ny412 := am_ hy412; clear hy412; obtain rfl := Option.some.inj H; go_enter Tryd.func95, Tryd.ntmps95
          try go_wp2_with (first | ((with_reducible refine gate_dst (N := 2) rfl ?_); refine box_event ?hg (N := 2) ?hd (cs := #[.slice A0_0 l0_0.length c0_0]) (t := 55) ?hr ?_; (case hd => rfl); (case hg => rfl); (case hr => first | (go_simp; done) | (go_simp; rfl)); intro gb398 hg w14 hbox hb; have BK398 := am_ (hbox); have GW398 := am_ ((by rw [hg]; exact (below_size (y7_ HB.out)) : w.heap.size ≤ gb398)); have GE398 := am_ ((by rw [hg]; exact (below_size (y7_ HB.out)) : w.heap.size ≤ gb398)); replace HB := am_ (below_step (y7_ HB.out) hb); clear hb hbox hg; have hcz15_0 : w14.cell? ⟨gb398, 0, none⟩ = some (.slice A0_0 l0_0.length c0_0) := (blk_cell BK398.out 0).trans rfl; have hfz15_0 := blk_frozen BK398.out 0; have p399 : 0 ≤ (a1 : Int) := of_decide_eq_true y3_; have q399 : a1 < (l0_0.length : Int) := of_decide_eq_true y3_; obtain ⟨ad399, e399, hx399_0⟩ := Kd.at_string HR0_0.out a1 p399 q399; cases e399; replace hx399_0 := (HB.out.cell (World.block_lt_of_cell? w _ hx399_0)).trans hx399_0; replace p399 := eq_true p399; replace q399 := eq_true q399))
          have n0_ := am_ (blk_drew BK398.out); have n1_ := am_ (below_drew1 HB.out); clear BK398; clear HB; have BK398 := n0_; have HB := n1_; clear n0_ n1_; refine start_ (n := 12) (S := fun w' => w'.cell? ⟨gb398, 0, none⟩ = some (.slice (some ad399) l0_0.length c0_0)) (ds := []) #[false, false, false, false, false, false, false, false, false, false, false, false] (by kernel_rfl) rfl rfl ((blk_cell BK398.out 0).trans rfl) (fun hHeld => ?_); refine with_tabW spec_l3Cover.tab5 spec_l3Cover.bits5 (fun HT_ HW_ => ?_); generalize w14.drew = w16 at BK398 HB hHeld ⊢; refine pure_ (i := 1) (N := some 17) (v := ?_) (a' := ?_) #[false, true, false, false, false, false, false, false, false, false, false, false] rfl rfl (any_of HT_.out (by kernel_rfl)) (fun _ _ _ h => h) (Or.inl ⟨by rfl, ?_⟩) ?_ ?_; rotate_left
          · intro w'
            go_simp
            with_reducible rfl
          rotate_left
          · simp only [Act.put, List.setIfInBounds_toArray, List.set_cons_zero, List.set_cons_succ, i64_w, i32_w]
            rfl
          refine pure_ (i := 2) (N := some 18) (v := ?_) (a' := ?_) #[false, true, true, false, false, false, false, false, false, false, false, false] rfl rfl (any_of HT_.out (by kernel_rfl)) (fun _ _ _ h => h) (Or.inl ⟨by rfl, ?_⟩) ?_ ?_; rotate_left
          · intro w'
            go_simp
            with_reducible rfl
          rotate_left
          · simp only [Act.put, List.setIfInBounds_toArray, List.set_cons_zero, List.set_cons_succ, i64_w, i32_w]
            rfl
          refine pure_ (i := 3) (N := some 19) (v := ?_) (a' := ?_) #[false, true, true, true, false, false, false, false, false, false, false, false] rfl rfl (any_of HT_.out (by kernel_rfl)) (fun _ _ _ h => h) (Or.inl ⟨by rfl, ?_⟩) ?_ ?_; rotate_left
          · intro w'
            go_simp
            with_reducible rfl
          rotate_left
          · simp only [Act.put, List.setIfInBounds_toArray, List.set_cons_zero, List.set_cons_succ, i64_w, i32_w]
            rfl
          refine pure_ (i := 6) (N := some 22) (v := ?_) (a' := ?_) #[false, true, true, true, false, false, true, false, false, false, false, false] rfl rfl (any_of HT_.out (by kernel_rfl)) (fun _ _ _ h => h) (Or.inl ⟨by rfl, ?_⟩) ?_ ?_; rotate_left
          · intro w'
            go_simp
            with_reducible rfl
          rotate_left
          · simp only [Act.put, List.setIfInBounds_toArray, List.set_cons_zero, List.set_cons_succ, i64_w, i32_w]
            rfl
          refine pure_ (i := 7) (N := some 23) (v := ?_) (a' := ?_) #[false, true, true, true, false, false, true, true, false, false, false, false] rfl rfl (any_of HT_.out (by kernel_rfl)) (fun _ _ _ h => h) (Or.inl ⟨by rfl, ?_⟩) ?_ ?_; rotate_left
          · intro w'
            go_simp
            with_reducible rfl
          rotate_left
          · simp only [Act.put, List.setIfInBounds_toArray, List.set_cons_zero, List.set_cons_succ, i64_w, i32_w]
            rfl
          refine pure_ (i := 8) (N := some 24) (v := ?_) (a' := ?_) #[false, true, true, true, false, false, true, true, true, false, false, false] rfl rfl (any_of HT_.out (by kernel_rfl)) (fun _ _ _ h => h) (Or.inl ⟨by rfl, ?_⟩) ?_ ?_; rotate_left
          · intro w'
            go_simp
            with_reducible rfl
          rotate_left
          · simp only [Act.put, List.setIfInBounds_toArray, List.set_cons_zero, List.set_cons_succ, i64_w, i32_w]
            rfl
          refine take_ (i := 0) (N := some 16) (v := ?_) (a' := ?_) #[true, true, true, true, false, false, true, true, true, false, false, false] rfl rfl (take_ofW HT_.out HW_.out (by kernel_rfl)) (fun _ _ _ h => h) (Or.inl ⟨by rfl, ?_⟩) hHeld ?_ ?_; rotate_left
          · intro w' s0
            go_simp
            with_reducible rfl
          rotate_left
          · simp only [Act.put, List.setIfInBounds_toArray, List.set_cons_zero, List.set_cons_succ, i64_w, i32_w]
            rfl
          refine take_ (i := 5) (N := some 21) (v := ?_) (a' := ?_) #[true, true, true, true, false, true, true, true, true, false, false, false] rfl rfl (take_ofW HT_.out HW_.out (by kernel_rfl)) (fun _ _ _ h => h) (Or.inl ⟨by rfl, ?_⟩) hHeld ?_ ?_; rotate_left
          · intro w' s0
            go_simp
            with_reducible rfl
          rotate_left
          · simp only [Act.put, List.setIfInBounds_toArray, List.set_cons_zero, List.set_cons_succ, i64_w, i32_w]
            rfl
          refine one_ (i := 4) (N := some 20) #[true, true, true, true, true, true, true, true, true, false, false, false] rfl rfl (one_of HT_.out (by kernel_rfl)) (by decide) (fun K hK => ?_); refine goes_ Tryd.func95 (by kernel_rfl) rfl #[.agg #[.slice (some ad399) l0_0.length c0_0], .int .i64 (wrap64 ((wrap64 (2 * a1)) + 1))] (by rfl) rfl rfl y1_ ?_
          with_reducible refine (ih k (by omega) _ _ l0_0 (wrap64 ((wrap64 (2 * a1)) + 1)) t406 _ ?side1 ?side2 A11.out).mono ?_
          (case side1 => repeat (first | exact (Kd.C_below HR0_0.out HB.out) | (with_reducible refine Kd.C_alloc ?_ _) | (with_reducible refine Kd.C_drewN ?_ _) | (with_reducible refine Kd.C_drew ?_)))
          (case side2 => exact HC0_0.out)
          rintro e w17 ⟨v407, rfl, ho0, hb⟩; refine ⟨_, rfl, ?_⟩; have n0_ := am_ (Kd.R_lower ho0 (below_size (y8_ HB.out GE398.out))); have n1_ := am_ (blk_below (g := gb398) (o := .cells #[.slice (some ad399) l0_0.length c0_0] 55 (0, 0)) (y12_ BK398.out) hb); have n2_ := am_ (below_step (y8_ HB.out GE398.out) hb); clear BK398; clear HB; have HO408 := n0_; have BK398 := n1_; have HB := n2_; clear n0_ n1_ n2_; (try clear hb); (try clear hb2); (try clear hk); (try clear hi); (try clear ho0); refine hK.out _ _ ((blk_cell BK398.out 0).trans rfl) (fun hHeld => ?_); clear hK K; refine norm_ (a' := ?_) ?_ ?_; rotate_left
          · show Act.put _ (some 20) _ = _
            simp only [Act.put, List.setIfInBounds_toArray, List.set_cons_zero, List.set_cons_succ, i64_w, i32_w]
            rfl
          refine one_ (i := 9) (N := some 25) #[true, true, true, true, true, true, true, true, true, true, false, false] rfl rfl (one_of HT_.out (by kernel_rfl)) (by decide) (fun K hK => ?_); refine goes_ Tryd.func95 (by kernel_rfl) rfl #[.agg #[.slice (some ad399) l0_0.length c0_0], .int .i64 (wrap64 ((wrap64 (2 * a1)) + 2))] (by rfl) rfl rfl y1_ ?_
          with_reducible refine (ih k (by omega) _ _ l0_0 (wrap64 ((wrap64 (2 * a1)) + 2)) t409 _ ?side1 ?side2 A12.out).mono ?_
          (case side1 => repeat (first | exact (Kd.C_below HR0_0.out HB.out) | (with_reducible refine Kd.C_alloc ?_ _) | (with_reducible refine Kd.C_drewN ?_ _) | (with_reducible refine Kd.C_drew ?_)))
          (case side2 => exact HC0_0.out)
          rintro e w18 ⟨v410, rfl, ho0, hb⟩; refine ⟨_, rfl, ?_⟩; have n0_ := am_ (Kd.R_elder' (y11_ HO408.out) (Kd.R_base ho0) hb); have n1_ := am_ (Kd.R_lower (Kd.R_new' ho0 (Kd.R_lt (y11_ HO408.out))) (below_size (y8_ HB.out GE398.out))); have n2_ := am_ (blk_below (g := gb398) (o := .cells #[.slice (some ad399) l0_0.length c0_0] 55 (0, 0)) (y12_ BK398.out) hb); have n3_ := am_ (below_step (y8_ HB.out GE398.out) hb); clear HO408; clear BK398; clear HB; have HO408 := n0_; have HO411 := n1_; have BK398 := n2_; have HB := n3_; clear n0_ n1_ n2_ n3_; (try clear hb); (try clear hb2); (try clear hk); (try clear hi); (try clear ho0); obtain ⟨Ao20, co20, eo20⟩ := Kd.R_slice HO411.out; (first | subst eo20 | (injection eo20 with f1_ f2_ f3_; have f4_ := f1_.symm; have f5_ := f3_.symm; clear f1_ f2_ f3_; subst f4_; subst f5_)); refine hK.out _ _ ((blk_cell BK398.out 0).trans rfl) (fun hHeld => ?_); clear hK K; refine norm_ (a' := ?_) ?_ ?_; rotate_left
          · show Act.put _ (some 25) _ = _
            simp only [Act.put, List.setIfInBounds_toArray, List.set_cons_zero, List.set_cons_succ, i64_w, i32_w]
            rfl
          refine one_ (i := 10) (N := some 26) #[true, true, true, true, true, true, true, true, true, true, true, false] rfl rfl (one_of HT_.out (by kernel_rfl)) (by decide) (fun K hK => ?_); refine Kd.R_append_rows_step (Kd.int .i64) (w0 := w) w.heap.size (by rfl) (.tmp 20) (.tmp 25) 27 3 (.int .i64 0) 8 rfl Tryd.underlying27 info3 rfl (by decide) (by omega) v407 t406 t409 _ _ _ (fun k_ => some k_ ≠ (.slice Ao20 t409.length co20 : Value).ownBlock) (fun _ => False) rfl rfl ?aO ?aR (fun _ _ h => h) (fun _ h => h.elim) ?aF ?aB ?aS ?aL ?_
          (case aR => repeat (first | exact (Kd.R_reads' HO411.out).2.2 | (with_reducible refine Kd.C_alloc ?_ _) | (with_reducible refine Kd.C_drewN ?_ _) | (with_reducible refine Kd.C_drew ?_)))
          (case aB => exact (y8_ HB.out GE398.out))
          (case aF => exact (fun k_ hk => Kd.fresh' (Kd.R_lt (y11_ HO411.out)) k_ hk))
          (case aO => exact (by (with_reducible repeat (first | apply Kd.R_alloc | apply Kd.R_drewN | apply Kd.R_drew)); exact Kd.R_mono HO408.out (fun _ hk => hk.2)))
          (case aS => exact (below_size (y8_ HB.out GE398.out)))
          (case aL => have := LMc13.out; omega)
          intro v413 w19 ho hb hg hat; rw [← Ny412.out] at ho; have n0_ := am_ (blk_grown (g := gb398) (o := .cells #[.slice (some ad399) l0_0.length c0_0] 55 (0, 0)) (y12_ BK398.out) hg (Kd.R_ne HO408.out BK398.out (by decide))); have n1_ := am_ (Kd.R_after (ok := (fun _ => True)) (y11_ HO411.out) hg hat); have n2_ := am_ (hb); have n3_ := am_ (ho); clear BK398; clear HO411; clear HB; clear HO408; have BK398 := n0_; have HO411 := n1_; have HB := n2_; have HO414 := n3_; clear n0_ n1_ n2_ n3_; clear ho hb hg hat; refine hK.out _ _ ((blk_cell BK398.out 0).trans rfl) (fun hHeld => ?_); clear hK K; refine norm_ (a' := ?_) ?_ ?_; rotate_left
          · show Act.put _ (some 26) _ = _
            simp only [Act.put, List.setIfInBounds_toArray, List.set_cons_zero, List.set_cons_succ, i64_w, i32_w]
            rfl
          refine pure_ (i := 11) (N := some 4) (v := ?_) (a' := ?_) #[true, true, true, true, true, true, true, true, true, true, true, true] rfl rfl (any_of HT_.out (by kernel_rfl)) (fun _ _ _ h => h) (Or.inl ⟨by rfl, ?_⟩) ?_ ?_; rotate_left
          · intro w'
            go_simp
            with_reducible rfl
          rotate_left
          · simp only [Act.put, List.setIfInBounds_toArray, List.set_cons_zero, List.set_cons_succ, i64_w, i32_w]
            rfl
          refine done_ (done_of HT_.out (by kernel_rfl)) ?_
          try go_wp2
          go_ret; exact ⟨_, y6_, by (with_reducible repeat (first | apply Kd.R_alloc | apply Kd.R_drewN | apply Kd.R_drew)); exact Kd.R_mono HO414.out (fun _ hk => trivial), y8_ HB.out GE398.out⟩
        rw [if_neg c13] at H; exact absurd H (by simp)
      rw [if_neg c5] at H; have c5b0 : ((rdOf ByteArray.empty l0_0 a1).toList == ([] : List UInt8)) = false := beq_eq_false_iff_ne.mpr c5; have c5b1 : ((rdOf ByteArray.empty l0_0 a1).toList != ([] : List UInt8)) = true := bne_iff_ne.mpr c5
      obtain ⟨y400, hy400⟩ : ∃ y_ : List Int, y_ = (([a1] : List Int)) := ⟨_, rfl⟩
      replace H : (some y400) = some r := by first | (rw [hy400]; with_reducible exact H) | (have H2_ := (Option.bind_some _ _).symm.trans H; rw [hy400]; with_reducible exact H2_) | (have H2_ := (Option.bind_some _ _).symm.trans H; with_reducible exact H2_) | with_reducible exact H | (rw [hy400]; exact H) | exact H
      have Ny400 := am_ hy400; clear hy400; obtain rfl := Option.some.inj H; go_enter Tryd.func95, Tryd.ntmps95; go_wp2_with (first | ((with_reducible refine gate_dst (N := 2) rfl ?_); refine box_event ?hg (N := 2) ?hd (cs := #[.slice A0_0 l0_0.length c0_0]) (t := 55) ?hr ?_; (case hd => rfl); (case hg => rfl); (case hr => first | (go_simp; done) | (go_simp; rfl)); intro gb398 hg w21 hbox hb; have BK398 := am_ (hbox); have GW398 := am_ ((by rw [hg]; exact (below_size (y7_ HB.out)) : w.heap.size ≤ gb398)); have GE398 := am_ ((by rw [hg]; exact (below_size (y7_ HB.out)) : w.heap.size ≤ gb398)); replace HB := am_ (below_step (y7_ HB.out) hb); clear hb hbox hg; have hcz22_0 : w21.cell? ⟨gb398, 0, none⟩ = some (.slice A0_0 l0_0.length c0_0) := (blk_cell BK398.out 0).trans rfl; have hfz22_0 := blk_frozen BK398.out 0; have p399 : 0 ≤ (a1 : Int) := of_decide_eq_true y3_; have q399 : a1 < (l0_0.length : Int) := of_decide_eq_true y3_; obtain ⟨ad399, e399, hx399_0⟩ := Kd.at_string HR0_0.out a1 p399 q399; cases e399; replace hx399_0 := (HB.out.cell (World.block_lt_of_cell? w _ hx399_0)).trans hx399_0; replace p399 := eq_true p399; replace q399 := eq_true q399) | ((with_reducible refine gate_dst (N := 12) rfl ?_); refine Kd.R_lit (Kd.int .i64) _ 3 ?hg (N := 12) ?hd (xs := ([a1] : List Int)) (inner := [.int .i64 a1]) (ok := fun _ => True) (okp := fun _ => True) ?hr ?hp (fun _ hk => hk) trivial (Below.refl _ _) (Nat.le_refl _) (by simp) ?_; (case hd => rfl); (case hg => rfl); (case hr => first | (go_simp; done) | (go_simp; rfl)); (case hp => exact (Reps.one (show Kd.M (Kd.int .i64) _ _ _ a1 [.int .i64 a1] from rfl) (Reps.none _ _))); intro v401 w23 ho24 hb hg_ hnew_; clear hg_ hnew_; (first | rw [← Ny400.out] at ho24 | (simp only [Int.reduceToNat] at ho24; rw [← Ny400.out] at ho24)); have HO402 := am_ (Kd.R_lower ho24 (below_size (y8_ HB.out GE398.out))); replace BK398 := am_ (blk_below (g := gb398) (o := .cells #[.slice (some ad399) l0_0.length c0_0] 55 (0, 0)) (y12_ BK398.out) hb); replace HB := am_ (below_step (y8_ HB.out GE398.out) hb); clear hb ho24)); go_ret; exact ⟨_, y6_, by (with_reducible repeat (first | apply Kd.R_alloc | apply Kd.R_drewN | apply Kd.R_drew)); exact HO402.out, y8_ HB.out GE398.out⟩
    rw [if_neg c4] at H; exact absurd H (by simp)
  rw [if_neg c3] at H; exact absurd H (by simp)

/-! ### spec_TreCover: function 64 -/
def spec_TreCover.f (k : Nat) (l0_0 : List ByteArray) (a1 : Int) : Option (List Int) := (spec_TreOk.f k l0_0).bind fun t416 => (if t416 = true then ((spec_l1In.f a1 0 14).bind fun t417 => (if t417 = true then ((spec_l3Cover.f k l0_0 a1).bind fun t418 => (some t418)) else (some (([] : List Int))))) else (some (([] : List Int))))
theorem spec_TreCover.mono : ∀ a0 a1 k, LeO (spec_TreCover.f k a0 a1) (spec_TreCover.f (k + 1) a0 a1) := by
  intro a0 a1 k; unfold spec_TreCover.f
  repeat' first
      | (with_reducible exact spec_TreOk.mono _ _)
      | (with_reducible exact spec_l3Cover.mono _ _ _)
      | (with_reducible exact LeO.refl _)
      | (with_reducible exact LeO.none _)
      | (with_reducible refine LeO.ite ?_ ?_)
      | (with_reducible refine LeO.bind ?_ (fun _ => ?_))
      | exact LeO.none _
      | refine LeO.ite ?_ ?_
      | refine LeO.bind ?_ (fun _ => ?_)
set_option maxHeartbeats 8000000 in
set_option maxRecDepth 100000 in
theorem spec_TreCover.calls (k : Nat) (A0_0 : Option Addr) (c0_0 : Nat) (l0_0 : List ByteArray) (a1 : Int) (r : List Int) (w : World) (hr0_0 : Kd.C Kd.string w A0_0 l0_0.length l0_0) (hc0_0 : l0_0.length ≤ c0_0) (h : spec_TreCover.f k l0_0 a1 = some r) :
    Calls Tryd.prog 64 #[.agg #[.slice A0_0 l0_0.length c0_0], .int .i64 a1] w fun e w' => ∃ v0_ : Value, e = .returned (v0_) ∧ Kd.R (Kd.int .i64) 3 w' w.heap.size (fun _ => True) v0_ r ∧ Below w.heap.size w w' := by
  have hu55 := Tryd.underlying55; have HR0_0 := am_ hr0_0; have HC0_0 := am_ hc0_0; clear hr0_0 hc0_0; have HB := am_ (Below.refl w.heap.size w); have H : ((spec_TreOk.f k l0_0).bind fun t416 => (if t416 = true then ((spec_l1In.f a1 0 14).bind fun t417 => (if t417 = true then ((spec_l3Cover.f k l0_0 a1).bind fun t418 => (some t418)) else (some (([] : List Int))))) else (some (([] : List Int))))) = some r := h; clear h; replace H := Option.bind_eq_some_iff.mp H; obtain ⟨t416, A30, H⟩ := H; replace H : (if t416 = true then ((spec_l1In.f a1 0 14).bind fun t417 => (if t417 = true then ((spec_l3Cover.f k l0_0 a1).bind fun t418 => (some t418)) else (some (([] : List Int))))) else (some (([] : List Int)))) = some r := H; have A3 := am_ A30; clear A30; by_cases c4 : t416 = true
  · subst c4
    have H1 : ((spec_l1In.f a1 0 14).bind fun t417 => (if t417 = true then ((spec_l3Cover.f k l0_0 a1).bind fun t418 => (some t418)) else (some (([] : List Int))))) = some r := by rw [if_pos rfl] at H; exact H
    clear H; have H := H1; clear H1; replace H := Option.bind_eq_some_iff.mp H; obtain ⟨t417, A50, H⟩ := H; replace H : (if t417 = true then ((spec_l3Cover.f k l0_0 a1).bind fun t418 => (some t418)) else (some (([] : List Int)))) = some r := H; have A5 := am_ A50; clear A50; by_cases c6 : t417 = true
    · subst c6
      have H1 : ((spec_l3Cover.f k l0_0 a1).bind fun t418 => (some t418)) = some r := by rw [if_pos rfl] at H; exact H
      clear H; have H := H1; clear H1; replace H := Option.bind_eq_some_iff.mp H; obtain ⟨t418, A70, H⟩ := H; replace H : (some t418) = some r := H; have A7 := am_ A70; clear A70; obtain rfl := Option.some.inj H; go_enter Tryd.func64, Tryd.ntmps64; go_wp2_with (first | ((with_reducible refine gate_dst (N := 2) rfl ?_); refine box_event ?hg (N := 2) ?hd (cs := #[.slice A0_0 l0_0.length c0_0]) (t := 55) ?hr ?_; (case hd => rfl); (case hg => rfl); (case hr => first | (go_simp; done) | (go_simp; rfl)); intro gb415 hg w8 hbox hb; have BK415 := am_ (hbox); have GW415 := am_ ((by rw [hg]; exact (below_size (y7_ HB.out)) : w.heap.size ≤ gb415)); have GE415 := am_ ((by rw [hg]; exact (below_size (y7_ HB.out)) : w.heap.size ≤ gb415)); replace HB := am_ (below_step (y7_ HB.out) hb); clear hb hbox hg; have hcz9_0 : w8.cell? ⟨gb415, 0, none⟩ = some (.slice A0_0 l0_0.length c0_0) := (blk_cell BK415.out 0).trans rfl; have hfz9_0 := blk_frozen BK415.out 0) | ((with_reducible refine gate_callee (f := 54) rfl ?_); refine goesL_ (some 6) rfl rfl Tryd.func54 (by kernel_rfl) rfl #[.agg #[.slice A0_0 l0_0.length c0_0]] rfl y1_ ?_; (with_reducible refine (spec_TreOk.calls k _ _ l0_0 true _ ?side1 ?side2 A3.out).mono ?_); (case side1 => repeat (first | exact (Kd.C_below HR0_0.out HB.out) | (with_reducible refine Kd.C_alloc ?_ _) | (with_reducible refine Kd.C_drewN ?_ _) | (with_reducible refine Kd.C_drew ?_))); (case side2 => exact HC0_0.out); rintro e w10 ⟨rfl, hb⟩; refine ⟨_, rfl, ?_⟩; replace BK415 := am_ (blk_below (g := gb415) (o := .cells #[.slice A0_0 l0_0.length c0_0] 55 (0, 0)) (y12_ BK415.out) hb); replace HB := am_ (below_step (y8_ HB.out GE415.out) hb); clear hb) | (go_at_call 68; (with_reducible refine (spec_l1In.calls a1 0 14 true _ A5.out).mono ?_); rintro e w' ⟨rfl, ⟨nd, rfl⟩⟩; have hcz11_0 : w10.cell? ⟨gb415, 0, none⟩ = some (.slice A0_0 l0_0.length c0_0) := (blk_cell BK415.out 0).trans rfl; have hfz11_0 := blk_frozen BK415.out 0) | ((with_reducible refine gate_callee (f := 95) rfl ?_); refine goesL_ (some 16) rfl rfl Tryd.func95 (by kernel_rfl) rfl #[.agg #[.slice A0_0 l0_0.length c0_0], .int .i64 a1] rfl y1_ ?_; (with_reducible refine (spec_l3Cover.calls k _ _ l0_0 a1 t418 _ ?side1 ?side2 A7.out).mono ?_); (case side1 => repeat (first | exact (Kd.C_below HR0_0.out (y8_ HB.out GE415.out)) | (with_reducible refine Kd.C_alloc ?_ _) | (with_reducible refine Kd.C_drewN ?_ _) | (with_reducible refine Kd.C_drew ?_))); (case side2 => exact HC0_0.out); rintro e w12 ⟨v419, rfl, ho0, hb⟩; refine ⟨_, rfl, ?_⟩; have HO420 := am_ (Kd.R_lower ho0 (below_size (y8_ HB.out GE415.out))); replace BK415 := am_ (blk_below (g := gb415) (o := .cells #[.slice A0_0 l0_0.length c0_0] 55 (0, 0)) (y12_ BK415.out) hb); replace HB := am_ (below_step (y8_ HB.out GE415.out) hb); (try clear hb); (try clear hb2); (try clear hk); (try clear hi); (try clear ho0))); go_ret; exact ⟨_, y6_, by (with_reducible repeat (first | apply Kd.R_alloc | apply Kd.R_drewN | apply Kd.R_drew)); exact HO420.out, y8_ HB.out GE415.out⟩
    replace c6 := Bool.eq_false_iff.mpr c6; subst c6
    have H1 : (some (([] : List Int))) = some r := by rw [if_neg (show ¬ (false = true) by decide)] at H; exact H
    clear H; have H := H1; clear H1
    obtain ⟨y421, hy421⟩ : ∃ y_ : List Int, y_ = (([] : List Int)) := ⟨_, rfl⟩
    replace H : (some y421) = some r := by first | (rw [hy421]; with_reducible exact H) | (have H2_ := (Option.bind_some _ _).symm.trans H; rw [hy421]; with_reducible exact H2_) | (have H2_ := (Option.bind_some _ _).symm.trans H; with_reducible exact H2_) | with_reducible exact H | (rw [hy421]; exact H) | exact H
    have Ny421 := am_ hy421; clear hy421; obtain rfl := Option.some.inj H; go_enter Tryd.func64, Tryd.ntmps64; go_wp2_with (first | ((with_reducible refine gate_dst (N := 2) rfl ?_); refine box_event ?hg (N := 2) ?hd (cs := #[.slice A0_0 l0_0.length c0_0]) (t := 55) ?hr ?_; (case hd => rfl); (case hg => rfl); (case hr => first | (go_simp; done) | (go_simp; rfl)); intro gb415 hg w13 hbox hb; have BK415 := am_ (hbox); have GW415 := am_ ((by rw [hg]; exact (below_size (y7_ HB.out)) : w.heap.size ≤ gb415)); have GE415 := am_ ((by rw [hg]; exact (below_size (y7_ HB.out)) : w.heap.size ≤ gb415)); replace HB := am_ (below_step (y7_ HB.out) hb); clear hb hbox hg; have hcz14_0 : w13.cell? ⟨gb415, 0, none⟩ = some (.slice A0_0 l0_0.length c0_0) := (blk_cell BK415.out 0).trans rfl; have hfz14_0 := blk_frozen BK415.out 0) | ((with_reducible refine gate_callee (f := 54) rfl ?_); refine goesL_ (some 6) rfl rfl Tryd.func54 (by kernel_rfl) rfl #[.agg #[.slice A0_0 l0_0.length c0_0]] rfl y1_ ?_; (with_reducible refine (spec_TreOk.calls k _ _ l0_0 true _ ?side1 ?side2 A3.out).mono ?_); (case side1 => repeat (first | exact (Kd.C_below HR0_0.out HB.out) | (with_reducible refine Kd.C_alloc ?_ _) | (with_reducible refine Kd.C_drewN ?_ _) | (with_reducible refine Kd.C_drew ?_))); (case side2 => exact HC0_0.out); rintro e w15 ⟨rfl, hb⟩; refine ⟨_, rfl, ?_⟩; replace BK415 := am_ (blk_below (g := gb415) (o := .cells #[.slice A0_0 l0_0.length c0_0] 55 (0, 0)) (y12_ BK415.out) hb); replace HB := am_ (below_step (y8_ HB.out GE415.out) hb); clear hb) | (go_at_call 68; (with_reducible refine (spec_l1In.calls a1 0 14 false _ A5.out).mono ?_); rintro e w' ⟨rfl, ⟨nd, rfl⟩⟩) | ((with_reducible refine gate_dst (N := 13) rfl ?_); refine Kd.R_lit (Kd.int .i64) _ 3 ?hg (N := 13) ?hd (xs := ([] : List Int)) (inner := []) (ok := fun _ => True) (okp := fun _ => True) ?hr ?hp (fun _ hk => hk) trivial (Below.refl _ _) (Nat.le_refl _) (by simp) ?_; (case hd => rfl); (case hg => rfl); (case hr => first | (go_simp; done) | (go_simp; rfl)); (case hp => exact (Reps.none _ _)); intro v422 w16 ho17 hb hg_ hnew_; clear hg_ hnew_; (first | rw [← Ny421.out] at ho17 | (simp only [Int.reduceToNat] at ho17; rw [← Ny421.out] at ho17)); have HO423 := am_ (Kd.R_lower ho17 (below_size (y8_ HB.out GE415.out))); replace BK415 := am_ (blk_below (g := gb415) (o := .cells #[.slice A0_0 l0_0.length c0_0] 55 (0, 0)) (y12_ BK415.out) hb); replace HB := am_ (below_step (y8_ HB.out GE415.out) hb); clear hb ho17)); go_ret; exact ⟨_, y6_, by (with_reducible repeat (first | apply Kd.R_alloc | apply Kd.R_drewN | apply Kd.R_drew)); exact HO423.out, y8_ HB.out GE415.out⟩
  replace c4 := Bool.eq_false_iff.mpr c4; subst c4
  have H1 : (some (([] : List Int))) = some r := by rw [if_neg (show ¬ (false = true) by decide)] at H; exact H
  clear H; have H := H1; clear H1
  obtain ⟨y424, hy424⟩ : ∃ y_ : List Int, y_ = (([] : List Int)) := ⟨_, rfl⟩
  replace H : (some y424) = some r := by first | (rw [hy424]; with_reducible exact H) | (have H2_ := (Option.bind_some _ _).symm.trans H; rw [hy424]; with_reducible exact H2_) | (have H2_ := (Option.bind_some _ _).symm.trans H; with_reducible exact H2_) | with_reducible exact H | (rw [hy424]; exact H) | exact H
  have Ny424 := am_ hy424; clear hy424; obtain rfl := Option.some.inj H; go_enter Tryd.func64, Tryd.ntmps64; go_wp2_with (first | ((with_reducible refine gate_dst (N := 2) rfl ?_); refine box_event ?hg (N := 2) ?hd (cs := #[.slice A0_0 l0_0.length c0_0]) (t := 55) ?hr ?_; (case hd => rfl); (case hg => rfl); (case hr => first | (go_simp; done) | (go_simp; rfl)); intro gb415 hg w18 hbox hb; have BK415 := am_ (hbox); have GW415 := am_ ((by rw [hg]; exact (below_size (y7_ HB.out)) : w.heap.size ≤ gb415)); have GE415 := am_ ((by rw [hg]; exact (below_size (y7_ HB.out)) : w.heap.size ≤ gb415)); replace HB := am_ (below_step (y7_ HB.out) hb); clear hb hbox hg; have hcz19_0 : w18.cell? ⟨gb415, 0, none⟩ = some (.slice A0_0 l0_0.length c0_0) := (blk_cell BK415.out 0).trans rfl; have hfz19_0 := blk_frozen BK415.out 0) | ((with_reducible refine gate_callee (f := 54) rfl ?_); refine goesL_ (some 6) rfl rfl Tryd.func54 (by kernel_rfl) rfl #[.agg #[.slice A0_0 l0_0.length c0_0]] rfl y1_ ?_; (with_reducible refine (spec_TreOk.calls k _ _ l0_0 false _ ?side1 ?side2 A3.out).mono ?_); (case side1 => repeat (first | exact (Kd.C_below HR0_0.out HB.out) | (with_reducible refine Kd.C_alloc ?_ _) | (with_reducible refine Kd.C_drewN ?_ _) | (with_reducible refine Kd.C_drew ?_))); (case side2 => exact HC0_0.out); rintro e w20 ⟨rfl, hb⟩; refine ⟨_, rfl, ?_⟩; replace BK415 := am_ (blk_below (g := gb415) (o := .cells #[.slice A0_0 l0_0.length c0_0] 55 (0, 0)) (y12_ BK415.out) hb); replace HB := am_ (below_step (y8_ HB.out GE415.out) hb); clear hb) | ((with_reducible refine gate_dst (N := 13) rfl ?_); refine Kd.R_lit (Kd.int .i64) _ 3 ?hg (N := 13) ?hd (xs := ([] : List Int)) (inner := []) (ok := fun _ => True) (okp := fun _ => True) ?hr ?hp (fun _ hk => hk) trivial (Below.refl _ _) (Nat.le_refl _) (by simp) ?_; (case hd => rfl); (case hg => rfl); (case hr => first | (go_simp; done) | (go_simp; rfl)); (case hp => exact (Reps.none _ _)); intro v425 w21 ho22 hb hg_ hnew_; clear hg_ hnew_; (first | rw [← Ny424.out] at ho22 | (simp only [Int.reduceToNat] at ho22; rw [← Ny424.out] at ho22)); have HO426 := am_ (Kd.R_lower ho22 (below_size (y8_ HB.out GE415.out))); replace BK415 := am_ (blk_below (g := gb415) (o := .cells #[.slice A0_0 l0_0.length c0_0] 55 (0, 0)) (y12_ BK415.out) hb); replace HB := am_ (below_step (y8_ HB.out GE415.out) hb); clear hb ho22)); go_ret; exact ⟨_, y6_, by (with_reducible repeat (first | apply Kd.R_alloc | apply Kd.R_drewN | apply Kd.R_drew)); exact HO426.out, y8_ HB.out GE415.out⟩

end Go.Proofs.YtdcaipomjimplaaDoor.Wc
