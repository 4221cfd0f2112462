-- Written by this session's own program (wip/tools/pp.py) out of the translation, over functions given by hand. Lean checks it.
import Derived.Test.YtdcaipomjimplaaDoorWkx0
import Derived.Test.YtdcaipomjimplaaDoorWkx5
import Derived.Test.YtdcaipomjimplaaDoorWkx11
namespace Go.Proofs.YtdcaipomjimplaaDoor.Wk
open Go.RowKit Go.Proofs.YtdcaipomjimplaaDoorW.PrintWords Go.Proofs.YtdcaipomjimplaaDoorW.PrintLast Go.Proofs.YtdcaipomjimplaaDoorW.PrintMore
attribute [local go_sem] max2_int min2_int max_two min_two max_three min_three max_four min_four   -- for this text's walks alone
set_option linter.unusedVariables false
set_option linter.unusedSimpArgs false

/-! ### spec_l3Set: function 120 -/
def spec_l3Set.l0 : Nat → ByteArray → List Int → Int → List ByteArray → Option (List ByteArray)
  | 0, _, _, _, _ => none
  | k + 1, x2, x8, x9, x262000 => if x9 < (x8.length : Int) then ((spec_MakNext.f k x2).bind fun t269 => (if 0 ≤ x9 then ((spec_MakKey.f k t269).bind fun t271 => (if 0 ≤ (rd x8 x9) then (if (rd x8 x9) < (x262000.length : Int) then (spec_l3Set.l0 k t269 x8 (wrap64 (x9 + 1)) (x262000.set ((rd x8 x9) : Int).toNat t271)) else (none)) else (none))) else (none))) else (some x262000)
def spec_l3Set.f (k : Nat) (l0_0 : List ByteArray) (a1 : Int) (a2 : ByteArray) : Option (List ByteArray) := (spec_TreLeaf.f a1).bind fun t263 => ((spec_MakKey.f k a2).bind fun t264 => (if 0 ≤ t263 then (if t263 < (l0_0.length : Int) then ((spec_TreUp.f k t263).bind fun t266 => (spec_l3Set.l0 k a2 t266 0 (l0_0.set (t263 : Int).toNat t264))) else (none)) else (none)))
theorem spec_l3Set.mono_l : ∀ k, (∀ y0 y1 y2 y3, LeO (spec_l3Set.l0 k y0 y1 y2 y3) (spec_l3Set.l0 (k + 1) y0 y1 y2 y3))
  | 0 => fun _ _ _ _ r h => by simp [spec_l3Set.l0] at h
  | k + 1 => by
    have ih0 := spec_l3Set.mono_l k
    · intro y0 y1 y2 y3
      unfold spec_l3Set.l0
      repeat' first
      | (with_reducible exact ih0 _ _ _ _)
      | (with_reducible exact spec_MakKey.mono _ _)
      | (with_reducible exact spec_MakNext.mono _ _)
      | (with_reducible exact spec_TreUp.mono _ _)
      | (with_reducible exact LeO.refl _)
      | (with_reducible exact LeO.none _)
      | (with_reducible refine LeO.ite ?_ ?_)
      | (with_reducible refine LeO.bind ?_ (fun _ => ?_))
      | exact LeO.none _
      | refine LeO.ite ?_ ?_
      | refine LeO.bind ?_ (fun _ => ?_)
theorem spec_l3Set.mono : ∀ a0 a1 a2 k, LeO (spec_l3Set.f k a0 a1 a2) (spec_l3Set.f (k + 1) a0 a1 a2) := by
  intro a0 a1 a2 k; have ih0 := spec_l3Set.mono_l k; unfold spec_l3Set.f
  repeat' first
      | (with_reducible exact ih0 _ _ _ _)
      | (with_reducible exact spec_MakKey.mono _ _)
      | (with_reducible exact spec_MakNext.mono _ _)
      | (with_reducible exact spec_TreUp.mono _ _)
      | (with_reducible exact LeO.refl _)
      | (with_reducible exact LeO.none _)
      | (with_reducible refine LeO.ite ?_ ?_)
      | (with_reducible refine LeO.bind ?_ (fun _ => ?_))
      | exact LeO.none _
      | refine LeO.ite ?_ ?_
      | refine LeO.bind ?_ (fun _ => ?_)
def spec_l3Set.T8 : Bool × List (List Nat × List Nat) := (true, [([], []), ([0], [0]), ([], []), ([], []), ([2, 3], [2, 3]), ([4], [4]), ([], []), ([6], [6]), ([1, 5, 0, 1, 2, 3, 4, 5, 6, 7], [1, 5]), ([8, 7, 7, 0, 1, 2, 3, 4, 5, 6, 7], [7, 8])])
def spec_l3Set.B8 : List Nat := [0, 1, 0, 0, 12, 28, 0, 64, 255, 511]
theorem spec_l3Set.tab8 : rtab .any (opsOf Tryd.f120 8) = spec_l3Set.T8 := by kernel_rfl
theorem spec_l3Set.bits8 : waitsOk spec_l3Set.T8.2 spec_l3Set.B8 = true := by kernel_rfl
set_option maxHeartbeats 8000000 in
set_option maxRecDepth 100000 in
theorem spec_l3Set.calls (k : Nat) (P0_0_ : Nat → Prop) (u9000_ : Value) (l0_0 : List ByteArray) (a1 : Int) (a2 : ByteArray) (r : List ByteArray) (w0 w : World) (hB : Below w0.heap.size w0 w) (ho0_0 : Kd.R Kd.string 9 w w0.heap.size P0_0_ u9000_ l0_0) (h : spec_l3Set.f k l0_0 a1 a2 = some r) :
    Calls Tryd.prog 120 #[.agg #[u9000_], .int .i64 a1, .string a2] w fun e w' => ∃ v0_ : Value, e = .returned (.agg #[v0_]) ∧ Kd.R Kd.string 9 w' w0.heap.size (fun k_ => (P0_0_ k_ ∨ w.heap.size ≤ k_)) v0_ r ∧ Below w0.heap.size w0 w' ∧ Kept w w' (fun k_ => P0_0_ k_) := by
  have hu55 := Tryd.underlying55; have HO0_0 := am_ (show Kd.R Kd.string 9 w w0.heap.size (fun k_ => (P0_0_ k_ ∨ w.heap.size ≤ k_)) u9000_ l0_0 from Kd.R_mono ho0_0 (fun k_ hk => (.inl hk))); have HK := am_ (Kept.refl w (fun k_ => P0_0_ k_)); have HW0 := am_ hB.size; have HB := am_ hB; clear hB; have H : ((spec_TreLeaf.f a1).bind fun t263 => ((spec_MakKey.f k a2).bind fun t264 => (if 0 ≤ t263 then (if t263 < (l0_0.length : Int) then ((spec_TreUp.f k t263).bind fun t266 => (spec_l3Set.l0 k a2 t266 0 (l0_0.set (t263 : Int).toNat t264))) else (none)) else (none)))) = some r := h; clear h; replace H := Option.bind_eq_some_iff.mp H; obtain ⟨t263, A40, H⟩ := H; replace H : ((spec_MakKey.f k a2).bind fun t264 => (if 0 ≤ t263 then (if t263 < (l0_0.length : Int) then ((spec_TreUp.f k t263).bind fun t266 => (spec_l3Set.l0 k a2 t266 0 (l0_0.set (t263 : Int).toNat t264))) else (none)) else (none))) = some r := H; have A4 := am_ A40; clear A40; replace H := Option.bind_eq_some_iff.mp H; obtain ⟨t264, A50, H⟩ := H; replace H : (if 0 ≤ t263 then (if t263 < (l0_0.length : Int) then ((spec_TreUp.f k t263).bind fun t266 => (spec_l3Set.l0 k a2 t266 0 (l0_0.set (t263 : Int).toNat t264))) else (none)) else (none)) = some r := H; have A5 := am_ A50; clear A50; by_cases c6 : 0 ≤ t263
  · rw [if_pos c6] at H
    have c6b0 : decide (0 ≤ t263) = true := decide_eq_true c6; clear c6; by_cases c7 : t263 < (l0_0.length : Int)
    · rw [if_pos c7] at H
      have c7b0 : decide (t263 < (l0_0.length : Int)) = true := decide_eq_true c7; clear c7
      obtain ⟨y265, hy265⟩ : ∃ y_ : List ByteArray, y_ = (l0_0.set (t263 : Int).toNat t264) := ⟨_, rfl⟩
      replace H : ((spec_TreUp.f k t263).bind fun t266 => (spec_l3Set.l0 k a2 t266 0 y265)) = some r := by first | (rw [hy265]; with_reducible exact H) | (have H2_ := (Option.bind_some _ _).symm.trans H; rw [hy265]; with_reducible exact H2_) | (have H2_ := (Option.bind_some _ _).symm.trans H; with_reducible exact H2_) | with_reducible exact H | (rw [hy265]; exact H) | exact H
      have Ny265 := am_ hy265; clear hy265; replace H := Option.bind_eq_some_iff.mp H; obtain ⟨t266, A90, H⟩ := H; replace H : (spec_l3Set.l0 k a2 t266 0 y265) = some r := H; have A9 := am_ A90; clear A90; have H' := am_ H; clear H; obtain ⟨Ao10, co10, eo10⟩ := Kd.R_slice HO0_0.out; subst eo10; go_enter Tryd.func120, Tryd.ntmps120
      try go_wp2_with (first | ((with_reducible refine gate_dst (N := 3) rfl ?_); refine box_event ?hg (N := 3) ?hd (cs := #[.slice Ao10 l0_0.length co10]) (t := 55) ?hr ?_; (case hd => rfl); (case hg => rfl); (case hr => first | (go_simp; done) | (go_simp; rfl)); intro gb261 hg w11 hbox hb; replace HO0_0 := am_ (Kd.R_below (y11_ HO0_0.out) hb); have BK261 := am_ (hbox); have GW261 := am_ ((by rw [hg]; exact (by first | exact HK.out.1 | exact (show Kept w _ (fun k_ => P0_0_ k_) from y16_ HK.out).1) : w.heap.size ≤ gb261)); replace HK := am_ (Kept.below (S := (fun k_ => P0_0_ k_)) (y16_ HK.out) hb); have GE261 := am_ ((by rw [hg]; exact (below_size (y7_ HB.out)) : w0.heap.size ≤ gb261)); replace HB := am_ (below_step (y7_ HB.out) hb); clear hb hbox hg) | ((with_reducible refine gate_dst (N := 6) rfl ?_); refine box_event ?hg (N := 6) ?hd (cs := #[.slice none 0 0]) (t := 55) ?hr ?_; (case hd => rfl); (case hg => rfl); (case hr => first | (go_simp; done) | (go_simp; rfl)); intro gb262 hg w12 hbox hb; replace HO0_0 := am_ (Kd.R_below (y11_ HO0_0.out) hb); have BK262 := am_ (hbox); have GW262 := am_ ((by rw [hg]; exact (by first | exact HK.out.1 | exact (show Kept w _ (fun k_ => P0_0_ k_) from by repeat (first | (with_reducible first | exact HK.out | apply Kept.alloc | apply Kept.drewN | apply Kept.drew | refine Kept.setCell ?_ (.inr GW261.out) _) | exact HK.out)).1) : w.heap.size ≤ gb262)); replace HK := am_ (Kept.below (S := (fun k_ => P0_0_ k_)) (by repeat (first | (with_reducible first | exact HK.out | apply Kept.alloc | apply Kept.drewN | apply Kept.drew | refine Kept.setCell ?_ (.inr GW261.out) _) | exact HK.out)) hb); have GE262 := am_ ((by rw [hg]; exact (below_size (y8_ HB.out GE261.out)) : w0.heap.size ≤ gb262)); replace HB := am_ (below_step (y8_ HB.out GE261.out) hb); have NB261_262 := am_ ((by rw [hg]; exact Nat.ne_of_lt (blk_lt (g := gb261) (o := .cells #[.slice Ao10 l0_0.length co10] 55 (0, 0)) (y12_ BK261.out)) : gb261 ≠ gb262)); have NB262_261 := am_ ((by rw [hg]; exact Nat.ne_of_gt (blk_lt (g := gb261) (o := .cells #[.slice Ao10 l0_0.length co10] 55 (0, 0)) (y12_ BK261.out)) : gb262 ≠ gb261)); replace BK261 := am_ (blk_below (g := gb261) (o := .cells #[.slice Ao10 l0_0.length co10] 55 (0, 0)) (y12_ BK261.out) hb); clear hb hbox hg) | ((with_reducible refine gate_callee (f := 92) rfl ?_); refine goesL_ (some 11) rfl rfl Tryd.func92 (by kernel_rfl) rfl #[.int .i64 a1] rfl y1_ ?_; (with_reducible refine (spec_TreLeaf.calls a1 t263 _ A4.out).mono ?_); rintro e w' ⟨rfl, ⟨nd, rfl⟩⟩; refine ⟨_, rfl, ?_⟩; (try (rw [drewN_self w12]; generalize hq_ : World.drewN w12 _ = w12; have n0_ : Aside0 (Kd.R Kd.string 9 w12 w0.heap.size (fun k_ => (P0_0_ k_ ∨ w.heap.size ≤ k_)) (.slice Ao10 l0_0.length co10) l0_0) := ⟨by rw [← hq_]; exact (y11_ HO0_0.out)⟩; have n1_ : Aside0 (w12.heap[gb261]? = some (.cells #[.slice Ao10 l0_0.length co10] 55 (0, 0))) := ⟨by rw [← hq_]; exact (y12_ BK261.out)⟩; have n2_ : Aside0 (w12.heap[gb262]? = some (.cells #[.slice none 0 0] 55 (0, 0))) := ⟨by rw [← hq_]; exact (y12_ BK262.out)⟩; have n3_ : Aside0 (Kept w w12 (fun k_ => P0_0_ k_)) := ⟨by rw [← hq_]; exact (by repeat (first | (with_reducible first | exact HK.out | apply Kept.alloc | apply Kept.drewN | apply Kept.drew | refine Kept.setCell ?_ (.inr GW261.out) _ | refine Kept.setCell ?_ (.inr GW262.out) _) | exact HK.out))⟩; have n4_ : Aside0 (Below w0.heap.size w0 w12) := ⟨by rw [← hq_]; exact (by repeat (first | (with_reducible first | exact HB.out | apply below_alloc | apply pw_below_drewN | apply below_drew1 | refine below_set ?_ GE261.out | refine below_set ?_ GE262.out) | exact HB.out))⟩; clear HO0_0 BK261 BK262 HK HB hq_; have HO0_0 := n0_; have BK261 := n1_; have BK262 := n2_; have HK := n3_; have HB := n4_; clear n0_ n1_ n2_ n3_ n4_))))
      have n0_ := am_ (Kd.R_drew HO0_0.out); have n1_ := am_ (blk_drew BK261.out); have n2_ := am_ (blk_drew BK262.out); have n3_ := am_ (Kept.drew HK.out); have n4_ := am_ (below_drew1 HB.out); clear HO0_0; clear BK261; clear BK262; clear HK; clear HB; have HO0_0 := n0_; have BK261 := n1_; have BK262 := n2_; have HK := n3_; have HB := n4_; clear n0_ n1_ n2_ n3_ n4_; refine start_ (n := 7) (S := fun w' => w'.cell? ⟨gb261, 0, none⟩ = some (.slice Ao10 l0_0.length co10)) (ds := [6]) #[false, false, false, false, false, false, false] (by kernel_rfl) rfl rfl ((blk_cell BK261.out 0).trans rfl) (fun hHeld => ?_); generalize w12.drew = w13 at HO0_0 BK261 BK262 HK HB hHeld ⊢; refine pure_ (i := 0) (N := some 12) (v := ?_) (a' := ?_) #[true, false, false, false, false, false, false] rfl rfl (by kernel_rfl) (fun _ _ _ h => h) (Or.inl ⟨by rfl, ?_⟩) ?_ ?_; rotate_left
      · intro w'
        go_simp
        with_reducible rfl
      rotate_left
      · simp only [Act.put, List.setIfInBounds_toArray, List.set_cons_zero, List.set_cons_succ, i64_w, i32_w]
        rfl
      refine pure_ (i := 2) (N := some 14) (v := ?_) (a' := ?_) #[true, false, true, false, false, false, false] rfl rfl (by kernel_rfl) (fun _ _ _ h => h) (Or.inl ⟨by rfl, ?_⟩) ?_ ?_; rotate_left
      · intro w'
        go_simp
        with_reducible rfl
      rotate_left
      · simp only [Act.put, List.setIfInBounds_toArray, List.set_cons_zero, List.set_cons_succ, i64_w, i32_w]
        rfl
      refine pure_ (i := 3) (N := some 15) (v := ?_) (a' := ?_) #[true, false, true, true, false, false, false] rfl rfl (by kernel_rfl) (fun _ _ _ h => h) (Or.inl ⟨by rfl, ?_⟩) ?_ ?_; rotate_left
      · intro w'
        go_simp
        with_reducible rfl
      rotate_left
      · simp only [Act.put, List.setIfInBounds_toArray, List.set_cons_zero, List.set_cons_succ, i64_w, i32_w]
        rfl
      refine take_ (i := 1) (N := some 13) (v := ?_) (a' := ?_) #[true, true, true, true, false, false, false] rfl rfl (by kernel_rfl) (fun _ _ _ h => h) (Or.inl ⟨by rfl, ?_⟩) hHeld ?_ ?_; rotate_left
      · intro w' s0
        go_simp
        with_reducible rfl
      rotate_left
      · simp only [Act.put, List.setIfInBounds_toArray, List.set_cons_zero, List.set_cons_succ, i64_w, i32_w]
        rfl
      refine one_ (i := 4) (N := some 16) #[true, true, true, true, true, false, false] rfl rfl (by kernel_rfl) (by decide) (fun K hK => ?_); refine goes_ Tryd.func43 (by kernel_rfl) rfl #[.string a2] (by rfl) rfl rfl y1_ ?_
      with_reducible refine (spec_MakKey.calls k a2 t264 _ A5.out).mono ?_
      rintro e w14 ⟨rfl, hb⟩; refine ⟨_, rfl, ?_⟩; have n0_ := am_ (Kd.R_below (y11_ HO0_0.out) hb); have n1_ := am_ (blk_below (g := gb261) (o := .cells #[.slice Ao10 l0_0.length co10] 55 (0, 0)) (y12_ BK261.out) hb); have n2_ := am_ (blk_below (g := gb262) (o := .cells #[.slice none 0 0] 55 (0, 0)) (y12_ BK262.out) hb); have n3_ := am_ (Kept.below (S := (fun k_ => P0_0_ k_)) (by repeat (first | (with_reducible first | exact HK.out | apply Kept.alloc | apply Kept.drewN | apply Kept.drew | refine Kept.setCell ?_ (.inr GW261.out) _ | refine Kept.setCell ?_ (.inr GW262.out) _) | exact HK.out)) hb); have n4_ := am_ (below_step (by repeat (first | (with_reducible first | exact HB.out | apply below_alloc | apply pw_below_drewN | apply below_drew1 | refine below_set ?_ GE261.out | refine below_set ?_ GE262.out) | exact HB.out)) hb); clear HO0_0; clear BK261; clear BK262; clear HK; clear HB; have HO0_0 := n0_; have BK261 := n1_; have BK262 := n2_; have HK := n3_; have HB := n4_; clear n0_ n1_ n2_ n3_ n4_; (try clear hb); (try clear hb2); (try clear hk); (try clear hi); have p8 : 0 ≤ (t263 : Int) := of_decide_eq_true y3_; have q8 : (t263 : Int) < ((l0_0.length : Int) : Int) := of_decide_eq_true y3_; obtain ⟨go8, co8, eo8, gb8, gl8, cl8, HG8⟩ := Kd.R_form HO0_0.out (by omega); (first | cases eo8 | (injection eo8 with ea_ en_ ec_; (first | subst ea_ | (injection ea_ with ea_; subst ea_)); subst ec_; clear en_)); have GB8 := am_ gb8; have GG8 := am_ HG8; clear gb8 gl8 HG8; have HMgo8 := am_ (show (P0_0_ go8 ∨ w.heap.size ≤ go8) from (HO0_0.out.1 _ rfl)); obtain ⟨hx8_0, hf8_0⟩ := Kd.R_celln (⟨#[]⟩ : ByteArray) HO0_0.out (t263 : Int) p8 q8; replace p8 := eq_true p8; replace q8 := eq_true q8; have HP15 := Kd.R_putn HO0_0.out (t263 : Int) t264; rw [← Ny265.out] at HP15; have HQ15 := am_ HP15; clear HP15; refine hK.out _ _ ((blk_cell BK261.out 0).trans rfl) (fun hHeld => ?_); clear hK K; refine norm_ (a' := ?_) ?_ ?_; rotate_left
      · show Act.put _ (some 16) _ = _
        simp only [Act.put, List.setIfInBounds_toArray, List.set_cons_zero, List.set_cons_succ, i64_w, i32_w]
        rfl
      refine pure_ (i := 5) (N := some 17) (v := ?_) (a' := ?_) #[true, true, true, true, true, true, false] rfl rfl (by kernel_rfl) (fun _ _ _ h => h) (Or.inl ⟨by rfl, ?_⟩) ?_ ?_; rotate_left
      · intro w'
        go_simp
        with_reducible rfl
      rotate_left
      · simp only [Act.put, List.setIfInBounds_toArray, List.set_cons_zero, List.set_cons_succ, i64_w, i32_w]
        rfl
      refine last_ (i := 6) (N := none) #[true, true, true, true, true, true, true] rfl rfl (by kernel_rfl) (by decide) (fun K hK => ?_); refine skip_ (w1 := ?_) (by rfl) rfl ?_ ?_; rotate_left
      · go_simp
        rfl
      refine hK.out _ _ ?_; clear hK K; refine done_ (by kernel_rfl) ?_
      try go_wp2_with (first | ((with_reducible refine gate_callee (f := 25) rfl ?_); refine goesL_ (some 19) rfl rfl Tryd.func25 (by kernel_rfl) rfl #[.int .i64 t263] rfl y1_ ?_; (with_reducible refine (spec_TreUp.calls k t263 t266 _ A9.out).mono ?_); rintro e w16 ⟨v267, rfl, ho0, hb⟩; refine ⟨_, rfl, ?_⟩; have HO268 := am_ (Kd.R_lower (Kd.R_newM (M := fun k_ => (P0_0_ k_ ∨ w.heap.size ≤ k_)) ho0 (show Kept w _ (fun k_ => P0_0_ k_) from by repeat (first | (with_reducible first | exact HK.out | apply Kept.alloc | apply Kept.drewN | apply Kept.drew | refine Kept.setCell ?_ HMgo8.out _ | refine Kept.setCell ?_ (.inr GW261.out) _ | refine Kept.setCell ?_ (.inr GW262.out) _) | exact HK.out)).1 (fun k_ h_ => .inr h_)) (below_size (by repeat (first | (with_reducible first | exact HB.out | apply below_alloc | apply pw_below_drewN | apply below_drew1 | refine below_set ?_ GB8.out | refine below_set ?_ GE261.out | refine below_set ?_ GE262.out) | exact HB.out)))); replace BK261 := am_ (blk_below (g := gb261) (o := .cells #[.slice (some ⟨go8, 0, none⟩) l0_0.length co10] 55 (0, 0)) (by (with_reducible repeat (first | refine blk_drewN ?_ _ | refine blk_drew ?_ | refine blk_alloc ?_ _)); refine blk_far ?_ (by have h_ := Kd.R_ne HO0_0.out BK261.out (by decide); intro e_; exact h_ (by rw [e_]; rfl)) _; (with_reducible repeat (first | refine blk_drewN ?_ _ | refine blk_drew ?_ | refine blk_alloc ?_ _)); exact BK261.out) hb); replace BK262 := am_ (blk_below (g := gb262) (o := .cells #[.slice none 0 0] 55 (0, 0)) (by (with_reducible repeat (first | refine blk_drewN ?_ _ | refine blk_drew ?_ | refine blk_alloc ?_ _)); refine blk_far ?_ (by have h_ := Kd.R_ne HO0_0.out BK262.out (by decide); intro e_; exact h_ (by rw [e_]; rfl)) _; (with_reducible repeat (first | refine blk_drewN ?_ _ | refine blk_drew ?_ | refine blk_alloc ?_ _)); exact BK262.out) hb); replace HO0_0 := am_ (Kd.R_below (y11_ HQ15.out) hb); replace HK := am_ (Kept.below (S := (fun k_ => P0_0_ k_)) (by repeat (first | (with_reducible first | exact HK.out | apply Kept.alloc | apply Kept.drewN | apply Kept.drew | refine Kept.setCell ?_ HMgo8.out _ | refine Kept.setCell ?_ (.inr GW261.out) _ | refine Kept.setCell ?_ (.inr GW262.out) _) | exact HK.out)) hb); replace HB := am_ (below_step (by repeat (first | (with_reducible first | exact HB.out | apply below_alloc | apply pw_below_drewN | apply below_drew1 | refine below_set ?_ GB8.out | refine below_set ?_ GE261.out | refine below_set ?_ GE262.out) | exact HB.out)) hb); (try clear hb); (try clear hb2); (try clear hk); (try clear hi); (try clear ho0)))
      go_loopg [2, 9] k (fun kq v2 v9 w' => ∃ (x2_1 : ByteArray) (x9_1 : Int) (x262000_1 : List ByteArray) (u262000 : Value), v2 = .string x2_1 ∧ v9 = .int .i64 x9_1 ∧ Aside0 (spec_l3Set.l0 kq x2_1 t266 x9_1 x262000_1 = some r) ∧ Aside0 (kq ≤ k) ∧ Aside0 (Kd.R (Kd.int .i64) 3 w' w0.heap.size (fun k_ => (P0_0_ k_ ∨ w.heap.size ≤ k_)) v267 t266) ∧ Aside0 (Kd.R Kd.string 9 w' w0.heap.size (fun k_ => (P0_0_ k_ ∨ w.heap.size ≤ k_)) u262000 x262000_1) ∧ Aside0 (w'.heap[gb261]? = some (.cells #[u262000] 55 (0, 0))) ∧ Aside0 (w'.heap[gb262]? = some (.cells #[(.slice none 0 0)] 55 (0, 0))) ∧ Aside0 (Kept w w' (fun k_ => P0_0_ k_)) ∧ Aside0 (Below w0.heap.size w0 w'))
      case atStart => exact ⟨(a2), (0), (y265), (.slice (some ⟨go8, 0, none⟩) l0_0.length co10), y4_, y4_, H', ⟨Nat.le_refl _⟩, ⟨by (with_reducible repeat (first | apply Kd.R_alloc | apply Kd.R_drewN | apply Kd.R_drew)); exact Kd.R_mono HO268.out (fun _ hk => hk.1)⟩, ⟨by (with_reducible repeat (first | apply Kd.R_alloc | apply Kd.R_drewN | apply Kd.R_drew)); exact HO0_0.out⟩, ⟨by (with_reducible repeat (first | refine blk_drewN ?_ _ | refine blk_drew ?_ | refine blk_alloc ?_ _)); exact BK261.out⟩, ⟨by (with_reducible repeat (first | refine blk_drewN ?_ _ | refine blk_drew ?_ | refine blk_alloc ?_ _)); exact BK262.out⟩, ⟨by repeat (first | (with_reducible first | exact HK.out | apply Kept.alloc | apply Kept.drewN | apply Kept.drew | refine Kept.setCell ?_ (.inr GW261.out) _ | refine Kept.setCell ?_ (.inr GW262.out) _) | exact HK.out)⟩, ⟨by repeat (first | (with_reducible first | exact HB.out | apply below_alloc | apply pw_below_drewN | apply below_drew1 | refine below_set ?_ GE261.out | refine below_set ?_ GE262.out) | exact HB.out)⟩⟩
      case round =>
        clear H'; (try clear c1); (try clear c2); (try clear p2); (try clear c4); (try clear c6); (try clear c6b0); (try clear c7); (try clear c7b0); (try clear p8); (try clear q8); (try clear hx8); (try clear hf8); (try clear c9); (try clear c12); (try clear hx8_0); (try clear p8); (try clear q8); obtain ⟨x2_1, x9_1, x262000_1, u262000, rfl, rfl, HA, HK1, HO_8, HO_262000, BK261, BK262, HK, HB⟩ := hrel
        cases gk with
        | zero => exact absurd HA.out (by simp [spec_l3Set.l0])
        | succ k1 =>
          have H := HA.out; clear HA; simp only [spec_l3Set.l0] at H; by_cases c17 : x9_1 < (t266.length : Int)
          · rw [if_pos c17] at H
            have c17b0 : decide (x9_1 < (t266.length : Int)) = true := decide_eq_true c17; clear c17; replace H := Option.bind_eq_some_iff.mp H; obtain ⟨t269, A180, H⟩ := H; replace H : (if 0 ≤ x9_1 then ((spec_MakKey.f k1 t269).bind fun t271 => (if 0 ≤ (rd t266 x9_1) then (if (rd t266 x9_1) < (x262000_1.length : Int) then (spec_l3Set.l0 k1 t269 t266 (wrap64 (x9_1 + 1)) (x262000_1.set ((rd t266 x9_1) : Int).toNat t271)) else (none)) else (none))) else (none)) = some r := H; have A18 := am_ A180; clear A180; by_cases c19 : 0 ≤ x9_1
            · rw [if_pos c19] at H
              have c19b0 : decide (0 ≤ x9_1) = true := decide_eq_true c19; clear c19; replace H := Option.bind_eq_some_iff.mp H; obtain ⟨t271, A200, H⟩ := H; replace H : (if 0 ≤ (rd t266 x9_1) then (if (rd t266 x9_1) < (x262000_1.length : Int) then (spec_l3Set.l0 k1 t269 t266 (wrap64 (x9_1 + 1)) (x262000_1.set ((rd t266 x9_1) : Int).toNat t271)) else (none)) else (none)) = some r := H; have A20 := am_ A200; clear A200; by_cases c21 : 0 ≤ (rd t266 x9_1)
              · rw [if_pos c21] at H
                have c21b0 : decide (0 ≤ (rd t266 x9_1)) = true := decide_eq_true c21; clear c21; by_cases c22 : (rd t266 x9_1) < (x262000_1.length : Int)
                · rw [if_pos c22] at H
                  have c22b0 : decide ((rd t266 x9_1) < (x262000_1.length : Int)) = true := decide_eq_true c22; clear c22
                  obtain ⟨y272, hy272⟩ : ∃ y_ : List ByteArray, y_ = (x262000_1.set ((rd t266 x9_1) : Int).toNat t271) := ⟨_, rfl⟩
                  replace H : (spec_l3Set.l0 k1 t269 t266 (wrap64 (x9_1 + 1)) y272) = some r := by first | (rw [hy272]; with_reducible exact H) | (have H2_ := (Option.bind_some _ _).symm.trans H; rw [hy272]; with_reducible exact H2_) | (have H2_ := (Option.bind_some _ _).symm.trans H; with_reducible exact H2_) | with_reducible exact H | (rw [hy272]; exact H) | exact H
                  have Ny272 := am_ hy272; clear hy272; have H' := am_ H; clear H; obtain ⟨Ao24, co24, eo24⟩ := Kd.R_slice HO_8.out; subst eo24
                  try go_wp2_with (first | ((with_reducible refine gate_callee (f := 42) rfl ?_); refine goesL_ (some 27) rfl rfl Tryd.func42 (by kernel_rfl) rfl #[.string x2_1] rfl y1_ ?_; (with_reducible refine (spec_MakNext.calls k1 x2_1 t269 _ A18.out).mono ?_); rintro e w25 ⟨rfl, hb⟩; refine ⟨_, rfl, ?_⟩; replace HO_8 := am_ (Kd.R_below (y11_ HO_8.out) hb); replace HO_262000 := am_ (Kd.R_below (y11_ HO_262000.out) hb); replace BK261 := am_ (blk_below (g := gb261) (o := .cells #[u262000] 55 (0, 0)) (y12_ BK261.out) hb); replace BK262 := am_ (blk_below (g := gb262) (o := .cells #[.slice none 0 0] 55 (0, 0)) (y12_ BK262.out) hb); replace HK := am_ (Kept.below (S := (fun k_ => P0_0_ k_)) (by repeat (first | (with_reducible first | exact HK.out | apply Kept.alloc | apply Kept.drewN | apply Kept.drew | refine Kept.setCell ?_ (.inr GW261.out) _ | refine Kept.setCell ?_ (.inr GW262.out) _) | exact HK.out)) hb); replace HB := am_ (below_step (by repeat (first | (with_reducible first | exact HB.out | apply below_alloc | apply pw_below_drewN | apply below_drew1 | refine below_set ?_ GE261.out | refine below_set ?_ GE262.out) | exact HB.out)) hb); clear hb))
                  have n0_ := am_ (Kd.R_drew HO_8.out); have n1_ := am_ (Kd.R_drew HO_262000.out); have n2_ := am_ (blk_drew BK261.out); have n3_ := am_ (blk_drew BK262.out); have n4_ := am_ (Kept.drew HK.out); have n5_ := am_ (below_drew1 HB.out); clear HO_8; clear HO_262000; clear BK261; clear BK262; clear HK; clear HB; have HO_8 := n0_; have HO_262000 := n1_; have BK261 := n2_; have BK262 := n3_; have HK := n4_; have HB := n5_; clear n0_ n1_ n2_ n3_ n4_ n5_; have p270 : 0 ≤ (x9_1 : Int) := of_decide_eq_true y3_; have q270 : x9_1 < (t266.length : Int) := of_decide_eq_true y3_; obtain ⟨ad270, e270, hx270_0⟩ := Kd.at_int (Kd.R_reads' HO_8.out).2.2 x9_1 p270 q270
                  cases e270
                  replace p270 := eq_true p270; replace q270 := eq_true q270; refine start_ (n := 10) (S := fun w' => w'.cell? ⟨gb261, 0, none⟩ = some (u262000) ∧ w'.cell? (ad270.add (x9_1).toNat) = some (.int .i64 (rd t266 x9_1))) (ds := [9]) #[false, false, false, false, false, false, false, false, false, false] (by kernel_rfl) rfl rfl ⟨(blk_cell BK261.out 0).trans rfl, hx270_0⟩ (fun hHeld => ?_); refine with_tabW spec_l3Set.tab8 spec_l3Set.bits8 (fun HT_ HW_ => ?_); generalize w25.drew = w26 at HO_8 HO_262000 BK261 BK262 HK HB hx270_0 hHeld ⊢; refine pure_ (i := 0) (N := some 28) (v := ?_) (a' := ?_) #[true, false, false, false, false, false, false, false, false, false] rfl rfl (any_of HT_.out (by kernel_rfl)) (fun _ _ _ h => h) (Or.inl ⟨by rfl, ?_⟩) ?_ ?_; rotate_left
                  · intro w'
                    go_simp
                    with_reducible rfl
                  rotate_left
                  · simp only [Act.put, List.setIfInBounds_toArray, List.set_cons_zero, List.set_cons_succ, i64_w, i32_w]
                    rfl
                  refine pure_ (i := 2) (N := some 30) (v := ?_) (a' := ?_) #[true, false, true, false, false, false, false, false, false, false] rfl rfl (any_of HT_.out (by kernel_rfl)) (fun _ _ _ h => h) (Or.inl ⟨by rfl, ?_⟩) ?_ ?_; rotate_left
                  · intro w'
                    go_simp
                    with_reducible rfl
                  rotate_left
                  · simp only [Act.put, List.setIfInBounds_toArray, List.set_cons_zero, List.set_cons_succ, i64_w, i32_w]
                    rfl
                  refine pure_ (i := 3) (N := some 31) (v := ?_) (a' := ?_) #[true, false, true, true, false, false, false, false, false, false] rfl rfl (any_of HT_.out (by kernel_rfl)) (fun _ _ _ h => h) (Or.inl ⟨by rfl, ?_⟩) ?_ ?_; rotate_left
                  · intro w'
                    go_simp
                    with_reducible rfl
                  rotate_left
                  · simp only [Act.put, List.setIfInBounds_toArray, List.set_cons_zero, List.set_cons_succ, i64_w, i32_w]
                    rfl
                  refine pure_ (i := 4) (N := some 32) (v := ?_) (a' := ?_) #[true, false, true, true, true, false, false, false, false, false] rfl rfl (any_of HT_.out (by kernel_rfl)) (fun _ _ _ h => h) (Or.inl ⟨by rfl, ?_⟩) ?_ ?_; rotate_left
                  · intro w'
                    go_simp
                    with_reducible rfl
                  rotate_left
                  · simp only [Act.put, List.setIfInBounds_toArray, List.set_cons_zero, List.set_cons_succ, i64_w, i32_w]
                    rfl
                  refine pure_ (i := 6) (N := some 34) (v := ?_) (a' := ?_) #[true, false, true, true, true, false, true, false, false, false] rfl rfl (any_of HT_.out (by kernel_rfl)) (fun _ _ _ h => h) (Or.inl ⟨by rfl, ?_⟩) ?_ ?_; rotate_left
                  · intro w'
                    go_simp
                    with_reducible rfl
                  rotate_left
                  · simp only [Act.put, List.setIfInBounds_toArray, List.set_cons_zero, List.set_cons_succ, i64_w, i32_w]
                    rfl
                  refine take_ (i := 1) (N := some 29) (v := ?_) (a' := ?_) #[true, true, true, true, true, false, true, false, false, false] rfl rfl (take_ofW HT_.out HW_.out (by kernel_rfl)) (fun _ _ _ h => h) (Or.inl ⟨by rfl, ?_⟩) hHeld ?_ ?_; rotate_left
                  · rintro w' ⟨s0, s1⟩
                    go_simp
                    with_reducible rfl
                  rotate_left
                  · simp only [Act.put, List.setIfInBounds_toArray, List.set_cons_zero, List.set_cons_succ, i64_w, i32_w]
                    rfl
                  refine take_ (i := 5) (N := some 33) (v := ?_) (a' := ?_) #[true, true, true, true, true, true, true, false, false, false] rfl rfl (take_ofW HT_.out HW_.out (by kernel_rfl)) (fun _ _ _ h => h) (Or.inl ⟨by rfl, ?_⟩) hHeld ?_ ?_; rotate_left
                  · rintro w' ⟨s0, s1⟩
                    go_simp
                    with_reducible rfl
                  rotate_left
                  · simp only [Act.put, List.setIfInBounds_toArray, List.set_cons_zero, List.set_cons_succ, i64_w, i32_w]
                    rfl
                  refine one_ (i := 7) (N := some 35) #[true, true, true, true, true, true, true, true, false, false] rfl rfl (one_of HT_.out (by kernel_rfl)) (by decide) (fun K hK => ?_); refine goes_ Tryd.func43 (by kernel_rfl) rfl #[.string t269] (by rfl) rfl rfl y1_ ?_
                  with_reducible refine (spec_MakKey.calls k1 t269 t271 _ A20.out).mono ?_
                  rintro e w27 ⟨rfl, hb⟩; have HS1_ := (hb.cell (World.block_lt_of_cell? _ _ (hHeld.2))).trans (hHeld.2); refine ⟨_, rfl, ?_⟩; have n0_ := am_ (Kd.R_below (y11_ HO_8.out) hb); have n1_ := am_ (Kd.R_below (y11_ HO_262000.out) hb); have n2_ := am_ (blk_below (g := gb261) (o := .cells #[u262000] 55 (0, 0)) (y12_ BK261.out) hb); have n3_ := am_ (blk_below (g := gb262) (o := .cells #[.slice none 0 0] 55 (0, 0)) (y12_ BK262.out) hb); have n4_ := am_ (Kept.below (S := (fun k_ => P0_0_ k_)) (by repeat (first | (with_reducible first | exact HK.out | apply Kept.alloc | apply Kept.drewN | apply Kept.drew | refine Kept.setCell ?_ (.inr GW261.out) _ | refine Kept.setCell ?_ (.inr GW262.out) _) | exact HK.out)) hb); have n5_ := am_ (below_step (by repeat (first | (with_reducible first | exact HB.out | apply below_alloc | apply pw_below_drewN | apply below_drew1 | refine below_set ?_ GE261.out | refine below_set ?_ GE262.out) | exact HB.out)) hb); clear HO_8; clear HO_262000; clear BK261; clear BK262; clear HK; clear HB; have HO_8 := n0_; have HO_262000 := n1_; have BK261 := n2_; have BK262 := n3_; have HK := n4_; have HB := n5_; clear n0_ n1_ n2_ n3_ n4_ n5_; (try clear hb); (try clear hb2); (try clear hk); (try clear hi); have p23 : 0 ≤ ((rd t266 x9_1) : Int) := of_decide_eq_true y3_; have q23 : ((rd t266 x9_1) : Int) < ((x262000_1.length : Int) : Int) := of_decide_eq_true y3_; obtain ⟨go23, co23, eo23, gb23, gl23, cl23, HG23⟩ := Kd.R_form HO_262000.out (by omega); (first | cases eo23 | (injection eo23 with ea_ en_ ec_; (first | subst ea_ | (injection ea_ with ea_; subst ea_)); subst ec_; clear en_)); have GB23 := am_ gb23; have GG23 := am_ HG23; clear gb23 gl23 HG23; have HMgo23 := am_ (show (P0_0_ go23 ∨ w.heap.size ≤ go23) from (HO_262000.out.1 _ rfl)); obtain ⟨hx23_0, hf23_0⟩ := Kd.R_celln (⟨#[]⟩ : ByteArray) HO_262000.out ((rd t266 x9_1) : Int) p23 q23; replace p23 := eq_true p23; replace q23 := eq_true q23; have HP28 := Kd.R_putn HO_262000.out ((rd t266 x9_1) : Int) t271; rw [← Ny272.out] at HP28; have HQ28 := am_ HP28; clear HP28; refine hK.out _ _ ⟨(blk_cell BK261.out 0).trans rfl, HS1_⟩ (fun hHeld => ?_); clear hK K; refine norm_ (a' := ?_) ?_ ?_; rotate_left
                  · show Act.put _ (some 35) _ = _
                    simp only [Act.put, List.setIfInBounds_toArray, List.set_cons_zero, List.set_cons_succ, i64_w, i32_w]
                    rfl
                  refine pure_ (i := 8) (N := some 36) (v := ?_) (a' := ?_) #[true, true, true, true, true, true, true, true, true, false] rfl rfl (any_of HT_.out (by kernel_rfl)) (fun _ _ _ h => h) (Or.inl ⟨by rfl, ?_⟩) ?_ ?_; rotate_left
                  · intro w'
                    go_simp
                    with_reducible rfl
                  rotate_left
                  · simp only [Act.put, List.setIfInBounds_toArray, List.set_cons_zero, List.set_cons_succ, i64_w, i32_w]
                    rfl
                  refine last_ (i := 9) (N := none) #[true, true, true, true, true, true, true, true, true, true] rfl rfl (one_of HT_.out (by kernel_rfl)) (by decide) (fun K hK => ?_); refine skip_ (w1 := ?_) (by rfl) rfl ?_ ?_; rotate_left
                  · go_simp
                    rfl
                  refine hK.out _ _ ?_; clear hK K; refine done_ (done_of HT_.out (by kernel_rfl)) ?_
                  try go_wp2
                  go_roundg k1
                  case measure => have := HK1.out; omega
                  case rel => exact ⟨(t269), (wrap64 (x9_1 + 1)), (y272), (.slice (some ⟨go23, 0, none⟩) x262000_1.length co23), y4_, y4_, H', ⟨by have := HK1.out; omega⟩, ⟨by (with_reducible repeat (first | apply Kd.R_alloc | apply Kd.R_drewN | apply Kd.R_drew)); exact Kd.R_mono (Kd.R_far (p := ⟨go23, ((rd t266 x9_1) : Int).toNat, none⟩) (Kd.R_types HO_8.out GG23.out (by decide)) (fun _ hk => hk.2) (.string t271)) (fun _ hk => hk.1)⟩, ⟨by (with_reducible repeat (first | apply Kd.R_alloc | apply Kd.R_drewN | apply Kd.R_drew)); exact HQ28.out⟩, ⟨by (with_reducible repeat (first | refine blk_drewN ?_ _ | refine blk_drew ?_ | refine blk_alloc ?_ _)); refine blk_far ?_ (by have h_ := Kd.R_ne HO_262000.out BK261.out (by decide); intro e_; exact h_ (by rw [e_]; rfl)) _; (with_reducible repeat (first | refine blk_drewN ?_ _ | refine blk_drew ?_ | refine blk_alloc ?_ _)); exact BK261.out⟩, ⟨by (with_reducible repeat (first | refine blk_drewN ?_ _ | refine blk_drew ?_ | refine blk_alloc ?_ _)); refine blk_far ?_ (by have h_ := Kd.R_ne HO_262000.out BK262.out (by decide); intro e_; exact h_ (by rw [e_]; rfl)) _; (with_reducible repeat (first | refine blk_drewN ?_ _ | refine blk_drew ?_ | refine blk_alloc ?_ _)); exact BK262.out⟩, ⟨by repeat (first | (with_reducible first | exact HK.out | apply Kept.alloc | apply Kept.drewN | apply Kept.drew | refine Kept.setCell ?_ HMgo23.out _ | refine Kept.setCell ?_ (.inr GW261.out) _ | refine Kept.setCell ?_ (.inr GW262.out) _) | exact HK.out)⟩, ⟨by repeat (first | (with_reducible first | exact HB.out | apply below_alloc | apply pw_below_drewN | apply below_drew1 | refine below_set ?_ GB23.out | refine below_set ?_ GE261.out | refine below_set ?_ GE262.out) | exact HB.out)⟩⟩
                rw [if_neg c22] at H; exact absurd H (by simp)
              rw [if_neg c21] at H; exact absurd H (by simp)
            rw [if_neg c19] at H; exact absurd H (by simp)
          rw [if_neg c17] at H; have c17b0 : decide (x9_1 < (t266.length : Int)) = false := decide_eq_false c17; clear c17; obtain rfl := Option.some.inj H; obtain ⟨Ao29, co29, eo29⟩ := Kd.R_slice HO_8.out; subst eo29; have hnb30 := NB261_262.out; have hnc30 := NB262_261.out; have hcz31_0 : wr.cell? ⟨gb261, 0, none⟩ = some (u262000) := (blk_cell BK261.out 0).trans rfl; have hfz31_0 := blk_frozen BK261.out 0; obtain ⟨Ao32, co32, eo32⟩ := Kd.R_slice HO_262000.out; subst eo32; have hcz33_0 : wr.cell? ⟨gb262, 0, none⟩ = some (.slice none 0 0) := (blk_cell BK262.out 0).trans rfl; have hfz33_0 := blk_frozen BK262.out 0; go_wp2; refine bodyPost_ret (results_cell_row rfl _ _ gb262 55 #[.slice Ao32 x262000_1.length co32] (0, 0) _ rfl (by (with_reducible repeat (first | refine blk_drewN ?_ _ | refine blk_drew ?_ | refine blk_alloc ?_ _)); refine blk_put (cs := #[.slice none 0 0]) ?_ 0 _ y5_; (with_reducible repeat (first | refine blk_drewN ?_ _ | refine blk_drew ?_ | refine blk_alloc ?_ _)); exact BK262.out) Tryd.underlying55 rfl (by kernel_rfl)) rfl ?_; exact ⟨_, y6_, by (with_reducible repeat (first | apply Kd.R_alloc | apply Kd.R_drewN | apply Kd.R_drew)); exact Kd.R_mono (Kd.R_far (p := ⟨gb262, 0, none⟩) (Kd.R_types HO_262000.out BK262.out (by decide)) (fun _ hk => hk.2) (.slice Ao32 x262000_1.length co32)) (fun _ hk => hk.1), by repeat (first | (with_reducible first | exact HB.out | apply below_alloc | apply pw_below_drewN | apply below_drew1 | refine below_set ?_ GE261.out | refine below_set ?_ GE262.out) | exact HB.out), by repeat (first | (with_reducible first | exact HK.out | apply Kept.alloc | apply Kept.drewN | apply Kept.drew | refine Kept.setCell ?_ (.inr GW261.out) _ | refine Kept.setCell ?_ (.inr GW262.out) _) | exact HK.out)⟩
    rw [if_neg c7] at H; exact absurd H (by simp)
  rw [if_neg c6] at H; exact absurd H (by simp)

end Go.Proofs.YtdcaipomjimplaaDoor.Wk
