-- Written by this session's own program (wip/tools/pp.py) out of the translation, over functions given by hand. Lean checks it.
import Derived.Test.YtdcaipomjimplaaDoorWix0
import Derived.Test.YtdcaipomjimplaaDoorWix1
import Derived.Test.YtdcaipomjimplaaDoorWix5
import Derived.Test.YtdcaipomjimplaaDoorWix12
namespace Go.Proofs.YtdcaipomjimplaaDoor.Wi
open Go.RowKit Go.Proofs.YtdcaipomjimplaaDoorW.PrintWords Go.Proofs.YtdcaipomjimplaaDoorW.PrintLast Go.Proofs.YtdcaipomjimplaaDoorW.PrintMore
attribute [local go_sem] max2_int min2_int max_two min_two max_three min_three max_four min_four   -- for this text's walks alone
set_option linter.unusedVariables false
set_option linter.unusedSimpArgs false

/-! ### laws_FnTreIn: function 13 -/
mutual
def laws_FnTreIn.j0 : Nat → List Int → Bool → List ByteArray → Option (Bool)
  | 0, _, _, _ => none
  | k + 1, x4, x33, x377000 => if x33 = true then (some false) else ((spec_TreOk.f k x377000).bind fun t393 => (if t393 = true then (laws_FnTreIn.l0 k x4 0 x377000) else (if (x4.length : Int) = 0 then ((laws_keOk.f).bind fun t394 => (some t394)) else (some false))))
def laws_FnTreIn.l0 : Nat → List Int → Int → List ByteArray → Option (Bool)
  | 0, _, _, _ => none
  | k + 1, x4, x5, x377000 => if x5 < 8 then ((laws_keIn.f k x4 x5).bind fun t395 => ((impl_TreLeaf.f x5).bind fun t396 => (if 0 ≤ t396 then (if t396 < (x377000.length : Int) then (if (t395 != ((rdOf ByteArray.empty x377000 t396).toList != ([] : List UInt8))) = true then (some false) else (laws_FnTreIn.l0 k x4 (wrap64 (x5 + 1)) x377000)) else (none)) else (none)))) else (laws_FnTreIn.l1 k x4 1)
def laws_FnTreIn.l1 : Nat → List Int → Int → Option (Bool)
  | 0, _, _ => none
  | k + 1, x4, x6 => if x6 < (x4.length : Int) then (if 0 ≤ (wrap64 (x6 - 1)) then (if (wrap64 (x6 - 1)) < (x4.length : Int) then (if 0 ≤ x6 then (if (rd x4 (wrap64 (x6 - 1))) ≥ (rd x4 x6) then (some false) else (laws_FnTreIn.l1 k x4 (wrap64 (x6 + 1)))) else (none)) else (none)) else (none)) else ((impl_TreNew.f).bind fun t400 => ((impl_TreOk.f t400).bind fun t403 => (if t403 = true then ((impl_TreNew.f).bind fun t404 => ((impl_TreIn.f k t404).bind fun t407 => (some ((t407.length : Int) == 0)))) else (some false))))
end
def laws_FnTreIn.f (k : Nat) (l0 : List Int) : Option (Bool) := if (l0.length : Int) > 1048576 then (some true) else ((spec_DrawTreIn.f k l0).bind fun t373 => ((impl_TreIn.f k t373).bind fun t377 => ((spec_TreIn.f k t373).bind fun t380 => ((laws_keInts.f k t377 t380).bind fun t383 => (if t383 = true then ((impl_TreOk.f t373).bind fun t384 => ((spec_TreOk.f k t373).bind fun t385 => (if (t384 != t385) = true then (laws_FnTreIn.j0 k t377 true t373) else ((impl_TreNew.f).bind fun t386 => ((spec_TreNew.f).bind fun t389 => ((laws_keTexts.f k t386 t389).bind fun t392 => (laws_FnTreIn.j0 k t377 (!t392) t373))))))) else (laws_FnTreIn.j0 k t377 true t373))))))
theorem laws_FnTreIn.mono_l : ∀ k, (∀ y0 y1 y2, LeO (laws_FnTreIn.j0 k y0 y1 y2) (laws_FnTreIn.j0 (k + 1) y0 y1 y2)) ∧ (∀ y0 y1 y2, LeO (laws_FnTreIn.l0 k y0 y1 y2) (laws_FnTreIn.l0 (k + 1) y0 y1 y2)) ∧ (∀ y0 y1, LeO (laws_FnTreIn.l1 k y0 y1) (laws_FnTreIn.l1 (k + 1) y0 y1))
  | 0 => ⟨fun _ _ _ r h => by simp [laws_FnTreIn.j0] at h, fun _ _ _ r h => by simp [laws_FnTreIn.l0] at h, fun _ _ r h => by simp [laws_FnTreIn.l1] at h⟩
  | k + 1 => by
    obtain ⟨ih0, ih1, ih2⟩ := laws_FnTreIn.mono_l k; refine ⟨?_, ?_, ?_⟩
    · intro y0 y1 y2
      unfold laws_FnTreIn.j0
      repeat' first
      | (with_reducible exact ih0 _ _ _)
      | (with_reducible exact ih1 _ _ _)
      | (with_reducible exact ih2 _ _)
      | (with_reducible exact impl_TreIn.mono _ _)
      | (with_reducible exact laws_keIn.mono _ _ _)
      | (with_reducible exact laws_keInts.mono _ _ _)
      | (with_reducible exact laws_keTexts.mono _ _ _)
      | (with_reducible exact spec_DrawTreIn.mono _ _)
      | (with_reducible exact spec_TreIn.mono _ _)
      | (with_reducible exact spec_TreOk.mono _ _)
      | (with_reducible exact LeO.refl _)
      | (with_reducible exact LeO.none _)
      | (with_reducible refine LeO.ite ?_ ?_)
      | (with_reducible refine LeO.bind ?_ (fun _ => ?_))
      | exact LeO.none _
      | refine LeO.ite ?_ ?_
      | refine LeO.bind ?_ (fun _ => ?_)
    · intro y0 y1 y2
      unfold laws_FnTreIn.l0
      repeat' first
      | (with_reducible exact ih0 _ _ _)
      | (with_reducible exact ih1 _ _ _)
      | (with_reducible exact ih2 _ _)
      | (with_reducible exact impl_TreIn.mono _ _)
      | (with_reducible exact laws_keIn.mono _ _ _)
      | (with_reducible exact laws_keInts.mono _ _ _)
      | (with_reducible exact laws_keTexts.mono _ _ _)
      | (with_reducible exact spec_DrawTreIn.mono _ _)
      | (with_reducible exact spec_TreIn.mono _ _)
      | (with_reducible exact spec_TreOk.mono _ _)
      | (with_reducible exact LeO.refl _)
      | (with_reducible exact LeO.none _)
      | (with_reducible refine LeO.ite ?_ ?_)
      | (with_reducible refine LeO.bind ?_ (fun _ => ?_))
      | exact LeO.none _
      | refine LeO.ite ?_ ?_
      | refine LeO.bind ?_ (fun _ => ?_)
    intro y0 y1; unfold laws_FnTreIn.l1
    repeat' first
    | (with_reducible exact ih0 _ _ _)
    | (with_reducible exact ih1 _ _ _)
    | (with_reducible exact ih2 _ _)
    | (with_reducible exact impl_TreIn.mono _ _)
    | (with_reducible exact laws_keIn.mono _ _ _)
    | (with_reducible exact laws_keInts.mono _ _ _)
    | (with_reducible exact laws_keTexts.mono _ _ _)
    | (with_reducible exact spec_DrawTreIn.mono _ _)
    | (with_reducible exact spec_TreIn.mono _ _)
    | (with_reducible exact spec_TreOk.mono _ _)
    | (with_reducible exact LeO.refl _)
    | (with_reducible exact LeO.none _)
    | (with_reducible refine LeO.ite ?_ ?_)
    | (with_reducible refine LeO.bind ?_ (fun _ => ?_))
    | exact LeO.none _
    | refine LeO.ite ?_ ?_
    | refine LeO.bind ?_ (fun _ => ?_)
theorem laws_FnTreIn.mono : ∀ a0 k, LeO (laws_FnTreIn.f k a0) (laws_FnTreIn.f (k + 1) a0) := by
  intro a0 k; obtain ⟨ih0, ih1, ih2⟩ := laws_FnTreIn.mono_l k; unfold laws_FnTreIn.f
  repeat' first
      | (with_reducible exact ih0 _ _ _)
      | (with_reducible exact ih1 _ _ _)
      | (with_reducible exact ih2 _ _)
      | (with_reducible exact impl_TreIn.mono _ _)
      | (with_reducible exact laws_keIn.mono _ _ _)
      | (with_reducible exact laws_keInts.mono _ _ _)
      | (with_reducible exact laws_keTexts.mono _ _ _)
      | (with_reducible exact spec_DrawTreIn.mono _ _)
      | (with_reducible exact spec_TreIn.mono _ _)
      | (with_reducible exact spec_TreOk.mono _ _)
      | (with_reducible exact LeO.refl _)
      | (with_reducible exact LeO.none _)
      | (with_reducible refine LeO.ite ?_ ?_)
      | (with_reducible refine LeO.bind ?_ (fun _ => ?_))
      | exact LeO.none _
      | refine LeO.ite ?_ ?_
      | refine LeO.bind ?_ (fun _ => ?_)
def laws_FnTreIn.T5 : Bool × List (List Nat × List Nat) := (true, [([], []), ([], []), ([1], [1]), ([0, 2, 2], [0, 2]), ([3], [3]), ([4, 3], [4]), ([5], [5]), ([6, 5, 5], [5, 6]), ([5], [5]), ([8, 7, 5], [5, 8]), ([7, 9, 5], [5, 7, 9]), ([5, 10], [5, 10]), ([11, 9], [11]), ([12, 12], [12]), ([13, 12], [12, 13]), ([13, 12], [12]), ([15, 12], [12, 15]), ([14, 16, 15, 12], [12, 14, 16]), ([17, 12], [12, 17]), ([12, 18], [12, 18])])
def laws_FnTreIn.B5 : List Nat := [0, 0, 2, 7, 15, 31, 63, 127, 63, 511, 1023, 2047, 4095, 8191, 16383, 16383, 49151, 131071, 262143, 524287]
theorem laws_FnTreIn.tab5 : rtab .any (opsOf Tryd.f13 5) = laws_FnTreIn.T5 := by kernel_rfl
theorem laws_FnTreIn.bits5 : waitsOk laws_FnTreIn.T5.2 laws_FnTreIn.B5 = true := by kernel_rfl
def laws_FnTreIn.T12 : Bool × List (List Nat × List Nat) := (true, [([], []), ([], []), ([0, 1], [0, 1]), ([], []), ([3], [3]), ([], []), ([5, 2], [5]), ([4, 6], [4, 6]), ([7], [7]), ([8], [8]), ([2, 9], [2, 9])])
def laws_FnTreIn.B12 : List Nat := [0, 0, 3, 0, 8, 0, 39, 127, 255, 511, 1023]
theorem laws_FnTreIn.tab12 : rtab .any (opsOf Tryd.f13 12) = laws_FnTreIn.T12 := by kernel_rfl
theorem laws_FnTreIn.bits12 : waitsOk laws_FnTreIn.T12.2 laws_FnTreIn.B12 = true := by kernel_rfl
def laws_FnTreIn.T17 : Bool × List (List Nat × List Nat) := (true, [([], []), ([], []), ([1], [1]), ([0, 2], [0, 2]), ([3], [3]), ([], []), ([], []), ([5, 6], [5, 6]), ([7], [7]), ([4, 8], [4, 8])])
def laws_FnTreIn.B17 : List Nat := [0, 0, 2, 7, 15, 0, 0, 96, 224, 511]
theorem laws_FnTreIn.tab17 : rtab .any (opsOf Tryd.f13 17) = laws_FnTreIn.T17 := by kernel_rfl
theorem laws_FnTreIn.bits17 : waitsOk laws_FnTreIn.T17.2 laws_FnTreIn.B17 = true := by kernel_rfl
set_option maxHeartbeats 8000000 in
set_option maxRecDepth 100000 in
theorem laws_FnTreIn.calls (k : Nat) (A0 : Option Addr) (c0 : Nat) (l0 : List Int) (r : Bool) (w : World) (hr0 : Kd.C (Kd.int .u8) w A0 l0.length l0) (hc0 : l0.length ≤ c0) (hG : GlobOk w) (h : laws_FnTreIn.f k l0 = some r) :
    Calls Tryd.prog 13 #[.slice A0 l0.length c0] w fun e w' => e = .returned (.bool r) ∧ Below w.heap.size w w' := by
  have hu55 := Tryd.underlying55
  have hfl55_0 : ∀ (fv0 : Value) (W : World), (Instr.field 55 (.agg #[fv0]) 0).run Tryd.prog W = .ok fv0 W := fun _ _ => by kernel_rfl
  have HR0 := am_ hr0; have HC0 := am_ hc0; clear hr0 hc0; have HB := am_ (Below.refl w.heap.size w); have HGL := am_ hG; clear hG; have H : (if (l0.length : Int) > 1048576 then (some true) else ((spec_DrawTreIn.f k l0).bind fun t373 => ((impl_TreIn.f k t373).bind fun t377 => ((spec_TreIn.f k t373).bind fun t380 => ((laws_keInts.f k t377 t380).bind fun t383 => (if t383 = true then ((impl_TreOk.f t373).bind fun t384 => ((spec_TreOk.f k t373).bind fun t385 => (if (t384 != t385) = true then (laws_FnTreIn.j0 k t377 true t373) else ((impl_TreNew.f).bind fun t386 => ((spec_TreNew.f).bind fun t389 => ((laws_keTexts.f k t386 t389).bind fun t392 => (laws_FnTreIn.j0 k t377 (!t392) t373))))))) else (laws_FnTreIn.j0 k t377 true t373))))))) = some r := h; clear h; by_cases c2 : (l0.length : Int) > 1048576
  · rw [if_pos c2] at H
    have c2b0 : decide (1048576 < (l0.length : Int)) = true := decide_eq_true c2; have c2b1 : decide (1048576 < l0.length) = true := decide_eq_true (by omega); clear c2; obtain rfl := Option.some.inj H; go_enter Tryd.func13, Tryd.ntmps13; go_wp2; go_ret; exact ⟨y6_, y7_ HB.out⟩
  rw [if_neg c2] at H; have c2b0 : decide (1048576 < (l0.length : Int)) = false := decide_eq_false c2; have c2b1 : decide (1048576 < l0.length) = false := decide_eq_false (by omega); clear c2; replace H := Option.bind_eq_some_iff.mp H; obtain ⟨t373, A30, H⟩ := H; replace H : ((impl_TreIn.f k t373).bind fun t377 => ((spec_TreIn.f k t373).bind fun t380 => ((laws_keInts.f k t377 t380).bind fun t383 => (if t383 = true then ((impl_TreOk.f t373).bind fun t384 => ((spec_TreOk.f k t373).bind fun t385 => (if (t384 != t385) = true then (laws_FnTreIn.j0 k t377 true t373) else ((impl_TreNew.f).bind fun t386 => ((spec_TreNew.f).bind fun t389 => ((laws_keTexts.f k t386 t389).bind fun t392 => (laws_FnTreIn.j0 k t377 (!t392) t373))))))) else (laws_FnTreIn.j0 k t377 true t373))))) = some r := H; have A3 := am_ A30; clear A30; replace H := Option.bind_eq_some_iff.mp H; obtain ⟨t377, A40, H⟩ := H; replace H : ((spec_TreIn.f k t373).bind fun t380 => ((laws_keInts.f k t377 t380).bind fun t383 => (if t383 = true then ((impl_TreOk.f t373).bind fun t384 => ((spec_TreOk.f k t373).bind fun t385 => (if (t384 != t385) = true then (laws_FnTreIn.j0 k t377 true t373) else ((impl_TreNew.f).bind fun t386 => ((spec_TreNew.f).bind fun t389 => ((laws_keTexts.f k t386 t389).bind fun t392 => (laws_FnTreIn.j0 k t377 (!t392) t373))))))) else (laws_FnTreIn.j0 k t377 true t373)))) = some r := H; have A4 := am_ A40; clear A40; have HC5 := am_ H; clear H; go_enter Tryd.func13, Tryd.ntmps13
  go_upto_region 5 with (first | ((with_reducible refine gate_callee (f := 55) rfl ?_); refine goesL_ (some 11) rfl rfl Tryd.func55 (by kernel_rfl) rfl #[.slice A0 l0.length c0] rfl y1_ ?_; (with_reducible refine (spec_DrawTreIn.calls k _ _ l0 t373 _ ?side1 ?side2 A3.out).mono ?_); (case side1 => repeat (first | exact HR0.out | (with_reducible refine Kd.C_alloc ?_ _) | (with_reducible refine Kd.C_drewN ?_ _) | (with_reducible refine Kd.C_drew ?_))); (case side2 => exact HC0.out); rintro e w6 ⟨v374, rfl, ho0, hb⟩; refine ⟨_, rfl, ?_⟩; have HO375 := am_ (Kd.Q_lower ho0 (below_size (y7_ HB.out))); replace HB := am_ (below_step (y7_ HB.out) hb); (try clear hb); (try clear hb2); (try clear hk); (try clear hi); (try clear ho0)) | ((with_reducible refine gate_dst (N := 3) rfl ?_); (try (refine gate_guard (by rfl) ?_; dsimp only)); refine box_event ?hg (N := 3) ?hd (cs := #[.slice none 0 0]) (t := 55) ?hr ?_; (case hd => rfl); (case hg => rfl); (case hr => first | (go_simp; done) | (go_simp; rfl)); intro gb376 hg w7 hbox hb; replace HO375 := am_ (Kd.Q_below (y13_ HO375.out) hb); have BK376 := am_ (hbox); have GW376 := am_ ((by rw [hg]; exact (below_size (y7_ HB.out)) : w.heap.size ≤ gb376)); have GE376 := am_ ((by rw [hg]; exact (below_size (y7_ HB.out)) : w.heap.size ≤ gb376)); replace HB := am_ (below_step (y7_ HB.out) hb); clear hb hbox hg; obtain ⟨Ao8, co8, eo8, _⟩ := Kd.Q_slice HO375.out; subst eo8; have hcz9_0 : w7.cell? ⟨gb376, 0, none⟩ = some (.slice none 0 0) := (blk_cell BK376.out 0).trans rfl; have hfz9_0 := blk_frozen BK376.out 0) | ((with_reducible refine gate_callee (f := 56) rfl ?_); refine goesL_ (some 13) rfl rfl Tryd.func56 (by kernel_rfl) rfl #[.agg #[.slice Ao8 t373.length co8]] rfl y1_ ?_; (with_reducible refine (impl_TreIn.calls k _ _ t373 t377 _ ?side1 ?side2 ?side3 A4.out).mono ?_); (case side1 => refine (Kd.Q_reads' (e := 9) (base := w.heap.size) (ok := fun k_ => True) (n := t373.length) (c := co8) ?_).2.2; exact (by (with_reducible repeat (first | apply Kd.Q_alloc | apply Kd.Q_drewN | apply Kd.Q_drew)); exact (Kd.Q_mono (Kd.Q_far (p := ⟨gb376, 0, none⟩) (Kd.Q_types HO375.out BK376.out (by decide)) (fun _ hk => hk.2) (.slice Ao8 t373.length co8)) (fun _ h_ => h_.1)))); (case side2 => exact (Kd.Q_reads' HO375.out).2.1); (case side3 => exact GlobOk.below HGL.out (y8_ HB.out GE376.out)); rintro e w10 ⟨v378, rfl, ho0, hb⟩; refine ⟨_, rfl, ?_⟩; replace HO375 := am_ (Kd.Q_below (by (with_reducible repeat (first | apply Kd.Q_alloc | apply Kd.Q_drewN | apply Kd.Q_drew)); exact (Kd.Q_mono (Kd.Q_far (p := ⟨gb376, 0, none⟩) (Kd.Q_types HO375.out BK376.out (by decide)) (fun _ hk => hk.2) (.slice Ao8 t373.length co8)) (fun _ h_ => h_.1))) hb); have HO379 := am_ (Kd.Q_lower ho0 (below_size (y8_ HB.out GE376.out))); replace BK376 := am_ (blk_below (g := gb376) (o := .cells #[.slice Ao8 t373.length co8] 55 (0, 0)) (by (with_reducible repeat (first | refine blk_drewN ?_ _ | refine blk_drew ?_ | refine blk_alloc ?_ _)); refine blk_put (cs := #[.slice none 0 0]) ?_ 0 _ y5_; (with_reducible repeat (first | refine blk_drewN ?_ _ | refine blk_drew ?_ | refine blk_alloc ?_ _)); exact BK376.out) hb); replace HB := am_ (below_step (y8_ HB.out GE376.out) hb); (try clear hb); (try clear hb2); (try clear hk); (try clear hi); (try clear ho0)))
  (try simp only [Act.put, List.setIfInBounds_toArray, List.set_cons_zero, List.set_cons_succ]); go_cut [33] (fun v33 wc => ∃ (kq : Nat) (x33_4 : Bool), v33 = .bool x33_4 ∧ Aside0 (laws_FnTreIn.j0 kq t377 x33_4 t373 = some r) ∧ Aside0 (kq ≤ k) ∧ Aside0 (Kd.Q (Kd.int .i64) 3 wc w.heap.size (fun _ => True) v378 t377) ∧ Aside0 (Kd.Q Kd.string 9 wc w.heap.size (fun _ => True) (.slice Ao8 t373.length co8) t373) ∧ Aside0 (wc.heap[gb376]? = some (.cells #[(.slice Ao8 t373.length co8)] 55 (0, 0))) ∧ Aside0 (Below w.heap.size w wc))
  case first =>
    have H := HC5.out; clear HC5; replace H := Option.bind_eq_some_iff.mp H; obtain ⟨t380, A110, H⟩ := H; replace H : ((laws_keInts.f k t377 t380).bind fun t383 => (if t383 = true then ((impl_TreOk.f t373).bind fun t384 => ((spec_TreOk.f k t373).bind fun t385 => (if (t384 != t385) = true then (laws_FnTreIn.j0 k t377 true t373) else ((impl_TreNew.f).bind fun t386 => ((spec_TreNew.f).bind fun t389 => ((laws_keTexts.f k t386 t389).bind fun t392 => (laws_FnTreIn.j0 k t377 (!t392) t373))))))) else (laws_FnTreIn.j0 k t377 true t373))) = some r := H; have A11 := am_ A110; clear A110; replace H := Option.bind_eq_some_iff.mp H; obtain ⟨t383, A120, H⟩ := H; replace H : (if t383 = true then ((impl_TreOk.f t373).bind fun t384 => ((spec_TreOk.f k t373).bind fun t385 => (if (t384 != t385) = true then (laws_FnTreIn.j0 k t377 true t373) else ((impl_TreNew.f).bind fun t386 => ((spec_TreNew.f).bind fun t389 => ((laws_keTexts.f k t386 t389).bind fun t392 => (laws_FnTreIn.j0 k t377 (!t392) t373))))))) else (laws_FnTreIn.j0 k t377 true t373)) = some r := H; have A12 := am_ A120; clear A120; by_cases c13 : t383 = true
    · subst c13
      have H1 : ((impl_TreOk.f t373).bind fun t384 => ((spec_TreOk.f k t373).bind fun t385 => (if (t384 != t385) = true then (laws_FnTreIn.j0 k t377 true t373) else ((impl_TreNew.f).bind fun t386 => ((spec_TreNew.f).bind fun t389 => ((laws_keTexts.f k t386 t389).bind fun t392 => (laws_FnTreIn.j0 k t377 (!t392) t373))))))) = some r := by rw [if_pos rfl] at H; exact H
      clear H; have H := H1; clear H1; replace H := Option.bind_eq_some_iff.mp H; obtain ⟨t384, A140, H⟩ := H; replace H : ((spec_TreOk.f k t373).bind fun t385 => (if (t384 != t385) = true then (laws_FnTreIn.j0 k t377 true t373) else ((impl_TreNew.f).bind fun t386 => ((spec_TreNew.f).bind fun t389 => ((laws_keTexts.f k t386 t389).bind fun t392 => (laws_FnTreIn.j0 k t377 (!t392) t373)))))) = some r := H; have A14 := am_ A140; clear A140; replace H := Option.bind_eq_some_iff.mp H; obtain ⟨t385, A150, H⟩ := H; replace H : (if (t384 != t385) = true then (laws_FnTreIn.j0 k t377 true t373) else ((impl_TreNew.f).bind fun t386 => ((spec_TreNew.f).bind fun t389 => ((laws_keTexts.f k t386 t389).bind fun t392 => (laws_FnTreIn.j0 k t377 (!t392) t373))))) = some r := H; have A15 := am_ A150; clear A150; by_cases c16 : (t384 != t385) = true
      · rw [if_pos c16] at H
        have c16b0 : (t384 != t385) = true := c16; (try (have c16b1 : decide (t384 = t385) = false := by simpa using c16)); (try (have c16b2 : (t384 == t385) = false := by simpa using c16)); (try (have c16b3 : ¬ (t384 = t385) := by simpa using c16)); clear c16; (first | rw [c16b0] | (simp only [i64_w, i32_w]; rw [c16b0]) | skip); have H' := am_ H; clear H
        try go_wp2
        have n0_ := am_ (Kd.Q_drew HO375.out); have n1_ := am_ (Kd.Q_drew HO379.out); have n2_ := am_ (blk_drew BK376.out); have n3_ := am_ (below_drew1 HB.out); clear HO375; clear HO379; clear BK376; clear HB; have HO375 := n0_; have HO379 := n1_; have BK376 := n2_; have HB := n3_; clear n0_ n1_ n2_ n3_; refine start_ (n := 20) (S := fun w' => w'.cell? ⟨gb376, 0, none⟩ = some (.slice Ao8 t373.length co8)) (ds := []) #[false, false, false, false, false, false, false, false, false, false, false, false, false, false, false, false, false, false, false, false] (by kernel_rfl) rfl rfl ((blk_cell BK376.out 0).trans rfl) (fun hHeld => ?_); refine with_tabW laws_FnTreIn.tab5 laws_FnTreIn.bits5 (fun HT_ HW_ => ?_); generalize w10.drew = w17 at HO375 HO379 BK376 HB hHeld ⊢; refine pure_ (i := 0) (N := some 14) (v := ?_) (a' := ?_) #[true, false, false, false, false, false, false, false, false, false, false, false, false, false, false, false, false, false, false, false] rfl rfl (any_of HT_.out (by kernel_rfl)) (fun _ _ _ h => h) (Or.inl ⟨by rfl, ?_⟩) ?_ ?_; rotate_left
        · intro w'
          go_simp
          with_reducible rfl
        rotate_left
        · simp only [Act.put, List.setIfInBounds_toArray, List.set_cons_zero, List.set_cons_succ, i64_w, i32_w]
          rfl
        refine take_ (i := 1) (N := some 15) (v := ?_) (a' := ?_) #[true, true, false, false, false, false, false, false, false, false, false, false, false, false, false, false, false, false, false, false] rfl rfl (take_ofW HT_.out HW_.out (by kernel_rfl)) (fun _ _ _ h => h) (Or.inl ⟨by rfl, ?_⟩) hHeld ?_ ?_; rotate_left
        · intro w' s0
          go_simp
          with_reducible rfl
        rotate_left
        · simp only [Act.put, List.setIfInBounds_toArray, List.set_cons_zero, List.set_cons_succ, i64_w, i32_w]
          rfl
        refine one_ (i := 2) (N := some 16) #[true, true, true, false, false, false, false, false, false, false, false, false, false, false, false, false, false, false, false, false] rfl rfl (one_of HT_.out (by kernel_rfl)) (by decide) (fun K hK => ?_); refine goes_ Tryd.func57 (by kernel_rfl) rfl #[.agg #[.slice Ao8 t373.length co8]] (by rfl) rfl rfl y1_ ?_
        with_reducible refine (spec_TreIn.calls k _ _ t373 t380 _ ?side1 ?side2 A11.out).mono ?_
        (case side1 => repeat (first | exact (Kd.Q_reads' HO375.out).2.2 | (with_reducible refine Kd.C_alloc ?_ _) | (with_reducible refine Kd.C_drewN ?_ _) | (with_reducible refine Kd.C_drew ?_)))
        (case side2 => exact (Kd.Q_reads' HO375.out).2.1)
        rintro e w18 ⟨v381, rfl, ho0, hb⟩; refine ⟨_, rfl, ?_⟩; have n0_ := am_ (Kd.Q_below (y13_ HO375.out) hb); have n1_ := am_ (Kd.Q_elder' (y13_ HO379.out) (Kd.R_base ho0) hb); have n2_ := am_ (Kd.R_lower (Kd.R_new' ho0 (Kd.Q_lt (y13_ HO379.out))) (below_size (y8_ HB.out GE376.out))); have n3_ := am_ (blk_below (g := gb376) (o := .cells #[.slice Ao8 t373.length co8] 55 (0, 0)) (y12_ BK376.out) hb); have n4_ := am_ (below_step (y8_ HB.out GE376.out) hb); clear HO375; clear HO379; clear BK376; clear HB; have HO375 := n0_; have HO379 := n1_; have HO382 := n2_; have BK376 := n3_; have HB := n4_; clear n0_ n1_ n2_ n3_ n4_; (try clear hb); (try clear hb2); (try clear hk); (try clear hi); (try clear ho0); obtain ⟨Ao19, co19, eo19, _⟩ := Kd.Q_slice HO379.out; (first | subst eo19 | (injection eo19 with f1_ f2_ f3_; have f4_ := f1_.symm; have f5_ := f3_.symm; clear f1_ f2_ f3_; subst f4_; subst f5_)); obtain ⟨Ao20, co20, eo20⟩ := Kd.R_slice HO382.out; (first | subst eo20 | (injection eo20 with f1_ f2_ f3_; have f4_ := f1_.symm; have f5_ := f3_.symm; clear f1_ f2_ f3_; subst f4_; subst f5_)); refine hK.out _ _ ((blk_cell BK376.out 0).trans rfl) (fun hHeld => ?_); clear hK K; refine norm_ (a' := ?_) ?_ ?_; rotate_left
        · show Act.put _ (some 16) _ = _
          simp only [Act.put, List.setIfInBounds_toArray, List.set_cons_zero, List.set_cons_succ, i64_w, i32_w]
          rfl
        refine one_ (i := 3) (N := some 17) #[true, true, true, true, false, false, false, false, false, false, false, false, false, false, false, false, false, false, false, false] rfl rfl (one_of HT_.out (by kernel_rfl)) (by decide) (fun K hK => ?_); refine goes_ Tryd.func24 (by kernel_rfl) rfl #[.slice Ao19 t377.length co19, .slice Ao20 t380.length co20] (by rfl) rfl rfl y1_ ?_
        with_reducible refine (laws_keInts.calls k _ _ t377 _ _ t380 true _ ?side1 ?side2 ?side3 ?side4 A12.out).mono ?_
        (case side1 => repeat (first | exact (Kd.Q_reads' HO379.out).2.2 | (with_reducible refine Kd.C_alloc ?_ _) | (with_reducible refine Kd.C_drewN ?_ _) | (with_reducible refine Kd.C_drew ?_)))
        (case side2 => exact (Kd.Q_reads' HO379.out).2.1)
        (case side3 => repeat (first | exact (Kd.R_reads' HO382.out).2.2 | (with_reducible refine Kd.C_alloc ?_ _) | (with_reducible refine Kd.C_drewN ?_ _) | (with_reducible refine Kd.C_drew ?_)))
        (case side4 => exact (Kd.R_reads' HO382.out).2.1)
        rintro e w' ⟨rfl, ⟨nd, rfl⟩⟩; refine ⟨_, rfl, ?_⟩; refine hK.out _ _ ((blk_cell BK376.out 0).trans rfl) (fun hHeld => ?_); clear hK K; refine norm_ (a' := ?_) ?_ ?_; rotate_left
        · show Act.put _ (some 17) _ = _
          simp only [Act.put, List.setIfInBounds_toArray, List.set_cons_zero, List.set_cons_succ, i64_w, i32_w]
          rfl
        refine pure_ (i := 4) (N := some 18) (v := ?_) (a' := ?_) #[true, true, true, true, true, false, false, false, false, false, false, false, false, false, false, false, false, false, false, false] rfl rfl (any_of HT_.out (by kernel_rfl)) (fun _ _ _ h => h) (Or.inl ⟨by rfl, ?_⟩) ?_ ?_; rotate_left
        · intro w'
          go_simp
          with_reducible rfl
        rotate_left
        · simp only [Act.put, List.setIfInBounds_toArray, List.set_cons_zero, List.set_cons_succ, i64_w, i32_w]
          rfl
        refine pure_ (i := 5) (N := some 19) (v := ?_) (a' := ?_) #[true, true, true, true, true, true, false, false, false, false, false, false, false, false, false, false, false, false, false, false] rfl rfl (any_of HT_.out (by kernel_rfl)) (fun _ _ _ h => h) (Or.inl ⟨by rfl, ?_⟩) ?_ ?_; rotate_left
        · intro w'
          go_simp
          with_reducible rfl
        rotate_left
        · simp only [Act.put, List.setIfInBounds_toArray, List.set_cons_zero, List.set_cons_succ, i64_w, i32_w]
          rfl
        refine take_ (i := 6) (N := some 20) (v := ?_) (a' := ?_) #[true, true, true, true, true, true, true, false, false, false, false, false, false, false, false, false, false, false, false, false] rfl rfl (take_ofW HT_.out HW_.out (by kernel_rfl)) (fun _ _ _ h => h) (Or.inl ⟨by rfl, ?_⟩) hHeld ?_ ?_; rotate_left
        · intro w' s0
          go_simp
          with_reducible rfl
        rotate_left
        · simp only [Act.put, List.setIfInBounds_toArray, List.set_cons_zero, List.set_cons_succ, i64_w, i32_w]
          rfl
        refine take_ (i := 8) (N := some 22) (v := ?_) (a' := ?_) #[true, true, true, true, true, true, true, false, true, false, false, false, false, false, false, false, false, false, false, false] rfl rfl (take_ofW HT_.out HW_.out (by kernel_rfl)) (fun _ _ _ h => h) (Or.inl ⟨by rfl, ?_⟩) hHeld ?_ ?_; rotate_left
        · intro w' s0
          go_simp
          with_reducible rfl
        rotate_left
        · simp only [Act.put, List.setIfInBounds_toArray, List.set_cons_zero, List.set_cons_succ, i64_w, i32_w]
          rfl
        refine one_ (i := 7) (N := some 21) #[true, true, true, true, true, true, true, true, true, false, false, false, false, false, false, false, false, false, false, false] rfl rfl (one_of HT_.out (by kernel_rfl)) (by decide) (fun K hK => ?_); refine goes_ Tryd.func53 (by kernel_rfl) rfl #[.agg #[.slice Ao8 t373.length co8]] (by rfl) rfl rfl y1_ ?_
        with_reducible refine (impl_TreOk.calls _ _ t373 t384 _ ?side1 ?side2 ?side3 A14.out).mono ?_
        (case side1 => repeat (first | exact (Kd.Q_reads' HO375.out).2.2 | (with_reducible refine Kd.C_alloc ?_ _) | (with_reducible refine Kd.C_drewN ?_ _) | (with_reducible refine Kd.C_drew ?_)))
        (case side2 => exact (Kd.Q_reads' HO375.out).2.1)
        (case side3 => exact GlobOk.below HGL.out (y8_ HB.out GE376.out))
        rintro e w21 ⟨rfl, hb⟩; refine ⟨_, rfl, ?_⟩; have n0_ := am_ (Kd.Q_below (y13_ HO375.out) hb); have n1_ := am_ (Kd.Q_below (y13_ HO379.out) hb); have n2_ := am_ (Kd.R_below (y11_ HO382.out) hb); have n3_ := am_ (blk_below (g := gb376) (o := .cells #[.slice Ao8 t373.length co8] 55 (0, 0)) (y12_ BK376.out) hb); have n4_ := am_ (below_step (y8_ HB.out GE376.out) hb); clear HO375; clear HO379; clear HO382; clear BK376; clear HB; have HO375 := n0_; have HO379 := n1_; have HO382 := n2_; have BK376 := n3_; have HB := n4_; clear n0_ n1_ n2_ n3_ n4_; (try clear hb); (try clear hb2); (try clear hk); (try clear hi); refine hK.out _ _ ((blk_cell BK376.out 0).trans rfl) (fun hHeld => ?_); clear hK K; refine norm_ (a' := ?_) ?_ ?_; rotate_left
        · show Act.put _ (some 21) _ = _
          simp only [Act.put, List.setIfInBounds_toArray, List.set_cons_zero, List.set_cons_succ, i64_w, i32_w]
          rfl
        refine one_ (i := 9) (N := some 23) #[true, true, true, true, true, true, true, true, true, true, false, false, false, false, false, false, false, false, false, false] rfl rfl (one_of HT_.out (by kernel_rfl)) (by decide) (fun K hK => ?_); refine goes_ Tryd.func54 (by kernel_rfl) rfl #[.agg #[.slice Ao8 t373.length co8]] (by rfl) rfl rfl y1_ ?_
        with_reducible refine (spec_TreOk.calls k _ _ t373 t385 _ ?side1 ?side2 A15.out).mono ?_
        (case side1 => repeat (first | exact (Kd.Q_reads' HO375.out).2.2 | (with_reducible refine Kd.C_alloc ?_ _) | (with_reducible refine Kd.C_drewN ?_ _) | (with_reducible refine Kd.C_drew ?_)))
        (case side2 => exact (Kd.Q_reads' HO375.out).2.1)
        rintro e w22 ⟨rfl, hb⟩; refine ⟨_, rfl, ?_⟩; have n0_ := am_ (Kd.Q_below (y13_ HO375.out) hb); have n1_ := am_ (Kd.Q_below (y13_ HO379.out) hb); have n2_ := am_ (Kd.R_below (y11_ HO382.out) hb); have n3_ := am_ (blk_below (g := gb376) (o := .cells #[.slice Ao8 t373.length co8] 55 (0, 0)) (y12_ BK376.out) hb); have n4_ := am_ (below_step (y8_ HB.out GE376.out) hb); clear HO375; clear HO379; clear HO382; clear BK376; clear HB; have HO375 := n0_; have HO379 := n1_; have HO382 := n2_; have BK376 := n3_; have HB := n4_; clear n0_ n1_ n2_ n3_ n4_; (try clear hb); (try clear hb2); (try clear hk); (try clear hi); refine hK.out _ _ ((blk_cell BK376.out 0).trans rfl) (fun hHeld => ?_); clear hK K; refine norm_ (a' := ?_) ?_ ?_; rotate_left
        · show Act.put _ (some 23) _ = _
          simp only [Act.put, List.setIfInBounds_toArray, List.set_cons_zero, List.set_cons_succ, i64_w, i32_w]
          rfl
        refine pure_ (i := 10) (N := some 24) (v := ?_) (a' := ?_) #[true, true, true, true, true, true, true, true, true, true, true, false, false, false, false, false, false, false, false, false] rfl rfl (any_of HT_.out (by kernel_rfl)) (fun _ _ _ h => h) (Or.inl ⟨by rfl, ?_⟩) ?_ ?_; rotate_left
        · intro w'
          go_simp
          with_reducible rfl
        rotate_left
        · simp only [Act.put, List.setIfInBounds_toArray, List.set_cons_zero, List.set_cons_succ, i64_w, i32_w]
          rfl
        refine pure_ (i := 11) (N := some 25) (v := ?_) (a' := ?_) #[true, true, true, true, true, true, true, true, true, true, true, true, false, false, false, false, false, false, false, false] rfl rfl (any_of HT_.out (by kernel_rfl)) (fun _ _ _ h => h) (Or.inl ⟨by rfl, ?_⟩) ?_ ?_; rotate_left
        · intro w'
          go_simp
          with_reducible rfl
        rotate_left
        · simp only [Act.put, List.setIfInBounds_toArray, List.set_cons_zero, List.set_cons_succ, i64_w, i32_w]
          rfl
        refine pure_ (i := 12) (N := some 26) (v := ?_) (a' := ?_) #[true, true, true, true, true, true, true, true, true, true, true, true, true, false, false, false, false, false, false, false] rfl rfl (any_of HT_.out (by kernel_rfl)) (fun _ _ _ h => h) (Or.inl ⟨by rfl, ?_⟩) ?_ ?_; rotate_left
        · intro w'
          go_simp
          with_reducible rfl
        rotate_left
        · simp only [Act.put, List.setIfInBounds_toArray, List.set_cons_zero, List.set_cons_succ, i64_w, i32_w]
          rfl
        refine pure_ (i := 13) (N := some 27) (v := undef) (a' := ?_) #[true, true, true, true, true, true, true, true, true, true, true, true, true, true, false, false, false, false, false, false] rfl rfl (any_of HT_.out (by kernel_rfl)) (fun _ _ _ h => h) (Or.inr ⟨by rfl, rfl⟩) ?_ ?_; rotate_left
        · simp only [Act.put, List.setIfInBounds_toArray, List.set_cons_zero, List.set_cons_succ, i64_w, i32_w]
          rfl
        refine pure_ (i := 14) (N := some 28) (v := undef) (a' := ?_) #[true, true, true, true, true, true, true, true, true, true, true, true, true, true, true, false, false, false, false, false] rfl rfl (any_of HT_.out (by kernel_rfl)) (fun _ _ _ h => h) (Or.inr ⟨by rfl, rfl⟩) ?_ ?_; rotate_left
        · simp only [Act.put, List.setIfInBounds_toArray, List.set_cons_zero, List.set_cons_succ, i64_w, i32_w]
          rfl
        refine pure_ (i := 15) (N := some 29) (v := undef) (a' := ?_) #[true, true, true, true, true, true, true, true, true, true, true, true, true, true, true, true, false, false, false, false] rfl rfl (any_of HT_.out (by kernel_rfl)) (fun _ _ _ h => h) (Or.inr ⟨by rfl, rfl⟩) ?_ ?_; rotate_left
        · simp only [Act.put, List.setIfInBounds_toArray, List.set_cons_zero, List.set_cons_succ, i64_w, i32_w]
          rfl
        refine pure_ (i := 16) (N := some 30) (v := undef) (a' := ?_) #[true, true, true, true, true, true, true, true, true, true, true, true, true, true, true, true, true, false, false, false] rfl rfl (any_of HT_.out (by kernel_rfl)) (fun _ _ _ h => h) (Or.inr ⟨by rfl, rfl⟩) ?_ ?_; rotate_left
        · simp only [Act.put, List.setIfInBounds_toArray, List.set_cons_zero, List.set_cons_succ, i64_w, i32_w]
          rfl
        refine pure_ (i := 17) (N := some 31) (v := undef) (a' := ?_) #[true, true, true, true, true, true, true, true, true, true, true, true, true, true, true, true, true, true, false, false] rfl rfl (any_of HT_.out (by kernel_rfl)) (fun _ _ _ h => h) (Or.inr ⟨by rfl, rfl⟩) ?_ ?_; rotate_left
        · simp only [Act.put, List.setIfInBounds_toArray, List.set_cons_zero, List.set_cons_succ, i64_w, i32_w]
          rfl
        refine pure_ (i := 18) (N := some 32) (v := undef) (a' := ?_) #[true, true, true, true, true, true, true, true, true, true, true, true, true, true, true, true, true, true, true, false] rfl rfl (any_of HT_.out (by kernel_rfl)) (fun _ _ _ h => h) (Or.inr ⟨by rfl, rfl⟩) ?_ ?_; rotate_left
        · simp only [Act.put, List.setIfInBounds_toArray, List.set_cons_zero, List.set_cons_succ, i64_w, i32_w]
          rfl
        refine pure_ (i := 19) (N := some 33) (v := ?_) (a' := ?_) #[true, true, true, true, true, true, true, true, true, true, true, true, true, true, true, true, true, true, true, true] rfl rfl (any_of HT_.out (by kernel_rfl)) (fun _ _ _ h => h) (Or.inl ⟨by rfl, ?_⟩) ?_ ?_; rotate_left
        · intro w'
          go_simp
          with_reducible rfl
        rotate_left
        · simp only [Act.put, List.setIfInBounds_toArray, List.set_cons_zero, List.set_cons_succ, i64_w, i32_w]
          rfl
        refine done_ (done_of HT_.out (by kernel_rfl)) ?_
        try go_wp2
        go_meet
        case rel => exact ⟨_, (true), y4_, H', ⟨by first | omega | exact Nat.le_refl _⟩, ⟨by (with_reducible repeat (first | apply Kd.Q_alloc | apply Kd.Q_drewN | apply Kd.Q_drew)); exact Kd.Q_mono HO379.out (fun _ hk => trivial)⟩, ⟨by (with_reducible repeat (first | apply Kd.Q_alloc | apply Kd.Q_drewN | apply Kd.Q_drew)); exact HO375.out⟩, ⟨by (with_reducible repeat (first | refine blk_drewN ?_ _ | refine blk_drew ?_ | refine blk_alloc ?_ _)); exact BK376.out⟩, ⟨y8_ HB.out GE376.out⟩⟩
      rw [if_neg c16] at H
      have c16b0 : (t384 != t385) = false := by simpa using c16
      (try (have c16b1 : decide (t384 = t385) = true := by simpa using c16)); (try (have c16b2 : (t384 == t385) = true := by simpa using c16)); clear c16; (first | rw [c16b0] | (simp only [i64_w, i32_w]; rw [c16b0]) | skip); replace H := Option.bind_eq_some_iff.mp H; obtain ⟨t386, A230, H⟩ := H; replace H : ((spec_TreNew.f).bind fun t389 => ((laws_keTexts.f k t386 t389).bind fun t392 => (laws_FnTreIn.j0 k t377 (!t392) t373))) = some r := H; have A23 := am_ A230; clear A230; replace H := Option.bind_eq_some_iff.mp H; obtain ⟨t389, A240, H⟩ := H; replace H : ((laws_keTexts.f k t386 t389).bind fun t392 => (laws_FnTreIn.j0 k t377 (!t392) t373)) = some r := H; have A24 := am_ A240; clear A240; replace H := Option.bind_eq_some_iff.mp H; obtain ⟨t392, A250, H⟩ := H; replace H : (laws_FnTreIn.j0 k t377 (!t392) t373) = some r := H; have A25 := am_ A250; clear A250; have H' := am_ H; clear H
      try go_wp2
      have n0_ := am_ (Kd.Q_drew HO375.out); have n1_ := am_ (Kd.Q_drew HO379.out); have n2_ := am_ (blk_drew BK376.out); have n3_ := am_ (below_drew1 HB.out); clear HO375; clear HO379; clear BK376; clear HB; have HO375 := n0_; have HO379 := n1_; have BK376 := n2_; have HB := n3_; clear n0_ n1_ n2_ n3_; refine start_ (n := 20) (S := fun w' => w'.cell? ⟨gb376, 0, none⟩ = some (.slice Ao8 t373.length co8)) (ds := []) #[false, false, false, false, false, false, false, false, false, false, false, false, false, false, false, false, false, false, false, false] (by kernel_rfl) rfl rfl ((blk_cell BK376.out 0).trans rfl) (fun hHeld => ?_); refine with_tabW laws_FnTreIn.tab5 laws_FnTreIn.bits5 (fun HT_ HW_ => ?_); generalize w10.drew = w26 at HO375 HO379 BK376 HB hHeld ⊢; refine pure_ (i := 0) (N := some 14) (v := ?_) (a' := ?_) #[true, false, false, false, false, false, false, false, false, false, false, false, false, false, false, false, false, false, false, false] rfl rfl (any_of HT_.out (by kernel_rfl)) (fun _ _ _ h => h) (Or.inl ⟨by rfl, ?_⟩) ?_ ?_; rotate_left
      · intro w'
        go_simp
        with_reducible rfl
      rotate_left
      · simp only [Act.put, List.setIfInBounds_toArray, List.set_cons_zero, List.set_cons_succ, i64_w, i32_w]
        rfl
      refine take_ (i := 1) (N := some 15) (v := ?_) (a' := ?_) #[true, true, false, false, false, false, false, false, false, false, false, false, false, false, false, false, false, false, false, false] rfl rfl (take_ofW HT_.out HW_.out (by kernel_rfl)) (fun _ _ _ h => h) (Or.inl ⟨by rfl, ?_⟩) hHeld ?_ ?_; rotate_left
      · intro w' s0
        go_simp
        with_reducible rfl
      rotate_left
      · simp only [Act.put, List.setIfInBounds_toArray, List.set_cons_zero, List.set_cons_succ, i64_w, i32_w]
        rfl
      refine one_ (i := 2) (N := some 16) #[true, true, true, false, false, false, false, false, false, false, false, false, false, false, false, false, false, false, false, false] rfl rfl (one_of HT_.out (by kernel_rfl)) (by decide) (fun K hK => ?_); refine goes_ Tryd.func57 (by kernel_rfl) rfl #[.agg #[.slice Ao8 t373.length co8]] (by rfl) rfl rfl y1_ ?_
      with_reducible refine (spec_TreIn.calls k _ _ t373 t380 _ ?side1 ?side2 A11.out).mono ?_
      (case side1 => repeat (first | exact (Kd.Q_reads' HO375.out).2.2 | (with_reducible refine Kd.C_alloc ?_ _) | (with_reducible refine Kd.C_drewN ?_ _) | (with_reducible refine Kd.C_drew ?_)))
      (case side2 => exact (Kd.Q_reads' HO375.out).2.1)
      rintro e w27 ⟨v381, rfl, ho0, hb⟩; refine ⟨_, rfl, ?_⟩; have n0_ := am_ (Kd.Q_below (y13_ HO375.out) hb); have n1_ := am_ (Kd.Q_elder' (y13_ HO379.out) (Kd.R_base ho0) hb); have n2_ := am_ (Kd.R_lower (Kd.R_new' ho0 (Kd.Q_lt (y13_ HO379.out))) (below_size (y8_ HB.out GE376.out))); have n3_ := am_ (blk_below (g := gb376) (o := .cells #[.slice Ao8 t373.length co8] 55 (0, 0)) (y12_ BK376.out) hb); have n4_ := am_ (below_step (y8_ HB.out GE376.out) hb); clear HO375; clear HO379; clear BK376; clear HB; have HO375 := n0_; have HO379 := n1_; have HO382 := n2_; have BK376 := n3_; have HB := n4_; clear n0_ n1_ n2_ n3_ n4_; (try clear hb); (try clear hb2); (try clear hk); (try clear hi); (try clear ho0); obtain ⟨Ao28, co28, eo28, _⟩ := Kd.Q_slice HO379.out; (first | subst eo28 | (injection eo28 with f1_ f2_ f3_; have f4_ := f1_.symm; have f5_ := f3_.symm; clear f1_ f2_ f3_; subst f4_; subst f5_)); obtain ⟨Ao29, co29, eo29⟩ := Kd.R_slice HO382.out; (first | subst eo29 | (injection eo29 with f1_ f2_ f3_; have f4_ := f1_.symm; have f5_ := f3_.symm; clear f1_ f2_ f3_; subst f4_; subst f5_)); refine hK.out _ _ ((blk_cell BK376.out 0).trans rfl) (fun hHeld => ?_); clear hK K; refine norm_ (a' := ?_) ?_ ?_; rotate_left
      · show Act.put _ (some 16) _ = _
        simp only [Act.put, List.setIfInBounds_toArray, List.set_cons_zero, List.set_cons_succ, i64_w, i32_w]
        rfl
      refine one_ (i := 3) (N := some 17) #[true, true, true, true, false, false, false, false, false, false, false, false, false, false, false, false, false, false, false, false] rfl rfl (one_of HT_.out (by kernel_rfl)) (by decide) (fun K hK => ?_); refine goes_ Tryd.func24 (by kernel_rfl) rfl #[.slice Ao28 t377.length co28, .slice Ao29 t380.length co29] (by rfl) rfl rfl y1_ ?_
      with_reducible refine (laws_keInts.calls k _ _ t377 _ _ t380 true _ ?side1 ?side2 ?side3 ?side4 A12.out).mono ?_
      (case side1 => repeat (first | exact (Kd.Q_reads' HO379.out).2.2 | (with_reducible refine Kd.C_alloc ?_ _) | (with_reducible refine Kd.C_drewN ?_ _) | (with_reducible refine Kd.C_drew ?_)))
      (case side2 => exact (Kd.Q_reads' HO379.out).2.1)
      (case side3 => repeat (first | exact (Kd.R_reads' HO382.out).2.2 | (with_reducible refine Kd.C_alloc ?_ _) | (with_reducible refine Kd.C_drewN ?_ _) | (with_reducible refine Kd.C_drew ?_)))
      (case side4 => exact (Kd.R_reads' HO382.out).2.1)
      rintro e w' ⟨rfl, ⟨nd, rfl⟩⟩; refine ⟨_, rfl, ?_⟩; refine hK.out _ _ ((blk_cell BK376.out 0).trans rfl) (fun hHeld => ?_); clear hK K; refine norm_ (a' := ?_) ?_ ?_; rotate_left
      · show Act.put _ (some 17) _ = _
        simp only [Act.put, List.setIfInBounds_toArray, List.set_cons_zero, List.set_cons_succ, i64_w, i32_w]
        rfl
      refine pure_ (i := 4) (N := some 18) (v := ?_) (a' := ?_) #[true, true, true, true, true, false, false, false, false, false, false, false, false, false, false, false, false, false, false, false] rfl rfl (any_of HT_.out (by kernel_rfl)) (fun _ _ _ h => h) (Or.inl ⟨by rfl, ?_⟩) ?_ ?_; rotate_left
      · intro w'
        go_simp
        with_reducible rfl
      rotate_left
      · simp only [Act.put, List.setIfInBounds_toArray, List.set_cons_zero, List.set_cons_succ, i64_w, i32_w]
        rfl
      refine pure_ (i := 5) (N := some 19) (v := ?_) (a' := ?_) #[true, true, true, true, true, true, false, false, false, false, false, false, false, false, false, false, false, false, false, false] rfl rfl (any_of HT_.out (by kernel_rfl)) (fun _ _ _ h => h) (Or.inl ⟨by rfl, ?_⟩) ?_ ?_; rotate_left
      · intro w'
        go_simp
        with_reducible rfl
      rotate_left
      · simp only [Act.put, List.setIfInBounds_toArray, List.set_cons_zero, List.set_cons_succ, i64_w, i32_w]
        rfl
      refine take_ (i := 6) (N := some 20) (v := ?_) (a' := ?_) #[true, true, true, true, true, true, true, false, false, false, false, false, false, false, false, false, false, false, false, false] rfl rfl (take_ofW HT_.out HW_.out (by kernel_rfl)) (fun _ _ _ h => h) (Or.inl ⟨by rfl, ?_⟩) hHeld ?_ ?_; rotate_left
      · intro w' s0
        go_simp
        with_reducible rfl
      rotate_left
      · simp only [Act.put, List.setIfInBounds_toArray, List.set_cons_zero, List.set_cons_succ, i64_w, i32_w]
        rfl
      refine take_ (i := 8) (N := some 22) (v := ?_) (a' := ?_) #[true, true, true, true, true, true, true, false, true, false, false, false, false, false, false, false, false, false, false, false] rfl rfl (take_ofW HT_.out HW_.out (by kernel_rfl)) (fun _ _ _ h => h) (Or.inl ⟨by rfl, ?_⟩) hHeld ?_ ?_; rotate_left
      · intro w' s0
        go_simp
        with_reducible rfl
      rotate_left
      · simp only [Act.put, List.setIfInBounds_toArray, List.set_cons_zero, List.set_cons_succ, i64_w, i32_w]
        rfl
      refine one_ (i := 7) (N := some 21) #[true, true, true, true, true, true, true, true, true, false, false, false, false, false, false, false, false, false, false, false] rfl rfl (one_of HT_.out (by kernel_rfl)) (by decide) (fun K hK => ?_); refine goes_ Tryd.func53 (by kernel_rfl) rfl #[.agg #[.slice Ao8 t373.length co8]] (by rfl) rfl rfl y1_ ?_
      with_reducible refine (impl_TreOk.calls _ _ t373 t384 _ ?side1 ?side2 ?side3 A14.out).mono ?_
      (case side1 => repeat (first | exact (Kd.Q_reads' HO375.out).2.2 | (with_reducible refine Kd.C_alloc ?_ _) | (with_reducible refine Kd.C_drewN ?_ _) | (with_reducible refine Kd.C_drew ?_)))
      (case side2 => exact (Kd.Q_reads' HO375.out).2.1)
      (case side3 => exact GlobOk.below HGL.out (y8_ HB.out GE376.out))
      rintro e w30 ⟨rfl, hb⟩; refine ⟨_, rfl, ?_⟩; have n0_ := am_ (Kd.Q_below (y13_ HO375.out) hb); have n1_ := am_ (Kd.Q_below (y13_ HO379.out) hb); have n2_ := am_ (Kd.R_below (y11_ HO382.out) hb); have n3_ := am_ (blk_below (g := gb376) (o := .cells #[.slice Ao8 t373.length co8] 55 (0, 0)) (y12_ BK376.out) hb); have n4_ := am_ (below_step (y8_ HB.out GE376.out) hb); clear HO375; clear HO379; clear HO382; clear BK376; clear HB; have HO375 := n0_; have HO379 := n1_; have HO382 := n2_; have BK376 := n3_; have HB := n4_; clear n0_ n1_ n2_ n3_ n4_; (try clear hb); (try clear hb2); (try clear hk); (try clear hi); refine hK.out _ _ ((blk_cell BK376.out 0).trans rfl) (fun hHeld => ?_); clear hK K; refine norm_ (a' := ?_) ?_ ?_; rotate_left
      · show Act.put _ (some 21) _ = _
        simp only [Act.put, List.setIfInBounds_toArray, List.set_cons_zero, List.set_cons_succ, i64_w, i32_w]
        rfl
      refine one_ (i := 9) (N := some 23) #[true, true, true, true, true, true, true, true, true, true, false, false, false, false, false, false, false, false, false, false] rfl rfl (one_of HT_.out (by kernel_rfl)) (by decide) (fun K hK => ?_); refine goes_ Tryd.func54 (by kernel_rfl) rfl #[.agg #[.slice Ao8 t373.length co8]] (by rfl) rfl rfl y1_ ?_
      with_reducible refine (spec_TreOk.calls k _ _ t373 t385 _ ?side1 ?side2 A15.out).mono ?_
      (case side1 => repeat (first | exact (Kd.Q_reads' HO375.out).2.2 | (with_reducible refine Kd.C_alloc ?_ _) | (with_reducible refine Kd.C_drewN ?_ _) | (with_reducible refine Kd.C_drew ?_)))
      (case side2 => exact (Kd.Q_reads' HO375.out).2.1)
      rintro e w31 ⟨rfl, hb⟩; refine ⟨_, rfl, ?_⟩; have n0_ := am_ (Kd.Q_below (y13_ HO375.out) hb); have n1_ := am_ (Kd.Q_below (y13_ HO379.out) hb); have n2_ := am_ (Kd.R_below (y11_ HO382.out) hb); have n3_ := am_ (blk_below (g := gb376) (o := .cells #[.slice Ao8 t373.length co8] 55 (0, 0)) (y12_ BK376.out) hb); have n4_ := am_ (below_step (y8_ HB.out GE376.out) hb); clear HO375; clear HO379; clear HO382; clear BK376; clear HB; have HO375 := n0_; have HO379 := n1_; have HO382 := n2_; have BK376 := n3_; have HB := n4_; clear n0_ n1_ n2_ n3_ n4_; (try clear hb); (try clear hb2); (try clear hk); (try clear hi); refine hK.out _ _ ((blk_cell BK376.out 0).trans rfl) (fun hHeld => ?_); clear hK K; refine norm_ (a' := ?_) ?_ ?_; rotate_left
      · show Act.put _ (some 23) _ = _
        simp only [Act.put, List.setIfInBounds_toArray, List.set_cons_zero, List.set_cons_succ, i64_w, i32_w]
        rfl
      refine pure_ (i := 10) (N := some 24) (v := ?_) (a' := ?_) #[true, true, true, true, true, true, true, true, true, true, true, false, false, false, false, false, false, false, false, false] rfl rfl (any_of HT_.out (by kernel_rfl)) (fun _ _ _ h => h) (Or.inl ⟨by rfl, ?_⟩) ?_ ?_; rotate_left
      · intro w'
        go_simp
        with_reducible rfl
      rotate_left
      · simp only [Act.put, List.setIfInBounds_toArray, List.set_cons_zero, List.set_cons_succ, i64_w, i32_w]
        rfl
      refine pure_ (i := 11) (N := some 25) (v := ?_) (a' := ?_) #[true, true, true, true, true, true, true, true, true, true, true, true, false, false, false, false, false, false, false, false] rfl rfl (any_of HT_.out (by kernel_rfl)) (fun _ _ _ h => h) (Or.inl ⟨by rfl, ?_⟩) ?_ ?_; rotate_left
      · intro w'
        go_simp
        with_reducible rfl
      rotate_left
      · simp only [Act.put, List.setIfInBounds_toArray, List.set_cons_zero, List.set_cons_succ, i64_w, i32_w]
        rfl
      refine pure_ (i := 12) (N := some 26) (v := ?_) (a' := ?_) #[true, true, true, true, true, true, true, true, true, true, true, true, true, false, false, false, false, false, false, false] rfl rfl (any_of HT_.out (by kernel_rfl)) (fun _ _ _ h => h) (Or.inl ⟨by rfl, ?_⟩) ?_ ?_; rotate_left
      · intro w'
        go_simp
        with_reducible rfl
      rotate_left
      · simp only [Act.put, List.setIfInBounds_toArray, List.set_cons_zero, List.set_cons_succ, i64_w, i32_w]
        rfl
      refine one_ (i := 13) (N := some 27) #[true, true, true, true, true, true, true, true, true, true, true, true, true, true, false, false, false, false, false, false] rfl rfl (one_of HT_.out (by kernel_rfl)) (by decide) (fun K hK => ?_); refine goes_ Tryd.func59 (by kernel_rfl) rfl #[] (by rfl) rfl rfl y1_ ?_
      with_reducible refine (impl_TreNew.calls  t386 _ A23.out).mono ?_
      rintro e w32 ⟨v387, rfl, ho0, hb⟩; refine ⟨_, rfl, ?_⟩; have n0_ := am_ (Kd.Q_elder' (y13_ HO375.out) (Kd.R_base ho0) hb); have n1_ := am_ (Kd.Q_below (y13_ HO379.out) hb); have n2_ := am_ (Kd.R_below (y11_ HO382.out) hb); have n3_ := am_ (Kd.R_lower (Kd.R_new' ho0 (Kd.Q_lt (y13_ HO375.out))) (below_size (y8_ HB.out GE376.out))); have n4_ := am_ (blk_below (g := gb376) (o := .cells #[.slice Ao8 t373.length co8] 55 (0, 0)) (y12_ BK376.out) hb); have n5_ := am_ (below_step (y8_ HB.out GE376.out) hb); clear HO375; clear HO379; clear HO382; clear BK376; clear HB; have HO375 := n0_; have HO379 := n1_; have HO382 := n2_; have HO388 := n3_; have BK376 := n4_; have HB := n5_; clear n0_ n1_ n2_ n3_ n4_ n5_; (try clear hb); (try clear hb2); (try clear hk); (try clear hi); (try clear ho0); refine hK.out _ _ ((blk_cell BK376.out 0).trans rfl) (fun hHeld => ?_); clear hK K; refine norm_ (a' := ?_) ?_ ?_; rotate_left
      · show Act.put _ (some 27) _ = _
        simp only [Act.put, List.setIfInBounds_toArray, List.set_cons_zero, List.set_cons_succ, i64_w, i32_w]
        rfl
      refine pure_ (i := 14) (N := some 28) (v := ?_) (a' := ?_) #[true, true, true, true, true, true, true, true, true, true, true, true, true, true, true, false, false, false, false, false] rfl rfl (any_of HT_.out (by kernel_rfl)) (fun _ _ _ h => h) (Or.inl ⟨by rfl, ?_⟩) ?_ ?_; rotate_left
      · intro w'
        go_simp
        with_reducible rfl
      rotate_left
      · simp only [Act.put, List.setIfInBounds_toArray, List.set_cons_zero, List.set_cons_succ, i64_w, i32_w]
        rfl
      refine one_ (i := 15) (N := some 29) #[true, true, true, true, true, true, true, true, true, true, true, true, true, true, true, true, false, false, false, false] rfl rfl (one_of HT_.out (by kernel_rfl)) (by decide) (fun K hK => ?_); refine goes_ Tryd.func60 (by kernel_rfl) rfl #[] (by rfl) rfl rfl y1_ ?_
      with_reducible refine (spec_TreNew.calls  t389 _ A24.out).mono ?_
      rintro e w33 ⟨v390, rfl, ho0, hb⟩; refine ⟨_, rfl, ?_⟩; have n0_ := am_ (Kd.Q_elder' (y13_ HO375.out) (Kd.R_base ho0) hb); have n1_ := am_ (Kd.Q_below (y13_ HO379.out) hb); have n2_ := am_ (Kd.R_below (y11_ HO382.out) hb); have n3_ := am_ (Kd.R_elder' (y11_ HO388.out) (Kd.R_base ho0) hb); have n4_ := am_ (Kd.R_lower (Kd.R_new' (Kd.R_new' ho0 (Kd.Q_lt (y13_ HO375.out))) (Kd.R_lt (y11_ HO388.out))) (below_size (y8_ HB.out GE376.out))); have n5_ := am_ (blk_below (g := gb376) (o := .cells #[.slice Ao8 t373.length co8] 55 (0, 0)) (y12_ BK376.out) hb); have n6_ := am_ (below_step (y8_ HB.out GE376.out) hb); clear HO375; clear HO379; clear HO382; clear HO388; clear BK376; clear HB; have HO375 := n0_; have HO379 := n1_; have HO382 := n2_; have HO388 := n3_; have HO391 := n4_; have BK376 := n5_; have HB := n6_; clear n0_ n1_ n2_ n3_ n4_ n5_ n6_; (try clear hb); (try clear hb2); (try clear hk); (try clear hi); (try clear ho0); obtain ⟨Ao34, co34, eo34⟩ := Kd.R_slice HO388.out; (first | subst eo34 | (injection eo34 with f1_ f2_ f3_; have f4_ := f1_.symm; have f5_ := f3_.symm; clear f1_ f2_ f3_; subst f4_; subst f5_)); obtain ⟨Ao35, co35, eo35⟩ := Kd.R_slice HO391.out; (first | subst eo35 | (injection eo35 with f1_ f2_ f3_; have f4_ := f1_.symm; have f5_ := f3_.symm; clear f1_ f2_ f3_; subst f4_; subst f5_)); refine hK.out _ _ ((blk_cell BK376.out 0).trans rfl) (fun hHeld => ?_); clear hK K; refine norm_ (a' := ?_) ?_ ?_; rotate_left
      · show Act.put _ (some 29) _ = _
        simp only [Act.put, List.setIfInBounds_toArray, List.set_cons_zero, List.set_cons_succ, i64_w, i32_w]
        rfl
      refine pure_ (i := 16) (N := some 30) (v := ?_) (a' := ?_) #[true, true, true, true, true, true, true, true, true, true, true, true, true, true, true, true, true, false, false, false] rfl rfl (any_of HT_.out (by kernel_rfl)) (fun _ _ _ h => h) (Or.inl ⟨by rfl, ?_⟩) ?_ ?_; rotate_left
      · intro w'
        go_simp
        with_reducible rfl
      rotate_left
      · simp only [Act.put, List.setIfInBounds_toArray, List.set_cons_zero, List.set_cons_succ, i64_w, i32_w]
        rfl
      refine one_ (i := 17) (N := some 31) #[true, true, true, true, true, true, true, true, true, true, true, true, true, true, true, true, true, true, false, false] rfl rfl (one_of HT_.out (by kernel_rfl)) (by decide) (fun K hK => ?_); refine goes_ Tryd.func58 (by kernel_rfl) rfl #[.slice Ao34 t386.length co34, .slice Ao35 t389.length co35] (by rfl) rfl rfl y1_ ?_
      with_reducible refine (laws_keTexts.calls k _ _ t386 _ _ t389 t392 _ ?side1 ?side2 ?side3 ?side4 A25.out).mono ?_
      (case side1 => repeat (first | exact (Kd.R_reads' HO388.out).2.2 | (with_reducible refine Kd.C_alloc ?_ _) | (with_reducible refine Kd.C_drewN ?_ _) | (with_reducible refine Kd.C_drew ?_)))
      (case side2 => exact (Kd.R_reads' HO388.out).2.1)
      (case side3 => repeat (first | exact (Kd.R_reads' HO391.out).2.2 | (with_reducible refine Kd.C_alloc ?_ _) | (with_reducible refine Kd.C_drewN ?_ _) | (with_reducible refine Kd.C_drew ?_)))
      (case side4 => exact (Kd.R_reads' HO391.out).2.1)
      rintro e w' ⟨rfl, ⟨nd, rfl⟩⟩; refine ⟨_, rfl, ?_⟩; refine hK.out _ _ ((blk_cell BK376.out 0).trans rfl) (fun hHeld => ?_); clear hK K; refine norm_ (a' := ?_) ?_ ?_; rotate_left
      · show Act.put _ (some 31) _ = _
        simp only [Act.put, List.setIfInBounds_toArray, List.set_cons_zero, List.set_cons_succ, i64_w, i32_w]
        rfl
      refine pure_ (i := 18) (N := some 32) (v := ?_) (a' := ?_) #[true, true, true, true, true, true, true, true, true, true, true, true, true, true, true, true, true, true, true, false] rfl rfl (any_of HT_.out (by kernel_rfl)) (fun _ _ _ h => h) (Or.inl ⟨by rfl, ?_⟩) ?_ ?_; rotate_left
      · intro w'
        go_simp
        with_reducible rfl
      rotate_left
      · simp only [Act.put, List.setIfInBounds_toArray, List.set_cons_zero, List.set_cons_succ, i64_w, i32_w]
        rfl
      refine pure_ (i := 19) (N := some 33) (v := ?_) (a' := ?_) #[true, true, true, true, true, true, true, true, true, true, true, true, true, true, true, true, true, true, true, true] rfl rfl (any_of HT_.out (by kernel_rfl)) (fun _ _ _ h => h) (Or.inl ⟨by rfl, ?_⟩) ?_ ?_; rotate_left
      · intro w'
        go_simp
        with_reducible rfl
      rotate_left
      · simp only [Act.put, List.setIfInBounds_toArray, List.set_cons_zero, List.set_cons_succ, i64_w, i32_w]
        rfl
      refine done_ (done_of HT_.out (by kernel_rfl)) ?_
      try go_wp2
      go_meet
      case rel => exact ⟨_, (!t392), y4_, H', ⟨by first | omega | exact Nat.le_refl _⟩, ⟨by (with_reducible repeat (first | apply Kd.Q_alloc | apply Kd.Q_drewN | apply Kd.Q_drew)); exact Kd.Q_mono HO379.out (fun _ hk => trivial)⟩, ⟨by (with_reducible repeat (first | apply Kd.Q_alloc | apply Kd.Q_drewN | apply Kd.Q_drew)); exact Kd.Q_mono HO375.out (fun _ hk => trivial)⟩, ⟨by (with_reducible repeat (first | refine blk_drewN ?_ _ | refine blk_drew ?_ | refine blk_alloc ?_ _)); exact BK376.out⟩, ⟨y8_ HB.out GE376.out⟩⟩
    replace c13 := Bool.eq_false_iff.mpr c13; subst c13
    have H1 : (laws_FnTreIn.j0 k t377 true t373) = some r := by rw [if_neg (show ¬ (false = true) by decide)] at H; exact H
    clear H; have H := H1; clear H1; have H' := am_ H; clear H
    try go_wp2
    have n0_ := am_ (Kd.Q_drew HO375.out); have n1_ := am_ (Kd.Q_drew HO379.out); have n2_ := am_ (blk_drew BK376.out); have n3_ := am_ (below_drew1 HB.out); clear HO375; clear HO379; clear BK376; clear HB; have HO375 := n0_; have HO379 := n1_; have BK376 := n2_; have HB := n3_; clear n0_ n1_ n2_ n3_; refine start_ (n := 20) (S := fun w' => w'.cell? ⟨gb376, 0, none⟩ = some (.slice Ao8 t373.length co8)) (ds := []) #[false, false, false, false, false, false, false, false, false, false, false, false, false, false, false, false, false, false, false, false] (by kernel_rfl) rfl rfl ((blk_cell BK376.out 0).trans rfl) (fun hHeld => ?_); refine with_tabW laws_FnTreIn.tab5 laws_FnTreIn.bits5 (fun HT_ HW_ => ?_); generalize w10.drew = w36 at HO375 HO379 BK376 HB hHeld ⊢; refine pure_ (i := 0) (N := some 14) (v := ?_) (a' := ?_) #[true, false, false, false, false, false, false, false, false, false, false, false, false, false, false, false, false, false, false, false] rfl rfl (any_of HT_.out (by kernel_rfl)) (fun _ _ _ h => h) (Or.inl ⟨by rfl, ?_⟩) ?_ ?_; rotate_left
    · intro w'
      go_simp
      with_reducible rfl
    rotate_left
    · simp only [Act.put, List.setIfInBounds_toArray, List.set_cons_zero, List.set_cons_succ, i64_w, i32_w]
      rfl
    refine take_ (i := 1) (N := some 15) (v := ?_) (a' := ?_) #[true, true, false, false, false, false, false, false, false, false, false, false, false, false, false, false, false, false, false, false] rfl rfl (take_ofW HT_.out HW_.out (by kernel_rfl)) (fun _ _ _ h => h) (Or.inl ⟨by rfl, ?_⟩) hHeld ?_ ?_; rotate_left
    · intro w' s0
      go_simp
      with_reducible rfl
    rotate_left
    · simp only [Act.put, List.setIfInBounds_toArray, List.set_cons_zero, List.set_cons_succ, i64_w, i32_w]
      rfl
    refine one_ (i := 2) (N := some 16) #[true, true, true, false, false, false, false, false, false, false, false, false, false, false, false, false, false, false, false, false] rfl rfl (one_of HT_.out (by kernel_rfl)) (by decide) (fun K hK => ?_); refine goes_ Tryd.func57 (by kernel_rfl) rfl #[.agg #[.slice Ao8 t373.length co8]] (by rfl) rfl rfl y1_ ?_
    with_reducible refine (spec_TreIn.calls k _ _ t373 t380 _ ?side1 ?side2 A11.out).mono ?_
    (case side1 => repeat (first | exact (Kd.Q_reads' HO375.out).2.2 | (with_reducible refine Kd.C_alloc ?_ _) | (with_reducible refine Kd.C_drewN ?_ _) | (with_reducible refine Kd.C_drew ?_)))
    (case side2 => exact (Kd.Q_reads' HO375.out).2.1)
    rintro e w37 ⟨v381, rfl, ho0, hb⟩; refine ⟨_, rfl, ?_⟩; have n0_ := am_ (Kd.Q_below (y13_ HO375.out) hb); have n1_ := am_ (Kd.Q_elder' (y13_ HO379.out) (Kd.R_base ho0) hb); have n2_ := am_ (Kd.R_lower (Kd.R_new' ho0 (Kd.Q_lt (y13_ HO379.out))) (below_size (y8_ HB.out GE376.out))); have n3_ := am_ (blk_below (g := gb376) (o := .cells #[.slice Ao8 t373.length co8] 55 (0, 0)) (y12_ BK376.out) hb); have n4_ := am_ (below_step (y8_ HB.out GE376.out) hb); clear HO375; clear HO379; clear BK376; clear HB; have HO375 := n0_; have HO379 := n1_; have HO382 := n2_; have BK376 := n3_; have HB := n4_; clear n0_ n1_ n2_ n3_ n4_; (try clear hb); (try clear hb2); (try clear hk); (try clear hi); (try clear ho0); obtain ⟨Ao38, co38, eo38, _⟩ := Kd.Q_slice HO379.out; (first | subst eo38 | (injection eo38 with f1_ f2_ f3_; have f4_ := f1_.symm; have f5_ := f3_.symm; clear f1_ f2_ f3_; subst f4_; subst f5_)); obtain ⟨Ao39, co39, eo39⟩ := Kd.R_slice HO382.out; (first | subst eo39 | (injection eo39 with f1_ f2_ f3_; have f4_ := f1_.symm; have f5_ := f3_.symm; clear f1_ f2_ f3_; subst f4_; subst f5_)); refine hK.out _ _ ((blk_cell BK376.out 0).trans rfl) (fun hHeld => ?_); clear hK K; refine norm_ (a' := ?_) ?_ ?_; rotate_left
    · show Act.put _ (some 16) _ = _
      simp only [Act.put, List.setIfInBounds_toArray, List.set_cons_zero, List.set_cons_succ, i64_w, i32_w]
      rfl
    refine one_ (i := 3) (N := some 17) #[true, true, true, true, false, false, false, false, false, false, false, false, false, false, false, false, false, false, false, false] rfl rfl (one_of HT_.out (by kernel_rfl)) (by decide) (fun K hK => ?_); refine goes_ Tryd.func24 (by kernel_rfl) rfl #[.slice Ao38 t377.length co38, .slice Ao39 t380.length co39] (by rfl) rfl rfl y1_ ?_
    with_reducible refine (laws_keInts.calls k _ _ t377 _ _ t380 false _ ?side1 ?side2 ?side3 ?side4 A12.out).mono ?_
    (case side1 => repeat (first | exact (Kd.Q_reads' HO379.out).2.2 | (with_reducible refine Kd.C_alloc ?_ _) | (with_reducible refine Kd.C_drewN ?_ _) | (with_reducible refine Kd.C_drew ?_)))
    (case side2 => exact (Kd.Q_reads' HO379.out).2.1)
    (case side3 => repeat (first | exact (Kd.R_reads' HO382.out).2.2 | (with_reducible refine Kd.C_alloc ?_ _) | (with_reducible refine Kd.C_drewN ?_ _) | (with_reducible refine Kd.C_drew ?_)))
    (case side4 => exact (Kd.R_reads' HO382.out).2.1)
    rintro e w' ⟨rfl, ⟨nd, rfl⟩⟩; refine ⟨_, rfl, ?_⟩; refine hK.out _ _ ((blk_cell BK376.out 0).trans rfl) (fun hHeld => ?_); clear hK K; refine norm_ (a' := ?_) ?_ ?_; rotate_left
    · show Act.put _ (some 17) _ = _
      simp only [Act.put, List.setIfInBounds_toArray, List.set_cons_zero, List.set_cons_succ, i64_w, i32_w]
      rfl
    refine pure_ (i := 4) (N := some 18) (v := ?_) (a' := ?_) #[true, true, true, true, true, false, false, false, false, false, false, false, false, false, false, false, false, false, false, false] rfl rfl (any_of HT_.out (by kernel_rfl)) (fun _ _ _ h => h) (Or.inl ⟨by rfl, ?_⟩) ?_ ?_; rotate_left
    · intro w'
      go_simp
      with_reducible rfl
    rotate_left
    · simp only [Act.put, List.setIfInBounds_toArray, List.set_cons_zero, List.set_cons_succ, i64_w, i32_w]
      rfl
    refine pure_ (i := 5) (N := some 19) (v := ?_) (a' := ?_) #[true, true, true, true, true, true, false, false, false, false, false, false, false, false, false, false, false, false, false, false] rfl rfl (any_of HT_.out (by kernel_rfl)) (fun _ _ _ h => h) (Or.inl ⟨by rfl, ?_⟩) ?_ ?_; rotate_left
    · intro w'
      go_simp
      with_reducible rfl
    rotate_left
    · simp only [Act.put, List.setIfInBounds_toArray, List.set_cons_zero, List.set_cons_succ, i64_w, i32_w]
      rfl
    refine pure_ (i := 6) (N := some 20) (v := undef) (a' := ?_) #[true, true, true, true, true, true, true, false, false, false, false, false, false, false, false, false, false, false, false, false] rfl rfl (any_of HT_.out (by kernel_rfl)) (fun _ _ _ h => h) (Or.inr ⟨by rfl, rfl⟩) ?_ ?_; rotate_left
    · simp only [Act.put, List.setIfInBounds_toArray, List.set_cons_zero, List.set_cons_succ, i64_w, i32_w]
      rfl
    refine pure_ (i := 7) (N := some 21) (v := undef) (a' := ?_) #[true, true, true, true, true, true, true, true, false, false, false, false, false, false, false, false, false, false, false, false] rfl rfl (any_of HT_.out (by kernel_rfl)) (fun _ _ _ h => h) (Or.inr ⟨by rfl, rfl⟩) ?_ ?_; rotate_left
    · simp only [Act.put, List.setIfInBounds_toArray, List.set_cons_zero, List.set_cons_succ, i64_w, i32_w]
      rfl
    refine pure_ (i := 8) (N := some 22) (v := undef) (a' := ?_) #[true, true, true, true, true, true, true, true, true, false, false, false, false, false, false, false, false, false, false, false] rfl rfl (any_of HT_.out (by kernel_rfl)) (fun _ _ _ h => h) (Or.inr ⟨by rfl, rfl⟩) ?_ ?_; rotate_left
    · simp only [Act.put, List.setIfInBounds_toArray, List.set_cons_zero, List.set_cons_succ, i64_w, i32_w]
      rfl
    refine pure_ (i := 9) (N := some 23) (v := undef) (a' := ?_) #[true, true, true, true, true, true, true, true, true, true, false, false, false, false, false, false, false, false, false, false] rfl rfl (any_of HT_.out (by kernel_rfl)) (fun _ _ _ h => h) (Or.inr ⟨by rfl, rfl⟩) ?_ ?_; rotate_left
    · simp only [Act.put, List.setIfInBounds_toArray, List.set_cons_zero, List.set_cons_succ, i64_w, i32_w]
      rfl
    refine pure_ (i := 10) (N := some 24) (v := undef) (a' := ?_) #[true, true, true, true, true, true, true, true, true, true, true, false, false, false, false, false, false, false, false, false] rfl rfl (any_of HT_.out (by kernel_rfl)) (fun _ _ _ h => h) (Or.inr ⟨by rfl, rfl⟩) ?_ ?_; rotate_left
    · simp only [Act.put, List.setIfInBounds_toArray, List.set_cons_zero, List.set_cons_succ, i64_w, i32_w]
      rfl
    refine pure_ (i := 11) (N := some 25) (v := ?_) (a' := ?_) #[true, true, true, true, true, true, true, true, true, true, true, true, false, false, false, false, false, false, false, false] rfl rfl (any_of HT_.out (by kernel_rfl)) (fun _ _ _ h => h) (Or.inl ⟨by rfl, ?_⟩) ?_ ?_; rotate_left
    · intro w'
      go_simp
      with_reducible rfl
    rotate_left
    · simp only [Act.put, List.setIfInBounds_toArray, List.set_cons_zero, List.set_cons_succ, i64_w, i32_w]
      rfl
    refine pure_ (i := 12) (N := some 26) (v := ?_) (a' := ?_) #[true, true, true, true, true, true, true, true, true, true, true, true, true, false, false, false, false, false, false, false] rfl rfl (any_of HT_.out (by kernel_rfl)) (fun _ _ _ h => h) (Or.inl ⟨by rfl, ?_⟩) ?_ ?_; rotate_left
    · intro w'
      go_simp
      with_reducible rfl
    rotate_left
    · simp only [Act.put, List.setIfInBounds_toArray, List.set_cons_zero, List.set_cons_succ, i64_w, i32_w]
      rfl
    refine pure_ (i := 13) (N := some 27) (v := undef) (a' := ?_) #[true, true, true, true, true, true, true, true, true, true, true, true, true, true, false, false, false, false, false, false] rfl rfl (any_of HT_.out (by kernel_rfl)) (fun _ _ _ h => h) (Or.inr ⟨by rfl, rfl⟩) ?_ ?_; rotate_left
    · simp only [Act.put, List.setIfInBounds_toArray, List.set_cons_zero, List.set_cons_succ, i64_w, i32_w]
      rfl
    refine pure_ (i := 14) (N := some 28) (v := undef) (a' := ?_) #[true, true, true, true, true, true, true, true, true, true, true, true, true, true, true, false, false, false, false, false] rfl rfl (any_of HT_.out (by kernel_rfl)) (fun _ _ _ h => h) (Or.inr ⟨by rfl, rfl⟩) ?_ ?_; rotate_left
    · simp only [Act.put, List.setIfInBounds_toArray, List.set_cons_zero, List.set_cons_succ, i64_w, i32_w]
      rfl
    refine pure_ (i := 15) (N := some 29) (v := undef) (a' := ?_) #[true, true, true, true, true, true, true, true, true, true, true, true, true, true, true, true, false, false, false, false] rfl rfl (any_of HT_.out (by kernel_rfl)) (fun _ _ _ h => h) (Or.inr ⟨by rfl, rfl⟩) ?_ ?_; rotate_left
    · simp only [Act.put, List.setIfInBounds_toArray, List.set_cons_zero, List.set_cons_succ, i64_w, i32_w]
      rfl
    refine pure_ (i := 16) (N := some 30) (v := undef) (a' := ?_) #[true, true, true, true, true, true, true, true, true, true, true, true, true, true, true, true, true, false, false, false] rfl rfl (any_of HT_.out (by kernel_rfl)) (fun _ _ _ h => h) (Or.inr ⟨by rfl, rfl⟩) ?_ ?_; rotate_left
    · simp only [Act.put, List.setIfInBounds_toArray, List.set_cons_zero, List.set_cons_succ, i64_w, i32_w]
      rfl
    refine pure_ (i := 17) (N := some 31) (v := undef) (a' := ?_) #[true, true, true, true, true, true, true, true, true, true, true, true, true, true, true, true, true, true, false, false] rfl rfl (any_of HT_.out (by kernel_rfl)) (fun _ _ _ h => h) (Or.inr ⟨by rfl, rfl⟩) ?_ ?_; rotate_left
    · simp only [Act.put, List.setIfInBounds_toArray, List.set_cons_zero, List.set_cons_succ, i64_w, i32_w]
      rfl
    refine pure_ (i := 18) (N := some 32) (v := undef) (a' := ?_) #[true, true, true, true, true, true, true, true, true, true, true, true, true, true, true, true, true, true, true, false] rfl rfl (any_of HT_.out (by kernel_rfl)) (fun _ _ _ h => h) (Or.inr ⟨by rfl, rfl⟩) ?_ ?_; rotate_left
    · simp only [Act.put, List.setIfInBounds_toArray, List.set_cons_zero, List.set_cons_succ, i64_w, i32_w]
      rfl
    refine pure_ (i := 19) (N := some 33) (v := ?_) (a' := ?_) #[true, true, true, true, true, true, true, true, true, true, true, true, true, true, true, true, true, true, true, true] rfl rfl (any_of HT_.out (by kernel_rfl)) (fun _ _ _ h => h) (Or.inl ⟨by rfl, ?_⟩) ?_ ?_; rotate_left
    · intro w'
      go_simp
      with_reducible rfl
    rotate_left
    · simp only [Act.put, List.setIfInBounds_toArray, List.set_cons_zero, List.set_cons_succ, i64_w, i32_w]
      rfl
    refine done_ (done_of HT_.out (by kernel_rfl)) ?_
    try go_wp2
    go_meet
    case rel => exact ⟨_, (true), y4_, H', ⟨by first | omega | exact Nat.le_refl _⟩, ⟨by (with_reducible repeat (first | apply Kd.Q_alloc | apply Kd.Q_drewN | apply Kd.Q_drew)); exact Kd.Q_mono HO379.out (fun _ hk => trivial)⟩, ⟨by (with_reducible repeat (first | apply Kd.Q_alloc | apply Kd.Q_drewN | apply Kd.Q_drew)); exact HO375.out⟩, ⟨by (with_reducible repeat (first | refine blk_drewN ?_ _ | refine blk_drew ?_ | refine blk_alloc ?_ _)); exact BK376.out⟩, ⟨y8_ HB.out GE376.out⟩⟩
  case rest =>
    clear HC5; (try clear c1); (try clear c2); (try clear p2); (try clear c5); (try clear c6); (try clear c13); (try clear c16); (try clear c16b0); (try clear c16b1); (try clear c16b2); (try clear c24); obtain ⟨kq, x33_4, rfl, HA, HJ4, HO_4, HO_377000, BK376, HB⟩ := hcut
    cases kq with
    | zero => exact absurd HA.out (by simp [laws_FnTreIn.j0])
    | succ kj4 =>
      have H := HA.out; clear HA; simp only [laws_FnTreIn.j0] at H; by_cases c40 : x33_4 = true
      · subst c40
        have H1 : (some false) = some r := by rw [if_pos rfl] at H; exact H
        clear H; have H := H1; clear H1; obtain rfl := Option.some.inj H; go_wp2; go_ret; exact ⟨y6_, y8_ HB.out GE376.out⟩
      replace c40 := Bool.eq_false_iff.mpr c40; subst c40
      have H1 : ((spec_TreOk.f kj4 t373).bind fun t393 => (if t393 = true then (laws_FnTreIn.l0 kj4 t377 0 t373) else (if (t377.length : Int) = 0 then ((laws_keOk.f).bind fun t394 => (some t394)) else (some false)))) = some r := by rw [if_neg (show ¬ (false = true) by decide)] at H; exact H
      clear H; have H := H1; clear H1; replace H := Option.bind_eq_some_iff.mp H; obtain ⟨t393, A410, H⟩ := H; replace H : (if t393 = true then (laws_FnTreIn.l0 kj4 t377 0 t373) else (if (t377.length : Int) = 0 then ((laws_keOk.f).bind fun t394 => (some t394)) else (some false))) = some r := H; have A41 := am_ A410; clear A410; by_cases c42 : t393 = true
      · subst c42
        have H1 : (laws_FnTreIn.l0 kj4 t377 0 t373) = some r := by rw [if_pos rfl] at H; exact H
        clear H; have H := H1; clear H1; have H' := am_ H; clear H; have hcz43_0 : wc.cell? ⟨gb376, 0, none⟩ = some (.slice Ao8 t373.length co8) := (blk_cell BK376.out 0).trans rfl; have hfz43_0 := blk_frozen BK376.out 0; go_wp2_with (first | ((with_reducible refine gate_callee (f := 54) rfl ?_); refine goesL_ (some 35) rfl rfl Tryd.func54 (by kernel_rfl) rfl #[.agg #[.slice Ao8 t373.length co8]] rfl y1_ ?_; (with_reducible refine (spec_TreOk.calls kj4 _ _ t373 true _ ?side1 ?side2 A41.out).mono ?_); (case side1 => repeat (first | exact (Kd.Q_reads' HO_377000.out).2.2 | (with_reducible refine Kd.C_alloc ?_ _) | (with_reducible refine Kd.C_drewN ?_ _) | (with_reducible refine Kd.C_drew ?_))); (case side2 => exact (Kd.Q_reads' HO_377000.out).2.1); rintro e w44 ⟨rfl, hb⟩; refine ⟨_, rfl, ?_⟩; replace HO_4 := am_ (Kd.Q_below (y13_ HO_4.out) hb); replace HO_377000 := am_ (Kd.Q_below (y13_ HO_377000.out) hb); replace BK376 := am_ (blk_below (g := gb376) (o := .cells #[.slice Ao8 t373.length co8] 55 (0, 0)) (y12_ BK376.out) hb); replace HB := am_ (below_step (y8_ HB.out GE376.out) hb); clear hb))
        go_loopg [5] kj4 (fun kq v5 w' => ∃ (x5_2 : Int), v5 = .int .i64 x5_2 ∧ Aside0 (laws_FnTreIn.l0 kq t377 x5_2 t373 = some r) ∧ Aside0 (kq ≤ kj4) ∧ Aside0 (Kd.Q (Kd.int .i64) 3 w' w.heap.size (fun _ => True) v378 t377) ∧ Aside0 (Kd.Q Kd.string 9 w' w.heap.size (fun _ => True) (.slice Ao8 t373.length co8) t373) ∧ Aside0 (w'.heap[gb376]? = some (.cells #[(.slice Ao8 t373.length co8)] 55 (0, 0))) ∧ Aside0 (Below w.heap.size w w'))
        case atStart => exact ⟨(0), y4_, H', ⟨Nat.le_refl _⟩, ⟨by (with_reducible repeat (first | apply Kd.Q_alloc | apply Kd.Q_drewN | apply Kd.Q_drew)); exact HO_4.out⟩, ⟨by (with_reducible repeat (first | apply Kd.Q_alloc | apply Kd.Q_drewN | apply Kd.Q_drew)); exact HO_377000.out⟩, ⟨by (with_reducible repeat (first | refine blk_drewN ?_ _ | refine blk_drew ?_ | refine blk_alloc ?_ _)); exact BK376.out⟩, ⟨y8_ HB.out GE376.out⟩⟩
        case round =>
          clear H'; (try clear c1); (try clear c2); (try clear p2); (try clear c4); (try clear c5); (try clear c6); (try clear c13); (try clear c16); (try clear c16b0); (try clear c16b1); (try clear c16b2); (try clear c24); (try clear c40); (try clear c42); (try clear hcz43_0); (try clear hfz43_0); (try clear p2); obtain ⟨x5_2, rfl, HA, HK2, HO_4, HO_377000, BK376, HB⟩ := hrel
          cases gk with
          | zero => exact absurd HA.out (by simp [laws_FnTreIn.l0])
          | succ k2 =>
            have H := HA.out; clear HA; simp only [laws_FnTreIn.l0] at H; by_cases c45 : x5_2 < 8
            · rw [if_pos c45] at H
              have c45b0 : decide (x5_2 < 8) = true := decide_eq_true c45; clear c45; replace H := Option.bind_eq_some_iff.mp H; obtain ⟨t395, A460, H⟩ := H; replace H : ((impl_TreLeaf.f x5_2).bind fun t396 => (if 0 ≤ t396 then (if t396 < (t373.length : Int) then (if (t395 != ((rdOf ByteArray.empty t373 t396).toList != ([] : List UInt8))) = true then (some false) else (laws_FnTreIn.l0 k2 t377 (wrap64 (x5_2 + 1)) t373)) else (none)) else (none))) = some r := H; have A46 := am_ A460; clear A460; replace H := Option.bind_eq_some_iff.mp H; obtain ⟨t396, A470, H⟩ := H; replace H : (if 0 ≤ t396 then (if t396 < (t373.length : Int) then (if (t395 != ((rdOf ByteArray.empty t373 t396).toList != ([] : List UInt8))) = true then (some false) else (laws_FnTreIn.l0 k2 t377 (wrap64 (x5_2 + 1)) t373)) else (none)) else (none)) = some r := H; have A47 := am_ A470; clear A470; by_cases c48 : 0 ≤ t396
              · rw [if_pos c48] at H
                have c48b0 : decide (0 ≤ t396) = true := decide_eq_true c48; clear c48; by_cases c49 : t396 < (t373.length : Int)
                · rw [if_pos c49] at H
                  have c49b0 : decide (t396 < (t373.length : Int)) = true := decide_eq_true c49; clear c49; by_cases c50 : (t395 != ((rdOf ByteArray.empty t373 t396).toList != ([] : List UInt8))) = true
                  · rw [if_pos c50] at H
                    have c50b0 : (t395 != ((rdOf ByteArray.empty t373 t396).toList != ([] : List UInt8))) = true := c50; (try (have c50b1 : decide (t395 = ((rdOf ByteArray.empty t373 t396).toList != ([] : List UInt8))) = false := by simpa using c50)); (try (have c50b2 : (t395 == ((rdOf ByteArray.empty t373 t396).toList != ([] : List UInt8))) = false := by simpa using c50)); (try (have c50b3 : ¬ (t395 = ((rdOf ByteArray.empty t373 t396).toList != ([] : List UInt8))) := by simpa using c50)); clear c50; obtain rfl := Option.some.inj H
                    try go_wp2
                    have n0_ := am_ (Kd.Q_drew HO_4.out); have n1_ := am_ (Kd.Q_drew HO_377000.out); have n2_ := am_ (blk_drew BK376.out); have n3_ := am_ (below_drew1 HB.out); clear HO_4; clear HO_377000; clear BK376; clear HB; have HO_4 := n0_; have HO_377000 := n1_; have BK376 := n2_; have HB := n3_; clear n0_ n1_ n2_ n3_; obtain ⟨Ao52, co52, eo52, _⟩ := Kd.Q_slice HO_4.out; (first | subst eo52 | (injection eo52 with f1_ f2_ f3_; have f4_ := f1_.symm; have f5_ := f3_.symm; clear f1_ f2_ f3_; subst f4_; subst f5_)); have p397 : 0 ≤ (t396 : Int) := of_decide_eq_true y3_; have q397 : t396 < (t373.length : Int) := of_decide_eq_true y3_; obtain ⟨ad397, e397, hx397_0⟩ := Kd.at_string (Kd.Q_reads' HO_377000.out).2.2 t396 p397 q397
                    cases e397
                    replace p397 := eq_true p397; replace q397 := eq_true q397; refine start_ (n := 11) (S := fun w' => w'.cell? ⟨gb376, 0, none⟩ = some (.slice (some ad397) t373.length co8) ∧ w'.cell? (ad397.add (t396).toNat) = some (.string (rdOf ByteArray.empty t373 t396))) (ds := []) #[false, false, false, false, false, false, false, false, false, false, false] (by kernel_rfl) rfl rfl ⟨(blk_cell BK376.out 0).trans rfl, hx397_0⟩ (fun hHeld => ?_); refine with_tabW laws_FnTreIn.tab12 laws_FnTreIn.bits12 (fun HT_ HW_ => ?_); generalize wr.drew = w51 at HO_4 HO_377000 BK376 HB hx397_0 hHeld ⊢; refine pure_ (i := 0) (N := some 47) (v := ?_) (a' := ?_) #[true, false, false, false, false, false, false, false, false, false, false] rfl rfl (any_of HT_.out (by kernel_rfl)) (fun _ _ _ h => h) (Or.inl ⟨by rfl, ?_⟩) ?_ ?_; rotate_left
                    · intro w'
                      go_simp
                      with_reducible rfl
                    rotate_left
                    · simp only [Act.put, List.setIfInBounds_toArray, List.set_cons_zero, List.set_cons_succ, i64_w, i32_w]
                      rfl
                    refine pure_ (i := 1) (N := some 48) (v := ?_) (a' := ?_) #[true, true, false, false, false, false, false, false, false, false, false] rfl rfl (any_of HT_.out (by kernel_rfl)) (fun _ _ _ h => h) (Or.inl ⟨by rfl, ?_⟩) ?_ ?_; rotate_left
                    · intro w'
                      go_simp
                      with_reducible rfl
                    rotate_left
                    · simp only [Act.put, List.setIfInBounds_toArray, List.set_cons_zero, List.set_cons_succ, i64_w, i32_w]
                      rfl
                    refine pure_ (i := 3) (N := some 50) (v := ?_) (a' := ?_) #[true, true, false, true, false, false, false, false, false, false, false] rfl rfl (any_of HT_.out (by kernel_rfl)) (fun _ _ _ h => h) (Or.inl ⟨by rfl, ?_⟩) ?_ ?_; rotate_left
                    · intro w'
                      go_simp
                      with_reducible rfl
                    rotate_left
                    · simp only [Act.put, List.setIfInBounds_toArray, List.set_cons_zero, List.set_cons_succ, i64_w, i32_w]
                      rfl
                    refine pure_ (i := 5) (N := some 52) (v := ?_) (a' := ?_) #[true, true, false, true, false, true, false, false, false, false, false] rfl rfl (any_of HT_.out (by kernel_rfl)) (fun _ _ _ h => h) (Or.inl ⟨by rfl, ?_⟩) ?_ ?_; rotate_left
                    · intro w'
                      go_simp
                      with_reducible rfl
                    rotate_left
                    · simp only [Act.put, List.setIfInBounds_toArray, List.set_cons_zero, List.set_cons_succ, i64_w, i32_w]
                      rfl
                    refine take_ (i := 4) (N := some 51) (v := ?_) (a' := ?_) #[true, true, false, true, true, true, false, false, false, false, false] rfl rfl (take_ofW HT_.out HW_.out (by kernel_rfl)) (fun _ _ _ h => h) (Or.inl ⟨by rfl, ?_⟩) hHeld ?_ ?_; rotate_left
                    · rintro w' ⟨s0, s1⟩
                      go_simp
                      with_reducible rfl
                    rotate_left
                    · simp only [Act.put, List.setIfInBounds_toArray, List.set_cons_zero, List.set_cons_succ, i64_w, i32_w]
                      rfl
                    refine one_ (i := 2) (N := some 49) #[true, true, true, true, true, true, false, false, false, false, false] rfl rfl (one_of HT_.out (by kernel_rfl)) (by decide) (fun K hK => ?_); refine goes_ Tryd.func20 (by kernel_rfl) rfl #[.slice Ao52 t377.length co52, .int .i64 x5_2] (by rfl) rfl rfl y1_ ?_
                    with_reducible refine (laws_keIn.calls k2 _ _ t377 x5_2 t395 _ ?side1 ?side2 A46.out).mono ?_
                    (case side1 => repeat (first | exact (Kd.Q_reads' HO_4.out).2.2 | (with_reducible refine Kd.C_alloc ?_ _) | (with_reducible refine Kd.C_drewN ?_ _) | (with_reducible refine Kd.C_drew ?_)))
                    (case side2 => exact (Kd.Q_reads' HO_4.out).2.1)
                    rintro e w' ⟨rfl, ⟨nd, rfl⟩⟩; refine ⟨_, rfl, ?_⟩; refine hK.out _ _ ⟨(blk_cell BK376.out 0).trans rfl, hHeld.2⟩ (fun hHeld => ?_); clear hK K; refine norm_ (a' := ?_) ?_ ?_; rotate_left
                    · show Act.put _ (some 49) _ = _
                      simp only [Act.put, List.setIfInBounds_toArray, List.set_cons_zero, List.set_cons_succ, i64_w, i32_w]
                      rfl
                    refine one_ (i := 6) (N := some 53) #[true, true, true, true, true, true, true, false, false, false, false] rfl rfl (one_of HT_.out (by kernel_rfl)) (by decide) (fun K hK => ?_); refine goes_ Tryd.func61 (by kernel_rfl) rfl #[.int .i64 x5_2] (by rfl) rfl rfl y1_ ?_
                    with_reducible refine (impl_TreLeaf.calls x5_2 t396 _ A47.out).mono ?_
                    rintro e w' ⟨rfl, ⟨nd, rfl⟩⟩; refine ⟨_, rfl, ?_⟩; refine hK.out _ _ ⟨(blk_cell BK376.out 0).trans rfl, hHeld.2⟩ (fun hHeld => ?_); clear hK K; refine norm_ (a' := ?_) ?_ ?_; rotate_left
                    · show Act.put _ (some 53) _ = _
                      simp only [Act.put, List.setIfInBounds_toArray, List.set_cons_zero, List.set_cons_succ, i64_w, i32_w]
                      rfl
                    refine pure_ (i := 7) (N := some 54) (v := ?_) (a' := ?_) #[true, true, true, true, true, true, true, true, false, false, false] rfl rfl (any_of HT_.out (by kernel_rfl)) (fun _ _ _ h => h) (Or.inl ⟨by rfl, ?_⟩) ?_ ?_; rotate_left
                    · intro w'
                      go_simp
                      with_reducible rfl
                    rotate_left
                    · simp only [Act.put, List.setIfInBounds_toArray, List.set_cons_zero, List.set_cons_succ, i64_w, i32_w]
                      rfl
                    refine take_ (i := 8) (N := some 55) (v := ?_) (a' := ?_) #[true, true, true, true, true, true, true, true, true, false, false] rfl rfl (take_ofW HT_.out HW_.out (by kernel_rfl)) (fun _ _ _ h => h) (Or.inl ⟨by rfl, ?_⟩) hHeld ?_ ?_; rotate_left
                    · rintro w' ⟨s0, s1⟩
                      go_simp
                      with_reducible rfl
                    rotate_left
                    · simp only [Act.put, List.setIfInBounds_toArray, List.set_cons_zero, List.set_cons_succ, i64_w, i32_w]
                      rfl
                    refine pure_ (i := 9) (N := some 56) (v := ?_) (a' := ?_) #[true, true, true, true, true, true, true, true, true, true, false] rfl rfl (any_of HT_.out (by kernel_rfl)) (fun _ _ _ h => h) (Or.inl ⟨by rfl, ?_⟩) ?_ ?_; rotate_left
                    · intro w'
                      go_simp
                      with_reducible rfl
                    rotate_left
                    · simp only [Act.put, List.setIfInBounds_toArray, List.set_cons_zero, List.set_cons_succ, i64_w, i32_w]
                      rfl
                    refine pure_ (i := 10) (N := some 57) (v := ?_) (a' := ?_) #[true, true, true, true, true, true, true, true, true, true, true] rfl rfl (any_of HT_.out (by kernel_rfl)) (fun _ _ _ h => h) (Or.inl ⟨by rfl, ?_⟩) ?_ ?_; rotate_left
                    · intro w'
                      go_simp
                      with_reducible rfl
                    rotate_left
                    · simp only [Act.put, List.setIfInBounds_toArray, List.set_cons_zero, List.set_cons_succ, i64_w, i32_w]
                      rfl
                    refine done_ (done_of HT_.out (by kernel_rfl)) ?_
                    try go_wp2
                    any_goals (exfalso; rename_i hq_; revert hq_ c50b0; cases t395 <;> cases (rdOf ByteArray.empty t373 t396).toList <;> (simp; done))
                    go_ret; exact ⟨y6_, y8_ HB.out GE376.out⟩
                  rw [if_neg c50] at H
                  have c50b0 : (t395 != ((rdOf ByteArray.empty t373 t396).toList != ([] : List UInt8))) = false := by simpa using c50
                  (try (have c50b1 : decide (t395 = ((rdOf ByteArray.empty t373 t396).toList != ([] : List UInt8))) = true := by simpa using c50)); (try (have c50b2 : (t395 == ((rdOf ByteArray.empty t373 t396).toList != ([] : List UInt8))) = true := by simpa using c50)); clear c50; have H' := am_ H; clear H
                  try go_wp2
                  have n0_ := am_ (Kd.Q_drew HO_4.out); have n1_ := am_ (Kd.Q_drew HO_377000.out); have n2_ := am_ (blk_drew BK376.out); have n3_ := am_ (below_drew1 HB.out); clear HO_4; clear HO_377000; clear BK376; clear HB; have HO_4 := n0_; have HO_377000 := n1_; have BK376 := n2_; have HB := n3_; clear n0_ n1_ n2_ n3_; obtain ⟨Ao54, co54, eo54, _⟩ := Kd.Q_slice HO_4.out; (first | subst eo54 | (injection eo54 with f1_ f2_ f3_; have f4_ := f1_.symm; have f5_ := f3_.symm; clear f1_ f2_ f3_; subst f4_; subst f5_)); have p397 : 0 ≤ (t396 : Int) := of_decide_eq_true y3_; have q397 : t396 < (t373.length : Int) := of_decide_eq_true y3_; obtain ⟨ad397, e397, hx397_0⟩ := Kd.at_string (Kd.Q_reads' HO_377000.out).2.2 t396 p397 q397
                  cases e397
                  replace p397 := eq_true p397; replace q397 := eq_true q397; refine start_ (n := 11) (S := fun w' => w'.cell? ⟨gb376, 0, none⟩ = some (.slice (some ad397) t373.length co8) ∧ w'.cell? (ad397.add (t396).toNat) = some (.string (rdOf ByteArray.empty t373 t396))) (ds := []) #[false, false, false, false, false, false, false, false, false, false, false] (by kernel_rfl) rfl rfl ⟨(blk_cell BK376.out 0).trans rfl, hx397_0⟩ (fun hHeld => ?_); refine with_tabW laws_FnTreIn.tab12 laws_FnTreIn.bits12 (fun HT_ HW_ => ?_); generalize wr.drew = w53 at HO_4 HO_377000 BK376 HB hx397_0 hHeld ⊢; refine pure_ (i := 0) (N := some 47) (v := ?_) (a' := ?_) #[true, false, false, false, false, false, false, false, false, false, false] rfl rfl (any_of HT_.out (by kernel_rfl)) (fun _ _ _ h => h) (Or.inl ⟨by rfl, ?_⟩) ?_ ?_; rotate_left
                  · intro w'
                    go_simp
                    with_reducible rfl
                  rotate_left
                  · simp only [Act.put, List.setIfInBounds_toArray, List.set_cons_zero, List.set_cons_succ, i64_w, i32_w]
                    rfl
                  refine pure_ (i := 1) (N := some 48) (v := ?_) (a' := ?_) #[true, true, false, false, false, false, false, false, false, false, false] rfl rfl (any_of HT_.out (by kernel_rfl)) (fun _ _ _ h => h) (Or.inl ⟨by rfl, ?_⟩) ?_ ?_; rotate_left
                  · intro w'
                    go_simp
                    with_reducible rfl
                  rotate_left
                  · simp only [Act.put, List.setIfInBounds_toArray, List.set_cons_zero, List.set_cons_succ, i64_w, i32_w]
                    rfl
                  refine pure_ (i := 3) (N := some 50) (v := ?_) (a' := ?_) #[true, true, false, true, false, false, false, false, false, false, false] rfl rfl (any_of HT_.out (by kernel_rfl)) (fun _ _ _ h => h) (Or.inl ⟨by rfl, ?_⟩) ?_ ?_; rotate_left
                  · intro w'
                    go_simp
                    with_reducible rfl
                  rotate_left
                  · simp only [Act.put, List.setIfInBounds_toArray, List.set_cons_zero, List.set_cons_succ, i64_w, i32_w]
                    rfl
                  refine pure_ (i := 5) (N := some 52) (v := ?_) (a' := ?_) #[true, true, false, true, false, true, false, false, false, false, false] rfl rfl (any_of HT_.out (by kernel_rfl)) (fun _ _ _ h => h) (Or.inl ⟨by rfl, ?_⟩) ?_ ?_; rotate_left
                  · intro w'
                    go_simp
                    with_reducible rfl
                  rotate_left
                  · simp only [Act.put, List.setIfInBounds_toArray, List.set_cons_zero, List.set_cons_succ, i64_w, i32_w]
                    rfl
                  refine take_ (i := 4) (N := some 51) (v := ?_) (a' := ?_) #[true, true, false, true, true, true, false, false, false, false, false] rfl rfl (take_ofW HT_.out HW_.out (by kernel_rfl)) (fun _ _ _ h => h) (Or.inl ⟨by rfl, ?_⟩) hHeld ?_ ?_; rotate_left
                  · rintro w' ⟨s0, s1⟩
                    go_simp
                    with_reducible rfl
                  rotate_left
                  · simp only [Act.put, List.setIfInBounds_toArray, List.set_cons_zero, List.set_cons_succ, i64_w, i32_w]
                    rfl
                  refine one_ (i := 2) (N := some 49) #[true, true, true, true, true, true, false, false, false, false, false] rfl rfl (one_of HT_.out (by kernel_rfl)) (by decide) (fun K hK => ?_); refine goes_ Tryd.func20 (by kernel_rfl) rfl #[.slice Ao54 t377.length co54, .int .i64 x5_2] (by rfl) rfl rfl y1_ ?_
                  with_reducible refine (laws_keIn.calls k2 _ _ t377 x5_2 t395 _ ?side1 ?side2 A46.out).mono ?_
                  (case side1 => repeat (first | exact (Kd.Q_reads' HO_4.out).2.2 | (with_reducible refine Kd.C_alloc ?_ _) | (with_reducible refine Kd.C_drewN ?_ _) | (with_reducible refine Kd.C_drew ?_)))
                  (case side2 => exact (Kd.Q_reads' HO_4.out).2.1)
                  rintro e w' ⟨rfl, ⟨nd, rfl⟩⟩; refine ⟨_, rfl, ?_⟩; refine hK.out _ _ ⟨(blk_cell BK376.out 0).trans rfl, hHeld.2⟩ (fun hHeld => ?_); clear hK K; refine norm_ (a' := ?_) ?_ ?_; rotate_left
                  · show Act.put _ (some 49) _ = _
                    simp only [Act.put, List.setIfInBounds_toArray, List.set_cons_zero, List.set_cons_succ, i64_w, i32_w]
                    rfl
                  refine one_ (i := 6) (N := some 53) #[true, true, true, true, true, true, true, false, false, false, false] rfl rfl (one_of HT_.out (by kernel_rfl)) (by decide) (fun K hK => ?_); refine goes_ Tryd.func61 (by kernel_rfl) rfl #[.int .i64 x5_2] (by rfl) rfl rfl y1_ ?_
                  with_reducible refine (impl_TreLeaf.calls x5_2 t396 _ A47.out).mono ?_
                  rintro e w' ⟨rfl, ⟨nd, rfl⟩⟩; refine ⟨_, rfl, ?_⟩; refine hK.out _ _ ⟨(blk_cell BK376.out 0).trans rfl, hHeld.2⟩ (fun hHeld => ?_); clear hK K; refine norm_ (a' := ?_) ?_ ?_; rotate_left
                  · show Act.put _ (some 53) _ = _
                    simp only [Act.put, List.setIfInBounds_toArray, List.set_cons_zero, List.set_cons_succ, i64_w, i32_w]
                    rfl
                  refine pure_ (i := 7) (N := some 54) (v := ?_) (a' := ?_) #[true, true, true, true, true, true, true, true, false, false, false] rfl rfl (any_of HT_.out (by kernel_rfl)) (fun _ _ _ h => h) (Or.inl ⟨by rfl, ?_⟩) ?_ ?_; rotate_left
                  · intro w'
                    go_simp
                    with_reducible rfl
                  rotate_left
                  · simp only [Act.put, List.setIfInBounds_toArray, List.set_cons_zero, List.set_cons_succ, i64_w, i32_w]
                    rfl
                  refine take_ (i := 8) (N := some 55) (v := ?_) (a' := ?_) #[true, true, true, true, true, true, true, true, true, false, false] rfl rfl (take_ofW HT_.out HW_.out (by kernel_rfl)) (fun _ _ _ h => h) (Or.inl ⟨by rfl, ?_⟩) hHeld ?_ ?_; rotate_left
                  · rintro w' ⟨s0, s1⟩
                    go_simp
                    with_reducible rfl
                  rotate_left
                  · simp only [Act.put, List.setIfInBounds_toArray, List.set_cons_zero, List.set_cons_succ, i64_w, i32_w]
                    rfl
                  refine pure_ (i := 9) (N := some 56) (v := ?_) (a' := ?_) #[true, true, true, true, true, true, true, true, true, true, false] rfl rfl (any_of HT_.out (by kernel_rfl)) (fun _ _ _ h => h) (Or.inl ⟨by rfl, ?_⟩) ?_ ?_; rotate_left
                  · intro w'
                    go_simp
                    with_reducible rfl
                  rotate_left
                  · simp only [Act.put, List.setIfInBounds_toArray, List.set_cons_zero, List.set_cons_succ, i64_w, i32_w]
                    rfl
                  refine pure_ (i := 10) (N := some 57) (v := ?_) (a' := ?_) #[true, true, true, true, true, true, true, true, true, true, true] rfl rfl (any_of HT_.out (by kernel_rfl)) (fun _ _ _ h => h) (Or.inl ⟨by rfl, ?_⟩) ?_ ?_; rotate_left
                  · intro w'
                    go_simp
                    with_reducible rfl
                  rotate_left
                  · simp only [Act.put, List.setIfInBounds_toArray, List.set_cons_zero, List.set_cons_succ, i64_w, i32_w]
                    rfl
                  refine done_ (done_of HT_.out (by kernel_rfl)) ?_
                  try go_wp2
                  any_goals (exfalso; rename_i hq_; revert hq_ c50b0; cases t395 <;> cases (rdOf ByteArray.empty t373 t396).toList <;> (simp; done))
                  go_roundg k2
                  case measure => have := HJ4.out; have := HK2.out; omega
                  case rel => exact ⟨(wrap64 (x5_2 + 1)), y4_, H', ⟨by have := HJ4.out; have := HK2.out; omega⟩, ⟨by (with_reducible repeat (first | apply Kd.Q_alloc | apply Kd.Q_drewN | apply Kd.Q_drew)); exact HO_4.out⟩, ⟨by (with_reducible repeat (first | apply Kd.Q_alloc | apply Kd.Q_drewN | apply Kd.Q_drew)); exact HO_377000.out⟩, ⟨by (with_reducible repeat (first | refine blk_drewN ?_ _ | refine blk_drew ?_ | refine blk_alloc ?_ _)); exact BK376.out⟩, ⟨y8_ HB.out GE376.out⟩⟩
                rw [if_neg c49] at H; exact absurd H (by simp)
              rw [if_neg c48] at H; exact absurd H (by simp)
            rw [if_neg c45] at H; have c45b0 : decide (x5_2 < 8) = false := decide_eq_false c45; clear c45; have H' := am_ H; clear H; go_wp2
            go_loopg [6] k2 (fun kq v6 w' => ∃ (x6_3 : Int), v6 = .int .i64 x6_3 ∧ Aside0 (laws_FnTreIn.l1 kq t377 x6_3 = some r) ∧ Aside0 (kq ≤ k2) ∧ Aside0 (Kd.Q (Kd.int .i64) 3 w' w.heap.size (fun _ => True) v378 t377) ∧ Aside0 (Kd.Q Kd.string 9 w' w.heap.size (fun _ => True) (.slice Ao8 t373.length co8) t373) ∧ Aside0 (w'.heap[gb376]? = some (.cells #[(.slice Ao8 t373.length co8)] 55 (0, 0))) ∧ Aside0 (Below w.heap.size w w'))
            case atStart => exact ⟨(1), y4_, H', ⟨Nat.le_refl _⟩, ⟨by (with_reducible repeat (first | apply Kd.Q_alloc | apply Kd.Q_drewN | apply Kd.Q_drew)); exact HO_4.out⟩, ⟨by (with_reducible repeat (first | apply Kd.Q_alloc | apply Kd.Q_drewN | apply Kd.Q_drew)); exact HO_377000.out⟩, ⟨by (with_reducible repeat (first | refine blk_drewN ?_ _ | refine blk_drew ?_ | refine blk_alloc ?_ _)); exact BK376.out⟩, ⟨y8_ HB.out GE376.out⟩⟩
            case round =>
              clear H'; (try clear c1); (try clear c2); (try clear p2); (try clear p3); (try clear q3); (try clear hx3); (try clear c4); (try clear c5); (try clear c6); (try clear p6); (try clear c13); (try clear c16); (try clear c16b0); (try clear c16b1); (try clear c16b2); (try clear c20); (try clear c24); (try clear p39); (try clear q39); (try clear hx39); (try clear c40); (try clear c42); (try clear c45); (try clear c45b0); (try clear c48); (try clear c48b0); (try clear c49); (try clear c49b0); (try clear c50); (try clear c50b0); (try clear c50b1); (try clear c50b2); (try clear c54); (try clear hcz43_0); (try clear hfz43_0); (try clear hx397_0); (try clear p2); (try clear p397); (try clear q397); obtain ⟨x6_3, rfl, HA, HK3, HO_4, HO_377000, BK376, HB⟩ := hrel
              cases gk with
              | zero => exact absurd HA.out (by simp [laws_FnTreIn.l1])
              | succ k3 =>
                have H := HA.out; clear HA; simp only [laws_FnTreIn.l1] at H; by_cases c55 : x6_3 < (t377.length : Int)
                · rw [if_pos c55] at H
                  have c55b0 : decide (x6_3 < (t377.length : Int)) = true := decide_eq_true c55; clear c55
                  obtain ⟨ji56, hji56⟩ : ∃ j_ : Int, (wrap64 (x6_3 - 1)) = j_ := ⟨_, rfl⟩
                  replace H : (if 0 ≤ (ji56) then (if (ji56) < (t377.length : Int) then (if 0 ≤ x6_3 then (if (rd t377 (ji56)) ≥ (rd t377 x6_3) then (some false) else (laws_FnTreIn.l1 k3 t377 (wrap64 (x6_3 + 1)))) else (none)) else (none)) else (none)) = some r := by first | (rw [hji56] at H; exact H) | (simp only [hji56] at H ⊢; exact H)
                  have hji56w : (IntKind.i64.wrap (x6_3 - 1)) = ji56 := (i64_w _).trans hji56; by_cases c57 : 0 ≤ (ji56)
                  · rw [if_pos c57] at H
                    have c57b0 : decide (0 ≤ (ji56)) = true := decide_eq_true c57; clear c57; by_cases c58 : (ji56) < (t377.length : Int)
                    · rw [if_pos c58] at H
                      have c58b0 : decide ((ji56) < (t377.length : Int)) = true := decide_eq_true c58; clear c58; by_cases c59 : 0 ≤ x6_3
                      · rw [if_pos c59] at H
                        have c59b0 : decide (0 ≤ x6_3) = true := decide_eq_true c59; clear c59; by_cases c60 : (rd t377 (ji56)) ≥ (rd t377 x6_3)
                        · rw [if_pos c60] at H
                          have c60b0 : decide ((rd t377 x6_3) ≤ (rd t377 (ji56))) = true := decide_eq_true c60; clear c60; obtain rfl := Option.some.inj H; obtain ⟨Ao61, co61, eo61, _⟩ := Kd.Q_slice HO_4.out; subst eo61
                          try go_wp2
                          have n0_ := am_ (Kd.Q_drew HO_4.out); have n1_ := am_ (Kd.Q_drew HO_377000.out); have n2_ := am_ (blk_drew BK376.out); have n3_ := am_ (below_drew1 HB.out); clear HO_4; clear HO_377000; clear BK376; clear HB; have HO_4 := n0_; have HO_377000 := n1_; have BK376 := n2_; have HB := n3_; clear n0_ n1_ n2_ n3_; have p398 : 0 ≤ ((ji56) : Int) := of_decide_eq_true y3_; have q398 : (ji56) < (t377.length : Int) := of_decide_eq_true y3_; obtain ⟨ad398, e398, hx398_0⟩ := Kd.at_int (Kd.Q_reads' HO_4.out).2.2 (ji56) p398 q398
                          cases e398
                          replace p398 := eq_true p398; replace q398 := eq_true q398; have p399 : 0 ≤ (x6_3 : Int) := of_decide_eq_true y3_; have q399 : x6_3 < (t377.length : Int) := of_decide_eq_true y3_; obtain ⟨ad399, e399, hx399_0⟩ := Kd.at_int (Kd.Q_reads' HO_4.out).2.2 x6_3 p399 q399
                          obtain rfl : ad398 = ad399 := (by injection e399)
                          replace p399 := eq_true p399; replace q399 := eq_true q399; refine start_ (n := 10) (S := fun w' => w'.cell? (ad398.add ((ji56)).toNat) = some (.int .i64 (rd t377 (ji56))) ∧ w'.cell? (ad398.add (x6_3).toNat) = some (.int .i64 (rd t377 x6_3))) (ds := []) #[false, false, false, false, false, false, false, false, false, false] (by kernel_rfl) rfl rfl ⟨hx398_0, hx399_0⟩ (fun hHeld => ?_); refine with_tabW laws_FnTreIn.tab17 laws_FnTreIn.bits17 (fun HT_ HW_ => ?_); generalize wr.drew = w62 at HO_4 HO_377000 BK376 HB hx398_0 hx399_0 hHeld ⊢; refine pure_ (i := 0) (N := some 64) (v := ?_) (a' := ?_) #[true, false, false, false, false, false, false, false, false, false] rfl rfl (any_of HT_.out (by kernel_rfl)) (fun _ _ _ h => h) (Or.inl ⟨by rfl, ?_⟩) ?_ ?_; rotate_left
                          · intro w'
                            go_simp
                            with_reducible rfl
                          rotate_left
                          · simp only [Act.put, List.setIfInBounds_toArray, List.set_cons_zero, List.set_cons_succ, i64_w, i32_w]
                            rfl
                          refine pure_ (i := 1) (N := some 65) (v := ?_) (a' := ?_) #[true, true, false, false, false, false, false, false, false, false] rfl rfl (any_of HT_.out (by kernel_rfl)) (fun _ _ _ h => h) (Or.inl ⟨by rfl, ?_⟩) ?_ ?_; rotate_left
                          · intro w'
                            go_simp
                            with_reducible rfl
                          rotate_left
                          · simp only [Act.put, List.setIfInBounds_toArray, List.set_cons_zero, List.set_cons_succ, i64_w, i32_w]
                            rfl
                          refine pure_ (i := 2) (N := some 66) (v := ?_) (a' := ?_) #[true, true, true, false, false, false, false, false, false, false] rfl rfl (any_of HT_.out (by kernel_rfl)) (fun _ _ _ h => h) (Or.inl ⟨by rfl, ?_⟩) ?_ ?_; rotate_left
                          · intro w'
                            go_simp
                            with_reducible rfl
                          rotate_left
                          · simp only [Act.put, List.setIfInBounds_toArray, List.set_cons_zero, List.set_cons_succ, i64_w, i32_w]
                            rfl
                          refine pure_ (i := 3) (N := some 67) (v := ?_) (a' := ?_) #[true, true, true, true, false, false, false, false, false, false] rfl rfl (any_of HT_.out (by kernel_rfl)) (fun _ _ _ h => h) (Or.inl ⟨by rfl, ?_⟩) ?_ ?_; rotate_left
                          · intro w'
                            go_simp
                            with_reducible rfl
                          rotate_left
                          · simp only [Act.put, List.setIfInBounds_toArray, List.set_cons_zero, List.set_cons_succ, i64_w, i32_w]
                            rfl
                          refine pure_ (i := 5) (N := some 69) (v := ?_) (a' := ?_) #[true, true, true, true, false, true, false, false, false, false] rfl rfl (any_of HT_.out (by kernel_rfl)) (fun _ _ _ h => h) (Or.inl ⟨by rfl, ?_⟩) ?_ ?_; rotate_left
                          · intro w'
                            go_simp
                            with_reducible rfl
                          rotate_left
                          · simp only [Act.put, List.setIfInBounds_toArray, List.set_cons_zero, List.set_cons_succ, i64_w, i32_w]
                            rfl
                          refine pure_ (i := 6) (N := some 70) (v := ?_) (a' := ?_) #[true, true, true, true, false, true, true, false, false, false] rfl rfl (any_of HT_.out (by kernel_rfl)) (fun _ _ _ h => h) (Or.inl ⟨by rfl, ?_⟩) ?_ ?_; rotate_left
                          · intro w'
                            go_simp
                            with_reducible rfl
                          rotate_left
                          · simp only [Act.put, List.setIfInBounds_toArray, List.set_cons_zero, List.set_cons_succ, i64_w, i32_w]
                            rfl
                          refine pure_ (i := 7) (N := some 71) (v := ?_) (a' := ?_) #[true, true, true, true, false, true, true, true, false, false] rfl rfl (any_of HT_.out (by kernel_rfl)) (fun _ _ _ h => h) (Or.inl ⟨by rfl, ?_⟩) ?_ ?_; rotate_left
                          · intro w'
                            go_simp
                            with_reducible rfl
                          rotate_left
                          · simp only [Act.put, List.setIfInBounds_toArray, List.set_cons_zero, List.set_cons_succ, i64_w, i32_w]
                            rfl
                          refine take_ (i := 4) (N := some 68) (v := ?_) (a' := ?_) #[true, true, true, true, true, true, true, true, false, false] rfl rfl (take_ofW HT_.out HW_.out (by kernel_rfl)) (fun _ _ _ h => h) (Or.inl ⟨by rfl, ?_⟩) hHeld ?_ ?_; rotate_left
                          · rintro w' ⟨s0, s1⟩
                            go_simp
                            with_reducible rfl
                          rotate_left
                          · simp only [Act.put, List.setIfInBounds_toArray, List.set_cons_zero, List.set_cons_succ, i64_w, i32_w]
                            rfl
                          refine take_ (i := 8) (N := some 72) (v := ?_) (a' := ?_) #[true, true, true, true, true, true, true, true, true, false] rfl rfl (take_ofW HT_.out HW_.out (by kernel_rfl)) (fun _ _ _ h => h) (Or.inl ⟨by rfl, ?_⟩) hHeld ?_ ?_; rotate_left
                          · rintro w' ⟨s0, s1⟩
                            go_simp
                            with_reducible rfl
                          rotate_left
                          · simp only [Act.put, List.setIfInBounds_toArray, List.set_cons_zero, List.set_cons_succ, i64_w, i32_w]
                            rfl
                          refine pure_ (i := 9) (N := some 73) (v := ?_) (a' := ?_) #[true, true, true, true, true, true, true, true, true, true] rfl rfl (any_of HT_.out (by kernel_rfl)) (fun _ _ _ h => h) (Or.inl ⟨by rfl, ?_⟩) ?_ ?_; rotate_left
                          · intro w'
                            go_simp
                            with_reducible rfl
                          rotate_left
                          · simp only [Act.put, List.setIfInBounds_toArray, List.set_cons_zero, List.set_cons_succ, i64_w, i32_w]
                            rfl
                          refine done_ (done_of HT_.out (by kernel_rfl)) ?_
                          try go_wp2
                          go_ret; exact ⟨by first | rfl | (simp [errW_none, errW_some] <;> rfl) | (simp only [← hji56]; first | rfl | (simp [errW_none, errW_some] <;> rfl)) | (simp [*, errW_none, errW_some] <;> rfl), y8_ HB.out GE376.out⟩
                        rw [if_neg c60] at H; have c60b0 : decide ((rd t377 x6_3) ≤ (rd t377 (ji56))) = false := decide_eq_false c60; clear c60; have H' := am_ H; clear H; obtain ⟨Ao63, co63, eo63, _⟩ := Kd.Q_slice HO_4.out; subst eo63
                        try go_wp2
                        have n0_ := am_ (Kd.Q_drew HO_4.out); have n1_ := am_ (Kd.Q_drew HO_377000.out); have n2_ := am_ (blk_drew BK376.out); have n3_ := am_ (below_drew1 HB.out); clear HO_4; clear HO_377000; clear BK376; clear HB; have HO_4 := n0_; have HO_377000 := n1_; have BK376 := n2_; have HB := n3_; clear n0_ n1_ n2_ n3_; have p398 : 0 ≤ ((ji56) : Int) := of_decide_eq_true y3_; have q398 : (ji56) < (t377.length : Int) := of_decide_eq_true y3_; obtain ⟨ad398, e398, hx398_0⟩ := Kd.at_int (Kd.Q_reads' HO_4.out).2.2 (ji56) p398 q398
                        cases e398
                        replace p398 := eq_true p398; replace q398 := eq_true q398; have p399 : 0 ≤ (x6_3 : Int) := of_decide_eq_true y3_; have q399 : x6_3 < (t377.length : Int) := of_decide_eq_true y3_; obtain ⟨ad399, e399, hx399_0⟩ := Kd.at_int (Kd.Q_reads' HO_4.out).2.2 x6_3 p399 q399
                        obtain rfl : ad398 = ad399 := (by injection e399)
                        replace p399 := eq_true p399; replace q399 := eq_true q399; refine start_ (n := 10) (S := fun w' => w'.cell? (ad398.add ((ji56)).toNat) = some (.int .i64 (rd t377 (ji56))) ∧ w'.cell? (ad398.add (x6_3).toNat) = some (.int .i64 (rd t377 x6_3))) (ds := []) #[false, false, false, false, false, false, false, false, false, false] (by kernel_rfl) rfl rfl ⟨hx398_0, hx399_0⟩ (fun hHeld => ?_); refine with_tabW laws_FnTreIn.tab17 laws_FnTreIn.bits17 (fun HT_ HW_ => ?_); generalize wr.drew = w64 at HO_4 HO_377000 BK376 HB hx398_0 hx399_0 hHeld ⊢; refine pure_ (i := 0) (N := some 64) (v := ?_) (a' := ?_) #[true, false, false, false, false, false, false, false, false, false] rfl rfl (any_of HT_.out (by kernel_rfl)) (fun _ _ _ h => h) (Or.inl ⟨by rfl, ?_⟩) ?_ ?_; rotate_left
                        · intro w'
                          go_simp
                          with_reducible rfl
                        rotate_left
                        · simp only [Act.put, List.setIfInBounds_toArray, List.set_cons_zero, List.set_cons_succ, i64_w, i32_w]
                          rfl
                        refine pure_ (i := 1) (N := some 65) (v := ?_) (a' := ?_) #[true, true, false, false, false, false, false, false, false, false] rfl rfl (any_of HT_.out (by kernel_rfl)) (fun _ _ _ h => h) (Or.inl ⟨by rfl, ?_⟩) ?_ ?_; rotate_left
                        · intro w'
                          go_simp
                          with_reducible rfl
                        rotate_left
                        · simp only [Act.put, List.setIfInBounds_toArray, List.set_cons_zero, List.set_cons_succ, i64_w, i32_w]
                          rfl
                        refine pure_ (i := 2) (N := some 66) (v := ?_) (a' := ?_) #[true, true, true, false, false, false, false, false, false, false] rfl rfl (any_of HT_.out (by kernel_rfl)) (fun _ _ _ h => h) (Or.inl ⟨by rfl, ?_⟩) ?_ ?_; rotate_left
                        · intro w'
                          go_simp
                          with_reducible rfl
                        rotate_left
                        · simp only [Act.put, List.setIfInBounds_toArray, List.set_cons_zero, List.set_cons_succ, i64_w, i32_w]
                          rfl
                        refine pure_ (i := 3) (N := some 67) (v := ?_) (a' := ?_) #[true, true, true, true, false, false, false, false, false, false] rfl rfl (any_of HT_.out (by kernel_rfl)) (fun _ _ _ h => h) (Or.inl ⟨by rfl, ?_⟩) ?_ ?_; rotate_left
                        · intro w'
                          go_simp
                          with_reducible rfl
                        rotate_left
                        · simp only [Act.put, List.setIfInBounds_toArray, List.set_cons_zero, List.set_cons_succ, i64_w, i32_w]
                          rfl
                        refine pure_ (i := 5) (N := some 69) (v := ?_) (a' := ?_) #[true, true, true, true, false, true, false, false, false, false] rfl rfl (any_of HT_.out (by kernel_rfl)) (fun _ _ _ h => h) (Or.inl ⟨by rfl, ?_⟩) ?_ ?_; rotate_left
                        · intro w'
                          go_simp
                          with_reducible rfl
                        rotate_left
                        · simp only [Act.put, List.setIfInBounds_toArray, List.set_cons_zero, List.set_cons_succ, i64_w, i32_w]
                          rfl
                        refine pure_ (i := 6) (N := some 70) (v := ?_) (a' := ?_) #[true, true, true, true, false, true, true, false, false, false] rfl rfl (any_of HT_.out (by kernel_rfl)) (fun _ _ _ h => h) (Or.inl ⟨by rfl, ?_⟩) ?_ ?_; rotate_left
                        · intro w'
                          go_simp
                          with_reducible rfl
                        rotate_left
                        · simp only [Act.put, List.setIfInBounds_toArray, List.set_cons_zero, List.set_cons_succ, i64_w, i32_w]
                          rfl
                        refine pure_ (i := 7) (N := some 71) (v := ?_) (a' := ?_) #[true, true, true, true, false, true, true, true, false, false] rfl rfl (any_of HT_.out (by kernel_rfl)) (fun _ _ _ h => h) (Or.inl ⟨by rfl, ?_⟩) ?_ ?_; rotate_left
                        · intro w'
                          go_simp
                          with_reducible rfl
                        rotate_left
                        · simp only [Act.put, List.setIfInBounds_toArray, List.set_cons_zero, List.set_cons_succ, i64_w, i32_w]
                          rfl
                        refine take_ (i := 4) (N := some 68) (v := ?_) (a' := ?_) #[true, true, true, true, true, true, true, true, false, false] rfl rfl (take_ofW HT_.out HW_.out (by kernel_rfl)) (fun _ _ _ h => h) (Or.inl ⟨by rfl, ?_⟩) hHeld ?_ ?_; rotate_left
                        · rintro w' ⟨s0, s1⟩
                          go_simp
                          with_reducible rfl
                        rotate_left
                        · simp only [Act.put, List.setIfInBounds_toArray, List.set_cons_zero, List.set_cons_succ, i64_w, i32_w]
                          rfl
                        refine take_ (i := 8) (N := some 72) (v := ?_) (a' := ?_) #[true, true, true, true, true, true, true, true, true, false] rfl rfl (take_ofW HT_.out HW_.out (by kernel_rfl)) (fun _ _ _ h => h) (Or.inl ⟨by rfl, ?_⟩) hHeld ?_ ?_; rotate_left
                        · rintro w' ⟨s0, s1⟩
                          go_simp
                          with_reducible rfl
                        rotate_left
                        · simp only [Act.put, List.setIfInBounds_toArray, List.set_cons_zero, List.set_cons_succ, i64_w, i32_w]
                          rfl
                        refine pure_ (i := 9) (N := some 73) (v := ?_) (a' := ?_) #[true, true, true, true, true, true, true, true, true, true] rfl rfl (any_of HT_.out (by kernel_rfl)) (fun _ _ _ h => h) (Or.inl ⟨by rfl, ?_⟩) ?_ ?_; rotate_left
                        · intro w'
                          go_simp
                          with_reducible rfl
                        rotate_left
                        · simp only [Act.put, List.setIfInBounds_toArray, List.set_cons_zero, List.set_cons_succ, i64_w, i32_w]
                          rfl
                        refine done_ (done_of HT_.out (by kernel_rfl)) ?_
                        try go_wp2
                        go_roundg k3
                        case measure => have := HJ4.out; have := HK2.out; have := HK3.out; omega
                        case rel => exact ⟨(wrap64 (x6_3 + 1)), y4_, H', ⟨by have := HJ4.out; have := HK2.out; have := HK3.out; omega⟩, ⟨by (with_reducible repeat (first | apply Kd.Q_alloc | apply Kd.Q_drewN | apply Kd.Q_drew)); exact HO_4.out⟩, ⟨by (with_reducible repeat (first | apply Kd.Q_alloc | apply Kd.Q_drewN | apply Kd.Q_drew)); exact HO_377000.out⟩, ⟨by (with_reducible repeat (first | refine blk_drewN ?_ _ | refine blk_drew ?_ | refine blk_alloc ?_ _)); exact BK376.out⟩, ⟨y8_ HB.out GE376.out⟩⟩
                      rw [if_neg c59] at H; exact absurd H (by simp)
                    rw [if_neg c58] at H; exact absurd H (by simp)
                  rw [if_neg c57] at H; exact absurd H (by simp)
                rw [if_neg c55] at H; have c55b0 : decide (x6_3 < (t377.length : Int)) = false := decide_eq_false c55; clear c55; replace H := Option.bind_eq_some_iff.mp H; obtain ⟨t400, A650, H⟩ := H; replace H : ((impl_TreOk.f t400).bind fun t403 => (if t403 = true then ((impl_TreNew.f).bind fun t404 => ((impl_TreIn.f k3 t404).bind fun t407 => (some ((t407.length : Int) == 0)))) else (some false))) = some r := H; have A65 := am_ A650; clear A650; replace H := Option.bind_eq_some_iff.mp H; obtain ⟨t403, A660, H⟩ := H; replace H : (if t403 = true then ((impl_TreNew.f).bind fun t404 => ((impl_TreIn.f k3 t404).bind fun t407 => (some ((t407.length : Int) == 0)))) else (some false)) = some r := H; have A66 := am_ A660; clear A660; by_cases c67 : t403 = true
                · subst c67
                  have H1 : ((impl_TreNew.f).bind fun t404 => ((impl_TreIn.f k3 t404).bind fun t407 => (some ((t407.length : Int) == 0)))) = some r := by rw [if_pos rfl] at H; exact H
                  clear H; have H := H1; clear H1; replace H := Option.bind_eq_some_iff.mp H; obtain ⟨t404, A680, H⟩ := H; replace H : ((impl_TreIn.f k3 t404).bind fun t407 => (some ((t407.length : Int) == 0))) = some r := H; have A68 := am_ A680; clear A680; replace H := Option.bind_eq_some_iff.mp H; obtain ⟨t407, A690, H⟩ := H; replace H : (some ((t407.length : Int) == 0)) = some r := H; have A69 := am_ A690; clear A690; obtain rfl := Option.some.inj H; obtain ⟨Ao70, co70, eo70, _⟩ := Kd.Q_slice HO_4.out; subst eo70; go_wp2_with (first | ((with_reducible refine gate_callee (f := 59) rfl ?_); refine goesL_ (some 74) rfl rfl Tryd.func59 (by kernel_rfl) rfl #[] rfl y1_ ?_; (with_reducible refine (impl_TreNew.calls  t400 _ A65.out).mono ?_); rintro e w71 ⟨v401, rfl, ho0, hb⟩; refine ⟨_, rfl, ?_⟩; replace HO_4 := am_ (Kd.Q_below (y13_ HO_4.out) hb); have HO402 := am_ (Kd.R_lower (Kd.R_new' ho0 (Kd.Q_lt (y13_ HO_377000.out))) (below_size (y8_ HB.out GE376.out))); replace HO_377000 := am_ (Kd.Q_elder' (y13_ HO_377000.out) (Kd.R_base ho0) hb); replace BK376 := am_ (blk_below (g := gb376) (o := .cells #[.slice Ao8 t373.length co8] 55 (0, 0)) (y12_ BK376.out) hb); replace HB := am_ (below_step (y8_ HB.out GE376.out) hb); (try clear hb); (try clear hb2); (try clear hk); (try clear hi); (try clear ho0); obtain ⟨Ao72, co72, eo72⟩ := Kd.R_slice HO402.out; subst eo72) | ((with_reducible refine gate_callee (f := 53) rfl ?_); refine goesL_ (some 75) rfl rfl Tryd.func53 (by kernel_rfl) rfl #[.agg #[.slice Ao72 t400.length co72]] rfl y1_ ?_; (with_reducible refine (impl_TreOk.calls _ _ t400 true _ ?side1 ?side2 ?side3 A66.out).mono ?_); (case side1 => repeat (first | exact (Kd.R_reads' HO402.out).2.2 | (with_reducible refine Kd.C_alloc ?_ _) | (with_reducible refine Kd.C_drewN ?_ _) | (with_reducible refine Kd.C_drew ?_))); (case side2 => exact (Kd.R_reads' HO402.out).2.1); (case side3 => exact GlobOk.below HGL.out (y8_ HB.out GE376.out)); rintro e w73 ⟨rfl, hb⟩; refine ⟨_, rfl, ?_⟩; replace HO_4 := am_ (Kd.Q_below (y13_ HO_4.out) hb); replace HO_377000 := am_ (Kd.Q_below (y13_ HO_377000.out) hb); replace HO402 := am_ (Kd.R_below (y11_ HO402.out) hb); replace BK376 := am_ (blk_below (g := gb376) (o := .cells #[.slice Ao8 t373.length co8] 55 (0, 0)) (y12_ BK376.out) hb); replace HB := am_ (below_step (y8_ HB.out GE376.out) hb); clear hb) | (go_at_call 59; (with_reducible refine (impl_TreNew.calls  t404 _ A68.out).mono ?_); rintro e w74 ⟨v405, rfl, ho0, hb⟩; replace HO_4 := am_ (Kd.Q_below (y13_ HO_4.out) hb); have HO406 := am_ (Kd.R_lower (Kd.R_new' (Kd.R_new' ho0 (Kd.Q_lt (y13_ HO_377000.out))) (Kd.R_lt (y11_ HO402.out))) (below_size (y8_ HB.out GE376.out))); replace HO_377000 := am_ (Kd.Q_elder' (y13_ HO_377000.out) (Kd.R_base ho0) hb); replace HO402 := am_ (Kd.R_elder' (y11_ HO402.out) (Kd.R_base ho0) hb); replace BK376 := am_ (blk_below (g := gb376) (o := .cells #[.slice Ao8 t373.length co8] 55 (0, 0)) (y12_ BK376.out) hb); replace HB := am_ (below_step (y8_ HB.out GE376.out) hb); (try clear hb); (try clear hb2); (try clear hk); (try clear hi); (try clear ho0); obtain ⟨Ao75, co75, eo75⟩ := Kd.R_slice HO406.out; subst eo75) | (go_at_call 56; (with_reducible refine (impl_TreIn.calls k3 _ _ t404 t407 _ ?side1 ?side2 ?side3 A69.out).mono ?_); (case side1 => repeat (first | exact (Kd.R_reads' HO406.out).2.2 | (with_reducible refine Kd.C_alloc ?_ _) | (with_reducible refine Kd.C_drewN ?_ _) | (with_reducible refine Kd.C_drew ?_))); (case side2 => exact (Kd.R_reads' HO406.out).2.1); (case side3 => exact GlobOk.below HGL.out (y8_ HB.out GE376.out)); rintro e w76 ⟨v408, rfl, ho0, hb⟩; replace HO_377000 := am_ (Kd.Q_below (y13_ HO_377000.out) hb); replace HO402 := am_ (Kd.R_below (y11_ HO402.out) hb); replace HO406 := am_ (Kd.R_below (y11_ HO406.out) hb); have HO409 := am_ (Kd.Q_lower (Kd.Q_new' ho0 (Kd.Q_lt (y13_ HO_4.out))) (below_size (y8_ HB.out GE376.out))); replace HO_4 := am_ (Kd.Q_elder' (y13_ HO_4.out) (Kd.Q_base ho0) hb); replace BK376 := am_ (blk_below (g := gb376) (o := .cells #[.slice Ao8 t373.length co8] 55 (0, 0)) (y12_ BK376.out) hb); replace HB := am_ (below_step (y8_ HB.out GE376.out) hb); (try clear hb); (try clear hb2); (try clear hk); (try clear hi); (try clear ho0); obtain ⟨Ao77, co77, eo77, _⟩ := Kd.Q_slice HO409.out; subst eo77)); go_ret; exact ⟨y6_, y8_ HB.out GE376.out⟩
                replace c67 := Bool.eq_false_iff.mpr c67; subst c67
                have H1 : (some false) = some r := by rw [if_neg (show ¬ (false = true) by decide)] at H; exact H
                clear H; have H := H1; clear H1; obtain rfl := Option.some.inj H; obtain ⟨Ao78, co78, eo78, _⟩ := Kd.Q_slice HO_4.out; subst eo78; go_wp2_with (first | ((with_reducible refine gate_callee (f := 59) rfl ?_); refine goesL_ (some 74) rfl rfl Tryd.func59 (by kernel_rfl) rfl #[] rfl y1_ ?_; (with_reducible refine (impl_TreNew.calls  t400 _ A65.out).mono ?_); rintro e w79 ⟨v401, rfl, ho0, hb⟩; refine ⟨_, rfl, ?_⟩; replace HO_4 := am_ (Kd.Q_below (y13_ HO_4.out) hb); have HO402 := am_ (Kd.R_lower (Kd.R_new' ho0 (Kd.Q_lt (y13_ HO_377000.out))) (below_size (y8_ HB.out GE376.out))); replace HO_377000 := am_ (Kd.Q_elder' (y13_ HO_377000.out) (Kd.R_base ho0) hb); replace BK376 := am_ (blk_below (g := gb376) (o := .cells #[.slice Ao8 t373.length co8] 55 (0, 0)) (y12_ BK376.out) hb); replace HB := am_ (below_step (y8_ HB.out GE376.out) hb); (try clear hb); (try clear hb2); (try clear hk); (try clear hi); (try clear ho0); obtain ⟨Ao80, co80, eo80⟩ := Kd.R_slice HO402.out; subst eo80) | ((with_reducible refine gate_callee (f := 53) rfl ?_); refine goesL_ (some 75) rfl rfl Tryd.func53 (by kernel_rfl) rfl #[.agg #[.slice Ao80 t400.length co80]] rfl y1_ ?_; (with_reducible refine (impl_TreOk.calls _ _ t400 false _ ?side1 ?side2 ?side3 A66.out).mono ?_); (case side1 => repeat (first | exact (Kd.R_reads' HO402.out).2.2 | (with_reducible refine Kd.C_alloc ?_ _) | (with_reducible refine Kd.C_drewN ?_ _) | (with_reducible refine Kd.C_drew ?_))); (case side2 => exact (Kd.R_reads' HO402.out).2.1); (case side3 => exact GlobOk.below HGL.out (y8_ HB.out GE376.out)); rintro e w81 ⟨rfl, hb⟩; refine ⟨_, rfl, ?_⟩; replace HO_4 := am_ (Kd.Q_below (y13_ HO_4.out) hb); replace HO_377000 := am_ (Kd.Q_below (y13_ HO_377000.out) hb); replace HO402 := am_ (Kd.R_below (y11_ HO402.out) hb); replace BK376 := am_ (blk_below (g := gb376) (o := .cells #[.slice Ao8 t373.length co8] 55 (0, 0)) (y12_ BK376.out) hb); replace HB := am_ (below_step (y8_ HB.out GE376.out) hb); clear hb)); go_ret; exact ⟨y6_, y8_ HB.out GE376.out⟩
      replace c42 := Bool.eq_false_iff.mpr c42; subst c42
      have H1 : (if (t377.length : Int) = 0 then ((laws_keOk.f).bind fun t394 => (some t394)) else (some false)) = some r := by rw [if_neg (show ¬ (false = true) by decide)] at H; exact H
      clear H; have H := H1; clear H1; by_cases c82 : (t377.length : Int) = 0
      · rw [if_pos c82] at H
        have c82b0 : ((t377.length : Int) == 0) = true := beq_iff_eq.mpr c82; have c82b1 : ((t377.length : Int) != 0) = false := bne_eq_false_iff_eq.mpr c82; clear c82; replace H := Option.bind_eq_some_iff.mp H; obtain ⟨t394, A830, H⟩ := H; replace H : (some t394) = some r := H; have A83 := am_ A830; clear A830; obtain rfl := Option.some.inj H; have hcz84_0 : wc.cell? ⟨gb376, 0, none⟩ = some (.slice Ao8 t373.length co8) := (blk_cell BK376.out 0).trans rfl; have hfz84_0 := blk_frozen BK376.out 0; go_wp2_with (first | ((with_reducible refine gate_callee (f := 54) rfl ?_); refine goesL_ (some 35) rfl rfl Tryd.func54 (by kernel_rfl) rfl #[.agg #[.slice Ao8 t373.length co8]] rfl y1_ ?_; (with_reducible refine (spec_TreOk.calls kj4 _ _ t373 false _ ?side1 ?side2 A41.out).mono ?_); (case side1 => repeat (first | exact (Kd.Q_reads' HO_377000.out).2.2 | (with_reducible refine Kd.C_alloc ?_ _) | (with_reducible refine Kd.C_drewN ?_ _) | (with_reducible refine Kd.C_drew ?_))); (case side2 => exact (Kd.Q_reads' HO_377000.out).2.1); rintro e w85 ⟨rfl, hb⟩; refine ⟨_, rfl, ?_⟩; replace HO_4 := am_ (Kd.Q_below (y13_ HO_4.out) hb); replace HO_377000 := am_ (Kd.Q_below (y13_ HO_377000.out) hb); replace BK376 := am_ (blk_below (g := gb376) (o := .cells #[.slice Ao8 t373.length co8] 55 (0, 0)) (y12_ BK376.out) hb); replace HB := am_ (below_step (y8_ HB.out GE376.out) hb); clear hb; obtain ⟨Ao86, co86, eo86, _⟩ := Kd.Q_slice HO_4.out; subst eo86) | (go_at_call 18; (with_reducible refine (laws_keOk.calls  t394 _ ?side1 A83.out).mono ?_); (case side1 => exact GlobOk.below HGL.out (y8_ HB.out GE376.out)); rintro e w87 ⟨rfl, hb⟩; replace HO_4 := am_ (Kd.Q_below (y13_ HO_4.out) hb); replace HO_377000 := am_ (Kd.Q_below (y13_ HO_377000.out) hb); replace BK376 := am_ (blk_below (g := gb376) (o := .cells #[.slice Ao8 t373.length co8] 55 (0, 0)) (y12_ BK376.out) hb); replace HB := am_ (below_step (y8_ HB.out GE376.out) hb); clear hb)); go_ret; exact ⟨y6_, y8_ HB.out GE376.out⟩
      rw [if_neg c82] at H; have c82b0 : ((t377.length : Int) == 0) = false := beq_eq_false_iff_ne.mpr c82; have c82b1 : ((t377.length : Int) != 0) = true := bne_iff_ne.mpr c82
      have c82b2 : ¬ (t377 = []) := fun h_ => c82 (by rw [h_]; rfl)
      obtain rfl := Option.some.inj H; have hcz88_0 : wc.cell? ⟨gb376, 0, none⟩ = some (.slice Ao8 t373.length co8) := (blk_cell BK376.out 0).trans rfl; have hfz88_0 := blk_frozen BK376.out 0; go_wp2_with (first | ((with_reducible refine gate_callee (f := 54) rfl ?_); refine goesL_ (some 35) rfl rfl Tryd.func54 (by kernel_rfl) rfl #[.agg #[.slice Ao8 t373.length co8]] rfl y1_ ?_; (with_reducible refine (spec_TreOk.calls kj4 _ _ t373 false _ ?side1 ?side2 A41.out).mono ?_); (case side1 => repeat (first | exact (Kd.Q_reads' HO_377000.out).2.2 | (with_reducible refine Kd.C_alloc ?_ _) | (with_reducible refine Kd.C_drewN ?_ _) | (with_reducible refine Kd.C_drew ?_))); (case side2 => exact (Kd.Q_reads' HO_377000.out).2.1); rintro e w89 ⟨rfl, hb⟩; refine ⟨_, rfl, ?_⟩; replace HO_4 := am_ (Kd.Q_below (y13_ HO_4.out) hb); replace HO_377000 := am_ (Kd.Q_below (y13_ HO_377000.out) hb); replace BK376 := am_ (blk_below (g := gb376) (o := .cells #[.slice Ao8 t373.length co8] 55 (0, 0)) (y12_ BK376.out) hb); replace HB := am_ (below_step (y8_ HB.out GE376.out) hb); clear hb; obtain ⟨Ao90, co90, eo90, _⟩ := Kd.Q_slice HO_4.out; subst eo90)); go_ret; exact ⟨y6_, y8_ HB.out GE376.out⟩

/-- THE ONE PURE STATEMENT of laws_FnTreIn: yours. -/
def laws_FnTreIn.Pure : Prop := ∀ (l0 : List Int), l0.length ≤ maxLen → l0.length * 1 ≤ 140737488351232 → (∀ x ∈ l0, (Lit.int .u8 x).wf = true) → ∃ k, laws_FnTreIn.f k l0 = some true
theorem laws_FnTreIn.walk (P : laws_FnTreIn.Pure) (a0 : Option Addr) (len0 cap0 : Nat) (z0 : List Int) (w : World) (w0 : (a0 = none ∧ len0 = 0 ∧ cap0 = 0 ∧ z0 = []) ∨ ∃ x, a0 = some x ∧ len0 ≤ cap0 ∧ cap0 ≤ maxLen ∧ z0.length = cap0 ∧ (∀ i, i < z0.length → w.cell? (x.add i) = some (.int .u8 (z0.getD i 0))) ∧ ∀ n ∈ z0, (Lit.int .u8 n).wf = true) (y0 : len0 * 1 ≤ 140737488351232) (hG : GlobOk w) :
    Calls Tryd.prog 13 #[.slice a0 len0 cap0] w fun e w' => e = .returned (.bool true) ∧ Below w.heap.size w w' := by
  obtain ⟨l0, rfl, hr0, hm0, hw0, hc0⟩ := ReadsInt.ofRowC w0; obtain ⟨k, h⟩ := P l0 hm0 y0 hw0; refine (laws_FnTreIn.calls k _ _ l0 true w (Kd.C_of_reads (d := (0 : Int)) (h1 := fun _ => rfl) hr0) hc0 hG h).mono ?_; rintro e w' ⟨rfl, hd⟩; exact ⟨rfl, hd⟩

end Go.Proofs.YtdcaipomjimplaaDoor.Wi
