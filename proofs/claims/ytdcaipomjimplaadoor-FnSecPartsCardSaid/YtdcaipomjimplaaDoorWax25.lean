-- Written by this session's own program (wip/tools/pp.py) out of the translation, over functions given by hand. Lean checks it.
import Derived.Test.YtdcaipomjimplaaDoorWax0
import Derived.Test.YtdcaipomjimplaaDoorWax1
import Derived.Test.YtdcaipomjimplaaDoorWax2
import Derived.Test.YtdcaipomjimplaaDoorWax6
import Derived.Test.YtdcaipomjimplaaDoorWax21
import Derived.Test.YtdcaipomjimplaaDoorWax23
namespace Go.Proofs.YtdcaipomjimplaaDoor.Wa
open Go.RowKit Go.Proofs.YtdcaipomjimplaaDoorW.PrintWords Go.Proofs.YtdcaipomjimplaaDoorW.PrintLast Go.Proofs.YtdcaipomjimplaaDoorW.PrintMore
attribute [local go_sem] max2_int min2_int max_two min_two max_three min_three max_four min_four   -- for this text's walks alone
set_option linter.unusedVariables false
set_option linter.unusedSimpArgs false

attribute [local go_sem high] eqA37
/-! ### laws_FnSecParts: function 5 -/
mutual
def laws_FnSecParts.j0 : Nat → ByteArray → Bool → Int → Int → Int → ByteArray → ByteArray → Option (Bool)
  | 0, _, _, _, _, _, _, _ => none
  | k + 1, x3, x23, x397000, x397001, x397002, x397003, x397004 => if x23 = true then (if x397003.toList = ([] : List UInt8) then (if x397004.toList = ([] : List UInt8) then ((laws_keOk.f).bind fun t403 => (some t403)) else (some false)) else (some false)) else ((impl_SecOk.f x397003).bind fun t404 => (if t404 = true then (if (x397003.size : Int) ≥ (x3.size : Int) then (laws_FnSecParts.j1 k x3 true x397000 x397001 x397002 x397003 x397004) else (laws_FnSecParts.j1 k x3 ((x397004.toList != ([] : List UInt8)) != (x397000 == 4)) x397000 x397001 x397002 x397003 x397004)) else (laws_FnSecParts.j1 k x3 true x397000 x397001 x397002 x397003 x397004)))
def laws_FnSecParts.j1 : Nat → ByteArray → Bool → Int → Int → Int → ByteArray → ByteArray → Option (Bool)
  | 0, _, _, _, _, _, _, _ => none
  | k + 1, x3, x55, x397000, x397001, x397002, x397003, x397004 => if x55 = true then (some false) else (if x397004.toList = ([] : List UInt8) then (some true) else ((impl_SecOk.f x397004).bind fun t405 => (if t405 = true then (some ((wrap64 ((x397003.size : Int) + (x397004.size : Int))) == (wrap64 ((x3.size : Int) - 1)))) else (some false))))
end
def laws_FnSecParts.f (k : Nat) (l0 : List Int) : Option (Bool) := if (l0.length : Int) > 1048576 then (some true) else ((spec_DrawSecMade.f k l0).bind fun t390 => ((impl_SecMade.f t390).bind fun bt391 => ((spec_SecMade.f k t390).bind fun bt397 => (if (!(bt391.1 == bt397.1) || (!(bt391.2.1 == bt397.2.1) || (!(bt391.2.2.1 == bt397.2.2.1) || (!(bt391.2.2.2.1.toList == bt397.2.2.2.1.toList) || (!(bt391.2.2.2.2.toList == bt397.2.2.2.2.toList)))))) = true then (some false) else ((spec_SecOk.f k t390).bind fun t402 => (if t402 = true then (laws_FnSecParts.j0 k t390 (bt391.1 == 1) bt391.1 bt391.2.1 bt391.2.2.1 bt391.2.2.2.1 bt391.2.2.2.2) else (laws_FnSecParts.j0 k t390 true bt391.1 bt391.2.1 bt391.2.2.1 bt391.2.2.2.1 bt391.2.2.2.2)))))))
theorem laws_FnSecParts.mono_l : ∀ k, (∀ y0 y1 y2 y3 y4 y5 y6, LeO (laws_FnSecParts.j0 k y0 y1 y2 y3 y4 y5 y6) (laws_FnSecParts.j0 (k + 1) y0 y1 y2 y3 y4 y5 y6)) ∧ (∀ y0 y1 y2 y3 y4 y5 y6, LeO (laws_FnSecParts.j1 k y0 y1 y2 y3 y4 y5 y6) (laws_FnSecParts.j1 (k + 1) y0 y1 y2 y3 y4 y5 y6))
  | 0 => ⟨fun _ _ _ _ _ _ _ r h => by simp [laws_FnSecParts.j0] at h, fun _ _ _ _ _ _ _ r h => by simp [laws_FnSecParts.j1] at h⟩
  | k + 1 => by
    obtain ⟨ih0, ih1⟩ := laws_FnSecParts.mono_l k
    refine ⟨?_, ?_⟩
    · intro y0 y1 y2 y3 y4 y5 y6
      unfold laws_FnSecParts.j0
      repeat' first
      | (with_reducible exact ih0 _ _ _ _ _ _ _)
      | (with_reducible exact ih1 _ _ _ _ _ _ _)
      | (with_reducible exact spec_DrawSecMade.mono _ _)
      | (with_reducible exact spec_SecMade.mono _ _)
      | (with_reducible exact spec_SecOk.mono _ _)
      | (with_reducible exact LeO.refl _)
      | (with_reducible exact LeO.none _)
      | (with_reducible refine LeO.ite ?_ ?_)
      | (with_reducible refine LeO.bind ?_ (fun _ => ?_))
      | exact ih0 _ _ _ _ _ _ _
      | exact ih1 _ _ _ _ _ _ _
      | exact spec_DrawSecMade.mono _ _
      | exact spec_SecMade.mono _ _
      | exact spec_SecOk.mono _ _
      | exact LeO.none _
      | refine LeO.ite ?_ ?_
      | refine LeO.bind ?_ (fun _ => ?_)
    · intro y0 y1 y2 y3 y4 y5 y6
      unfold laws_FnSecParts.j1
      repeat' first
      | (with_reducible exact ih0 _ _ _ _ _ _ _)
      | (with_reducible exact ih1 _ _ _ _ _ _ _)
      | (with_reducible exact spec_DrawSecMade.mono _ _)
      | (with_reducible exact spec_SecMade.mono _ _)
      | (with_reducible exact spec_SecOk.mono _ _)
      | (with_reducible exact LeO.refl _)
      | (with_reducible exact LeO.none _)
      | (with_reducible refine LeO.ite ?_ ?_)
      | (with_reducible refine LeO.bind ?_ (fun _ => ?_))
      | exact ih0 _ _ _ _ _ _ _
      | exact ih1 _ _ _ _ _ _ _
      | exact spec_DrawSecMade.mono _ _
      | exact spec_SecMade.mono _ _
      | exact spec_SecOk.mono _ _
      | exact LeO.none _
      | refine LeO.ite ?_ ?_
      | refine LeO.bind ?_ (fun _ => ?_)
theorem laws_FnSecParts.mono : ∀ a0 k, LeO (laws_FnSecParts.f k a0) (laws_FnSecParts.f (k + 1) a0) := by
  intro a0 k
  obtain ⟨ih0, ih1⟩ := laws_FnSecParts.mono_l k
  unfold laws_FnSecParts.f
  repeat' first
      | (with_reducible exact ih0 _ _ _ _ _ _ _)
      | (with_reducible exact ih1 _ _ _ _ _ _ _)
      | (with_reducible exact spec_DrawSecMade.mono _ _)
      | (with_reducible exact spec_SecMade.mono _ _)
      | (with_reducible exact spec_SecOk.mono _ _)
      | (with_reducible exact LeO.refl _)
      | (with_reducible exact LeO.none _)
      | (with_reducible refine LeO.ite ?_ ?_)
      | (with_reducible refine LeO.bind ?_ (fun _ => ?_))
      | exact ih0 _ _ _ _ _ _ _
      | exact ih1 _ _ _ _ _ _ _
      | exact spec_DrawSecMade.mono _ _
      | exact spec_SecMade.mono _ _
      | exact spec_SecOk.mono _ _
      | exact LeO.none _
      | refine LeO.ite ?_ ?_
      | refine LeO.bind ?_ (fun _ => ?_)
set_option maxHeartbeats 8000000 in
set_option maxRecDepth 100000 in
theorem laws_FnSecParts.calls (k : Nat) (A0 : Option Addr) (c0 : Nat) (l0 : List Int) (r : Bool) (w : World) (hr0 : Kd.C (Kd.int .u8) w A0 l0.length l0) (hc0 : l0.length ≤ c0) (hG : GlobOk w) (h : laws_FnSecParts.f k l0 = some r) :
    Calls Tryd.prog 5 #[.slice A0 l0.length c0] w fun e w' => e = .returned (.bool r) ∧ Below w.heap.size w w' := by
  have hu37 := Tryd.underlying37
  have HR0 := Aside0.mk hr0
  have HC0 := Aside0.mk hc0
  clear hr0 hc0
  have HB := Aside0.mk (Below.refl w.heap.size w)
  have HGL := Aside0.mk hG
  clear hG
  have H : (if (l0.length : Int) > 1048576 then (some true) else ((spec_DrawSecMade.f k l0).bind fun t390 => ((impl_SecMade.f t390).bind fun bt391 => ((spec_SecMade.f k t390).bind fun bt397 => (if (!(bt391.1 == bt397.1) || (!(bt391.2.1 == bt397.2.1) || (!(bt391.2.2.1 == bt397.2.2.1) || (!(bt391.2.2.2.1.toList == bt397.2.2.2.1.toList) || (!(bt391.2.2.2.2.toList == bt397.2.2.2.2.toList)))))) = true then (some false) else ((spec_SecOk.f k t390).bind fun t402 => (if t402 = true then (laws_FnSecParts.j0 k t390 (bt391.1 == 1) bt391.1 bt391.2.1 bt391.2.2.1 bt391.2.2.2.1 bt391.2.2.2.2) else (laws_FnSecParts.j0 k t390 true bt391.1 bt391.2.1 bt391.2.2.1 bt391.2.2.2.1 bt391.2.2.2.2)))))))) = some r := h
  clear h
  by_cases c2 : (l0.length : Int) > 1048576
  · rw [if_pos c2] at H
    have c2b0 : decide (1048576 < (l0.length : Int)) = true := decide_eq_true c2
    have c2b1 : decide (1048576 < l0.length) = true := decide_eq_true (by omega)
    clear c2
    obtain rfl := Option.some.inj H
    go_enter Tryd.func5, Tryd.ntmps5
    go_wp2
    go_ret
    exact ⟨by first | rfl | (simp [errW_none, errW_some] <;> rfl) | (simp [*, errW_none, errW_some] <;> rfl), by repeat (first | (with_reducible first | exact HB.out | apply below_alloc | apply pw_below_drewN | apply below_drew1) | exact HB.out)⟩
  · rw [if_neg c2] at H
    have c2b0 : decide (1048576 < (l0.length : Int)) = false := decide_eq_false c2
    have c2b1 : decide (1048576 < l0.length) = false := decide_eq_false (by omega)
    clear c2
    replace H := Option.bind_eq_some_iff.mp H
    obtain ⟨t390, A30, H⟩ := H
    replace H : ((impl_SecMade.f t390).bind fun bt391 => ((spec_SecMade.f k t390).bind fun bt397 => (if (!(bt391.1 == bt397.1) || (!(bt391.2.1 == bt397.2.1) || (!(bt391.2.2.1 == bt397.2.2.1) || (!(bt391.2.2.2.1.toList == bt397.2.2.2.1.toList) || (!(bt391.2.2.2.2.toList == bt397.2.2.2.2.toList)))))) = true then (some false) else ((spec_SecOk.f k t390).bind fun t402 => (if t402 = true then (laws_FnSecParts.j0 k t390 (bt391.1 == 1) bt391.1 bt391.2.1 bt391.2.2.1 bt391.2.2.2.1 bt391.2.2.2.2) else (laws_FnSecParts.j0 k t390 true bt391.1 bt391.2.1 bt391.2.2.1 bt391.2.2.2.1 bt391.2.2.2.2)))))) = some r := H
    have A3 := Aside0.mk A30
    clear A30
    replace H := Option.bind_eq_some_iff.mp H
    obtain ⟨⟨t391, t392, t393, t394, t395⟩, A40, H⟩ := H
    replace H : ((spec_SecMade.f k t390).bind fun bt397 => (if (!(t391 == bt397.1) || (!(t392 == bt397.2.1) || (!(t393 == bt397.2.2.1) || (!(t394.toList == bt397.2.2.2.1.toList) || (!(t395.toList == bt397.2.2.2.2.toList)))))) = true then (some false) else ((spec_SecOk.f k t390).bind fun t402 => (if t402 = true then (laws_FnSecParts.j0 k t390 (t391 == 1) t391 t392 t393 t394 t395) else (laws_FnSecParts.j0 k t390 true t391 t392 t393 t394 t395))))) = some r := H
    have A4 := Aside0.mk A40
    clear A40
    replace H := Option.bind_eq_some_iff.mp H
    obtain ⟨⟨t397, t398, t399, t400, t401⟩, A50, H⟩ := H
    replace H : (if (!(t391 == t397) || (!(t392 == t398) || (!(t393 == t399) || (!(t394.toList == t400.toList) || (!(t395.toList == t401.toList)))))) = true then (some false) else ((spec_SecOk.f k t390).bind fun t402 => (if t402 = true then (laws_FnSecParts.j0 k t390 (t391 == 1) t391 t392 t393 t394 t395) else (laws_FnSecParts.j0 k t390 true t391 t392 t393 t394 t395)))) = some r := H
    have A5 := Aside0.mk A50
    clear A50
    by_cases c6 : (!(t391 == t397) || (!(t392 == t398) || (!(t393 == t399) || (!(t394.toList == t400.toList) || (!(t395.toList == t401.toList)))))) = true
    · rw [if_pos c6] at H
      have c6b0 : (!(t391 == t397) || (!(t392 == t398) || (!(t393 == t399) || (!(t394.toList == t400.toList) || (!(t395.toList == t401.toList)))))) = true := c6
      (try (have c6q := c6; simp only [← Bool.not_and, Bool.not_eq_true'] at c6q; have c6r := Bool.eq_false_iff.1 c6q; simp only [Bool.and_eq_true, beq_iff_eq, ne_eq] at c6r; have c6p := eq_false c6r; clear c6q c6r))
      (try (have c6s := c6; simp only [Bool.or_eq_true, Bool.not_eq_true', beq_eq_false_iff_ne, ne_eq] at c6s; have c6t := eq_true c6s; clear c6s))
      clear c6
      obtain rfl := Option.some.inj H
      go_enter Tryd.func5, Tryd.ntmps5
      try go_wp2_with (first | ((with_reducible refine gate_callee (f := 27) rfl ?_); refine goesL_ (some 9) rfl rfl Tryd.func27 (by kernel_rfl) rfl #[.slice A0 l0.length c0] rfl (by (try simp only [List.map_toArray, List.map_cons, List.map_nil]); first | done | rfl | (simp only [List.length_drop, List.length_take]; rfl) | (simp only [w64_u8]; rfl)) ?_; (with_reducible refine (spec_DrawSecMade.calls k _ _ l0 t390 _ ?side1 ?side2 A3.out).mono ?_); (case side1 => repeat (first | exact HR0.out | (with_reducible refine Kd.C_alloc ?_ _) | (with_reducible refine Kd.C_drewN ?_ _) | (with_reducible refine Kd.C_drew ?_))); (case side2 => exact HC0.out); rintro e w7 ⟨rfl, hb⟩; refine ⟨_, rfl, ?_⟩; have n0_ := Aside0.mk (below_step (by repeat (first | (with_reducible first | exact HB.out | apply below_alloc | apply pw_below_drewN | apply below_drew1) | exact HB.out)) hb); clear HB; have HB := n0_; clear n0_; (try clear hb); (try clear hb2); (try clear hk); (try clear hi)) | ((with_reducible refine gate_callee (f := 28) rfl ?_); refine goesL_ (some 11) rfl rfl Tryd.func28 (by kernel_rfl) rfl #[.string t390] rfl (by (try simp only [List.map_toArray, List.map_cons, List.map_nil]); first | done | rfl | (simp only [List.length_drop, List.length_take]; rfl) | (simp only [w64_u8]; rfl)) ?_; (with_reducible refine (impl_SecMade.calls t390 t391 t392 t393 t394 t395 _ ?side1 A4.out).mono ?_); (case side1 => exact GlobOk.below HGL.out (by repeat (first | (with_reducible first | exact HB.out | apply below_alloc | apply pw_below_drewN | apply below_drew1) | exact HB.out))); rintro e w8 ⟨rfl, hb⟩; refine ⟨_, rfl, ?_⟩; have n0_ := Aside0.mk (below_step (by repeat (first | (with_reducible first | exact HB.out | apply below_alloc | apply pw_below_drewN | apply below_drew1) | exact HB.out)) hb); clear HB; have HB := n0_; clear n0_; (try clear hb); (try clear hb2); (try clear hk); (try clear hi)) | ((with_reducible refine gate_dst (N := 4) rfl ?_); (try (refine gate_guard (by rfl) ?_; dsimp only)); refine box_event ?hg (N := 4) ?hd (cs := #[.int .i64 0, .int .i64 0, .int .i64 0, .string (⟨#[]⟩ : ByteArray), .string (⟨#[]⟩ : ByteArray)]) (t := 37) ?hr ?_; (case hd => rfl); (case hg => rfl); (case hr => first | (go_simp; done) | (go_simp; rfl)); intro gb396 hg w9 hbox hb; have n0_ := Aside0.mk (below_step (by repeat (first | (with_reducible first | exact HB.out | apply below_alloc | apply pw_below_drewN | apply below_drew1) | exact HB.out)) hb); have n1_ := Aside0.mk (hbox); have n2_ := Aside0.mk ((by rw [hg]; exact (below_size (by repeat (first | (with_reducible first | exact HB.out | apply below_alloc | apply pw_below_drewN | apply below_drew1) | exact HB.out))) : w.heap.size ≤ gb396)); have n3_ := Aside0.mk ((by rw [hg]; exact (below_size (by repeat (first | (with_reducible first | exact HB.out | apply below_alloc | apply pw_below_drewN | apply below_drew1) | exact HB.out))) : w.heap.size ≤ gb396)); clear HB; have HB := n0_; have BK396 := n1_; have GW396 := n2_; have GE396 := n3_; clear n0_ n1_ n2_ n3_; clear hb hbox hg; have hcz10_0 : w9.cell? ⟨gb396, 0, none⟩ = some (.int .i64 0) := (blk_cell BK396.out 0).trans rfl; have hcz10_1 : w9.cell? ⟨gb396, 1, none⟩ = some (.int .i64 0) := (blk_cell BK396.out 1).trans rfl; have hcz10_2 : w9.cell? ⟨gb396, 2, none⟩ = some (.int .i64 0) := (blk_cell BK396.out 2).trans rfl; have hcz10_3 : w9.cell? ⟨gb396, 3, none⟩ = some (.string (⟨#[]⟩ : ByteArray)) := (blk_cell BK396.out 3).trans rfl; have hcz10_4 : w9.cell? ⟨gb396, 4, none⟩ = some (.string (⟨#[]⟩ : ByteArray)) := (blk_cell BK396.out 4).trans rfl; have hfz10_0 := blk_frozen BK396.out 0; have hfz10_1 := blk_frozen BK396.out 1; have hfz10_2 := blk_frozen BK396.out 2; have hfz10_3 := blk_frozen BK396.out 3; have hfz10_4 := blk_frozen BK396.out 4))
      have n0_ : Aside0 ((((((w9.setCell ⟨gb396, 0, none⟩ (.int .i64 t391)).setCell ⟨gb396, 1, none⟩ (.int .i64 t392)).setCell ⟨gb396, 2, none⟩ (.int .i64 t393)).setCell ⟨gb396, 3, none⟩ (.string t394)).setCell ⟨gb396, 4, none⟩ (.string t395)).heap[gb396]? = some (.cells #[.int .i64 t391, .int .i64 t392, .int .i64 t393, .string t394, .string t395] 37 (0, 0))) := ⟨by (with_reducible repeat (first | refine blk_drewN ?_ _ | refine blk_drew ?_ | refine blk_alloc ?_ _)); refine blk_put (cs := #[.int .i64 t391, .int .i64 t392, .int .i64 t393, .string t394, .string (⟨#[]⟩ : ByteArray)]) ?_ 4 _ (by first | rfl | (simp only [w64_u8]; rfl)); (with_reducible repeat (first | refine blk_drewN ?_ _ | refine blk_drew ?_ | refine blk_alloc ?_ _)); refine blk_put (cs := #[.int .i64 t391, .int .i64 t392, .int .i64 t393, .string (⟨#[]⟩ : ByteArray), .string (⟨#[]⟩ : ByteArray)]) ?_ 3 _ (by first | rfl | (simp only [w64_u8]; rfl)); (with_reducible repeat (first | refine blk_drewN ?_ _ | refine blk_drew ?_ | refine blk_alloc ?_ _)); refine blk_put (cs := #[.int .i64 t391, .int .i64 t392, .int .i64 0, .string (⟨#[]⟩ : ByteArray), .string (⟨#[]⟩ : ByteArray)]) ?_ 2 _ (by first | rfl | (simp only [w64_u8]; rfl)); (with_reducible repeat (first | refine blk_drewN ?_ _ | refine blk_drew ?_ | refine blk_alloc ?_ _)); refine blk_put (cs := #[.int .i64 t391, .int .i64 0, .int .i64 0, .string (⟨#[]⟩ : ByteArray), .string (⟨#[]⟩ : ByteArray)]) ?_ 1 _ (by first | rfl | (simp only [w64_u8]; rfl)); (with_reducible repeat (first | refine blk_drewN ?_ _ | refine blk_drew ?_ | refine blk_alloc ?_ _)); refine blk_put (cs := #[.int .i64 0, .int .i64 0, .int .i64 0, .string (⟨#[]⟩ : ByteArray), .string (⟨#[]⟩ : ByteArray)]) ?_ 0 _ (by first | rfl | (simp only [w64_u8]; rfl)); (with_reducible repeat (first | refine blk_drewN ?_ _ | refine blk_drew ?_ | refine blk_alloc ?_ _)); exact BK396.out⟩
      have n1_ : Aside0 (Below w.heap.size w (((((w9.setCell ⟨gb396, 0, none⟩ (.int .i64 t391)).setCell ⟨gb396, 1, none⟩ (.int .i64 t392)).setCell ⟨gb396, 2, none⟩ (.int .i64 t393)).setCell ⟨gb396, 3, none⟩ (.string t394)).setCell ⟨gb396, 4, none⟩ (.string t395))) := ⟨by repeat (first | (with_reducible first | exact HB.out | apply below_alloc | apply pw_below_drewN | apply below_drew1 | refine below_set ?_ GE396.out) | exact HB.out)⟩
      (try clear BK396)
      (try clear HB)
      generalize (((((w9.setCell ⟨gb396, 0, none⟩ (.int .i64 t391)).setCell ⟨gb396, 1, none⟩ (.int .i64 t392)).setCell ⟨gb396, 2, none⟩ (.int .i64 t393)).setCell ⟨gb396, 3, none⟩ (.string t394)).setCell ⟨gb396, 4, none⟩ (.string t395)) = w11 at n0_ n1_ ⊢
      have BK396 := n0_
      have HB := n1_
      clear n0_ n1_
      have n0_ := Aside0.mk (blk_drew BK396.out)
      have n1_ := Aside0.mk (below_drew1 HB.out)
      clear BK396
      clear HB
      have BK396 := n0_
      have HB := n1_
      clear n0_ n1_
      refine start_ (n := 4) (S := fun w' => w'.cell? ⟨gb396, 0, none⟩ = some (.int .i64 t391) ∧ w'.cell? ⟨gb396, 1, none⟩ = some (.int .i64 t392) ∧ w'.cell? ⟨gb396, 2, none⟩ = some (.int .i64 t393) ∧ w'.cell? ⟨gb396, 3, none⟩ = some (.string t394) ∧ w'.cell? ⟨gb396, 4, none⟩ = some (.string t395)) (ds := []) #[false, false, false, false] (by kernel_rfl) rfl rfl ⟨(blk_cell BK396.out 0).trans rfl, (blk_cell BK396.out 1).trans rfl, (blk_cell BK396.out 2).trans rfl, (blk_cell BK396.out 3).trans rfl, (blk_cell BK396.out 4).trans rfl⟩ (fun hHeld => ?_)
      generalize w11.drew = w12 at BK396 HB hHeld ⊢
      refine pure_ (i := 1) (N := some 13) (v := ?_) (a' := ?_) #[false, true, false, false] rfl rfl (by kernel_rfl) (fun _ _ _ h => h) (Or.inl ⟨by rfl, ?_⟩) ?_ ?_
      rotate_left
      · intro w'
        go_simp
        with_reducible rfl
      rotate_left
      · simp only [Act.put, List.setIfInBounds_toArray, List.set_cons_zero, List.set_cons_succ, i64_w, i32_w]
        rfl
      refine take_ (i := 0) (N := some 12) (v := ?_) (a' := ?_) #[true, true, false, false] rfl rfl (by kernel_rfl) (fun _ _ _ h => h) (Or.inl ⟨by rfl, ?_⟩) hHeld ?_ ?_
      rotate_left
      · rintro w' ⟨s0, s1, s2, s3, s4⟩
        go_simp
        with_reducible rfl
      rotate_left
      · simp only [Act.put, List.setIfInBounds_toArray, List.set_cons_zero, List.set_cons_succ, i64_w, i32_w]
        rfl
      refine one_ (i := 2) (N := some 14) #[true, true, true, false] rfl rfl (by kernel_rfl) (by decide) (fun K hK => ?_)
      refine goes_ Tryd.func29 (by kernel_rfl) rfl #[.string t390] (by rfl) rfl rfl (by (try simp only [List.map_toArray, List.map_cons, List.map_nil]); first | done | rfl | (simp only [List.length_drop, List.length_take]; rfl) | (simp only [w64_u8]; rfl)) ?_
      with_reducible refine (spec_SecMade.calls k t390 t397 t398 t399 t400 t401 _ A5.out).mono ?_
      rintro e w13 ⟨rfl, hb⟩
      refine ⟨_, rfl, ?_⟩
      have n0_ := Aside0.mk (blk_below (g := gb396) (o := .cells #[.int .i64 t391, .int .i64 t392, .int .i64 t393, .string t394, .string t395] 37 (0, 0)) (by (with_reducible repeat (first | refine blk_drewN ?_ _ | refine blk_drew ?_ | refine blk_alloc ?_ _)); exact BK396.out) hb)
      have n1_ := Aside0.mk (below_step (by repeat (first | (with_reducible first | exact HB.out | apply below_alloc | apply pw_below_drewN | apply below_drew1 | refine below_set ?_ GE396.out) | exact HB.out)) hb)
      clear BK396
      clear HB
      have BK396 := n0_
      have HB := n1_
      clear n0_ n1_
      (try clear hb)
      (try clear hb2)
      (try clear hk)
      (try clear hi)
      refine hK.out _ _ ⟨(blk_cell BK396.out 0).trans rfl, (blk_cell BK396.out 1).trans rfl, (blk_cell BK396.out 2).trans rfl, (blk_cell BK396.out 3).trans rfl, (blk_cell BK396.out 4).trans rfl⟩ (fun hHeld => ?_)
      clear hK K
      refine norm_ (a' := ?_) ?_ ?_
      rotate_left
      · show Act.put _ (some 14) _ = _
        simp only [Act.put, List.setIfInBounds_toArray, List.set_cons_zero, List.set_cons_succ, i64_w, i32_w]
        rfl
      refine pure_ (i := 3) (N := some 15) (v := ?_) (a' := ?_) #[true, true, true, true] rfl rfl (by kernel_rfl) (fun _ _ _ h => h) (Or.inl ⟨by rfl, ?_⟩) ?_ ?_
      rotate_left
      · intro w'
        go_simp
        with_reducible rfl
      rotate_left
      · simp only [Act.put, List.setIfInBounds_toArray, List.set_cons_zero, List.set_cons_succ, i64_w, i32_w]
        rfl
      refine done_ (by kernel_rfl) ?_
      try go_wp2
      go_ret
      exact ⟨by first | rfl | (simp [errW_none, errW_some] <;> rfl) | (simp [*, errW_none, errW_some] <;> rfl), by repeat (first | (with_reducible first | exact HB.out | apply below_alloc | apply pw_below_drewN | apply below_drew1 | refine below_set ?_ GE396.out) | exact HB.out)⟩
    · rw [if_neg c6] at H
      have c6b0 : (!(t391 == t397) || (!(t392 == t398) || (!(t393 == t399) || (!(t394.toList == t400.toList) || (!(t395.toList == t401.toList)))))) = false := by simpa using c6
      (try (have c6q := c6; simp only [← Bool.not_and, Bool.not_eq_true', Bool.not_eq_false] at c6q; simp only [Bool.and_eq_true, beq_iff_eq] at c6q; have c6p := eq_true c6q; clear c6q))
      (try (have c6s := c6; simp only [Bool.or_eq_true, Bool.not_eq_true', beq_eq_false_iff_ne, ne_eq] at c6s; have c6t := eq_false c6s; clear c6s))
      clear c6
      have HC14 := Aside0.mk H
      clear H
      go_enter Tryd.func5, Tryd.ntmps5
      try go_wp2_with (first | ((with_reducible refine gate_callee (f := 27) rfl ?_); refine goesL_ (some 9) rfl rfl Tryd.func27 (by kernel_rfl) rfl #[.slice A0 l0.length c0] rfl (by (try simp only [List.map_toArray, List.map_cons, List.map_nil]); first | done | rfl | (simp only [List.length_drop, List.length_take]; rfl) | (simp only [w64_u8]; rfl)) ?_; (with_reducible refine (spec_DrawSecMade.calls k _ _ l0 t390 _ ?side1 ?side2 A3.out).mono ?_); (case side1 => repeat (first | exact HR0.out | (with_reducible refine Kd.C_alloc ?_ _) | (with_reducible refine Kd.C_drewN ?_ _) | (with_reducible refine Kd.C_drew ?_))); (case side2 => exact HC0.out); rintro e w15 ⟨rfl, hb⟩; refine ⟨_, rfl, ?_⟩; have n0_ := Aside0.mk (below_step (by repeat (first | (with_reducible first | exact HB.out | apply below_alloc | apply pw_below_drewN | apply below_drew1) | exact HB.out)) hb); clear HB; have HB := n0_; clear n0_; (try clear hb); (try clear hb2); (try clear hk); (try clear hi)) | ((with_reducible refine gate_callee (f := 28) rfl ?_); refine goesL_ (some 11) rfl rfl Tryd.func28 (by kernel_rfl) rfl #[.string t390] rfl (by (try simp only [List.map_toArray, List.map_cons, List.map_nil]); first | done | rfl | (simp only [List.length_drop, List.length_take]; rfl) | (simp only [w64_u8]; rfl)) ?_; (with_reducible refine (impl_SecMade.calls t390 t391 t392 t393 t394 t395 _ ?side1 A4.out).mono ?_); (case side1 => exact GlobOk.below HGL.out (by repeat (first | (with_reducible first | exact HB.out | apply below_alloc | apply pw_below_drewN | apply below_drew1) | exact HB.out))); rintro e w16 ⟨rfl, hb⟩; refine ⟨_, rfl, ?_⟩; have n0_ := Aside0.mk (below_step (by repeat (first | (with_reducible first | exact HB.out | apply below_alloc | apply pw_below_drewN | apply below_drew1) | exact HB.out)) hb); clear HB; have HB := n0_; clear n0_; (try clear hb); (try clear hb2); (try clear hk); (try clear hi)) | ((with_reducible refine gate_dst (N := 4) rfl ?_); (try (refine gate_guard (by rfl) ?_; dsimp only)); refine box_event ?hg (N := 4) ?hd (cs := #[.int .i64 0, .int .i64 0, .int .i64 0, .string (⟨#[]⟩ : ByteArray), .string (⟨#[]⟩ : ByteArray)]) (t := 37) ?hr ?_; (case hd => rfl); (case hg => rfl); (case hr => first | (go_simp; done) | (go_simp; rfl)); intro gb396 hg w17 hbox hb; have n0_ := Aside0.mk (below_step (by repeat (first | (with_reducible first | exact HB.out | apply below_alloc | apply pw_below_drewN | apply below_drew1) | exact HB.out)) hb); have n1_ := Aside0.mk (hbox); have n2_ := Aside0.mk ((by rw [hg]; exact (below_size (by repeat (first | (with_reducible first | exact HB.out | apply below_alloc | apply pw_below_drewN | apply below_drew1) | exact HB.out))) : w.heap.size ≤ gb396)); have n3_ := Aside0.mk ((by rw [hg]; exact (below_size (by repeat (first | (with_reducible first | exact HB.out | apply below_alloc | apply pw_below_drewN | apply below_drew1) | exact HB.out))) : w.heap.size ≤ gb396)); clear HB; have HB := n0_; have BK396 := n1_; have GW396 := n2_; have GE396 := n3_; clear n0_ n1_ n2_ n3_; clear hb hbox hg; have hcz18_0 : w17.cell? ⟨gb396, 0, none⟩ = some (.int .i64 0) := (blk_cell BK396.out 0).trans rfl; have hcz18_1 : w17.cell? ⟨gb396, 1, none⟩ = some (.int .i64 0) := (blk_cell BK396.out 1).trans rfl; have hcz18_2 : w17.cell? ⟨gb396, 2, none⟩ = some (.int .i64 0) := (blk_cell BK396.out 2).trans rfl; have hcz18_3 : w17.cell? ⟨gb396, 3, none⟩ = some (.string (⟨#[]⟩ : ByteArray)) := (blk_cell BK396.out 3).trans rfl; have hcz18_4 : w17.cell? ⟨gb396, 4, none⟩ = some (.string (⟨#[]⟩ : ByteArray)) := (blk_cell BK396.out 4).trans rfl; have hfz18_0 := blk_frozen BK396.out 0; have hfz18_1 := blk_frozen BK396.out 1; have hfz18_2 := blk_frozen BK396.out 2; have hfz18_3 := blk_frozen BK396.out 3; have hfz18_4 := blk_frozen BK396.out 4))
      have n0_ : Aside0 ((((((w17.setCell ⟨gb396, 0, none⟩ (.int .i64 t391)).setCell ⟨gb396, 1, none⟩ (.int .i64 t392)).setCell ⟨gb396, 2, none⟩ (.int .i64 t393)).setCell ⟨gb396, 3, none⟩ (.string t394)).setCell ⟨gb396, 4, none⟩ (.string t395)).heap[gb396]? = some (.cells #[.int .i64 t391, .int .i64 t392, .int .i64 t393, .string t394, .string t395] 37 (0, 0))) := ⟨by (with_reducible repeat (first | refine blk_drewN ?_ _ | refine blk_drew ?_ | refine blk_alloc ?_ _)); refine blk_put (cs := #[.int .i64 t391, .int .i64 t392, .int .i64 t393, .string t394, .string (⟨#[]⟩ : ByteArray)]) ?_ 4 _ (by first | rfl | (simp only [w64_u8]; rfl)); (with_reducible repeat (first | refine blk_drewN ?_ _ | refine blk_drew ?_ | refine blk_alloc ?_ _)); refine blk_put (cs := #[.int .i64 t391, .int .i64 t392, .int .i64 t393, .string (⟨#[]⟩ : ByteArray), .string (⟨#[]⟩ : ByteArray)]) ?_ 3 _ (by first | rfl | (simp only [w64_u8]; rfl)); (with_reducible repeat (first | refine blk_drewN ?_ _ | refine blk_drew ?_ | refine blk_alloc ?_ _)); refine blk_put (cs := #[.int .i64 t391, .int .i64 t392, .int .i64 0, .string (⟨#[]⟩ : ByteArray), .string (⟨#[]⟩ : ByteArray)]) ?_ 2 _ (by first | rfl | (simp only [w64_u8]; rfl)); (with_reducible repeat (first | refine blk_drewN ?_ _ | refine blk_drew ?_ | refine blk_alloc ?_ _)); refine blk_put (cs := #[.int .i64 t391, .int .i64 0, .int .i64 0, .string (⟨#[]⟩ : ByteArray), .string (⟨#[]⟩ : ByteArray)]) ?_ 1 _ (by first | rfl | (simp only [w64_u8]; rfl)); (with_reducible repeat (first | refine blk_drewN ?_ _ | refine blk_drew ?_ | refine blk_alloc ?_ _)); refine blk_put (cs := #[.int .i64 0, .int .i64 0, .int .i64 0, .string (⟨#[]⟩ : ByteArray), .string (⟨#[]⟩ : ByteArray)]) ?_ 0 _ (by first | rfl | (simp only [w64_u8]; rfl)); (with_reducible repeat (first | refine blk_drewN ?_ _ | refine blk_drew ?_ | refine blk_alloc ?_ _)); exact BK396.out⟩
      have n1_ : Aside0 (Below w.heap.size w (((((w17.setCell ⟨gb396, 0, none⟩ (.int .i64 t391)).setCell ⟨gb396, 1, none⟩ (.int .i64 t392)).setCell ⟨gb396, 2, none⟩ (.int .i64 t393)).setCell ⟨gb396, 3, none⟩ (.string t394)).setCell ⟨gb396, 4, none⟩ (.string t395))) := ⟨by repeat (first | (with_reducible first | exact HB.out | apply below_alloc | apply pw_below_drewN | apply below_drew1 | refine below_set ?_ GE396.out) | exact HB.out)⟩
      (try clear BK396)
      (try clear HB)
      generalize (((((w17.setCell ⟨gb396, 0, none⟩ (.int .i64 t391)).setCell ⟨gb396, 1, none⟩ (.int .i64 t392)).setCell ⟨gb396, 2, none⟩ (.int .i64 t393)).setCell ⟨gb396, 3, none⟩ (.string t394)).setCell ⟨gb396, 4, none⟩ (.string t395)) = w19 at n0_ n1_ ⊢
      have BK396 := n0_
      have HB := n1_
      clear n0_ n1_
      have n0_ := Aside0.mk (blk_drew BK396.out)
      have n1_ := Aside0.mk (below_drew1 HB.out)
      clear BK396
      clear HB
      have BK396 := n0_
      have HB := n1_
      clear n0_ n1_
      refine start_ (n := 4) (S := fun w' => w'.cell? ⟨gb396, 0, none⟩ = some (.int .i64 t391) ∧ w'.cell? ⟨gb396, 1, none⟩ = some (.int .i64 t392) ∧ w'.cell? ⟨gb396, 2, none⟩ = some (.int .i64 t393) ∧ w'.cell? ⟨gb396, 3, none⟩ = some (.string t394) ∧ w'.cell? ⟨gb396, 4, none⟩ = some (.string t395)) (ds := []) #[false, false, false, false] (by kernel_rfl) rfl rfl ⟨(blk_cell BK396.out 0).trans rfl, (blk_cell BK396.out 1).trans rfl, (blk_cell BK396.out 2).trans rfl, (blk_cell BK396.out 3).trans rfl, (blk_cell BK396.out 4).trans rfl⟩ (fun hHeld => ?_)
      generalize w19.drew = w20 at BK396 HB hHeld ⊢
      refine pure_ (i := 1) (N := some 13) (v := ?_) (a' := ?_) #[false, true, false, false] rfl rfl (by kernel_rfl) (fun _ _ _ h => h) (Or.inl ⟨by rfl, ?_⟩) ?_ ?_
      rotate_left
      · intro w'
        go_simp
        with_reducible rfl
      rotate_left
      · simp only [Act.put, List.setIfInBounds_toArray, List.set_cons_zero, List.set_cons_succ, i64_w, i32_w]
        rfl
      refine take_ (i := 0) (N := some 12) (v := ?_) (a' := ?_) #[true, true, false, false] rfl rfl (by kernel_rfl) (fun _ _ _ h => h) (Or.inl ⟨by rfl, ?_⟩) hHeld ?_ ?_
      rotate_left
      · rintro w' ⟨s0, s1, s2, s3, s4⟩
        go_simp
        with_reducible rfl
      rotate_left
      · simp only [Act.put, List.setIfInBounds_toArray, List.set_cons_zero, List.set_cons_succ, i64_w, i32_w]
        rfl
      refine one_ (i := 2) (N := some 14) #[true, true, true, false] rfl rfl (by kernel_rfl) (by decide) (fun K hK => ?_)
      refine goes_ Tryd.func29 (by kernel_rfl) rfl #[.string t390] (by rfl) rfl rfl (by (try simp only [List.map_toArray, List.map_cons, List.map_nil]); first | done | rfl | (simp only [List.length_drop, List.length_take]; rfl) | (simp only [w64_u8]; rfl)) ?_
      with_reducible refine (spec_SecMade.calls k t390 t397 t398 t399 t400 t401 _ A5.out).mono ?_
      rintro e w21 ⟨rfl, hb⟩
      refine ⟨_, rfl, ?_⟩
      have n0_ := Aside0.mk (blk_below (g := gb396) (o := .cells #[.int .i64 t391, .int .i64 t392, .int .i64 t393, .string t394, .string t395] 37 (0, 0)) (by (with_reducible repeat (first | refine blk_drewN ?_ _ | refine blk_drew ?_ | refine blk_alloc ?_ _)); exact BK396.out) hb)
      have n1_ := Aside0.mk (below_step (by repeat (first | (with_reducible first | exact HB.out | apply below_alloc | apply pw_below_drewN | apply below_drew1 | refine below_set ?_ GE396.out) | exact HB.out)) hb)
      clear BK396
      clear HB
      have BK396 := n0_
      have HB := n1_
      clear n0_ n1_
      (try clear hb)
      (try clear hb2)
      (try clear hk)
      (try clear hi)
      refine hK.out _ _ ⟨(blk_cell BK396.out 0).trans rfl, (blk_cell BK396.out 1).trans rfl, (blk_cell BK396.out 2).trans rfl, (blk_cell BK396.out 3).trans rfl, (blk_cell BK396.out 4).trans rfl⟩ (fun hHeld => ?_)
      clear hK K
      refine norm_ (a' := ?_) ?_ ?_
      rotate_left
      · show Act.put _ (some 14) _ = _
        simp only [Act.put, List.setIfInBounds_toArray, List.set_cons_zero, List.set_cons_succ, i64_w, i32_w]
        rfl
      refine pure_ (i := 3) (N := some 15) (v := ?_) (a' := ?_) #[true, true, true, true] rfl rfl (by kernel_rfl) (fun _ _ _ h => h) (Or.inl ⟨by rfl, ?_⟩) ?_ ?_
      rotate_left
      · intro w'
        go_simp
        with_reducible rfl
      rotate_left
      · simp only [Act.put, List.setIfInBounds_toArray, List.set_cons_zero, List.set_cons_succ, i64_w, i32_w]
        rfl
      refine done_ (by kernel_rfl) ?_
      go_upto_region 7 with (fail)
      go_cut [23] (fun v23 wc => ∃ (kq : Nat) (x23_13 : Bool), v23 = .bool x23_13 ∧ Aside0 (laws_FnSecParts.j0 kq t390 x23_13 t391 t392 t393 t394 t395 = some r) ∧ Aside0 (kq ≤ k) ∧ Aside0 (wc.heap[gb396]? = some (.cells #[.int .i64 t391, .int .i64 t392, .int .i64 t393, .string t394, .string t395] 37 (0, 0))) ∧ Aside0 (Below w.heap.size w wc))
      case first =>
        have H := HC14.out
        clear HC14
        replace H := Option.bind_eq_some_iff.mp H
        obtain ⟨t402, A220, H⟩ := H
        replace H : (if t402 = true then (laws_FnSecParts.j0 k t390 (t391 == 1) t391 t392 t393 t394 t395) else (laws_FnSecParts.j0 k t390 true t391 t392 t393 t394 t395)) = some r := H
        have A22 := Aside0.mk A220
        clear A220
        by_cases c23 : t402 = true
        · subst c23
          have H1 : (laws_FnSecParts.j0 k t390 (t391 == 1) t391 t392 t393 t394 t395) = some r := by rw [if_pos rfl] at H; exact H
          clear H
          have H := H1
          clear H1
          have H' := Aside0.mk H
          clear H
          go_wp2_with (first | ((with_reducible refine gate_callee (f := 30) rfl ?_); refine goesL_ (some 17) rfl rfl Tryd.func30 (by kernel_rfl) rfl #[.string t390] rfl (by (try simp only [List.map_toArray, List.map_cons, List.map_nil]); first | done | rfl | (simp only [List.length_drop, List.length_take]; rfl) | (simp only [w64_u8]; rfl)) ?_; (with_reducible refine (spec_SecOk.calls k t390 true _ A22.out).mono ?_); rintro e w24 ⟨rfl, hb⟩; refine ⟨_, rfl, ?_⟩; have n0_ := Aside0.mk (blk_below (g := gb396) (o := .cells #[.int .i64 t391, .int .i64 t392, .int .i64 t393, .string t394, .string t395] 37 (0, 0)) (by (with_reducible repeat (first | refine blk_drewN ?_ _ | refine blk_drew ?_ | refine blk_alloc ?_ _)); exact BK396.out) hb); have n1_ := Aside0.mk (below_step (by repeat (first | (with_reducible first | exact HB.out | apply below_alloc | apply pw_below_drewN | apply below_drew1 | refine below_set ?_ GE396.out) | exact HB.out)) hb); clear BK396; clear HB; have BK396 := n0_; have HB := n1_; clear n0_ n1_; (try clear hb); (try clear hb2); (try clear hk); (try clear hi); have hcz25_0 : w24.cell? ⟨gb396, 0, none⟩ = some (.int .i64 t391) := (blk_cell BK396.out 0).trans rfl; have hcz25_1 : w24.cell? ⟨gb396, 1, none⟩ = some (.int .i64 t392) := (blk_cell BK396.out 1).trans rfl; have hcz25_2 : w24.cell? ⟨gb396, 2, none⟩ = some (.int .i64 t393) := (blk_cell BK396.out 2).trans rfl; have hcz25_3 : w24.cell? ⟨gb396, 3, none⟩ = some (.string t394) := (blk_cell BK396.out 3).trans rfl; have hcz25_4 : w24.cell? ⟨gb396, 4, none⟩ = some (.string t395) := (blk_cell BK396.out 4).trans rfl; have hfz25_0 := blk_frozen BK396.out 0; have hfz25_1 := blk_frozen BK396.out 1; have hfz25_2 := blk_frozen BK396.out 2; have hfz25_3 := blk_frozen BK396.out 3; have hfz25_4 := blk_frozen BK396.out 4))
          go_meet
          case rel => exact ⟨_, ((t391 == 1)), (by first | rfl | (simp; done) | (simp [*]; done)), H', ⟨by first | omega | exact Nat.le_refl _⟩, ⟨by (with_reducible repeat (first | refine blk_drewN ?_ _ | refine blk_drew ?_ | refine blk_alloc ?_ _)); exact BK396.out⟩, ⟨by repeat (first | (with_reducible first | exact HB.out | apply below_alloc | apply pw_below_drewN | apply below_drew1 | refine below_set ?_ GE396.out) | exact HB.out)⟩⟩
        · replace c23 := Bool.eq_false_iff.mpr c23
          subst c23
          have H1 : (laws_FnSecParts.j0 k t390 true t391 t392 t393 t394 t395) = some r := by rw [if_neg (show ¬ (false = true) by decide)] at H; exact H
          clear H
          have H := H1
          clear H1
          have H' := Aside0.mk H
          clear H
          go_wp2_with (first | ((with_reducible refine gate_callee (f := 30) rfl ?_); refine goesL_ (some 17) rfl rfl Tryd.func30 (by kernel_rfl) rfl #[.string t390] rfl (by (try simp only [List.map_toArray, List.map_cons, List.map_nil]); first | done | rfl | (simp only [List.length_drop, List.length_take]; rfl) | (simp only [w64_u8]; rfl)) ?_; (with_reducible refine (spec_SecOk.calls k t390 false _ A22.out).mono ?_); rintro e w26 ⟨rfl, hb⟩; refine ⟨_, rfl, ?_⟩; have n0_ := Aside0.mk (blk_below (g := gb396) (o := .cells #[.int .i64 t391, .int .i64 t392, .int .i64 t393, .string t394, .string t395] 37 (0, 0)) (by (with_reducible repeat (first | refine blk_drewN ?_ _ | refine blk_drew ?_ | refine blk_alloc ?_ _)); exact BK396.out) hb); have n1_ := Aside0.mk (below_step (by repeat (first | (with_reducible first | exact HB.out | apply below_alloc | apply pw_below_drewN | apply below_drew1 | refine below_set ?_ GE396.out) | exact HB.out)) hb); clear BK396; clear HB; have BK396 := n0_; have HB := n1_; clear n0_ n1_; (try clear hb); (try clear hb2); (try clear hk); (try clear hi)))
          go_meet
          case rel => exact ⟨_, (true), (by first | rfl | (simp; done) | (simp [*]; done)), H', ⟨by first | omega | exact Nat.le_refl _⟩, ⟨by (with_reducible repeat (first | refine blk_drewN ?_ _ | refine blk_drew ?_ | refine blk_alloc ?_ _)); exact BK396.out⟩, ⟨by repeat (first | (with_reducible first | exact HB.out | apply below_alloc | apply pw_below_drewN | apply below_drew1 | refine below_set ?_ GE396.out) | exact HB.out)⟩⟩
      case rest =>
        clear HC14
        try clear c2
        try clear c2b0
        try clear c2b1
        try clear p2
        try clear c3
        try clear c5
        try clear c6
        try clear c6b0
        try clear c23
        try clear hcz10_0
        try clear hcz10_1
        try clear hcz10_2
        try clear hcz10_3
        try clear hcz10_4
        try clear hcz18_0
        try clear hcz18_1
        try clear hcz18_2
        try clear hcz18_3
        try clear hcz18_4
        try clear hcz25_0
        try clear hcz25_1
        try clear hcz25_2
        try clear hcz25_3
        try clear hcz25_4
        try clear hfz10_0
        try clear hfz10_1
        try clear hfz10_2
        try clear hfz10_3
        try clear hfz10_4
        try clear hfz18_0
        try clear hfz18_1
        try clear hfz18_2
        try clear hfz18_3
        try clear hfz18_4
        try clear hfz25_0
        try clear hfz25_1
        try clear hfz25_2
        try clear hfz25_3
        try clear hfz25_4
        obtain ⟨kq, x23_13, rfl, HA, HJ13, BK396, HB⟩ := hcut
        cases kq with
        | zero => exact absurd HA.out (by simp [laws_FnSecParts.j0])
        | succ kj13 =>
          have H := HA.out
          clear HA
          simp only [laws_FnSecParts.j0] at H
          by_cases c27 : x23_13 = true
          · subst c27
            have H1 : (if t394.toList = ([] : List UInt8) then (if t395.toList = ([] : List UInt8) then ((laws_keOk.f).bind fun t403 => (some t403)) else (some false)) else (some false)) = some r := by rw [if_pos rfl] at H; exact H
            clear H
            have H := H1
            clear H1
            by_cases c28 : t394.toList = ([] : List UInt8)
            · rw [if_pos c28] at H
              have c28b0 : (t394.toList == ([] : List UInt8)) = true := beq_iff_eq.mpr c28
              have c28b1 : (t394.toList != ([] : List UInt8)) = false := bne_eq_false_iff_eq.mpr c28
              clear c28
              by_cases c29 : t395.toList = ([] : List UInt8)
              · rw [if_pos c29] at H
                have c29b0 : (t395.toList == ([] : List UInt8)) = true := beq_iff_eq.mpr c29
                have c29b1 : (t395.toList != ([] : List UInt8)) = false := bne_eq_false_iff_eq.mpr c29
                clear c29
                replace H := Option.bind_eq_some_iff.mp H
                obtain ⟨t403, A300, H⟩ := H
                replace H : (some t403) = some r := H
                have A30 := Aside0.mk A300
                clear A300
                obtain rfl := Option.some.inj H
                have hcz31_0 : wc.cell? ⟨gb396, 0, none⟩ = some (.int .i64 t391) := (blk_cell BK396.out 0).trans rfl
                have hcz31_1 : wc.cell? ⟨gb396, 1, none⟩ = some (.int .i64 t392) := (blk_cell BK396.out 1).trans rfl
                have hcz31_2 : wc.cell? ⟨gb396, 2, none⟩ = some (.int .i64 t393) := (blk_cell BK396.out 2).trans rfl
                have hcz31_3 : wc.cell? ⟨gb396, 3, none⟩ = some (.string t394) := (blk_cell BK396.out 3).trans rfl
                have hcz31_4 : wc.cell? ⟨gb396, 4, none⟩ = some (.string t395) := (blk_cell BK396.out 4).trans rfl
                have hfz31_0 := blk_frozen BK396.out 0
                have hfz31_1 := blk_frozen BK396.out 1
                have hfz31_2 := blk_frozen BK396.out 2
                have hfz31_3 := blk_frozen BK396.out 3
                have hfz31_4 := blk_frozen BK396.out 4
                go_wp2_with (first | (go_at_call 18; (with_reducible refine (laws_keOk.calls  t403 _ ?side1 A30.out).mono ?_); (case side1 => exact GlobOk.below HGL.out (by repeat (first | (with_reducible first | exact HB.out | apply below_alloc | apply pw_below_drewN | apply below_drew1 | refine below_set ?_ GE396.out) | exact HB.out))); rintro e w32 ⟨rfl, hb⟩; have n0_ := Aside0.mk (blk_below (g := gb396) (o := .cells #[.int .i64 t391, .int .i64 t392, .int .i64 t393, .string t394, .string t395] 37 (0, 0)) (by (with_reducible repeat (first | refine blk_drewN ?_ _ | refine blk_drew ?_ | refine blk_alloc ?_ _)); exact BK396.out) hb); have n1_ := Aside0.mk (below_step (by repeat (first | (with_reducible first | exact HB.out | apply below_alloc | apply pw_below_drewN | apply below_drew1 | refine below_set ?_ GE396.out) | exact HB.out)) hb); clear BK396; clear HB; have BK396 := n0_; have HB := n1_; clear n0_ n1_; (try clear hb); (try clear hb2); (try clear hk); (try clear hi)))
                go_ret
                exact ⟨by first | rfl | (simp [errW_none, errW_some] <;> rfl) | (simp [*, errW_none, errW_some] <;> rfl), by repeat (first | (with_reducible first | exact HB.out | apply below_alloc | apply pw_below_drewN | apply below_drew1 | refine below_set ?_ GE396.out) | exact HB.out)⟩
              · rw [if_neg c29] at H
                have c29b0 : (t395.toList == ([] : List UInt8)) = false := beq_eq_false_iff_ne.mpr c29
                have c29b1 : (t395.toList != ([] : List UInt8)) = true := bne_iff_ne.mpr c29
                obtain rfl := Option.some.inj H
                have hcz33_0 : wc.cell? ⟨gb396, 0, none⟩ = some (.int .i64 t391) := (blk_cell BK396.out 0).trans rfl
                have hcz33_1 : wc.cell? ⟨gb396, 1, none⟩ = some (.int .i64 t392) := (blk_cell BK396.out 1).trans rfl
                have hcz33_2 : wc.cell? ⟨gb396, 2, none⟩ = some (.int .i64 t393) := (blk_cell BK396.out 2).trans rfl
                have hcz33_3 : wc.cell? ⟨gb396, 3, none⟩ = some (.string t394) := (blk_cell BK396.out 3).trans rfl
                have hcz33_4 : wc.cell? ⟨gb396, 4, none⟩ = some (.string t395) := (blk_cell BK396.out 4).trans rfl
                have hfz33_0 := blk_frozen BK396.out 0
                have hfz33_1 := blk_frozen BK396.out 1
                have hfz33_2 := blk_frozen BK396.out 2
                have hfz33_3 := blk_frozen BK396.out 3
                have hfz33_4 := blk_frozen BK396.out 4
                go_wp2
                go_ret
                exact ⟨by first | rfl | (simp [errW_none, errW_some] <;> rfl) | (simp [*, errW_none, errW_some] <;> rfl), by repeat (first | (with_reducible first | exact HB.out | apply below_alloc | apply pw_below_drewN | apply below_drew1 | refine below_set ?_ GE396.out) | exact HB.out)⟩
            · rw [if_neg c28] at H
              have c28b0 : (t394.toList == ([] : List UInt8)) = false := beq_eq_false_iff_ne.mpr c28
              have c28b1 : (t394.toList != ([] : List UInt8)) = true := bne_iff_ne.mpr c28
              obtain rfl := Option.some.inj H
              have hcz34_0 : wc.cell? ⟨gb396, 0, none⟩ = some (.int .i64 t391) := (blk_cell BK396.out 0).trans rfl
              have hcz34_1 : wc.cell? ⟨gb396, 1, none⟩ = some (.int .i64 t392) := (blk_cell BK396.out 1).trans rfl
              have hcz34_2 : wc.cell? ⟨gb396, 2, none⟩ = some (.int .i64 t393) := (blk_cell BK396.out 2).trans rfl
              have hcz34_3 : wc.cell? ⟨gb396, 3, none⟩ = some (.string t394) := (blk_cell BK396.out 3).trans rfl
              have hcz34_4 : wc.cell? ⟨gb396, 4, none⟩ = some (.string t395) := (blk_cell BK396.out 4).trans rfl
              have hfz34_0 := blk_frozen BK396.out 0
              have hfz34_1 := blk_frozen BK396.out 1
              have hfz34_2 := blk_frozen BK396.out 2
              have hfz34_3 := blk_frozen BK396.out 3
              have hfz34_4 := blk_frozen BK396.out 4
              go_wp2
              go_ret
              exact ⟨by first | rfl | (simp [errW_none, errW_some] <;> rfl) | (simp [*, errW_none, errW_some] <;> rfl), by repeat (first | (with_reducible first | exact HB.out | apply below_alloc | apply pw_below_drewN | apply below_drew1 | refine below_set ?_ GE396.out) | exact HB.out)⟩
          · replace c27 := Bool.eq_false_iff.mpr c27
            subst c27
            have H1 : ((impl_SecOk.f t394).bind fun t404 => (if t404 = true then (if (t394.size : Int) ≥ (t390.size : Int) then (laws_FnSecParts.j1 kj13 t390 true t391 t392 t393 t394 t395) else (laws_FnSecParts.j1 kj13 t390 ((t395.toList != ([] : List UInt8)) != (t391 == 4)) t391 t392 t393 t394 t395)) else (laws_FnSecParts.j1 kj13 t390 true t391 t392 t393 t394 t395))) = some r := by rw [if_neg (show ¬ (false = true) by decide)] at H; exact H
            clear H
            have H := H1
            clear H1
            have HC35 := Aside0.mk H
            clear H
            go_upto_region 9 with (fail)
            go_cut [55] (fun v55 wc => ∃ (kq : Nat) (x55_34 : Bool), v55 = .bool x55_34 ∧ Aside0 (laws_FnSecParts.j1 kq t390 x55_34 t391 t392 t393 t394 t395 = some r) ∧ Aside0 (kq ≤ kj13) ∧ Aside0 (wc.heap[gb396]? = some (.cells #[.int .i64 t391, .int .i64 t392, .int .i64 t393, .string t394, .string t395] 37 (0, 0))) ∧ Aside0 (Below w.heap.size w wc))
            case first =>
              have H := HC35.out
              clear HC35
              replace H := Option.bind_eq_some_iff.mp H
              obtain ⟨t404, A360, H⟩ := H
              replace H : (if t404 = true then (if (t394.size : Int) ≥ (t390.size : Int) then (laws_FnSecParts.j1 kj13 t390 true t391 t392 t393 t394 t395) else (laws_FnSecParts.j1 kj13 t390 ((t395.toList != ([] : List UInt8)) != (t391 == 4)) t391 t392 t393 t394 t395)) else (laws_FnSecParts.j1 kj13 t390 true t391 t392 t393 t394 t395)) = some r := H
              have A36 := Aside0.mk A360
              clear A360
              by_cases c37 : t404 = true
              · subst c37
                have H1 : (if (t394.size : Int) ≥ (t390.size : Int) then (laws_FnSecParts.j1 kj13 t390 true t391 t392 t393 t394 t395) else (laws_FnSecParts.j1 kj13 t390 ((t395.toList != ([] : List UInt8)) != (t391 == 4)) t391 t392 t393 t394 t395)) = some r := by rw [if_pos rfl] at H; exact H
                clear H
                have H := H1
                clear H1
                by_cases c38 : (t394.size : Int) ≥ (t390.size : Int)
                · rw [if_pos c38] at H
                  have c38b0 : decide ((t390.size : Int) ≤ (t394.size : Int)) = true := decide_eq_true c38
                  have c38b1 : decide (t390.size ≤ t394.size) = true := decide_eq_true (Int.ofNat_le.mp c38)
                  clear c38
                  (first | rw [c38b0] | (simp only [i64_w, i32_w]; rw [c38b0]) | skip)
                  have H' := Aside0.mk H
                  clear H
                  have hcz39_0 : wc.cell? ⟨gb396, 0, none⟩ = some (.int .i64 t391) := (blk_cell BK396.out 0).trans rfl
                  have hcz39_1 : wc.cell? ⟨gb396, 1, none⟩ = some (.int .i64 t392) := (blk_cell BK396.out 1).trans rfl
                  have hcz39_2 : wc.cell? ⟨gb396, 2, none⟩ = some (.int .i64 t393) := (blk_cell BK396.out 2).trans rfl
                  have hcz39_3 : wc.cell? ⟨gb396, 3, none⟩ = some (.string t394) := (blk_cell BK396.out 3).trans rfl
                  have hcz39_4 : wc.cell? ⟨gb396, 4, none⟩ = some (.string t395) := (blk_cell BK396.out 4).trans rfl
                  have hfz39_0 := blk_frozen BK396.out 0
                  have hfz39_1 := blk_frozen BK396.out 1
                  have hfz39_2 := blk_frozen BK396.out 2
                  have hfz39_3 := blk_frozen BK396.out 3
                  have hfz39_4 := blk_frozen BK396.out 4
                  go_wp2_with (first | ((with_reducible refine gate_callee (f := 31) rfl ?_); refine goesL_ (some 37) rfl rfl Tryd.func31 (by kernel_rfl) rfl #[.string t394] rfl (by (try simp only [List.map_toArray, List.map_cons, List.map_nil]); first | done | rfl | (simp only [List.length_drop, List.length_take]; rfl) | (simp only [w64_u8]; rfl)) ?_; (with_reducible refine (impl_SecOk.calls t394 true _ ?side1 A36.out).mono ?_); (case side1 => exact GlobOk.below HGL.out (by repeat (first | (with_reducible first | exact HB.out | apply below_alloc | apply pw_below_drewN | apply below_drew1 | refine below_set ?_ GE396.out) | exact HB.out))); rintro e w40 ⟨rfl, hb⟩; refine ⟨_, rfl, ?_⟩; have n0_ := Aside0.mk (blk_below (g := gb396) (o := .cells #[.int .i64 t391, .int .i64 t392, .int .i64 t393, .string t394, .string t395] 37 (0, 0)) (by (with_reducible repeat (first | refine blk_drewN ?_ _ | refine blk_drew ?_ | refine blk_alloc ?_ _)); exact BK396.out) hb); have n1_ := Aside0.mk (below_step (by repeat (first | (with_reducible first | exact HB.out | apply below_alloc | apply pw_below_drewN | apply below_drew1 | refine below_set ?_ GE396.out) | exact HB.out)) hb); clear BK396; clear HB; have BK396 := n0_; have HB := n1_; clear n0_ n1_; (try clear hb); (try clear hb2); (try clear hk); (try clear hi); have hcz41_0 : w40.cell? ⟨gb396, 0, none⟩ = some (.int .i64 t391) := (blk_cell BK396.out 0).trans rfl; have hcz41_1 : w40.cell? ⟨gb396, 1, none⟩ = some (.int .i64 t392) := (blk_cell BK396.out 1).trans rfl; have hcz41_2 : w40.cell? ⟨gb396, 2, none⟩ = some (.int .i64 t393) := (blk_cell BK396.out 2).trans rfl; have hcz41_3 : w40.cell? ⟨gb396, 3, none⟩ = some (.string t394) := (blk_cell BK396.out 3).trans rfl; have hcz41_4 : w40.cell? ⟨gb396, 4, none⟩ = some (.string t395) := (blk_cell BK396.out 4).trans rfl; have hfz41_0 := blk_frozen BK396.out 0; have hfz41_1 := blk_frozen BK396.out 1; have hfz41_2 := blk_frozen BK396.out 2; have hfz41_3 := blk_frozen BK396.out 3; have hfz41_4 := blk_frozen BK396.out 4))
                  go_meet
                  case rel => exact ⟨_, (true), (by first | rfl | (simp; done) | (simp [*]; done)), H', ⟨by have := HJ13.out; first | omega | exact Nat.le_refl _⟩, ⟨by (with_reducible repeat (first | refine blk_drewN ?_ _ | refine blk_drew ?_ | refine blk_alloc ?_ _)); exact BK396.out⟩, ⟨by repeat (first | (with_reducible first | exact HB.out | apply below_alloc | apply pw_below_drewN | apply below_drew1 | refine below_set ?_ GE396.out) | exact HB.out)⟩⟩
                · rw [if_neg c38] at H
                  have c38b0 : decide ((t390.size : Int) ≤ (t394.size : Int)) = false := decide_eq_false c38
                  have c38b1 : decide (t390.size ≤ t394.size) = false := decide_eq_false (fun h => c38 (Int.ofNat_le.mpr h))
                  clear c38
                  (first | rw [c38b0] | (simp only [i64_w, i32_w]; rw [c38b0]) | skip)
                  have H' := Aside0.mk H
                  clear H
                  have hcz42_0 : wc.cell? ⟨gb396, 0, none⟩ = some (.int .i64 t391) := (blk_cell BK396.out 0).trans rfl
                  have hcz42_1 : wc.cell? ⟨gb396, 1, none⟩ = some (.int .i64 t392) := (blk_cell BK396.out 1).trans rfl
                  have hcz42_2 : wc.cell? ⟨gb396, 2, none⟩ = some (.int .i64 t393) := (blk_cell BK396.out 2).trans rfl
                  have hcz42_3 : wc.cell? ⟨gb396, 3, none⟩ = some (.string t394) := (blk_cell BK396.out 3).trans rfl
                  have hcz42_4 : wc.cell? ⟨gb396, 4, none⟩ = some (.string t395) := (blk_cell BK396.out 4).trans rfl
                  have hfz42_0 := blk_frozen BK396.out 0
                  have hfz42_1 := blk_frozen BK396.out 1
                  have hfz42_2 := blk_frozen BK396.out 2
                  have hfz42_3 := blk_frozen BK396.out 3
                  have hfz42_4 := blk_frozen BK396.out 4
                  go_wp2_with (first | ((with_reducible refine gate_callee (f := 31) rfl ?_); refine goesL_ (some 37) rfl rfl Tryd.func31 (by kernel_rfl) rfl #[.string t394] rfl (by (try simp only [List.map_toArray, List.map_cons, List.map_nil]); first | done | rfl | (simp only [List.length_drop, List.length_take]; rfl) | (simp only [w64_u8]; rfl)) ?_; (with_reducible refine (impl_SecOk.calls t394 true _ ?side1 A36.out).mono ?_); (case side1 => exact GlobOk.below HGL.out (by repeat (first | (with_reducible first | exact HB.out | apply below_alloc | apply pw_below_drewN | apply below_drew1 | refine below_set ?_ GE396.out) | exact HB.out))); rintro e w43 ⟨rfl, hb⟩; refine ⟨_, rfl, ?_⟩; have n0_ := Aside0.mk (blk_below (g := gb396) (o := .cells #[.int .i64 t391, .int .i64 t392, .int .i64 t393, .string t394, .string t395] 37 (0, 0)) (by (with_reducible repeat (first | refine blk_drewN ?_ _ | refine blk_drew ?_ | refine blk_alloc ?_ _)); exact BK396.out) hb); have n1_ := Aside0.mk (below_step (by repeat (first | (with_reducible first | exact HB.out | apply below_alloc | apply pw_below_drewN | apply below_drew1 | refine below_set ?_ GE396.out) | exact HB.out)) hb); clear BK396; clear HB; have BK396 := n0_; have HB := n1_; clear n0_ n1_; (try clear hb); (try clear hb2); (try clear hk); (try clear hi); have hcz44_0 : w43.cell? ⟨gb396, 0, none⟩ = some (.int .i64 t391) := (blk_cell BK396.out 0).trans rfl; have hcz44_1 : w43.cell? ⟨gb396, 1, none⟩ = some (.int .i64 t392) := (blk_cell BK396.out 1).trans rfl; have hcz44_2 : w43.cell? ⟨gb396, 2, none⟩ = some (.int .i64 t393) := (blk_cell BK396.out 2).trans rfl; have hcz44_3 : w43.cell? ⟨gb396, 3, none⟩ = some (.string t394) := (blk_cell BK396.out 3).trans rfl; have hcz44_4 : w43.cell? ⟨gb396, 4, none⟩ = some (.string t395) := (blk_cell BK396.out 4).trans rfl; have hfz44_0 := blk_frozen BK396.out 0; have hfz44_1 := blk_frozen BK396.out 1; have hfz44_2 := blk_frozen BK396.out 2; have hfz44_3 := blk_frozen BK396.out 3; have hfz44_4 := blk_frozen BK396.out 4))
                  go_meet
                  case rel => exact ⟨_, (((t395.toList != ([] : List UInt8)) != (t391 == 4))), (by first | rfl | (simp; done) | (simp [*]; done) | (simp [*]; exact (fun (l : List UInt8) (b : Bool) => (by cases l <;> cases b <;> rfl : ((!l.isEmpty) == b) = !((l != []) != b))) _ _)), H', ⟨by have := HJ13.out; first | omega | exact Nat.le_refl _⟩, ⟨by (with_reducible repeat (first | refine blk_drewN ?_ _ | refine blk_drew ?_ | refine blk_alloc ?_ _)); exact BK396.out⟩, ⟨by repeat (first | (with_reducible first | exact HB.out | apply below_alloc | apply pw_below_drewN | apply below_drew1 | refine below_set ?_ GE396.out) | exact HB.out)⟩⟩
              · replace c37 := Bool.eq_false_iff.mpr c37
                subst c37
                have H1 : (laws_FnSecParts.j1 kj13 t390 true t391 t392 t393 t394 t395) = some r := by rw [if_neg (show ¬ (false = true) by decide)] at H; exact H
                clear H
                have H := H1
                clear H1
                have H' := Aside0.mk H
                clear H
                have hcz45_0 : wc.cell? ⟨gb396, 0, none⟩ = some (.int .i64 t391) := (blk_cell BK396.out 0).trans rfl
                have hcz45_1 : wc.cell? ⟨gb396, 1, none⟩ = some (.int .i64 t392) := (blk_cell BK396.out 1).trans rfl
                have hcz45_2 : wc.cell? ⟨gb396, 2, none⟩ = some (.int .i64 t393) := (blk_cell BK396.out 2).trans rfl
                have hcz45_3 : wc.cell? ⟨gb396, 3, none⟩ = some (.string t394) := (blk_cell BK396.out 3).trans rfl
                have hcz45_4 : wc.cell? ⟨gb396, 4, none⟩ = some (.string t395) := (blk_cell BK396.out 4).trans rfl
                have hfz45_0 := blk_frozen BK396.out 0
                have hfz45_1 := blk_frozen BK396.out 1
                have hfz45_2 := blk_frozen BK396.out 2
                have hfz45_3 := blk_frozen BK396.out 3
                have hfz45_4 := blk_frozen BK396.out 4
                go_wp2_with (first | ((with_reducible refine gate_callee (f := 31) rfl ?_); refine goesL_ (some 37) rfl rfl Tryd.func31 (by kernel_rfl) rfl #[.string t394] rfl (by (try simp only [List.map_toArray, List.map_cons, List.map_nil]); first | done | rfl | (simp only [List.length_drop, List.length_take]; rfl) | (simp only [w64_u8]; rfl)) ?_; (with_reducible refine (impl_SecOk.calls t394 false _ ?side1 A36.out).mono ?_); (case side1 => exact GlobOk.below HGL.out (by repeat (first | (with_reducible first | exact HB.out | apply below_alloc | apply pw_below_drewN | apply below_drew1 | refine below_set ?_ GE396.out) | exact HB.out))); rintro e w46 ⟨rfl, hb⟩; refine ⟨_, rfl, ?_⟩; have n0_ := Aside0.mk (blk_below (g := gb396) (o := .cells #[.int .i64 t391, .int .i64 t392, .int .i64 t393, .string t394, .string t395] 37 (0, 0)) (by (with_reducible repeat (first | refine blk_drewN ?_ _ | refine blk_drew ?_ | refine blk_alloc ?_ _)); exact BK396.out) hb); have n1_ := Aside0.mk (below_step (by repeat (first | (with_reducible first | exact HB.out | apply below_alloc | apply pw_below_drewN | apply below_drew1 | refine below_set ?_ GE396.out) | exact HB.out)) hb); clear BK396; clear HB; have BK396 := n0_; have HB := n1_; clear n0_ n1_; (try clear hb); (try clear hb2); (try clear hk); (try clear hi)))
                go_meet
                case rel => exact ⟨_, (true), (by first | rfl | (simp; done) | (simp [*]; done)), H', ⟨by have := HJ13.out; first | omega | exact Nat.le_refl _⟩, ⟨by (with_reducible repeat (first | refine blk_drewN ?_ _ | refine blk_drew ?_ | refine blk_alloc ?_ _)); exact BK396.out⟩, ⟨by repeat (first | (with_reducible first | exact HB.out | apply below_alloc | apply pw_below_drewN | apply below_drew1 | refine below_set ?_ GE396.out) | exact HB.out)⟩⟩
            case rest =>
              clear HC35
              try clear c2
              try clear c2b0
              try clear c2b1
              try clear p2
              try clear c3
              try clear c5
              try clear c6
              try clear c6b0
              try clear c23
              try clear c27
              try clear c28
              try clear c28b0
              try clear c28b1
              try clear c29
              try clear c29b0
              try clear c29b1
              try clear c30
              try clear c31
              try clear c37
              try clear c38
              try clear c38b0
              try clear c38b1
              try clear hcz10_0
              try clear hcz10_1
              try clear hcz10_2
              try clear hcz10_3
              try clear hcz10_4
              try clear hcz18_0
              try clear hcz18_1
              try clear hcz18_2
              try clear hcz18_3
              try clear hcz18_4
              try clear hcz25_0
              try clear hcz25_1
              try clear hcz25_2
              try clear hcz25_3
              try clear hcz25_4
              try clear hcz31_0
              try clear hcz31_1
              try clear hcz31_2
              try clear hcz31_3
              try clear hcz31_4
              try clear hcz33_0
              try clear hcz33_1
              try clear hcz33_2
              try clear hcz33_3
              try clear hcz33_4
              try clear hcz34_0
              try clear hcz34_1
              try clear hcz34_2
              try clear hcz34_3
              try clear hcz34_4
              try clear hcz39_0
              try clear hcz39_1
              try clear hcz39_2
              try clear hcz39_3
              try clear hcz39_4
              try clear hcz41_0
              try clear hcz41_1
              try clear hcz41_2
              try clear hcz41_3
              try clear hcz41_4
              try clear hcz42_0
              try clear hcz42_1
              try clear hcz42_2
              try clear hcz42_3
              try clear hcz42_4
              try clear hcz44_0
              try clear hcz44_1
              try clear hcz44_2
              try clear hcz44_3
              try clear hcz44_4
              try clear hcz45_0
              try clear hcz45_1
              try clear hcz45_2
              try clear hcz45_3
              try clear hcz45_4
              try clear hfz10_0
              try clear hfz10_1
              try clear hfz10_2
              try clear hfz10_3
              try clear hfz10_4
              try clear hfz18_0
              try clear hfz18_1
              try clear hfz18_2
              try clear hfz18_3
              try clear hfz18_4
              try clear hfz25_0
              try clear hfz25_1
              try clear hfz25_2
              try clear hfz25_3
              try clear hfz25_4
              try clear hfz31_0
              try clear hfz31_1
              try clear hfz31_2
              try clear hfz31_3
              try clear hfz31_4
              try clear hfz33_0
              try clear hfz33_1
              try clear hfz33_2
              try clear hfz33_3
              try clear hfz33_4
              try clear hfz34_0
              try clear hfz34_1
              try clear hfz34_2
              try clear hfz34_3
              try clear hfz34_4
              try clear hfz39_0
              try clear hfz39_1
              try clear hfz39_2
              try clear hfz39_3
              try clear hfz39_4
              try clear hfz41_0
              try clear hfz41_1
              try clear hfz41_2
              try clear hfz41_3
              try clear hfz41_4
              try clear hfz42_0
              try clear hfz42_1
              try clear hfz42_2
              try clear hfz42_3
              try clear hfz42_4
              try clear hfz44_0
              try clear hfz44_1
              try clear hfz44_2
              try clear hfz44_3
              try clear hfz44_4
              try clear hfz45_0
              try clear hfz45_1
              try clear hfz45_2
              try clear hfz45_3
              try clear hfz45_4
              try clear p2
              obtain ⟨kq, x55_34, rfl, HA, HJ34, BK396, HB⟩ := hcut
              cases kq with
              | zero => exact absurd HA.out (by simp [laws_FnSecParts.j1])
              | succ kj34 =>
                have H := HA.out
                clear HA
                simp only [laws_FnSecParts.j1] at H
                by_cases c47 : x55_34 = true
                · subst c47
                  have H1 : (some false) = some r := by rw [if_pos rfl] at H; exact H
                  clear H
                  have H := H1
                  clear H1
                  obtain rfl := Option.some.inj H
                  go_wp2
                  go_ret
                  exact ⟨by first | rfl | (simp [errW_none, errW_some] <;> rfl) | (simp [*, errW_none, errW_some] <;> rfl), by repeat (first | (with_reducible first | exact HB.out | apply below_alloc | apply pw_below_drewN | apply below_drew1 | refine below_set ?_ GE396.out) | exact HB.out)⟩
                · replace c47 := Bool.eq_false_iff.mpr c47
                  subst c47
                  have H1 : (if t395.toList = ([] : List UInt8) then (some true) else ((impl_SecOk.f t395).bind fun t405 => (if t405 = true then (some ((wrap64 ((t394.size : Int) + (t395.size : Int))) == (wrap64 ((t390.size : Int) - 1)))) else (some false)))) = some r := by rw [if_neg (show ¬ (false = true) by decide)] at H; exact H
                  clear H
                  have H := H1
                  clear H1
                  by_cases c48 : t395.toList = ([] : List UInt8)
                  · rw [if_pos c48] at H
                    have c48b0 : (t395.toList == ([] : List UInt8)) = true := beq_iff_eq.mpr c48
                    have c48b1 : (t395.toList != ([] : List UInt8)) = false := bne_eq_false_iff_eq.mpr c48
                    clear c48
                    obtain rfl := Option.some.inj H
                    have hcz49_0 : wc.cell? ⟨gb396, 0, none⟩ = some (.int .i64 t391) := (blk_cell BK396.out 0).trans rfl
                    have hcz49_1 : wc.cell? ⟨gb396, 1, none⟩ = some (.int .i64 t392) := (blk_cell BK396.out 1).trans rfl
                    have hcz49_2 : wc.cell? ⟨gb396, 2, none⟩ = some (.int .i64 t393) := (blk_cell BK396.out 2).trans rfl
                    have hcz49_3 : wc.cell? ⟨gb396, 3, none⟩ = some (.string t394) := (blk_cell BK396.out 3).trans rfl
                    have hcz49_4 : wc.cell? ⟨gb396, 4, none⟩ = some (.string t395) := (blk_cell BK396.out 4).trans rfl
                    have hfz49_0 := blk_frozen BK396.out 0
                    have hfz49_1 := blk_frozen BK396.out 1
                    have hfz49_2 := blk_frozen BK396.out 2
                    have hfz49_3 := blk_frozen BK396.out 3
                    have hfz49_4 := blk_frozen BK396.out 4
                    go_wp2
                    go_ret
                    exact ⟨by first | rfl | (simp [errW_none, errW_some] <;> rfl) | (simp [*, errW_none, errW_some] <;> rfl), by repeat (first | (with_reducible first | exact HB.out | apply below_alloc | apply pw_below_drewN | apply below_drew1 | refine below_set ?_ GE396.out) | exact HB.out)⟩
                  · rw [if_neg c48] at H
                    have c48b0 : (t395.toList == ([] : List UInt8)) = false := beq_eq_false_iff_ne.mpr c48
                    have c48b1 : (t395.toList != ([] : List UInt8)) = true := bne_iff_ne.mpr c48
                    replace H := Option.bind_eq_some_iff.mp H
                    obtain ⟨t405, A500, H⟩ := H
                    replace H : (if t405 = true then (some ((wrap64 ((t394.size : Int) + (t395.size : Int))) == (wrap64 ((t390.size : Int) - 1)))) else (some false)) = some r := H
                    have A50 := Aside0.mk A500
                    clear A500
                    by_cases c51 : t405 = true
                    · subst c51
                      have H1 : (some ((wrap64 ((t394.size : Int) + (t395.size : Int))) == (wrap64 ((t390.size : Int) - 1)))) = some r := by rw [if_pos rfl] at H; exact H
                      clear H
                      have H := H1
                      clear H1
                      obtain rfl := Option.some.inj H
                      have hcz52_0 : wc.cell? ⟨gb396, 0, none⟩ = some (.int .i64 t391) := (blk_cell BK396.out 0).trans rfl
                      have hcz52_1 : wc.cell? ⟨gb396, 1, none⟩ = some (.int .i64 t392) := (blk_cell BK396.out 1).trans rfl
                      have hcz52_2 : wc.cell? ⟨gb396, 2, none⟩ = some (.int .i64 t393) := (blk_cell BK396.out 2).trans rfl
                      have hcz52_3 : wc.cell? ⟨gb396, 3, none⟩ = some (.string t394) := (blk_cell BK396.out 3).trans rfl
                      have hcz52_4 : wc.cell? ⟨gb396, 4, none⟩ = some (.string t395) := (blk_cell BK396.out 4).trans rfl
                      have hfz52_0 := blk_frozen BK396.out 0
                      have hfz52_1 := blk_frozen BK396.out 1
                      have hfz52_2 := blk_frozen BK396.out 2
                      have hfz52_3 := blk_frozen BK396.out 3
                      have hfz52_4 := blk_frozen BK396.out 4
                      go_wp2_with (first | (go_at_call 31; (with_reducible refine (impl_SecOk.calls t395 true _ ?side1 A50.out).mono ?_); (case side1 => exact GlobOk.below HGL.out (by repeat (first | (with_reducible first | exact HB.out | apply below_alloc | apply pw_below_drewN | apply below_drew1 | refine below_set ?_ GE396.out) | exact HB.out))); rintro e w53 ⟨rfl, hb⟩; have n0_ := Aside0.mk (blk_below (g := gb396) (o := .cells #[.int .i64 t391, .int .i64 t392, .int .i64 t393, .string t394, .string t395] 37 (0, 0)) (by (with_reducible repeat (first | refine blk_drewN ?_ _ | refine blk_drew ?_ | refine blk_alloc ?_ _)); exact BK396.out) hb); have n1_ := Aside0.mk (below_step (by repeat (first | (with_reducible first | exact HB.out | apply below_alloc | apply pw_below_drewN | apply below_drew1 | refine below_set ?_ GE396.out) | exact HB.out)) hb); clear BK396; clear HB; have BK396 := n0_; have HB := n1_; clear n0_ n1_; (try clear hb); (try clear hb2); (try clear hk); (try clear hi); have hcz54_0 : w53.cell? ⟨gb396, 0, none⟩ = some (.int .i64 t391) := (blk_cell BK396.out 0).trans rfl; have hcz54_1 : w53.cell? ⟨gb396, 1, none⟩ = some (.int .i64 t392) := (blk_cell BK396.out 1).trans rfl; have hcz54_2 : w53.cell? ⟨gb396, 2, none⟩ = some (.int .i64 t393) := (blk_cell BK396.out 2).trans rfl; have hcz54_3 : w53.cell? ⟨gb396, 3, none⟩ = some (.string t394) := (blk_cell BK396.out 3).trans rfl; have hcz54_4 : w53.cell? ⟨gb396, 4, none⟩ = some (.string t395) := (blk_cell BK396.out 4).trans rfl; have hfz54_0 := blk_frozen BK396.out 0; have hfz54_1 := blk_frozen BK396.out 1; have hfz54_2 := blk_frozen BK396.out 2; have hfz54_3 := blk_frozen BK396.out 3; have hfz54_4 := blk_frozen BK396.out 4))
                      go_ret
                      exact ⟨by first | rfl | (simp [errW_none, errW_some] <;> rfl) | (simp [*, errW_none, errW_some] <;> rfl), by repeat (first | (with_reducible first | exact HB.out | apply below_alloc | apply pw_below_drewN | apply below_drew1 | refine below_set ?_ GE396.out) | exact HB.out)⟩
                    · replace c51 := Bool.eq_false_iff.mpr c51
                      subst c51
                      have H1 : (some false) = some r := by rw [if_neg (show ¬ (false = true) by decide)] at H; exact H
                      clear H
                      have H := H1
                      clear H1
                      obtain rfl := Option.some.inj H
                      have hcz55_0 : wc.cell? ⟨gb396, 0, none⟩ = some (.int .i64 t391) := (blk_cell BK396.out 0).trans rfl
                      have hcz55_1 : wc.cell? ⟨gb396, 1, none⟩ = some (.int .i64 t392) := (blk_cell BK396.out 1).trans rfl
                      have hcz55_2 : wc.cell? ⟨gb396, 2, none⟩ = some (.int .i64 t393) := (blk_cell BK396.out 2).trans rfl
                      have hcz55_3 : wc.cell? ⟨gb396, 3, none⟩ = some (.string t394) := (blk_cell BK396.out 3).trans rfl
                      have hcz55_4 : wc.cell? ⟨gb396, 4, none⟩ = some (.string t395) := (blk_cell BK396.out 4).trans rfl
                      have hfz55_0 := blk_frozen BK396.out 0
                      have hfz55_1 := blk_frozen BK396.out 1
                      have hfz55_2 := blk_frozen BK396.out 2
                      have hfz55_3 := blk_frozen BK396.out 3
                      have hfz55_4 := blk_frozen BK396.out 4
                      go_wp2_with (first | (go_at_call 31; (with_reducible refine (impl_SecOk.calls t395 false _ ?side1 A50.out).mono ?_); (case side1 => exact GlobOk.below HGL.out (by repeat (first | (with_reducible first | exact HB.out | apply below_alloc | apply pw_below_drewN | apply below_drew1 | refine below_set ?_ GE396.out) | exact HB.out))); rintro e w56 ⟨rfl, hb⟩; have n0_ := Aside0.mk (blk_below (g := gb396) (o := .cells #[.int .i64 t391, .int .i64 t392, .int .i64 t393, .string t394, .string t395] 37 (0, 0)) (by (with_reducible repeat (first | refine blk_drewN ?_ _ | refine blk_drew ?_ | refine blk_alloc ?_ _)); exact BK396.out) hb); have n1_ := Aside0.mk (below_step (by repeat (first | (with_reducible first | exact HB.out | apply below_alloc | apply pw_below_drewN | apply below_drew1 | refine below_set ?_ GE396.out) | exact HB.out)) hb); clear BK396; clear HB; have BK396 := n0_; have HB := n1_; clear n0_ n1_; (try clear hb); (try clear hb2); (try clear hk); (try clear hi)))
                      go_ret
                      exact ⟨by first | rfl | (simp [errW_none, errW_some] <;> rfl) | (simp [*, errW_none, errW_some] <;> rfl), by repeat (first | (with_reducible first | exact HB.out | apply below_alloc | apply pw_below_drewN | apply below_drew1 | refine below_set ?_ GE396.out) | exact HB.out)⟩

/-- THE ONE PURE STATEMENT of laws_FnSecParts: yours. -/
def laws_FnSecParts.Pure : Prop := ∀ (l0 : List Int), l0.length ≤ maxLen → l0.length * 1 ≤ 140737488351232 → (∀ x ∈ l0, (Lit.int .u8 x).wf = true) → ∃ k, laws_FnSecParts.f k l0 = some true
theorem laws_FnSecParts.walk (P : laws_FnSecParts.Pure) (a0 : Option Addr) (len0 cap0 : Nat) (z0 : List Int) (w : World) (w0 : (a0 = none ∧ len0 = 0 ∧ cap0 = 0 ∧ z0 = []) ∨ ∃ x, a0 = some x ∧ len0 ≤ cap0 ∧ cap0 ≤ maxLen ∧ z0.length = cap0 ∧ (∀ i, i < z0.length → w.cell? (x.add i) = some (.int .u8 (z0.getD i 0))) ∧ ∀ n ∈ z0, (Lit.int .u8 n).wf = true) (y0 : len0 * 1 ≤ 140737488351232) (hG : GlobOk w) :
    Calls Tryd.prog 5 #[.slice a0 len0 cap0] w fun e w' => e = .returned (.bool true) ∧ Below w.heap.size w w' := by
  obtain ⟨l0, rfl, hr0, hm0, hw0, hc0⟩ := ReadsInt.ofRowC w0
  obtain ⟨k, h⟩ := P l0 hm0 y0 hw0
  refine (laws_FnSecParts.calls k _ _ l0 true w (Kd.C_of_reads (d := (0 : Int)) (h1 := fun _ => rfl) hr0) hc0 hG h).mono ?_
  rintro e w' ⟨rfl, hd⟩
  exact ⟨rfl, hd⟩

end Go.Proofs.YtdcaipomjimplaaDoor.Wa
