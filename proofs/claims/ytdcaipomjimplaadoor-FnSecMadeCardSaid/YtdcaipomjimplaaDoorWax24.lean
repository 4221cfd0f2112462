-- Written by this session's own program (wip/tools/pp.py) out of the translation, over functions given by hand. Lean checks it.
import Derived.Test.YtdcaipomjimplaaDoorWax0
import Derived.Test.YtdcaipomjimplaaDoorWax1
import Derived.Test.YtdcaipomjimplaaDoorWax2
import Derived.Test.YtdcaipomjimplaaDoorWax6
import Derived.Test.YtdcaipomjimplaaDoorWax13
import Derived.Test.YtdcaipomjimplaaDoorWax15
import Derived.Test.YtdcaipomjimplaaDoorWax19
import Derived.Test.YtdcaipomjimplaaDoorWax21
import Derived.Test.YtdcaipomjimplaaDoorWax23
namespace Go.Proofs.YtdcaipomjimplaaDoor.Wa
open Go.RowKit Go.Proofs.YtdcaipomjimplaaDoorW.PrintWords Go.Proofs.YtdcaipomjimplaaDoorW.PrintLast Go.Proofs.YtdcaipomjimplaaDoorW.PrintMore
attribute [local go_sem] max2_int min2_int max_two min_two max_three min_three max_four min_four   -- for this text's walks alone
set_option linter.unusedVariables false
set_option linter.unusedSimpArgs false

attribute [local go_sem high] eqA37
/-! ### laws_FnSecMade: function 11 -/
def laws_FnSecMade.j0 : Nat → ByteArray → Bool → Int → Int → Int → ByteArray → ByteArray → Option (Bool)
  | 0, _, _, _, _, _, _, _ => none
  | k + 1, x3, x22, x375000, x375001, x375002, x375003, x375004 => if x22 = true then (some false) else ((spec_SecOk.f k x3).bind fun t382 => (if t382 = true then (if x375000 = 1 then ((impl_MakNew.f k x375001 x375002).bind fun t384 => (some (t384.toList == x3.toList))) else (if x375000 = 2 then ((impl_MakNext.f k x375003).bind fun t385 => (some (t385.toList == x3.toList))) else (if x375000 = 3 then ((impl_MakKey.f k x375003).bind fun t386 => (some (t386.toList == x3.toList))) else (if x375000 = 4 then ((impl_MakEpoch.f k x375003 x375004).bind fun t387 => (some (t387.toList == x3.toList))) else (if x375000 = 5 then ((impl_MakSay.f k x375003 x375001).bind fun t388 => (some (t388.toList == x3.toList))) else (if x375000 = 6 then ((impl_MakRoom.f k x375003 x375002).bind fun t389 => (some (t389.toList == x3.toList))) else (some false))))))) else (if (x375000 == 0 && (x375001 == 0 && (x375002 == 0 && (x375003.toList == ([] : List UInt8) && (x375004.toList == ([] : List UInt8)))))) = true then ((laws_keOk.f).bind fun t383 => (some t383)) else (some false))))
def laws_FnSecMade.f (k : Nat) (l0 : List Int) : Option (Bool) := if (l0.length : Int) > 1048576 then (some true) else ((spec_DrawSecMade.f k l0).bind fun t368 => ((impl_SecMade.f t368).bind fun bt369 => ((spec_SecMade.f k t368).bind fun bt375 => (if (!(bt369.1 == bt375.1) || (!(bt369.2.1 == bt375.2.1) || (!(bt369.2.2.1 == bt375.2.2.1) || (!(bt369.2.2.2.1.toList == bt375.2.2.2.1.toList) || (!(bt369.2.2.2.2.toList == bt375.2.2.2.2.toList)))))) = true then (laws_FnSecMade.j0 k t368 true bt369.1 bt369.2.1 bt369.2.2.1 bt369.2.2.2.1 bt369.2.2.2.2) else ((impl_SecOk.f t368).bind fun t380 => ((spec_SecOk.f k t368).bind fun t381 => (laws_FnSecMade.j0 k t368 (t380 != t381) bt369.1 bt369.2.1 bt369.2.2.1 bt369.2.2.2.1 bt369.2.2.2.2)))))))
theorem laws_FnSecMade.mono_l : ∀ k, (∀ y0 y1 y2 y3 y4 y5 y6, LeO (laws_FnSecMade.j0 k y0 y1 y2 y3 y4 y5 y6) (laws_FnSecMade.j0 (k + 1) y0 y1 y2 y3 y4 y5 y6))
  | 0 => fun _ _ _ _ _ _ _ r h => by simp [laws_FnSecMade.j0] at h
  | k + 1 => by
    have ih0 := laws_FnSecMade.mono_l k
    · intro y0 y1 y2 y3 y4 y5 y6
      unfold laws_FnSecMade.j0
      repeat' first
      | (with_reducible exact ih0 _ _ _ _ _ _ _)
      | (with_reducible exact impl_MakEpoch.mono _ _ _)
      | (with_reducible exact impl_MakKey.mono _ _)
      | (with_reducible exact impl_MakNew.mono _ _ _)
      | (with_reducible exact impl_MakNext.mono _ _)
      | (with_reducible exact impl_MakRoom.mono _ _ _)
      | (with_reducible exact impl_MakSay.mono _ _ _)
      | (with_reducible exact spec_DrawSecMade.mono _ _)
      | (with_reducible exact spec_SecMade.mono _ _)
      | (with_reducible exact spec_SecOk.mono _ _)
      | (with_reducible exact LeO.refl _)
      | (with_reducible exact LeO.none _)
      | (with_reducible refine LeO.ite ?_ ?_)
      | (with_reducible refine LeO.bind ?_ (fun _ => ?_))
      | exact ih0 _ _ _ _ _ _ _
      | exact impl_MakEpoch.mono _ _ _
      | exact impl_MakKey.mono _ _
      | exact impl_MakNew.mono _ _ _
      | exact impl_MakNext.mono _ _
      | exact impl_MakRoom.mono _ _ _
      | exact impl_MakSay.mono _ _ _
      | exact spec_DrawSecMade.mono _ _
      | exact spec_SecMade.mono _ _
      | exact spec_SecOk.mono _ _
      | exact LeO.none _
      | refine LeO.ite ?_ ?_
      | refine LeO.bind ?_ (fun _ => ?_)
theorem laws_FnSecMade.mono : ∀ a0 k, LeO (laws_FnSecMade.f k a0) (laws_FnSecMade.f (k + 1) a0) := by
  intro a0 k
  have ih0 := laws_FnSecMade.mono_l k
  unfold laws_FnSecMade.f
  repeat' first
      | (with_reducible exact ih0 _ _ _ _ _ _ _)
      | (with_reducible exact impl_MakEpoch.mono _ _ _)
      | (with_reducible exact impl_MakKey.mono _ _)
      | (with_reducible exact impl_MakNew.mono _ _ _)
      | (with_reducible exact impl_MakNext.mono _ _)
      | (with_reducible exact impl_MakRoom.mono _ _ _)
      | (with_reducible exact impl_MakSay.mono _ _ _)
      | (with_reducible exact spec_DrawSecMade.mono _ _)
      | (with_reducible exact spec_SecMade.mono _ _)
      | (with_reducible exact spec_SecOk.mono _ _)
      | (with_reducible exact LeO.refl _)
      | (with_reducible exact LeO.none _)
      | (with_reducible refine LeO.ite ?_ ?_)
      | (with_reducible refine LeO.bind ?_ (fun _ => ?_))
      | exact ih0 _ _ _ _ _ _ _
      | exact impl_MakEpoch.mono _ _ _
      | exact impl_MakKey.mono _ _
      | exact impl_MakNew.mono _ _ _
      | exact impl_MakNext.mono _ _
      | exact impl_MakRoom.mono _ _ _
      | exact impl_MakSay.mono _ _ _
      | exact spec_DrawSecMade.mono _ _
      | exact spec_SecMade.mono _ _
      | exact spec_SecOk.mono _ _
      | exact LeO.none _
      | refine LeO.ite ?_ ?_
      | refine LeO.bind ?_ (fun _ => ?_)
def laws_FnSecMade.T5 : Bool × List (List Nat × List Nat) := (true, [([], []), ([], []), ([1], [1]), ([0, 2], [0, 2]), ([3, 2], [3]), ([4], [4]), ([5, 4, 4], [4, 5]), ([4], [4]), ([7, 6, 4], [4, 7]), ([6, 8, 4], [4, 6, 8]), ([4, 9], [4, 9])])
def laws_FnSecMade.B5 : List Nat := [0, 0, 2, 7, 15, 31, 63, 31, 255, 511, 1023]
theorem laws_FnSecMade.tab5 : rtab .any (opsOf Tryd.f11 5) = laws_FnSecMade.T5 := by kernel_rfl
theorem laws_FnSecMade.bits5 : waitsOk laws_FnSecMade.T5.2 laws_FnSecMade.B5 = true := by kernel_rfl
set_option maxHeartbeats 8000000 in
set_option maxRecDepth 100000 in
theorem laws_FnSecMade.calls (k : Nat) (A0 : Option Addr) (c0 : Nat) (l0 : List Int) (r : Bool) (w : World) (hr0 : Kd.C (Kd.int .u8) w A0 l0.length l0) (hc0 : l0.length ≤ c0) (hG : GlobOk w) (h : laws_FnSecMade.f k l0 = some r) :
    Calls Tryd.prog 11 #[.slice A0 l0.length c0] w fun e w' => e = .returned (.bool r) ∧ Below w.heap.size w w' := by
  have hu37 := Tryd.underlying37
  have HR0 := Aside0.mk hr0
  have HC0 := Aside0.mk hc0
  clear hr0 hc0
  have HB := Aside0.mk (Below.refl w.heap.size w)
  have HGL := Aside0.mk hG
  clear hG
  have H : (if (l0.length : Int) > 1048576 then (some true) else ((spec_DrawSecMade.f k l0).bind fun t368 => ((impl_SecMade.f t368).bind fun bt369 => ((spec_SecMade.f k t368).bind fun bt375 => (if (!(bt369.1 == bt375.1) || (!(bt369.2.1 == bt375.2.1) || (!(bt369.2.2.1 == bt375.2.2.1) || (!(bt369.2.2.2.1.toList == bt375.2.2.2.1.toList) || (!(bt369.2.2.2.2.toList == bt375.2.2.2.2.toList)))))) = true then (laws_FnSecMade.j0 k t368 true bt369.1 bt369.2.1 bt369.2.2.1 bt369.2.2.2.1 bt369.2.2.2.2) else ((impl_SecOk.f t368).bind fun t380 => ((spec_SecOk.f k t368).bind fun t381 => (laws_FnSecMade.j0 k t368 (t380 != t381) bt369.1 bt369.2.1 bt369.2.2.1 bt369.2.2.2.1 bt369.2.2.2.2)))))))) = some r := h
  clear h
  by_cases c2 : (l0.length : Int) > 1048576
  · rw [if_pos c2] at H
    have c2b0 : decide (1048576 < (l0.length : Int)) = true := decide_eq_true c2
    have c2b1 : decide (1048576 < l0.length) = true := decide_eq_true (by omega)
    clear c2
    obtain rfl := Option.some.inj H
    go_enter Tryd.func11, Tryd.ntmps11
    go_wp2
    go_ret
    exact ⟨by first | rfl | (simp [errW_none, errW_some] <;> rfl) | (simp [*, errW_none, errW_some] <;> rfl), by repeat (first | (with_reducible first | exact HB.out | apply below_alloc | apply pw_below_drewN | apply below_drew1) | exact HB.out)⟩
  · rw [if_neg c2] at H
    have c2b0 : decide (1048576 < (l0.length : Int)) = false := decide_eq_false c2
    have c2b1 : decide (1048576 < l0.length) = false := decide_eq_false (by omega)
    clear c2
    replace H := Option.bind_eq_some_iff.mp H
    obtain ⟨t368, A30, H⟩ := H
    replace H : ((impl_SecMade.f t368).bind fun bt369 => ((spec_SecMade.f k t368).bind fun bt375 => (if (!(bt369.1 == bt375.1) || (!(bt369.2.1 == bt375.2.1) || (!(bt369.2.2.1 == bt375.2.2.1) || (!(bt369.2.2.2.1.toList == bt375.2.2.2.1.toList) || (!(bt369.2.2.2.2.toList == bt375.2.2.2.2.toList)))))) = true then (laws_FnSecMade.j0 k t368 true bt369.1 bt369.2.1 bt369.2.2.1 bt369.2.2.2.1 bt369.2.2.2.2) else ((impl_SecOk.f t368).bind fun t380 => ((spec_SecOk.f k t368).bind fun t381 => (laws_FnSecMade.j0 k t368 (t380 != t381) bt369.1 bt369.2.1 bt369.2.2.1 bt369.2.2.2.1 bt369.2.2.2.2)))))) = some r := H
    have A3 := Aside0.mk A30
    clear A30
    replace H := Option.bind_eq_some_iff.mp H
    obtain ⟨⟨t369, t370, t371, t372, t373⟩, A40, H⟩ := H
    replace H : ((spec_SecMade.f k t368).bind fun bt375 => (if (!(t369 == bt375.1) || (!(t370 == bt375.2.1) || (!(t371 == bt375.2.2.1) || (!(t372.toList == bt375.2.2.2.1.toList) || (!(t373.toList == bt375.2.2.2.2.toList)))))) = true then (laws_FnSecMade.j0 k t368 true t369 t370 t371 t372 t373) else ((impl_SecOk.f t368).bind fun t380 => ((spec_SecOk.f k t368).bind fun t381 => (laws_FnSecMade.j0 k t368 (t380 != t381) t369 t370 t371 t372 t373))))) = some r := H
    have A4 := Aside0.mk A40
    clear A40
    have HC5 := Aside0.mk H
    clear H
    go_enter Tryd.func11, Tryd.ntmps11
    go_upto_region 5 with (first | ((with_reducible refine gate_callee (f := 27) rfl ?_); refine goesL_ (some 9) rfl rfl Tryd.func27 (by kernel_rfl) rfl #[.slice A0 l0.length c0] rfl (by (try simp only [List.map_toArray, List.map_cons, List.map_nil]); first | done | rfl | (simp only [List.length_drop, List.length_take]; rfl) | (simp only [w64_u8]; rfl)) ?_; (with_reducible refine (spec_DrawSecMade.calls k _ _ l0 t368 _ ?side1 ?side2 A3.out).mono ?_); (case side1 => repeat (first | exact HR0.out | (with_reducible refine Kd.C_alloc ?_ _) | (with_reducible refine Kd.C_drewN ?_ _) | (with_reducible refine Kd.C_drew ?_))); (case side2 => exact HC0.out); rintro e w6 ⟨rfl, hb⟩; refine ⟨_, rfl, ?_⟩; have n0_ := Aside0.mk (below_step (by repeat (first | (with_reducible first | exact HB.out | apply below_alloc | apply pw_below_drewN | apply below_drew1) | exact HB.out)) hb); clear HB; have HB := n0_; clear n0_; (try clear hb); (try clear hb2); (try clear hk); (try clear hi)) | ((with_reducible refine gate_callee (f := 28) rfl ?_); refine goesL_ (some 11) rfl rfl Tryd.func28 (by kernel_rfl) rfl #[.string t368] rfl (by (try simp only [List.map_toArray, List.map_cons, List.map_nil]); first | done | rfl | (simp only [List.length_drop, List.length_take]; rfl) | (simp only [w64_u8]; rfl)) ?_; (with_reducible refine (impl_SecMade.calls t368 t369 t370 t371 t372 t373 _ ?side1 A4.out).mono ?_); (case side1 => exact GlobOk.below HGL.out (by repeat (first | (with_reducible first | exact HB.out | apply below_alloc | apply pw_below_drewN | apply below_drew1) | exact HB.out))); rintro e w7 ⟨rfl, hb⟩; refine ⟨_, rfl, ?_⟩; have n0_ := Aside0.mk (below_step (by repeat (first | (with_reducible first | exact HB.out | apply below_alloc | apply pw_below_drewN | apply below_drew1) | exact HB.out)) hb); clear HB; have HB := n0_; clear n0_; (try clear hb); (try clear hb2); (try clear hk); (try clear hi)) | ((with_reducible refine gate_dst (N := 4) rfl ?_); refine box_event ?hg (N := 4) ?hd (cs := #[.int .i64 0, .int .i64 0, .int .i64 0, .string (⟨#[]⟩ : ByteArray), .string (⟨#[]⟩ : ByteArray)]) (t := 37) ?hr ?_; (case hd => rfl); (case hg => rfl); (case hr => first | (go_simp; done) | (go_simp; rfl)); intro gb374 hg w8 hbox hb; have n0_ := Aside0.mk (below_step (by repeat (first | (with_reducible first | exact HB.out | apply below_alloc | apply pw_below_drewN | apply below_drew1) | exact HB.out)) hb); have n1_ := Aside0.mk (hbox); have n2_ := Aside0.mk ((by rw [hg]; exact (below_size (by repeat (first | (with_reducible first | exact HB.out | apply below_alloc | apply pw_below_drewN | apply below_drew1) | exact HB.out))) : w.heap.size ≤ gb374)); have n3_ := Aside0.mk ((by rw [hg]; exact (below_size (by repeat (first | (with_reducible first | exact HB.out | apply below_alloc | apply pw_below_drewN | apply below_drew1) | exact HB.out))) : w.heap.size ≤ gb374)); clear HB; have HB := n0_; have BK374 := n1_; have GW374 := n2_; have GE374 := n3_; clear n0_ n1_ n2_ n3_; clear hb hbox hg; have hcz9_0 : w8.cell? ⟨gb374, 0, none⟩ = some (.int .i64 0) := (blk_cell BK374.out 0).trans rfl; have hcz9_1 : w8.cell? ⟨gb374, 1, none⟩ = some (.int .i64 0) := (blk_cell BK374.out 1).trans rfl; have hcz9_2 : w8.cell? ⟨gb374, 2, none⟩ = some (.int .i64 0) := (blk_cell BK374.out 2).trans rfl; have hcz9_3 : w8.cell? ⟨gb374, 3, none⟩ = some (.string (⟨#[]⟩ : ByteArray)) := (blk_cell BK374.out 3).trans rfl; have hcz9_4 : w8.cell? ⟨gb374, 4, none⟩ = some (.string (⟨#[]⟩ : ByteArray)) := (blk_cell BK374.out 4).trans rfl; have hfz9_0 := blk_frozen BK374.out 0; have hfz9_1 := blk_frozen BK374.out 1; have hfz9_2 := blk_frozen BK374.out 2; have hfz9_3 := blk_frozen BK374.out 3; have hfz9_4 := blk_frozen BK374.out 4))
    (try simp only [Act.put, List.setIfInBounds_toArray, List.set_cons_zero, List.set_cons_succ])
    go_cut [22] (fun v22 wc => ∃ (kq : Nat) (x22_4 : Bool), v22 = .bool x22_4 ∧ Aside0 (laws_FnSecMade.j0 kq t368 x22_4 t369 t370 t371 t372 t373 = some r) ∧ Aside0 (kq ≤ k) ∧ Aside0 (wc.heap[gb374]? = some (.cells #[.int .i64 t369, .int .i64 t370, .int .i64 t371, .string t372, .string t373] 37 (0, 0))) ∧ Aside0 (Below w.heap.size w wc))
    case first =>
      have H := HC5.out
      clear HC5
      replace H := Option.bind_eq_some_iff.mp H
      obtain ⟨⟨t375, t376, t377, t378, t379⟩, A100, H⟩ := H
      replace H : (if (!(t369 == t375) || (!(t370 == t376) || (!(t371 == t377) || (!(t372.toList == t378.toList) || (!(t373.toList == t379.toList)))))) = true then (laws_FnSecMade.j0 k t368 true t369 t370 t371 t372 t373) else ((impl_SecOk.f t368).bind fun t380 => ((spec_SecOk.f k t368).bind fun t381 => (laws_FnSecMade.j0 k t368 (t380 != t381) t369 t370 t371 t372 t373)))) = some r := H
      have A10 := Aside0.mk A100
      clear A100
      by_cases c11 : (!(t369 == t375) || (!(t370 == t376) || (!(t371 == t377) || (!(t372.toList == t378.toList) || (!(t373.toList == t379.toList)))))) = true
      · rw [if_pos c11] at H
        have c11b0 : (!(t369 == t375) || (!(t370 == t376) || (!(t371 == t377) || (!(t372.toList == t378.toList) || (!(t373.toList == t379.toList)))))) = true := c11
        (try (have c11q := c11; simp only [← Bool.not_and, Bool.not_eq_true'] at c11q; have c11r := Bool.eq_false_iff.1 c11q; simp only [Bool.and_eq_true, beq_iff_eq, ne_eq] at c11r; have c11p := eq_false c11r; clear c11q c11r))
        (try (have c11s := c11; simp only [Bool.or_eq_true, Bool.not_eq_true', beq_eq_false_iff_ne, ne_eq] at c11s; have c11t := eq_true c11s; clear c11s))
        clear c11
        (first | rw [c11b0] | (simp only [i64_w, i32_w]; rw [c11b0]) | skip)
        have H' := Aside0.mk H
        clear H
        try go_wp2
        have n0_ : Aside0 ((((((w8.setCell ⟨gb374, 0, none⟩ (.int .i64 t369)).setCell ⟨gb374, 1, none⟩ (.int .i64 t370)).setCell ⟨gb374, 2, none⟩ (.int .i64 t371)).setCell ⟨gb374, 3, none⟩ (.string t372)).setCell ⟨gb374, 4, none⟩ (.string t373)).heap[gb374]? = some (.cells #[.int .i64 t369, .int .i64 t370, .int .i64 t371, .string t372, .string t373] 37 (0, 0))) := ⟨by (with_reducible repeat (first | refine blk_drewN ?_ _ | refine blk_drew ?_ | refine blk_alloc ?_ _)); refine blk_put (cs := #[.int .i64 t369, .int .i64 t370, .int .i64 t371, .string t372, .string (⟨#[]⟩ : ByteArray)]) ?_ 4 _ (by first | rfl | (simp only [w64_u8]; rfl)); (with_reducible repeat (first | refine blk_drewN ?_ _ | refine blk_drew ?_ | refine blk_alloc ?_ _)); refine blk_put (cs := #[.int .i64 t369, .int .i64 t370, .int .i64 t371, .string (⟨#[]⟩ : ByteArray), .string (⟨#[]⟩ : ByteArray)]) ?_ 3 _ (by first | rfl | (simp only [w64_u8]; rfl)); (with_reducible repeat (first | refine blk_drewN ?_ _ | refine blk_drew ?_ | refine blk_alloc ?_ _)); refine blk_put (cs := #[.int .i64 t369, .int .i64 t370, .int .i64 0, .string (⟨#[]⟩ : ByteArray), .string (⟨#[]⟩ : ByteArray)]) ?_ 2 _ (by first | rfl | (simp only [w64_u8]; rfl)); (with_reducible repeat (first | refine blk_drewN ?_ _ | refine blk_drew ?_ | refine blk_alloc ?_ _)); refine blk_put (cs := #[.int .i64 t369, .int .i64 0, .int .i64 0, .string (⟨#[]⟩ : ByteArray), .string (⟨#[]⟩ : ByteArray)]) ?_ 1 _ (by first | rfl | (simp only [w64_u8]; rfl)); (with_reducible repeat (first | refine blk_drewN ?_ _ | refine blk_drew ?_ | refine blk_alloc ?_ _)); refine blk_put (cs := #[.int .i64 0, .int .i64 0, .int .i64 0, .string (⟨#[]⟩ : ByteArray), .string (⟨#[]⟩ : ByteArray)]) ?_ 0 _ (by first | rfl | (simp only [w64_u8]; rfl)); (with_reducible repeat (first | refine blk_drewN ?_ _ | refine blk_drew ?_ | refine blk_alloc ?_ _)); exact BK374.out⟩
        have n1_ : Aside0 (Below w.heap.size w (((((w8.setCell ⟨gb374, 0, none⟩ (.int .i64 t369)).setCell ⟨gb374, 1, none⟩ (.int .i64 t370)).setCell ⟨gb374, 2, none⟩ (.int .i64 t371)).setCell ⟨gb374, 3, none⟩ (.string t372)).setCell ⟨gb374, 4, none⟩ (.string t373))) := ⟨by repeat (first | (with_reducible first | exact HB.out | apply below_alloc | apply pw_below_drewN | apply below_drew1 | refine below_set ?_ GE374.out) | exact HB.out)⟩
        (try clear BK374)
        (try clear HB)
        generalize (((((w8.setCell ⟨gb374, 0, none⟩ (.int .i64 t369)).setCell ⟨gb374, 1, none⟩ (.int .i64 t370)).setCell ⟨gb374, 2, none⟩ (.int .i64 t371)).setCell ⟨gb374, 3, none⟩ (.string t372)).setCell ⟨gb374, 4, none⟩ (.string t373)) = w12 at n0_ n1_ ⊢
        have BK374 := n0_
        have HB := n1_
        clear n0_ n1_
        have n0_ := Aside0.mk (blk_drew BK374.out)
        have n1_ := Aside0.mk (below_drew1 HB.out)
        clear BK374
        clear HB
        have BK374 := n0_
        have HB := n1_
        clear n0_ n1_
        refine start_ (n := 11) (S := fun w' => w'.cell? ⟨gb374, 0, none⟩ = some (.int .i64 t369) ∧ w'.cell? ⟨gb374, 1, none⟩ = some (.int .i64 t370) ∧ w'.cell? ⟨gb374, 2, none⟩ = some (.int .i64 t371) ∧ w'.cell? ⟨gb374, 3, none⟩ = some (.string t372) ∧ w'.cell? ⟨gb374, 4, none⟩ = some (.string t373)) (ds := []) #[false, false, false, false, false, false, false, false, false, false, false] (by kernel_rfl) rfl rfl ⟨(blk_cell BK374.out 0).trans rfl, (blk_cell BK374.out 1).trans rfl, (blk_cell BK374.out 2).trans rfl, (blk_cell BK374.out 3).trans rfl, (blk_cell BK374.out 4).trans rfl⟩ (fun hHeld => ?_); refine with_tabW laws_FnSecMade.tab5 laws_FnSecMade.bits5 (fun HT_ HW_ => ?_)
        generalize w12.drew = w13 at BK374 HB hHeld ⊢
        refine pure_ (i := 1) (N := some 13) (v := ?_) (a' := ?_) #[false, true, false, false, false, false, false, false, false, false, false] rfl rfl (any_of HT_.out (by kernel_rfl)) (fun _ _ _ h => h) (Or.inl ⟨by rfl, ?_⟩) ?_ ?_
        rotate_left
        · intro w'
          go_simp
          with_reducible rfl
        rotate_left
        · simp only [Act.put, List.setIfInBounds_toArray, List.set_cons_zero, List.set_cons_succ, i64_w, i32_w]
          rfl
        refine take_ (i := 0) (N := some 12) (v := ?_) (a' := ?_) #[true, true, false, false, false, false, false, false, false, false, false] rfl rfl (take_ofW HT_.out HW_.out (by kernel_rfl)) (fun _ _ _ h => h) (Or.inl ⟨by rfl, ?_⟩) hHeld ?_ ?_
        rotate_left
        · rintro w' ⟨s0, s1, s2, s3, s4⟩
          go_simp
          with_reducible rfl
        rotate_left
        · simp only [Act.put, List.setIfInBounds_toArray, List.set_cons_zero, List.set_cons_succ, i64_w, i32_w]
          rfl
        refine one_ (i := 2) (N := some 14) #[true, true, true, false, false, false, false, false, false, false, false] rfl rfl (one_of HT_.out (by kernel_rfl)) (by decide) (fun K hK => ?_)
        refine goes_ Tryd.func29 (by kernel_rfl) rfl #[.string t368] (by rfl) rfl rfl (by (try simp only [List.map_toArray, List.map_cons, List.map_nil]); first | done | rfl | (simp only [List.length_drop, List.length_take]; rfl) | (simp only [w64_u8]; rfl)) ?_
        with_reducible refine (spec_SecMade.calls k t368 t375 t376 t377 t378 t379 _ A10.out).mono ?_
        rintro e w14 ⟨rfl, hb⟩
        refine ⟨_, rfl, ?_⟩
        have n0_ := Aside0.mk (blk_below (g := gb374) (o := .cells #[.int .i64 t369, .int .i64 t370, .int .i64 t371, .string t372, .string t373] 37 (0, 0)) (by (with_reducible repeat (first | refine blk_drewN ?_ _ | refine blk_drew ?_ | refine blk_alloc ?_ _)); exact BK374.out) hb)
        have n1_ := Aside0.mk (below_step (by repeat (first | (with_reducible first | exact HB.out | apply below_alloc | apply pw_below_drewN | apply below_drew1 | refine below_set ?_ GE374.out) | exact HB.out)) hb)
        clear BK374
        clear HB
        have BK374 := n0_
        have HB := n1_
        clear n0_ n1_
        (try clear hb)
        (try clear hb2)
        (try clear hk)
        (try clear hi)
        refine hK.out _ _ ⟨(blk_cell BK374.out 0).trans rfl, (blk_cell BK374.out 1).trans rfl, (blk_cell BK374.out 2).trans rfl, (blk_cell BK374.out 3).trans rfl, (blk_cell BK374.out 4).trans rfl⟩ (fun hHeld => ?_)
        clear hK K
        refine norm_ (a' := ?_) ?_ ?_
        rotate_left
        · show Act.put _ (some 14) _ = _
          simp only [Act.put, List.setIfInBounds_toArray, List.set_cons_zero, List.set_cons_succ, i64_w, i32_w]
          rfl
        refine pure_ (i := 3) (N := some 15) (v := ?_) (a' := ?_) #[true, true, true, true, false, false, false, false, false, false, false] rfl rfl (any_of HT_.out (by kernel_rfl)) (fun _ _ _ h => h) (Or.inl ⟨by rfl, ?_⟩) ?_ ?_
        rotate_left
        · intro w'
          go_simp
          with_reducible rfl
        rotate_left
        · simp only [Act.put, List.setIfInBounds_toArray, List.set_cons_zero, List.set_cons_succ, i64_w, i32_w]
          rfl
        refine pure_ (i := 4) (N := some 16) (v := ?_) (a' := ?_) #[true, true, true, true, true, false, false, false, false, false, false] rfl rfl (any_of HT_.out (by kernel_rfl)) (fun _ _ _ h => h) (Or.inl ⟨by rfl, ?_⟩) ?_ ?_
        rotate_left
        · intro w'
          go_simp
          with_reducible rfl
        rotate_left
        · simp only [Act.put, List.setIfInBounds_toArray, List.set_cons_zero, List.set_cons_succ, i64_w, i32_w]
          rfl
        refine pure_ (i := 5) (N := some 17) (v := undef) (a' := ?_) #[true, true, true, true, true, true, false, false, false, false, false] rfl rfl (any_of HT_.out (by kernel_rfl)) (fun _ _ _ h => h) (Or.inr ⟨by rfl, rfl⟩) ?_ ?_
        rotate_left
        · simp only [Act.put, List.setIfInBounds_toArray, List.set_cons_zero, List.set_cons_succ, i64_w, i32_w]
          rfl
        refine pure_ (i := 6) (N := some 18) (v := undef) (a' := ?_) #[true, true, true, true, true, true, true, false, false, false, false] rfl rfl (any_of HT_.out (by kernel_rfl)) (fun _ _ _ h => h) (Or.inr ⟨by rfl, rfl⟩) ?_ ?_
        rotate_left
        · simp only [Act.put, List.setIfInBounds_toArray, List.set_cons_zero, List.set_cons_succ, i64_w, i32_w]
          rfl
        refine pure_ (i := 7) (N := some 19) (v := undef) (a' := ?_) #[true, true, true, true, true, true, true, true, false, false, false] rfl rfl (any_of HT_.out (by kernel_rfl)) (fun _ _ _ h => h) (Or.inr ⟨by rfl, rfl⟩) ?_ ?_
        rotate_left
        · simp only [Act.put, List.setIfInBounds_toArray, List.set_cons_zero, List.set_cons_succ, i64_w, i32_w]
          rfl
        refine pure_ (i := 8) (N := some 20) (v := undef) (a' := ?_) #[true, true, true, true, true, true, true, true, true, false, false] rfl rfl (any_of HT_.out (by kernel_rfl)) (fun _ _ _ h => h) (Or.inr ⟨by rfl, rfl⟩) ?_ ?_
        rotate_left
        · simp only [Act.put, List.setIfInBounds_toArray, List.set_cons_zero, List.set_cons_succ, i64_w, i32_w]
          rfl
        refine pure_ (i := 9) (N := some 21) (v := undef) (a' := ?_) #[true, true, true, true, true, true, true, true, true, true, false] rfl rfl (any_of HT_.out (by kernel_rfl)) (fun _ _ _ h => h) (Or.inr ⟨by rfl, rfl⟩) ?_ ?_
        rotate_left
        · simp only [Act.put, List.setIfInBounds_toArray, List.set_cons_zero, List.set_cons_succ, i64_w, i32_w]
          rfl
        refine pure_ (i := 10) (N := some 22) (v := ?_) (a' := ?_) #[true, true, true, true, true, true, true, true, true, true, true] rfl rfl (any_of HT_.out (by kernel_rfl)) (fun _ _ _ h => h) (Or.inl ⟨by rfl, ?_⟩) ?_ ?_
        rotate_left
        · intro w'
          go_simp
          with_reducible rfl
        rotate_left
        · simp only [Act.put, List.setIfInBounds_toArray, List.set_cons_zero, List.set_cons_succ, i64_w, i32_w]
          rfl
        refine done_ (done_of HT_.out (by kernel_rfl)) ?_
        try go_wp2
        go_meet
        case rel => exact ⟨_, (true), (by first | rfl | (simp; done) | (simp [*]; done)), H', ⟨by first | omega | exact Nat.le_refl _⟩, ⟨by (with_reducible repeat (first | refine blk_drewN ?_ _ | refine blk_drew ?_ | refine blk_alloc ?_ _)); exact BK374.out⟩, ⟨by repeat (first | (with_reducible first | exact HB.out | apply below_alloc | apply pw_below_drewN | apply below_drew1 | refine below_set ?_ GE374.out) | exact HB.out)⟩⟩
      · rw [if_neg c11] at H
        have c11b0 : (!(t369 == t375) || (!(t370 == t376) || (!(t371 == t377) || (!(t372.toList == t378.toList) || (!(t373.toList == t379.toList)))))) = false := by simpa using c11
        (try (have c11q := c11; simp only [← Bool.not_and, Bool.not_eq_true', Bool.not_eq_false] at c11q; simp only [Bool.and_eq_true, beq_iff_eq] at c11q; have c11p := eq_true c11q; clear c11q))
        (try (have c11s := c11; simp only [Bool.or_eq_true, Bool.not_eq_true', beq_eq_false_iff_ne, ne_eq] at c11s; have c11t := eq_false c11s; clear c11s))
        clear c11
        (first | rw [c11b0] | (simp only [i64_w, i32_w]; rw [c11b0]) | skip)
        replace H := Option.bind_eq_some_iff.mp H
        obtain ⟨t380, A150, H⟩ := H
        replace H : ((spec_SecOk.f k t368).bind fun t381 => (laws_FnSecMade.j0 k t368 (t380 != t381) t369 t370 t371 t372 t373)) = some r := H
        have A15 := Aside0.mk A150
        clear A150
        replace H := Option.bind_eq_some_iff.mp H
        obtain ⟨t381, A160, H⟩ := H
        replace H : (laws_FnSecMade.j0 k t368 (t380 != t381) t369 t370 t371 t372 t373) = some r := H
        have A16 := Aside0.mk A160
        clear A160
        have H' := Aside0.mk H
        clear H
        try go_wp2
        have n0_ : Aside0 ((((((w8.setCell ⟨gb374, 0, none⟩ (.int .i64 t369)).setCell ⟨gb374, 1, none⟩ (.int .i64 t370)).setCell ⟨gb374, 2, none⟩ (.int .i64 t371)).setCell ⟨gb374, 3, none⟩ (.string t372)).setCell ⟨gb374, 4, none⟩ (.string t373)).heap[gb374]? = some (.cells #[.int .i64 t369, .int .i64 t370, .int .i64 t371, .string t372, .string t373] 37 (0, 0))) := ⟨by (with_reducible repeat (first | refine blk_drewN ?_ _ | refine blk_drew ?_ | refine blk_alloc ?_ _)); refine blk_put (cs := #[.int .i64 t369, .int .i64 t370, .int .i64 t371, .string t372, .string (⟨#[]⟩ : ByteArray)]) ?_ 4 _ (by first | rfl | (simp only [w64_u8]; rfl)); (with_reducible repeat (first | refine blk_drewN ?_ _ | refine blk_drew ?_ | refine blk_alloc ?_ _)); refine blk_put (cs := #[.int .i64 t369, .int .i64 t370, .int .i64 t371, .string (⟨#[]⟩ : ByteArray), .string (⟨#[]⟩ : ByteArray)]) ?_ 3 _ (by first | rfl | (simp only [w64_u8]; rfl)); (with_reducible repeat (first | refine blk_drewN ?_ _ | refine blk_drew ?_ | refine blk_alloc ?_ _)); refine blk_put (cs := #[.int .i64 t369, .int .i64 t370, .int .i64 0, .string (⟨#[]⟩ : ByteArray), .string (⟨#[]⟩ : ByteArray)]) ?_ 2 _ (by first | rfl | (simp only [w64_u8]; rfl)); (with_reducible repeat (first | refine blk_drewN ?_ _ | refine blk_drew ?_ | refine blk_alloc ?_ _)); refine blk_put (cs := #[.int .i64 t369, .int .i64 0, .int .i64 0, .string (⟨#[]⟩ : ByteArray), .string (⟨#[]⟩ : ByteArray)]) ?_ 1 _ (by first | rfl | (simp only [w64_u8]; rfl)); (with_reducible repeat (first | refine blk_drewN ?_ _ | refine blk_drew ?_ | refine blk_alloc ?_ _)); refine blk_put (cs := #[.int .i64 0, .int .i64 0, .int .i64 0, .string (⟨#[]⟩ : ByteArray), .string (⟨#[]⟩ : ByteArray)]) ?_ 0 _ (by first | rfl | (simp only [w64_u8]; rfl)); (with_reducible repeat (first | refine blk_drewN ?_ _ | refine blk_drew ?_ | refine blk_alloc ?_ _)); exact BK374.out⟩
        have n1_ : Aside0 (Below w.heap.size w (((((w8.setCell ⟨gb374, 0, none⟩ (.int .i64 t369)).setCell ⟨gb374, 1, none⟩ (.int .i64 t370)).setCell ⟨gb374, 2, none⟩ (.int .i64 t371)).setCell ⟨gb374, 3, none⟩ (.string t372)).setCell ⟨gb374, 4, none⟩ (.string t373))) := ⟨by repeat (first | (with_reducible first | exact HB.out | apply below_alloc | apply pw_below_drewN | apply below_drew1 | refine below_set ?_ GE374.out) | exact HB.out)⟩
        (try clear BK374)
        (try clear HB)
        generalize (((((w8.setCell ⟨gb374, 0, none⟩ (.int .i64 t369)).setCell ⟨gb374, 1, none⟩ (.int .i64 t370)).setCell ⟨gb374, 2, none⟩ (.int .i64 t371)).setCell ⟨gb374, 3, none⟩ (.string t372)).setCell ⟨gb374, 4, none⟩ (.string t373)) = w17 at n0_ n1_ ⊢
        have BK374 := n0_
        have HB := n1_
        clear n0_ n1_
        have n0_ := Aside0.mk (blk_drew BK374.out)
        have n1_ := Aside0.mk (below_drew1 HB.out)
        clear BK374
        clear HB
        have BK374 := n0_
        have HB := n1_
        clear n0_ n1_
        refine start_ (n := 11) (S := fun w' => w'.cell? ⟨gb374, 0, none⟩ = some (.int .i64 t369) ∧ w'.cell? ⟨gb374, 1, none⟩ = some (.int .i64 t370) ∧ w'.cell? ⟨gb374, 2, none⟩ = some (.int .i64 t371) ∧ w'.cell? ⟨gb374, 3, none⟩ = some (.string t372) ∧ w'.cell? ⟨gb374, 4, none⟩ = some (.string t373)) (ds := []) #[false, false, false, false, false, false, false, false, false, false, false] (by kernel_rfl) rfl rfl ⟨(blk_cell BK374.out 0).trans rfl, (blk_cell BK374.out 1).trans rfl, (blk_cell BK374.out 2).trans rfl, (blk_cell BK374.out 3).trans rfl, (blk_cell BK374.out 4).trans rfl⟩ (fun hHeld => ?_); refine with_tabW laws_FnSecMade.tab5 laws_FnSecMade.bits5 (fun HT_ HW_ => ?_)
        generalize w17.drew = w18 at BK374 HB hHeld ⊢
        refine pure_ (i := 1) (N := some 13) (v := ?_) (a' := ?_) #[false, true, false, false, false, false, false, false, false, false, false] rfl rfl (any_of HT_.out (by kernel_rfl)) (fun _ _ _ h => h) (Or.inl ⟨by rfl, ?_⟩) ?_ ?_
        rotate_left
        · intro w'
          go_simp
          with_reducible rfl
        rotate_left
        · simp only [Act.put, List.setIfInBounds_toArray, List.set_cons_zero, List.set_cons_succ, i64_w, i32_w]
          rfl
        refine take_ (i := 0) (N := some 12) (v := ?_) (a' := ?_) #[true, true, false, false, false, false, false, false, false, false, false] rfl rfl (take_ofW HT_.out HW_.out (by kernel_rfl)) (fun _ _ _ h => h) (Or.inl ⟨by rfl, ?_⟩) hHeld ?_ ?_
        rotate_left
        · rintro w' ⟨s0, s1, s2, s3, s4⟩
          go_simp
          with_reducible rfl
        rotate_left
        · simp only [Act.put, List.setIfInBounds_toArray, List.set_cons_zero, List.set_cons_succ, i64_w, i32_w]
          rfl
        refine one_ (i := 2) (N := some 14) #[true, true, true, false, false, false, false, false, false, false, false] rfl rfl (one_of HT_.out (by kernel_rfl)) (by decide) (fun K hK => ?_)
        refine goes_ Tryd.func29 (by kernel_rfl) rfl #[.string t368] (by rfl) rfl rfl (by (try simp only [List.map_toArray, List.map_cons, List.map_nil]); first | done | rfl | (simp only [List.length_drop, List.length_take]; rfl) | (simp only [w64_u8]; rfl)) ?_
        with_reducible refine (spec_SecMade.calls k t368 t375 t376 t377 t378 t379 _ A10.out).mono ?_
        rintro e w19 ⟨rfl, hb⟩
        refine ⟨_, rfl, ?_⟩
        have n0_ := Aside0.mk (blk_below (g := gb374) (o := .cells #[.int .i64 t369, .int .i64 t370, .int .i64 t371, .string t372, .string t373] 37 (0, 0)) (by (with_reducible repeat (first | refine blk_drewN ?_ _ | refine blk_drew ?_ | refine blk_alloc ?_ _)); exact BK374.out) hb)
        have n1_ := Aside0.mk (below_step (by repeat (first | (with_reducible first | exact HB.out | apply below_alloc | apply pw_below_drewN | apply below_drew1 | refine below_set ?_ GE374.out) | exact HB.out)) hb)
        clear BK374
        clear HB
        have BK374 := n0_
        have HB := n1_
        clear n0_ n1_
        (try clear hb)
        (try clear hb2)
        (try clear hk)
        (try clear hi)
        refine hK.out _ _ ⟨(blk_cell BK374.out 0).trans rfl, (blk_cell BK374.out 1).trans rfl, (blk_cell BK374.out 2).trans rfl, (blk_cell BK374.out 3).trans rfl, (blk_cell BK374.out 4).trans rfl⟩ (fun hHeld => ?_)
        clear hK K
        refine norm_ (a' := ?_) ?_ ?_
        rotate_left
        · show Act.put _ (some 14) _ = _
          simp only [Act.put, List.setIfInBounds_toArray, List.set_cons_zero, List.set_cons_succ, i64_w, i32_w]
          rfl
        refine pure_ (i := 3) (N := some 15) (v := ?_) (a' := ?_) #[true, true, true, true, false, false, false, false, false, false, false] rfl rfl (any_of HT_.out (by kernel_rfl)) (fun _ _ _ h => h) (Or.inl ⟨by rfl, ?_⟩) ?_ ?_
        rotate_left
        · intro w'
          go_simp
          with_reducible rfl
        rotate_left
        · simp only [Act.put, List.setIfInBounds_toArray, List.set_cons_zero, List.set_cons_succ, i64_w, i32_w]
          rfl
        refine pure_ (i := 4) (N := some 16) (v := ?_) (a' := ?_) #[true, true, true, true, true, false, false, false, false, false, false] rfl rfl (any_of HT_.out (by kernel_rfl)) (fun _ _ _ h => h) (Or.inl ⟨by rfl, ?_⟩) ?_ ?_
        rotate_left
        · intro w'
          go_simp
          with_reducible rfl
        rotate_left
        · simp only [Act.put, List.setIfInBounds_toArray, List.set_cons_zero, List.set_cons_succ, i64_w, i32_w]
          rfl
        refine pure_ (i := 5) (N := some 17) (v := ?_) (a' := ?_) #[true, true, true, true, true, true, false, false, false, false, false] rfl rfl (any_of HT_.out (by kernel_rfl)) (fun _ _ _ h => h) (Or.inl ⟨by rfl, ?_⟩) ?_ ?_
        rotate_left
        · intro w'
          go_simp
          with_reducible rfl
        rotate_left
        · simp only [Act.put, List.setIfInBounds_toArray, List.set_cons_zero, List.set_cons_succ, i64_w, i32_w]
          rfl
        refine pure_ (i := 7) (N := some 19) (v := ?_) (a' := ?_) #[true, true, true, true, true, true, false, true, false, false, false] rfl rfl (any_of HT_.out (by kernel_rfl)) (fun _ _ _ h => h) (Or.inl ⟨by rfl, ?_⟩) ?_ ?_
        rotate_left
        · intro w'
          go_simp
          with_reducible rfl
        rotate_left
        · simp only [Act.put, List.setIfInBounds_toArray, List.set_cons_zero, List.set_cons_succ, i64_w, i32_w]
          rfl
        refine one_ (i := 6) (N := some 18) #[true, true, true, true, true, true, true, true, false, false, false] rfl rfl (one_of HT_.out (by kernel_rfl)) (by decide) (fun K hK => ?_)
        refine goes_ Tryd.func31 (by kernel_rfl) rfl #[.string t368] (by rfl) rfl rfl (by (try simp only [List.map_toArray, List.map_cons, List.map_nil]); first | done | rfl | (simp only [List.length_drop, List.length_take]; rfl) | (simp only [w64_u8]; rfl)) ?_
        with_reducible refine (impl_SecOk.calls t368 t380 _ ?side1 A15.out).mono ?_
        (case side1 => exact GlobOk.below HGL.out (by repeat (first | (with_reducible first | exact HB.out | apply below_alloc | apply pw_below_drewN | apply below_drew1 | refine below_set ?_ GE374.out) | exact HB.out)))
        rintro e w20 ⟨rfl, hb⟩
        refine ⟨_, rfl, ?_⟩
        have n0_ := Aside0.mk (blk_below (g := gb374) (o := .cells #[.int .i64 t369, .int .i64 t370, .int .i64 t371, .string t372, .string t373] 37 (0, 0)) (by (with_reducible repeat (first | refine blk_drewN ?_ _ | refine blk_drew ?_ | refine blk_alloc ?_ _)); exact BK374.out) hb)
        have n1_ := Aside0.mk (below_step (by repeat (first | (with_reducible first | exact HB.out | apply below_alloc | apply pw_below_drewN | apply below_drew1 | refine below_set ?_ GE374.out) | exact HB.out)) hb)
        clear BK374
        clear HB
        have BK374 := n0_
        have HB := n1_
        clear n0_ n1_
        (try clear hb)
        (try clear hb2)
        (try clear hk)
        (try clear hi)
        refine hK.out _ _ ⟨(blk_cell BK374.out 0).trans rfl, (blk_cell BK374.out 1).trans rfl, (blk_cell BK374.out 2).trans rfl, (blk_cell BK374.out 3).trans rfl, (blk_cell BK374.out 4).trans rfl⟩ (fun hHeld => ?_)
        clear hK K
        refine norm_ (a' := ?_) ?_ ?_
        rotate_left
        · show Act.put _ (some 18) _ = _
          simp only [Act.put, List.setIfInBounds_toArray, List.set_cons_zero, List.set_cons_succ, i64_w, i32_w]
          rfl
        refine one_ (i := 8) (N := some 20) #[true, true, true, true, true, true, true, true, true, false, false] rfl rfl (one_of HT_.out (by kernel_rfl)) (by decide) (fun K hK => ?_)
        refine goes_ Tryd.func30 (by kernel_rfl) rfl #[.string t368] (by rfl) rfl rfl (by (try simp only [List.map_toArray, List.map_cons, List.map_nil]); first | done | rfl | (simp only [List.length_drop, List.length_take]; rfl) | (simp only [w64_u8]; rfl)) ?_
        with_reducible refine (spec_SecOk.calls k t368 t381 _ A16.out).mono ?_
        rintro e w21 ⟨rfl, hb⟩
        refine ⟨_, rfl, ?_⟩
        have n0_ := Aside0.mk (blk_below (g := gb374) (o := .cells #[.int .i64 t369, .int .i64 t370, .int .i64 t371, .string t372, .string t373] 37 (0, 0)) (by (with_reducible repeat (first | refine blk_drewN ?_ _ | refine blk_drew ?_ | refine blk_alloc ?_ _)); exact BK374.out) hb)
        have n1_ := Aside0.mk (below_step (by repeat (first | (with_reducible first | exact HB.out | apply below_alloc | apply pw_below_drewN | apply below_drew1 | refine below_set ?_ GE374.out) | exact HB.out)) hb)
        clear BK374
        clear HB
        have BK374 := n0_
        have HB := n1_
        clear n0_ n1_
        (try clear hb)
        (try clear hb2)
        (try clear hk)
        (try clear hi)
        refine hK.out _ _ ⟨(blk_cell BK374.out 0).trans rfl, (blk_cell BK374.out 1).trans rfl, (blk_cell BK374.out 2).trans rfl, (blk_cell BK374.out 3).trans rfl, (blk_cell BK374.out 4).trans rfl⟩ (fun hHeld => ?_)
        clear hK K
        refine norm_ (a' := ?_) ?_ ?_
        rotate_left
        · show Act.put _ (some 20) _ = _
          simp only [Act.put, List.setIfInBounds_toArray, List.set_cons_zero, List.set_cons_succ, i64_w, i32_w]
          rfl
        refine pure_ (i := 9) (N := some 21) (v := ?_) (a' := ?_) #[true, true, true, true, true, true, true, true, true, true, false] rfl rfl (any_of HT_.out (by kernel_rfl)) (fun _ _ _ h => h) (Or.inl ⟨by rfl, ?_⟩) ?_ ?_
        rotate_left
        · intro w'
          go_simp
          with_reducible rfl
        rotate_left
        · simp only [Act.put, List.setIfInBounds_toArray, List.set_cons_zero, List.set_cons_succ, i64_w, i32_w]
          rfl
        refine pure_ (i := 10) (N := some 22) (v := ?_) (a' := ?_) #[true, true, true, true, true, true, true, true, true, true, true] rfl rfl (any_of HT_.out (by kernel_rfl)) (fun _ _ _ h => h) (Or.inl ⟨by rfl, ?_⟩) ?_ ?_
        rotate_left
        · intro w'
          go_simp
          with_reducible rfl
        rotate_left
        · simp only [Act.put, List.setIfInBounds_toArray, List.set_cons_zero, List.set_cons_succ, i64_w, i32_w]
          rfl
        refine done_ (done_of HT_.out (by kernel_rfl)) ?_
        try go_wp2
        go_meet
        case rel => exact ⟨_, ((t380 != t381)), (by first | rfl | (simp; done) | (simp [*]; done)), H', ⟨by first | omega | exact Nat.le_refl _⟩, ⟨by (with_reducible repeat (first | refine blk_drewN ?_ _ | refine blk_drew ?_ | refine blk_alloc ?_ _)); exact BK374.out⟩, ⟨by repeat (first | (with_reducible first | exact HB.out | apply below_alloc | apply pw_below_drewN | apply below_drew1 | refine below_set ?_ GE374.out) | exact HB.out)⟩⟩
    case rest =>
      clear HC5
      try clear c1
      try clear c2
      try clear c2b0
      try clear c2b1
      try clear p2
      try clear c3
      try clear c11
      try clear c11b0
      try clear hcz9_0
      try clear hcz9_1
      try clear hcz9_2
      try clear hcz9_3
      try clear hcz9_4
      try clear hfz9_0
      try clear hfz9_1
      try clear hfz9_2
      try clear hfz9_3
      try clear hfz9_4
      obtain ⟨kq, x22_4, rfl, HA, HJ4, BK374, HB⟩ := hcut
      cases kq with
      | zero => exact absurd HA.out (by simp [laws_FnSecMade.j0])
      | succ kj4 =>
        have H := HA.out
        clear HA
        simp only [laws_FnSecMade.j0] at H
        by_cases c22 : x22_4 = true
        · subst c22
          have H1 : (some false) = some r := by rw [if_pos rfl] at H; exact H
          clear H
          have H := H1
          clear H1
          obtain rfl := Option.some.inj H
          go_wp2
          go_ret
          exact ⟨by first | rfl | (simp [errW_none, errW_some] <;> rfl) | (simp [*, errW_none, errW_some] <;> rfl), by repeat (first | (with_reducible first | exact HB.out | apply below_alloc | apply pw_below_drewN | apply below_drew1 | refine below_set ?_ GE374.out) | exact HB.out)⟩
        · replace c22 := Bool.eq_false_iff.mpr c22
          subst c22
          have H1 : ((spec_SecOk.f kj4 t368).bind fun t382 => (if t382 = true then (if t369 = 1 then ((impl_MakNew.f kj4 t370 t371).bind fun t384 => (some (t384.toList == t368.toList))) else (if t369 = 2 then ((impl_MakNext.f kj4 t372).bind fun t385 => (some (t385.toList == t368.toList))) else (if t369 = 3 then ((impl_MakKey.f kj4 t372).bind fun t386 => (some (t386.toList == t368.toList))) else (if t369 = 4 then ((impl_MakEpoch.f kj4 t372 t373).bind fun t387 => (some (t387.toList == t368.toList))) else (if t369 = 5 then ((impl_MakSay.f kj4 t372 t370).bind fun t388 => (some (t388.toList == t368.toList))) else (if t369 = 6 then ((impl_MakRoom.f kj4 t372 t371).bind fun t389 => (some (t389.toList == t368.toList))) else (some false))))))) else (if (t369 == 0 && (t370 == 0 && (t371 == 0 && (t372.toList == ([] : List UInt8) && (t373.toList == ([] : List UInt8)))))) = true then ((laws_keOk.f).bind fun t383 => (some t383)) else (some false)))) = some r := by rw [if_neg (show ¬ (false = true) by decide)] at H; exact H
          clear H
          have H := H1
          clear H1
          replace H := Option.bind_eq_some_iff.mp H
          obtain ⟨t382, A230, H⟩ := H
          replace H : (if t382 = true then (if t369 = 1 then ((impl_MakNew.f kj4 t370 t371).bind fun t384 => (some (t384.toList == t368.toList))) else (if t369 = 2 then ((impl_MakNext.f kj4 t372).bind fun t385 => (some (t385.toList == t368.toList))) else (if t369 = 3 then ((impl_MakKey.f kj4 t372).bind fun t386 => (some (t386.toList == t368.toList))) else (if t369 = 4 then ((impl_MakEpoch.f kj4 t372 t373).bind fun t387 => (some (t387.toList == t368.toList))) else (if t369 = 5 then ((impl_MakSay.f kj4 t372 t370).bind fun t388 => (some (t388.toList == t368.toList))) else (if t369 = 6 then ((impl_MakRoom.f kj4 t372 t371).bind fun t389 => (some (t389.toList == t368.toList))) else (some false))))))) else (if (t369 == 0 && (t370 == 0 && (t371 == 0 && (t372.toList == ([] : List UInt8) && (t373.toList == ([] : List UInt8)))))) = true then ((laws_keOk.f).bind fun t383 => (some t383)) else (some false))) = some r := H
          have A23 := Aside0.mk A230
          clear A230
          by_cases c24 : t382 = true
          · subst c24
            have H1 : (if t369 = 1 then ((impl_MakNew.f kj4 t370 t371).bind fun t384 => (some (t384.toList == t368.toList))) else (if t369 = 2 then ((impl_MakNext.f kj4 t372).bind fun t385 => (some (t385.toList == t368.toList))) else (if t369 = 3 then ((impl_MakKey.f kj4 t372).bind fun t386 => (some (t386.toList == t368.toList))) else (if t369 = 4 then ((impl_MakEpoch.f kj4 t372 t373).bind fun t387 => (some (t387.toList == t368.toList))) else (if t369 = 5 then ((impl_MakSay.f kj4 t372 t370).bind fun t388 => (some (t388.toList == t368.toList))) else (if t369 = 6 then ((impl_MakRoom.f kj4 t372 t371).bind fun t389 => (some (t389.toList == t368.toList))) else (some false))))))) = some r := by rw [if_pos rfl] at H; exact H
            clear H
            have H := H1
            clear H1
            by_cases c25 : t369 = 1
            · rw [if_pos c25] at H
              have c25b0 : (t369 == 1) = true := beq_iff_eq.mpr c25
              have c25b1 : (t369 != 1) = false := bne_eq_false_iff_eq.mpr c25
              clear c25
              replace H := Option.bind_eq_some_iff.mp H
              obtain ⟨t384, A260, H⟩ := H
              replace H : (some (t384.toList == t368.toList)) = some r := H
              have A26 := Aside0.mk A260
              clear A260
              obtain rfl := Option.some.inj H
              go_wp2_with (first | ((with_reducible refine gate_callee (f := 30) rfl ?_); refine goesL_ (some 24) rfl rfl Tryd.func30 (by kernel_rfl) rfl #[.string t368] rfl (by (try simp only [List.map_toArray, List.map_cons, List.map_nil]); first | done | rfl | (simp only [List.length_drop, List.length_take]; rfl) | (simp only [w64_u8]; rfl)) ?_; (with_reducible refine (spec_SecOk.calls kj4 t368 true _ A23.out).mono ?_); rintro e w27 ⟨rfl, hb⟩; refine ⟨_, rfl, ?_⟩; have n0_ := Aside0.mk (blk_below (g := gb374) (o := .cells #[.int .i64 t369, .int .i64 t370, .int .i64 t371, .string t372, .string t373] 37 (0, 0)) (by (with_reducible repeat (first | refine blk_drewN ?_ _ | refine blk_drew ?_ | refine blk_alloc ?_ _)); exact BK374.out) hb); have n1_ := Aside0.mk (below_step (by repeat (first | (with_reducible first | exact HB.out | apply below_alloc | apply pw_below_drewN | apply below_drew1 | refine below_set ?_ GE374.out) | exact HB.out)) hb); clear BK374; clear HB; have BK374 := n0_; have HB := n1_; clear n0_ n1_; (try clear hb); (try clear hb2); (try clear hk); (try clear hi); have hcz28_0 : w27.cell? ⟨gb374, 0, none⟩ = some (.int .i64 t369) := (blk_cell BK374.out 0).trans rfl; have hcz28_1 : w27.cell? ⟨gb374, 1, none⟩ = some (.int .i64 t370) := (blk_cell BK374.out 1).trans rfl; have hcz28_2 : w27.cell? ⟨gb374, 2, none⟩ = some (.int .i64 t371) := (blk_cell BK374.out 2).trans rfl; have hcz28_3 : w27.cell? ⟨gb374, 3, none⟩ = some (.string t372) := (blk_cell BK374.out 3).trans rfl; have hcz28_4 : w27.cell? ⟨gb374, 4, none⟩ = some (.string t373) := (blk_cell BK374.out 4).trans rfl; have hfz28_0 := blk_frozen BK374.out 0; have hfz28_1 := blk_frozen BK374.out 1; have hfz28_2 := blk_frozen BK374.out 2; have hfz28_3 := blk_frozen BK374.out 3; have hfz28_4 := blk_frozen BK374.out 4) | ((with_reducible refine gate_callee (f := 51) rfl ?_); refine goesL_ (some 40) rfl rfl Tryd.func51 (by kernel_rfl) rfl #[.int .i64 t370, .int .i64 t371] rfl (by (try simp only [List.map_toArray, List.map_cons, List.map_nil]); first | done | rfl | (simp only [List.length_drop, List.length_take]; rfl) | (simp only [w64_u8]; rfl)) ?_; (with_reducible refine (impl_MakNew.calls kj4 t370 t371 t384 _ A26.out).mono ?_); rintro e w' ⟨rfl, ⟨nd, rfl⟩⟩; refine ⟨_, rfl, ?_⟩))
              go_ret
              exact ⟨by first | rfl | (simp [errW_none, errW_some] <;> rfl) | (simp [*, errW_none, errW_some] <;> rfl), by repeat (first | (with_reducible first | exact HB.out | apply below_alloc | apply pw_below_drewN | apply below_drew1 | refine below_set ?_ GE374.out) | exact HB.out)⟩
            · rw [if_neg c25] at H
              have c25b0 : (t369 == 1) = false := beq_eq_false_iff_ne.mpr c25
              have c25b1 : (t369 != 1) = true := bne_iff_ne.mpr c25
              by_cases c29 : t369 = 2
              · rw [if_pos c29] at H
                have c29b0 : (t369 == 2) = true := beq_iff_eq.mpr c29
                have c29b1 : (t369 != 2) = false := bne_eq_false_iff_eq.mpr c29
                clear c29
                replace H := Option.bind_eq_some_iff.mp H
                obtain ⟨t385, A300, H⟩ := H
                replace H : (some (t385.toList == t368.toList)) = some r := H
                have A30 := Aside0.mk A300
                clear A300
                obtain rfl := Option.some.inj H
                go_wp2_with (first | ((with_reducible refine gate_callee (f := 30) rfl ?_); refine goesL_ (some 24) rfl rfl Tryd.func30 (by kernel_rfl) rfl #[.string t368] rfl (by (try simp only [List.map_toArray, List.map_cons, List.map_nil]); first | done | rfl | (simp only [List.length_drop, List.length_take]; rfl) | (simp only [w64_u8]; rfl)) ?_; (with_reducible refine (spec_SecOk.calls kj4 t368 true _ A23.out).mono ?_); rintro e w31 ⟨rfl, hb⟩; refine ⟨_, rfl, ?_⟩; have n0_ := Aside0.mk (blk_below (g := gb374) (o := .cells #[.int .i64 t369, .int .i64 t370, .int .i64 t371, .string t372, .string t373] 37 (0, 0)) (by (with_reducible repeat (first | refine blk_drewN ?_ _ | refine blk_drew ?_ | refine blk_alloc ?_ _)); exact BK374.out) hb); have n1_ := Aside0.mk (below_step (by repeat (first | (with_reducible first | exact HB.out | apply below_alloc | apply pw_below_drewN | apply below_drew1 | refine below_set ?_ GE374.out) | exact HB.out)) hb); clear BK374; clear HB; have BK374 := n0_; have HB := n1_; clear n0_ n1_; (try clear hb); (try clear hb2); (try clear hk); (try clear hi); have hcz32_0 : w31.cell? ⟨gb374, 0, none⟩ = some (.int .i64 t369) := (blk_cell BK374.out 0).trans rfl; have hcz32_1 : w31.cell? ⟨gb374, 1, none⟩ = some (.int .i64 t370) := (blk_cell BK374.out 1).trans rfl; have hcz32_2 : w31.cell? ⟨gb374, 2, none⟩ = some (.int .i64 t371) := (blk_cell BK374.out 2).trans rfl; have hcz32_3 : w31.cell? ⟨gb374, 3, none⟩ = some (.string t372) := (blk_cell BK374.out 3).trans rfl; have hcz32_4 : w31.cell? ⟨gb374, 4, none⟩ = some (.string t373) := (blk_cell BK374.out 4).trans rfl; have hfz32_0 := blk_frozen BK374.out 0; have hfz32_1 := blk_frozen BK374.out 1; have hfz32_2 := blk_frozen BK374.out 2; have hfz32_3 := blk_frozen BK374.out 3; have hfz32_4 := blk_frozen BK374.out 4) | ((with_reducible refine gate_callee (f := 40) rfl ?_); refine goesL_ (some 47) rfl rfl Tryd.func40 (by kernel_rfl) rfl #[.string t372] rfl (by (try simp only [List.map_toArray, List.map_cons, List.map_nil]); first | done | rfl | (simp only [List.length_drop, List.length_take]; rfl) | (simp only [w64_u8]; rfl)) ?_; (with_reducible refine (impl_MakNext.calls kj4 t372 t385 _ ?side1 A30.out).mono ?_); (case side1 => exact GlobOk.below HGL.out (by repeat (first | (with_reducible first | exact HB.out | apply below_alloc | apply pw_below_drewN | apply below_drew1 | refine below_set ?_ GE374.out) | exact HB.out))); rintro e w33 ⟨rfl, hb⟩; refine ⟨_, rfl, ?_⟩; have n0_ := Aside0.mk (blk_below (g := gb374) (o := .cells #[.int .i64 t369, .int .i64 t370, .int .i64 t371, .string t372, .string t373] 37 (0, 0)) (by (with_reducible repeat (first | refine blk_drewN ?_ _ | refine blk_drew ?_ | refine blk_alloc ?_ _)); exact BK374.out) hb); have n1_ := Aside0.mk (below_step (by repeat (first | (with_reducible first | exact HB.out | apply below_alloc | apply pw_below_drewN | apply below_drew1 | refine below_set ?_ GE374.out) | exact HB.out)) hb); clear BK374; clear HB; have BK374 := n0_; have HB := n1_; clear n0_ n1_; (try clear hb); (try clear hb2); (try clear hk); (try clear hi)))
                go_ret
                exact ⟨by first | rfl | (simp [errW_none, errW_some] <;> rfl) | (simp [*, errW_none, errW_some] <;> rfl), by repeat (first | (with_reducible first | exact HB.out | apply below_alloc | apply pw_below_drewN | apply below_drew1 | refine below_set ?_ GE374.out) | exact HB.out)⟩
              · rw [if_neg c29] at H
                have c29b0 : (t369 == 2) = false := beq_eq_false_iff_ne.mpr c29
                have c29b1 : (t369 != 2) = true := bne_iff_ne.mpr c29
                by_cases c34 : t369 = 3
                · rw [if_pos c34] at H
                  have c34b0 : (t369 == 3) = true := beq_iff_eq.mpr c34
                  have c34b1 : (t369 != 3) = false := bne_eq_false_iff_eq.mpr c34
                  clear c34
                  replace H := Option.bind_eq_some_iff.mp H
                  obtain ⟨t386, A350, H⟩ := H
                  replace H : (some (t386.toList == t368.toList)) = some r := H
                  have A35 := Aside0.mk A350
                  clear A350
                  obtain rfl := Option.some.inj H
                  go_wp2_with (first | ((with_reducible refine gate_callee (f := 30) rfl ?_); refine goesL_ (some 24) rfl rfl Tryd.func30 (by kernel_rfl) rfl #[.string t368] rfl (by (try simp only [List.map_toArray, List.map_cons, List.map_nil]); first | done | rfl | (simp only [List.length_drop, List.length_take]; rfl) | (simp only [w64_u8]; rfl)) ?_; (with_reducible refine (spec_SecOk.calls kj4 t368 true _ A23.out).mono ?_); rintro e w36 ⟨rfl, hb⟩; refine ⟨_, rfl, ?_⟩; have n0_ := Aside0.mk (blk_below (g := gb374) (o := .cells #[.int .i64 t369, .int .i64 t370, .int .i64 t371, .string t372, .string t373] 37 (0, 0)) (by (with_reducible repeat (first | refine blk_drewN ?_ _ | refine blk_drew ?_ | refine blk_alloc ?_ _)); exact BK374.out) hb); have n1_ := Aside0.mk (below_step (by repeat (first | (with_reducible first | exact HB.out | apply below_alloc | apply pw_below_drewN | apply below_drew1 | refine below_set ?_ GE374.out) | exact HB.out)) hb); clear BK374; clear HB; have BK374 := n0_; have HB := n1_; clear n0_ n1_; (try clear hb); (try clear hb2); (try clear hk); (try clear hi); have hcz37_0 : w36.cell? ⟨gb374, 0, none⟩ = some (.int .i64 t369) := (blk_cell BK374.out 0).trans rfl; have hcz37_1 : w36.cell? ⟨gb374, 1, none⟩ = some (.int .i64 t370) := (blk_cell BK374.out 1).trans rfl; have hcz37_2 : w36.cell? ⟨gb374, 2, none⟩ = some (.int .i64 t371) := (blk_cell BK374.out 2).trans rfl; have hcz37_3 : w36.cell? ⟨gb374, 3, none⟩ = some (.string t372) := (blk_cell BK374.out 3).trans rfl; have hcz37_4 : w36.cell? ⟨gb374, 4, none⟩ = some (.string t373) := (blk_cell BK374.out 4).trans rfl; have hfz37_0 := blk_frozen BK374.out 0; have hfz37_1 := blk_frozen BK374.out 1; have hfz37_2 := blk_frozen BK374.out 2; have hfz37_3 := blk_frozen BK374.out 3; have hfz37_4 := blk_frozen BK374.out 4) | ((with_reducible refine gate_callee (f := 41) rfl ?_); refine goesL_ (some 54) rfl rfl Tryd.func41 (by kernel_rfl) rfl #[.string t372] rfl (by (try simp only [List.map_toArray, List.map_cons, List.map_nil]); first | done | rfl | (simp only [List.length_drop, List.length_take]; rfl) | (simp only [w64_u8]; rfl)) ?_; (with_reducible refine (impl_MakKey.calls kj4 t372 t386 _ ?side1 A35.out).mono ?_); (case side1 => exact GlobOk.below HGL.out (by repeat (first | (with_reducible first | exact HB.out | apply below_alloc | apply pw_below_drewN | apply below_drew1 | refine below_set ?_ GE374.out) | exact HB.out))); rintro e w38 ⟨rfl, hb⟩; refine ⟨_, rfl, ?_⟩; have n0_ := Aside0.mk (blk_below (g := gb374) (o := .cells #[.int .i64 t369, .int .i64 t370, .int .i64 t371, .string t372, .string t373] 37 (0, 0)) (by (with_reducible repeat (first | refine blk_drewN ?_ _ | refine blk_drew ?_ | refine blk_alloc ?_ _)); exact BK374.out) hb); have n1_ := Aside0.mk (below_step (by repeat (first | (with_reducible first | exact HB.out | apply below_alloc | apply pw_below_drewN | apply below_drew1 | refine below_set ?_ GE374.out) | exact HB.out)) hb); clear BK374; clear HB; have BK374 := n0_; have HB := n1_; clear n0_ n1_; (try clear hb); (try clear hb2); (try clear hk); (try clear hi)))
                  go_ret
                  exact ⟨by first | rfl | (simp [errW_none, errW_some] <;> rfl) | (simp [*, errW_none, errW_some] <;> rfl), by repeat (first | (with_reducible first | exact HB.out | apply below_alloc | apply pw_below_drewN | apply below_drew1 | refine below_set ?_ GE374.out) | exact HB.out)⟩
                · rw [if_neg c34] at H
                  have c34b0 : (t369 == 3) = false := beq_eq_false_iff_ne.mpr c34
                  have c34b1 : (t369 != 3) = true := bne_iff_ne.mpr c34
                  by_cases c39 : t369 = 4
                  · rw [if_pos c39] at H
                    have c39b0 : (t369 == 4) = true := beq_iff_eq.mpr c39
                    have c39b1 : (t369 != 4) = false := bne_eq_false_iff_eq.mpr c39
                    clear c39
                    replace H := Option.bind_eq_some_iff.mp H
                    obtain ⟨t387, A400, H⟩ := H
                    replace H : (some (t387.toList == t368.toList)) = some r := H
                    have A40 := Aside0.mk A400
                    clear A400
                    obtain rfl := Option.some.inj H
                    go_wp2_with (first | ((with_reducible refine gate_callee (f := 30) rfl ?_); refine goesL_ (some 24) rfl rfl Tryd.func30 (by kernel_rfl) rfl #[.string t368] rfl (by (try simp only [List.map_toArray, List.map_cons, List.map_nil]); first | done | rfl | (simp only [List.length_drop, List.length_take]; rfl) | (simp only [w64_u8]; rfl)) ?_; (with_reducible refine (spec_SecOk.calls kj4 t368 true _ A23.out).mono ?_); rintro e w41 ⟨rfl, hb⟩; refine ⟨_, rfl, ?_⟩; have n0_ := Aside0.mk (blk_below (g := gb374) (o := .cells #[.int .i64 t369, .int .i64 t370, .int .i64 t371, .string t372, .string t373] 37 (0, 0)) (by (with_reducible repeat (first | refine blk_drewN ?_ _ | refine blk_drew ?_ | refine blk_alloc ?_ _)); exact BK374.out) hb); have n1_ := Aside0.mk (below_step (by repeat (first | (with_reducible first | exact HB.out | apply below_alloc | apply pw_below_drewN | apply below_drew1 | refine below_set ?_ GE374.out) | exact HB.out)) hb); clear BK374; clear HB; have BK374 := n0_; have HB := n1_; clear n0_ n1_; (try clear hb); (try clear hb2); (try clear hk); (try clear hi); have hcz42_0 : w41.cell? ⟨gb374, 0, none⟩ = some (.int .i64 t369) := (blk_cell BK374.out 0).trans rfl; have hcz42_1 : w41.cell? ⟨gb374, 1, none⟩ = some (.int .i64 t370) := (blk_cell BK374.out 1).trans rfl; have hcz42_2 : w41.cell? ⟨gb374, 2, none⟩ = some (.int .i64 t371) := (blk_cell BK374.out 2).trans rfl; have hcz42_3 : w41.cell? ⟨gb374, 3, none⟩ = some (.string t372) := (blk_cell BK374.out 3).trans rfl; have hcz42_4 : w41.cell? ⟨gb374, 4, none⟩ = some (.string t373) := (blk_cell BK374.out 4).trans rfl; have hfz42_0 := blk_frozen BK374.out 0; have hfz42_1 := blk_frozen BK374.out 1; have hfz42_2 := blk_frozen BK374.out 2; have hfz42_3 := blk_frozen BK374.out 3; have hfz42_4 := blk_frozen BK374.out 4) | ((with_reducible refine gate_callee (f := 36) rfl ?_); refine goesL_ (some 63) rfl rfl Tryd.func36 (by kernel_rfl) rfl #[.string t372, .string t373] rfl (by (try simp only [List.map_toArray, List.map_cons, List.map_nil]); first | done | rfl | (simp only [List.length_drop, List.length_take]; rfl) | (simp only [w64_u8]; rfl)) ?_; (with_reducible refine (impl_MakEpoch.calls kj4 t372 t373 t387 _ ?side1 A40.out).mono ?_); (case side1 => exact GlobOk.below HGL.out (by repeat (first | (with_reducible first | exact HB.out | apply below_alloc | apply pw_below_drewN | apply below_drew1 | refine below_set ?_ GE374.out) | exact HB.out))); rintro e w43 ⟨rfl, hb⟩; refine ⟨_, rfl, ?_⟩; have n0_ := Aside0.mk (blk_below (g := gb374) (o := .cells #[.int .i64 t369, .int .i64 t370, .int .i64 t371, .string t372, .string t373] 37 (0, 0)) (by (with_reducible repeat (first | refine blk_drewN ?_ _ | refine blk_drew ?_ | refine blk_alloc ?_ _)); exact BK374.out) hb); have n1_ := Aside0.mk (below_step (by repeat (first | (with_reducible first | exact HB.out | apply below_alloc | apply pw_below_drewN | apply below_drew1 | refine below_set ?_ GE374.out) | exact HB.out)) hb); clear BK374; clear HB; have BK374 := n0_; have HB := n1_; clear n0_ n1_; (try clear hb); (try clear hb2); (try clear hk); (try clear hi)))
                    go_ret
                    exact ⟨by first | rfl | (simp [errW_none, errW_some] <;> rfl) | (simp [*, errW_none, errW_some] <;> rfl), by repeat (first | (with_reducible first | exact HB.out | apply below_alloc | apply pw_below_drewN | apply below_drew1 | refine below_set ?_ GE374.out) | exact HB.out)⟩
                  · rw [if_neg c39] at H
                    have c39b0 : (t369 == 4) = false := beq_eq_false_iff_ne.mpr c39
                    have c39b1 : (t369 != 4) = true := bne_iff_ne.mpr c39
                    by_cases c44 : t369 = 5
                    · rw [if_pos c44] at H
                      have c44b0 : (t369 == 5) = true := beq_iff_eq.mpr c44
                      have c44b1 : (t369 != 5) = false := bne_eq_false_iff_eq.mpr c44
                      clear c44
                      replace H := Option.bind_eq_some_iff.mp H
                      obtain ⟨t388, A450, H⟩ := H
                      replace H : (some (t388.toList == t368.toList)) = some r := H
                      have A45 := Aside0.mk A450
                      clear A450
                      obtain rfl := Option.some.inj H
                      go_wp2_with (first | ((with_reducible refine gate_callee (f := 30) rfl ?_); refine goesL_ (some 24) rfl rfl Tryd.func30 (by kernel_rfl) rfl #[.string t368] rfl (by (try simp only [List.map_toArray, List.map_cons, List.map_nil]); first | done | rfl | (simp only [List.length_drop, List.length_take]; rfl) | (simp only [w64_u8]; rfl)) ?_; (with_reducible refine (spec_SecOk.calls kj4 t368 true _ A23.out).mono ?_); rintro e w46 ⟨rfl, hb⟩; refine ⟨_, rfl, ?_⟩; have n0_ := Aside0.mk (blk_below (g := gb374) (o := .cells #[.int .i64 t369, .int .i64 t370, .int .i64 t371, .string t372, .string t373] 37 (0, 0)) (by (with_reducible repeat (first | refine blk_drewN ?_ _ | refine blk_drew ?_ | refine blk_alloc ?_ _)); exact BK374.out) hb); have n1_ := Aside0.mk (below_step (by repeat (first | (with_reducible first | exact HB.out | apply below_alloc | apply pw_below_drewN | apply below_drew1 | refine below_set ?_ GE374.out) | exact HB.out)) hb); clear BK374; clear HB; have BK374 := n0_; have HB := n1_; clear n0_ n1_; (try clear hb); (try clear hb2); (try clear hk); (try clear hi); have hcz47_0 : w46.cell? ⟨gb374, 0, none⟩ = some (.int .i64 t369) := (blk_cell BK374.out 0).trans rfl; have hcz47_1 : w46.cell? ⟨gb374, 1, none⟩ = some (.int .i64 t370) := (blk_cell BK374.out 1).trans rfl; have hcz47_2 : w46.cell? ⟨gb374, 2, none⟩ = some (.int .i64 t371) := (blk_cell BK374.out 2).trans rfl; have hcz47_3 : w46.cell? ⟨gb374, 3, none⟩ = some (.string t372) := (blk_cell BK374.out 3).trans rfl; have hcz47_4 : w46.cell? ⟨gb374, 4, none⟩ = some (.string t373) := (blk_cell BK374.out 4).trans rfl; have hfz47_0 := blk_frozen BK374.out 0; have hfz47_1 := blk_frozen BK374.out 1; have hfz47_2 := blk_frozen BK374.out 2; have hfz47_3 := blk_frozen BK374.out 3; have hfz47_4 := blk_frozen BK374.out 4) | ((with_reducible refine gate_callee (f := 46) rfl ?_); refine goesL_ (some 72) rfl rfl Tryd.func46 (by kernel_rfl) rfl #[.string t372, .int .i64 t370] rfl (by (try simp only [List.map_toArray, List.map_cons, List.map_nil]); first | done | rfl | (simp only [List.length_drop, List.length_take]; rfl) | (simp only [w64_u8]; rfl)) ?_; (with_reducible refine (impl_MakSay.calls kj4 t372 t370 t388 _ ?side1 A45.out).mono ?_); (case side1 => exact GlobOk.below HGL.out (by repeat (first | (with_reducible first | exact HB.out | apply below_alloc | apply pw_below_drewN | apply below_drew1 | refine below_set ?_ GE374.out) | exact HB.out))); rintro e w48 ⟨rfl, hb⟩; refine ⟨_, rfl, ?_⟩; have n0_ := Aside0.mk (blk_below (g := gb374) (o := .cells #[.int .i64 t369, .int .i64 t370, .int .i64 t371, .string t372, .string t373] 37 (0, 0)) (by (with_reducible repeat (first | refine blk_drewN ?_ _ | refine blk_drew ?_ | refine blk_alloc ?_ _)); exact BK374.out) hb); have n1_ := Aside0.mk (below_step (by repeat (first | (with_reducible first | exact HB.out | apply below_alloc | apply pw_below_drewN | apply below_drew1 | refine below_set ?_ GE374.out) | exact HB.out)) hb); clear BK374; clear HB; have BK374 := n0_; have HB := n1_; clear n0_ n1_; (try clear hb); (try clear hb2); (try clear hk); (try clear hi)))
                      go_ret
                      exact ⟨by first | rfl | (simp [errW_none, errW_some] <;> rfl) | (simp [*, errW_none, errW_some] <;> rfl), by repeat (first | (with_reducible first | exact HB.out | apply below_alloc | apply pw_below_drewN | apply below_drew1 | refine below_set ?_ GE374.out) | exact HB.out)⟩
                    · rw [if_neg c44] at H
                      have c44b0 : (t369 == 5) = false := beq_eq_false_iff_ne.mpr c44
                      have c44b1 : (t369 != 5) = true := bne_iff_ne.mpr c44
                      by_cases c49 : t369 = 6
                      · rw [if_pos c49] at H
                        have c49b0 : (t369 == 6) = true := beq_iff_eq.mpr c49
                        have c49b1 : (t369 != 6) = false := bne_eq_false_iff_eq.mpr c49
                        clear c49
                        replace H := Option.bind_eq_some_iff.mp H
                        obtain ⟨t389, A500, H⟩ := H
                        replace H : (some (t389.toList == t368.toList)) = some r := H
                        have A50 := Aside0.mk A500
                        clear A500
                        obtain rfl := Option.some.inj H
                        go_wp2_with (first | ((with_reducible refine gate_callee (f := 30) rfl ?_); refine goesL_ (some 24) rfl rfl Tryd.func30 (by kernel_rfl) rfl #[.string t368] rfl (by (try simp only [List.map_toArray, List.map_cons, List.map_nil]); first | done | rfl | (simp only [List.length_drop, List.length_take]; rfl) | (simp only [w64_u8]; rfl)) ?_; (with_reducible refine (spec_SecOk.calls kj4 t368 true _ A23.out).mono ?_); rintro e w51 ⟨rfl, hb⟩; refine ⟨_, rfl, ?_⟩; have n0_ := Aside0.mk (blk_below (g := gb374) (o := .cells #[.int .i64 t369, .int .i64 t370, .int .i64 t371, .string t372, .string t373] 37 (0, 0)) (by (with_reducible repeat (first | refine blk_drewN ?_ _ | refine blk_drew ?_ | refine blk_alloc ?_ _)); exact BK374.out) hb); have n1_ := Aside0.mk (below_step (by repeat (first | (with_reducible first | exact HB.out | apply below_alloc | apply pw_below_drewN | apply below_drew1 | refine below_set ?_ GE374.out) | exact HB.out)) hb); clear BK374; clear HB; have BK374 := n0_; have HB := n1_; clear n0_ n1_; (try clear hb); (try clear hb2); (try clear hk); (try clear hi); have hcz52_0 : w51.cell? ⟨gb374, 0, none⟩ = some (.int .i64 t369) := (blk_cell BK374.out 0).trans rfl; have hcz52_1 : w51.cell? ⟨gb374, 1, none⟩ = some (.int .i64 t370) := (blk_cell BK374.out 1).trans rfl; have hcz52_2 : w51.cell? ⟨gb374, 2, none⟩ = some (.int .i64 t371) := (blk_cell BK374.out 2).trans rfl; have hcz52_3 : w51.cell? ⟨gb374, 3, none⟩ = some (.string t372) := (blk_cell BK374.out 3).trans rfl; have hcz52_4 : w51.cell? ⟨gb374, 4, none⟩ = some (.string t373) := (blk_cell BK374.out 4).trans rfl; have hfz52_0 := blk_frozen BK374.out 0; have hfz52_1 := blk_frozen BK374.out 1; have hfz52_2 := blk_frozen BK374.out 2; have hfz52_3 := blk_frozen BK374.out 3; have hfz52_4 := blk_frozen BK374.out 4) | (go_at_call 47; (with_reducible refine (impl_MakRoom.calls kj4 t372 t371 t389 _ ?side1 A50.out).mono ?_); (case side1 => exact GlobOk.below HGL.out (by repeat (first | (with_reducible first | exact HB.out | apply below_alloc | apply pw_below_drewN | apply below_drew1 | refine below_set ?_ GE374.out) | exact HB.out))); rintro e w53 ⟨rfl, hb⟩; have n0_ := Aside0.mk (blk_below (g := gb374) (o := .cells #[.int .i64 t369, .int .i64 t370, .int .i64 t371, .string t372, .string t373] 37 (0, 0)) (by (with_reducible repeat (first | refine blk_drewN ?_ _ | refine blk_drew ?_ | refine blk_alloc ?_ _)); exact BK374.out) hb); have n1_ := Aside0.mk (below_step (by repeat (first | (with_reducible first | exact HB.out | apply below_alloc | apply pw_below_drewN | apply below_drew1 | refine below_set ?_ GE374.out) | exact HB.out)) hb); clear BK374; clear HB; have BK374 := n0_; have HB := n1_; clear n0_ n1_; (try clear hb); (try clear hb2); (try clear hk); (try clear hi)))
                        go_ret
                        exact ⟨by first | rfl | (simp [errW_none, errW_some] <;> rfl) | (simp [*, errW_none, errW_some] <;> rfl), by repeat (first | (with_reducible first | exact HB.out | apply below_alloc | apply pw_below_drewN | apply below_drew1 | refine below_set ?_ GE374.out) | exact HB.out)⟩
                      · rw [if_neg c49] at H
                        have c49b0 : (t369 == 6) = false := beq_eq_false_iff_ne.mpr c49
                        have c49b1 : (t369 != 6) = true := bne_iff_ne.mpr c49
                        obtain rfl := Option.some.inj H
                        go_wp2_with (first | ((with_reducible refine gate_callee (f := 30) rfl ?_); refine goesL_ (some 24) rfl rfl Tryd.func30 (by kernel_rfl) rfl #[.string t368] rfl (by (try simp only [List.map_toArray, List.map_cons, List.map_nil]); first | done | rfl | (simp only [List.length_drop, List.length_take]; rfl) | (simp only [w64_u8]; rfl)) ?_; (with_reducible refine (spec_SecOk.calls kj4 t368 true _ A23.out).mono ?_); rintro e w54 ⟨rfl, hb⟩; refine ⟨_, rfl, ?_⟩; have n0_ := Aside0.mk (blk_below (g := gb374) (o := .cells #[.int .i64 t369, .int .i64 t370, .int .i64 t371, .string t372, .string t373] 37 (0, 0)) (by (with_reducible repeat (first | refine blk_drewN ?_ _ | refine blk_drew ?_ | refine blk_alloc ?_ _)); exact BK374.out) hb); have n1_ := Aside0.mk (below_step (by repeat (first | (with_reducible first | exact HB.out | apply below_alloc | apply pw_below_drewN | apply below_drew1 | refine below_set ?_ GE374.out) | exact HB.out)) hb); clear BK374; clear HB; have BK374 := n0_; have HB := n1_; clear n0_ n1_; (try clear hb); (try clear hb2); (try clear hk); (try clear hi); have hcz55_0 : w54.cell? ⟨gb374, 0, none⟩ = some (.int .i64 t369) := (blk_cell BK374.out 0).trans rfl; have hcz55_1 : w54.cell? ⟨gb374, 1, none⟩ = some (.int .i64 t370) := (blk_cell BK374.out 1).trans rfl; have hcz55_2 : w54.cell? ⟨gb374, 2, none⟩ = some (.int .i64 t371) := (blk_cell BK374.out 2).trans rfl; have hcz55_3 : w54.cell? ⟨gb374, 3, none⟩ = some (.string t372) := (blk_cell BK374.out 3).trans rfl; have hcz55_4 : w54.cell? ⟨gb374, 4, none⟩ = some (.string t373) := (blk_cell BK374.out 4).trans rfl; have hfz55_0 := blk_frozen BK374.out 0; have hfz55_1 := blk_frozen BK374.out 1; have hfz55_2 := blk_frozen BK374.out 2; have hfz55_3 := blk_frozen BK374.out 3; have hfz55_4 := blk_frozen BK374.out 4))
                        go_ret
                        exact ⟨by first | rfl | (simp [errW_none, errW_some] <;> rfl) | (simp [*, errW_none, errW_some] <;> rfl), by repeat (first | (with_reducible first | exact HB.out | apply below_alloc | apply pw_below_drewN | apply below_drew1 | refine below_set ?_ GE374.out) | exact HB.out)⟩
          · replace c24 := Bool.eq_false_iff.mpr c24
            subst c24
            have H1 : (if (t369 == 0 && (t370 == 0 && (t371 == 0 && (t372.toList == ([] : List UInt8) && (t373.toList == ([] : List UInt8)))))) = true then ((laws_keOk.f).bind fun t383 => (some t383)) else (some false)) = some r := by rw [if_neg (show ¬ (false = true) by decide)] at H; exact H
            clear H
            have H := H1
            clear H1
            by_cases c56 : (t369 == 0 && (t370 == 0 && (t371 == 0 && (t372.toList == ([] : List UInt8) && (t373.toList == ([] : List UInt8)))))) = true
            · rw [if_pos c56] at H
              have c56b0 : (t369 == 0 && (t370 == 0 && (t371 == 0 && (t372.toList == ([] : List UInt8) && (t373.toList == ([] : List UInt8)))))) = true := c56
              (try (have c56q := c56; simp only [Bool.and_eq_true, beq_iff_eq] at c56q; have c56p := eq_true c56q; clear c56q))
              (try (have c56b1 : decide (t369 = 0 && (t370 == 0 && (t371 == 0 && (t372.toList == ([] : List UInt8) && (t373.toList == ([] : List UInt8)))))) = true := by simpa using c56))
              (try (have c56b2 : (t369 == 0 && (t370 == 0 && (t371 == 0 && (t372.toList == ([] : List UInt8) && (t373.toList == ([] : List UInt8)))))) = true := by simpa using c56))
              clear c56
              replace H := Option.bind_eq_some_iff.mp H
              obtain ⟨t383, A570, H⟩ := H
              replace H : (some t383) = some r := H
              have A57 := Aside0.mk A570
              clear A570
              obtain rfl := Option.some.inj H
              go_wp2_with (first | ((with_reducible refine gate_callee (f := 30) rfl ?_); refine goesL_ (some 24) rfl rfl Tryd.func30 (by kernel_rfl) rfl #[.string t368] rfl (by (try simp only [List.map_toArray, List.map_cons, List.map_nil]); first | done | rfl | (simp only [List.length_drop, List.length_take]; rfl) | (simp only [w64_u8]; rfl)) ?_; (with_reducible refine (spec_SecOk.calls kj4 t368 false _ A23.out).mono ?_); rintro e w58 ⟨rfl, hb⟩; refine ⟨_, rfl, ?_⟩; have n0_ := Aside0.mk (blk_below (g := gb374) (o := .cells #[.int .i64 t369, .int .i64 t370, .int .i64 t371, .string t372, .string t373] 37 (0, 0)) (by (with_reducible repeat (first | refine blk_drewN ?_ _ | refine blk_drew ?_ | refine blk_alloc ?_ _)); exact BK374.out) hb); have n1_ := Aside0.mk (below_step (by repeat (first | (with_reducible first | exact HB.out | apply below_alloc | apply pw_below_drewN | apply below_drew1 | refine below_set ?_ GE374.out) | exact HB.out)) hb); clear BK374; clear HB; have BK374 := n0_; have HB := n1_; clear n0_ n1_; (try clear hb); (try clear hb2); (try clear hk); (try clear hi); have hcz59_0 : w58.cell? ⟨gb374, 0, none⟩ = some (.int .i64 t369) := (blk_cell BK374.out 0).trans rfl; have hcz59_1 : w58.cell? ⟨gb374, 1, none⟩ = some (.int .i64 t370) := (blk_cell BK374.out 1).trans rfl; have hcz59_2 : w58.cell? ⟨gb374, 2, none⟩ = some (.int .i64 t371) := (blk_cell BK374.out 2).trans rfl; have hcz59_3 : w58.cell? ⟨gb374, 3, none⟩ = some (.string t372) := (blk_cell BK374.out 3).trans rfl; have hcz59_4 : w58.cell? ⟨gb374, 4, none⟩ = some (.string t373) := (blk_cell BK374.out 4).trans rfl; have hfz59_0 := blk_frozen BK374.out 0; have hfz59_1 := blk_frozen BK374.out 1; have hfz59_2 := blk_frozen BK374.out 2; have hfz59_3 := blk_frozen BK374.out 3; have hfz59_4 := blk_frozen BK374.out 4) | (go_at_call 18; (with_reducible refine (laws_keOk.calls  t383 _ ?side1 A57.out).mono ?_); (case side1 => exact GlobOk.below HGL.out (by repeat (first | (with_reducible first | exact HB.out | apply below_alloc | apply pw_below_drewN | apply below_drew1 | refine below_set ?_ GE374.out) | exact HB.out))); rintro e w60 ⟨rfl, hb⟩; have n0_ := Aside0.mk (blk_below (g := gb374) (o := .cells #[.int .i64 t369, .int .i64 t370, .int .i64 t371, .string t372, .string t373] 37 (0, 0)) (by (with_reducible repeat (first | refine blk_drewN ?_ _ | refine blk_drew ?_ | refine blk_alloc ?_ _)); exact BK374.out) hb); have n1_ := Aside0.mk (below_step (by repeat (first | (with_reducible first | exact HB.out | apply below_alloc | apply pw_below_drewN | apply below_drew1 | refine below_set ?_ GE374.out) | exact HB.out)) hb); clear BK374; clear HB; have BK374 := n0_; have HB := n1_; clear n0_ n1_; (try clear hb); (try clear hb2); (try clear hk); (try clear hi)))
              go_ret
              exact ⟨by first | rfl | (simp [errW_none, errW_some] <;> rfl) | (simp [*, errW_none, errW_some] <;> rfl), by repeat (first | (with_reducible first | exact HB.out | apply below_alloc | apply pw_below_drewN | apply below_drew1 | refine below_set ?_ GE374.out) | exact HB.out)⟩
            · rw [if_neg c56] at H
              have c56b0 : (t369 == 0 && (t370 == 0 && (t371 == 0 && (t372.toList == ([] : List UInt8) && (t373.toList == ([] : List UInt8)))))) = false := by simpa using c56
              (try (have c56q := c56; simp only [Bool.and_eq_true, beq_iff_eq] at c56q; have c56p := eq_false c56q; clear c56q))
              (try (have c56b1 : decide (t369 = 0 && (t370 == 0 && (t371 == 0 && (t372.toList == ([] : List UInt8) && (t373.toList == ([] : List UInt8)))))) = false := by simpa using c56))
              (try (have c56b2 : (t369 == 0 && (t370 == 0 && (t371 == 0 && (t372.toList == ([] : List UInt8) && (t373.toList == ([] : List UInt8)))))) = false := by simpa using c56))
              (try (have c56b3 : ¬ (t369 = 0 && (t370 == 0 && (t371 == 0 && (t372.toList == ([] : List UInt8) && (t373.toList == ([] : List UInt8)))))) := by simpa using c56))
              clear c56
              obtain rfl := Option.some.inj H
              go_wp2_with (first | ((with_reducible refine gate_callee (f := 30) rfl ?_); refine goesL_ (some 24) rfl rfl Tryd.func30 (by kernel_rfl) rfl #[.string t368] rfl (by (try simp only [List.map_toArray, List.map_cons, List.map_nil]); first | done | rfl | (simp only [List.length_drop, List.length_take]; rfl) | (simp only [w64_u8]; rfl)) ?_; (with_reducible refine (spec_SecOk.calls kj4 t368 false _ A23.out).mono ?_); rintro e w61 ⟨rfl, hb⟩; refine ⟨_, rfl, ?_⟩; have n0_ := Aside0.mk (blk_below (g := gb374) (o := .cells #[.int .i64 t369, .int .i64 t370, .int .i64 t371, .string t372, .string t373] 37 (0, 0)) (by (with_reducible repeat (first | refine blk_drewN ?_ _ | refine blk_drew ?_ | refine blk_alloc ?_ _)); exact BK374.out) hb); have n1_ := Aside0.mk (below_step (by repeat (first | (with_reducible first | exact HB.out | apply below_alloc | apply pw_below_drewN | apply below_drew1 | refine below_set ?_ GE374.out) | exact HB.out)) hb); clear BK374; clear HB; have BK374 := n0_; have HB := n1_; clear n0_ n1_; (try clear hb); (try clear hb2); (try clear hk); (try clear hi); have hcz62_0 : w61.cell? ⟨gb374, 0, none⟩ = some (.int .i64 t369) := (blk_cell BK374.out 0).trans rfl; have hcz62_1 : w61.cell? ⟨gb374, 1, none⟩ = some (.int .i64 t370) := (blk_cell BK374.out 1).trans rfl; have hcz62_2 : w61.cell? ⟨gb374, 2, none⟩ = some (.int .i64 t371) := (blk_cell BK374.out 2).trans rfl; have hcz62_3 : w61.cell? ⟨gb374, 3, none⟩ = some (.string t372) := (blk_cell BK374.out 3).trans rfl; have hcz62_4 : w61.cell? ⟨gb374, 4, none⟩ = some (.string t373) := (blk_cell BK374.out 4).trans rfl; have hfz62_0 := blk_frozen BK374.out 0; have hfz62_1 := blk_frozen BK374.out 1; have hfz62_2 := blk_frozen BK374.out 2; have hfz62_3 := blk_frozen BK374.out 3; have hfz62_4 := blk_frozen BK374.out 4))
              go_ret
              exact ⟨by first | rfl | (simp [errW_none, errW_some] <;> rfl) | (simp [*, errW_none, errW_some] <;> rfl), by repeat (first | (with_reducible first | exact HB.out | apply below_alloc | apply pw_below_drewN | apply below_drew1 | refine below_set ?_ GE374.out) | exact HB.out)⟩

/-- THE ONE PURE STATEMENT of laws_FnSecMade: yours. -/
def laws_FnSecMade.Pure : Prop := ∀ (l0 : List Int), l0.length ≤ maxLen → l0.length * 1 ≤ 140737488351232 → (∀ x ∈ l0, (Lit.int .u8 x).wf = true) → ∃ k, laws_FnSecMade.f k l0 = some true
theorem laws_FnSecMade.walk (P : laws_FnSecMade.Pure) (a0 : Option Addr) (len0 cap0 : Nat) (z0 : List Int) (w : World) (w0 : (a0 = none ∧ len0 = 0 ∧ cap0 = 0 ∧ z0 = []) ∨ ∃ x, a0 = some x ∧ len0 ≤ cap0 ∧ cap0 ≤ maxLen ∧ z0.length = cap0 ∧ (∀ i, i < z0.length → w.cell? (x.add i) = some (.int .u8 (z0.getD i 0))) ∧ ∀ n ∈ z0, (Lit.int .u8 n).wf = true) (y0 : len0 * 1 ≤ 140737488351232) (hG : GlobOk w) :
    Calls Tryd.prog 11 #[.slice a0 len0 cap0] w fun e w' => e = .returned (.bool true) ∧ Below w.heap.size w w' := by
  obtain ⟨l0, rfl, hr0, hm0, hw0, hc0⟩ := ReadsInt.ofRowC w0
  obtain ⟨k, h⟩ := P l0 hm0 y0 hw0
  refine (laws_FnSecMade.calls k _ _ l0 true w (Kd.C_of_reads (d := (0 : Int)) (h1 := fun _ => rfl) hr0) hc0 hG h).mono ?_
  rintro e w' ⟨rfl, hd⟩
  exact ⟨rfl, hd⟩

end Go.Proofs.YtdcaipomjimplaaDoor.Wa
