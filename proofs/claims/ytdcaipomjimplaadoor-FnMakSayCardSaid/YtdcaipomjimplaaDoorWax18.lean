-- Written by this session's own program (wip/tools/pp.py) out of the translation, over functions given by hand. Lean checks it.
import Derived.Test.YtdcaipomjimplaaDoorWax0
import Derived.Test.YtdcaipomjimplaaDoorWax6
import Derived.Test.YtdcaipomjimplaaDoorWax7
import Derived.Test.YtdcaipomjimplaaDoorWax12
namespace Go.Proofs.YtdcaipomjimplaaDoor.Wa
open Go.RowKit Go.Proofs.YtdcaipomjimplaaDoorW.PrintWords Go.Proofs.YtdcaipomjimplaaDoorW.PrintLast Go.Proofs.YtdcaipomjimplaaDoorW.PrintMore
attribute [local go_sem] max2_int min2_int max_two min_two max_three min_three max_four min_four   -- for this text's walks alone
set_option linter.unusedVariables false
set_option linter.unusedSimpArgs false

/-! ### spec_DrawMakRoom: function 45 -/
def spec_DrawMakRoom.f (k : Nat) (l0 : List Int) : Option (ByteArray × Int) := (spec_l20Open.f l0).bind fun bt299 => ((spec_l20SecretOr.f k bt299.1 bt299.2 5).bind fun bt302 => ((spec_l20Rd_pick.f k bt299.1 bt302.2 9).bind fun bt304 => ((some (([wrap64 (1 + bt304.1), 0, 10] : List Int) : List Int)).bind fun y306 => ((some (([0, 0, 0, 1, 2] : List Int) : List Int)).bind fun y309 => ((spec_l20Rd_pick.f k bt299.1 bt304.2 5).bind fun bt312 => (if 0 ≤ bt312.1 then (if bt312.1 < (y309.length : Int) then (if 0 ≤ (rd y309 bt312.1) then (if (rd y309 bt312.1) < (y306.length : Int) then (some (bt302.1, rd y306 (rd y309 bt312.1))) else (none)) else (none)) else (none)) else (none)))))))
theorem spec_DrawMakRoom.mono : ∀ a0 k, LeO (spec_DrawMakRoom.f k a0) (spec_DrawMakRoom.f (k + 1) a0) := by
  intro a0 k
  unfold spec_DrawMakRoom.f
  repeat' first
      | (with_reducible exact spec_l20Rd_pick.mono _ _ _ _)
      | (with_reducible exact spec_l20SecretOr.mono _ _ _ _)
      | (with_reducible exact LeO.refl _)
      | (with_reducible exact LeO.none _)
      | (with_reducible refine LeO.ite ?_ ?_)
      | (with_reducible refine LeO.bind ?_ (fun _ => ?_))
      | exact spec_l20Rd_pick.mono _ _ _ _
      | exact spec_l20SecretOr.mono _ _ _ _
      | exact LeO.none _
      | refine LeO.ite ?_ ?_
      | refine LeO.bind ?_ (fun _ => ?_)
def spec_DrawMakRoom.T2 : Bool × List (List Nat × List Nat) := (true, [([], []), ([0], [0]), ([], []), ([2, 1], [2]), ([3], [3]), ([4], [4]), ([], []), ([], []), ([7, 3], [7]), ([6, 8], [6, 8]), ([9], [9]), ([5, 10], [5, 10]), ([11], [11]), ([1, 8, 0, 1], [1]), ([12, 13, 0, 1, 2, 3, 4, 5, 6, 7, 8, 9, 10, 11, 12, 13], [12])])
def spec_DrawMakRoom.B2 : List Nat := [0, 1, 0, 7, 15, 31, 0, 0, 143, 463, 975, 2047, 4095, 399, 16383]
theorem spec_DrawMakRoom.tab2 : rtab .any (opsOf Tryd.f45 2) = spec_DrawMakRoom.T2 := by kernel_rfl
theorem spec_DrawMakRoom.bits2 : waitsOk spec_DrawMakRoom.T2.2 spec_DrawMakRoom.B2 = true := by kernel_rfl
set_option maxHeartbeats 8000000 in
set_option maxRecDepth 100000 in
theorem spec_DrawMakRoom.calls (k : Nat) (A0 : Option Addr) (c0 : Nat) (l0 : List Int) (r1 : ByteArray) (r2 : Int) (w : World) (hr0 : Kd.C (Kd.int .u8) w A0 l0.length l0) (hc0 : l0.length ≤ c0) (h : spec_DrawMakRoom.f k l0 = some (r1, r2)) :
    Calls Tryd.prog 45 #[.slice A0 l0.length c0] w fun e w' => e = .returned (.tuple #[.string r1, .int .i64 r2]) ∧ Below w.heap.size w w' := by
  have HR0 := Aside0.mk hr0
  have HC0 := Aside0.mk hc0
  clear hr0 hc0
  have HB := Aside0.mk (Below.refl w.heap.size w)
  have H : ((spec_l20Open.f l0).bind fun bt299 => ((spec_l20SecretOr.f k bt299.1 bt299.2 5).bind fun bt302 => ((spec_l20Rd_pick.f k bt299.1 bt302.2 9).bind fun bt304 => ((some (([wrap64 (1 + bt304.1), 0, 10] : List Int) : List Int)).bind fun y306 => ((some (([0, 0, 0, 1, 2] : List Int) : List Int)).bind fun y309 => ((spec_l20Rd_pick.f k bt299.1 bt304.2 5).bind fun bt312 => (if 0 ≤ bt312.1 then (if bt312.1 < (y309.length : Int) then (if 0 ≤ (rd y309 bt312.1) then (if (rd y309 bt312.1) < (y306.length : Int) then (some (bt302.1, rd y306 (rd y309 bt312.1))) else (none)) else (none)) else (none)) else (none)))))))) = some (r1, r2) := h
  clear h
  replace H := Option.bind_eq_some_iff.mp H
  obtain ⟨⟨t299, t300⟩, A20, H⟩ := H
  replace H : ((spec_l20SecretOr.f k t299 t300 5).bind fun bt302 => ((spec_l20Rd_pick.f k t299 bt302.2 9).bind fun bt304 => ((some (([wrap64 (1 + bt304.1), 0, 10] : List Int) : List Int)).bind fun y306 => ((some (([0, 0, 0, 1, 2] : List Int) : List Int)).bind fun y309 => ((spec_l20Rd_pick.f k t299 bt304.2 5).bind fun bt312 => (if 0 ≤ bt312.1 then (if bt312.1 < (y309.length : Int) then (if 0 ≤ (rd y309 bt312.1) then (if (rd y309 bt312.1) < (y306.length : Int) then (some (bt302.1, rd y306 (rd y309 bt312.1))) else (none)) else (none)) else (none)) else (none))))))) = some (r1, r2) := H
  have A2 := Aside0.mk A20
  clear A20
  replace H := Option.bind_eq_some_iff.mp H
  obtain ⟨⟨t302, t303⟩, A30, H⟩ := H
  replace H : ((spec_l20Rd_pick.f k t299 t303 9).bind fun bt304 => ((some (([wrap64 (1 + bt304.1), 0, 10] : List Int) : List Int)).bind fun y306 => ((some (([0, 0, 0, 1, 2] : List Int) : List Int)).bind fun y309 => ((spec_l20Rd_pick.f k t299 bt304.2 5).bind fun bt312 => (if 0 ≤ bt312.1 then (if bt312.1 < (y309.length : Int) then (if 0 ≤ (rd y309 bt312.1) then (if (rd y309 bt312.1) < (y306.length : Int) then (some (t302, rd y306 (rd y309 bt312.1))) else (none)) else (none)) else (none)) else (none)))))) = some (r1, r2) := H
  have A3 := Aside0.mk A30
  clear A30
  replace H := Option.bind_eq_some_iff.mp H
  obtain ⟨⟨t304, t305⟩, A40, H⟩ := H
  replace H : ((some (([wrap64 (1 + t304), 0, 10] : List Int) : List Int)).bind fun y306 => ((some (([0, 0, 0, 1, 2] : List Int) : List Int)).bind fun y309 => ((spec_l20Rd_pick.f k t299 t305 5).bind fun bt312 => (if 0 ≤ bt312.1 then (if bt312.1 < (y309.length : Int) then (if 0 ≤ (rd y309 bt312.1) then (if (rd y309 bt312.1) < (y306.length : Int) then (some (t302, rd y306 (rd y309 bt312.1))) else (none)) else (none)) else (none)) else (none))))) = some (r1, r2) := H
  have A4 := Aside0.mk A40
  clear A40
  obtain ⟨y306, hy306⟩ : ∃ y_ : List Int, y_ = (([wrap64 (1 + t304), 0, 10] : List Int)) := ⟨_, rfl⟩
  replace H : ((some (([0, 0, 0, 1, 2] : List Int) : List Int)).bind fun y309 => ((spec_l20Rd_pick.f k t299 t305 5).bind fun bt312 => (if 0 ≤ bt312.1 then (if bt312.1 < (y309.length : Int) then (if 0 ≤ (rd y309 bt312.1) then (if (rd y309 bt312.1) < (y306.length : Int) then (some (t302, rd y306 (rd y309 bt312.1))) else (none)) else (none)) else (none)) else (none)))) = some (r1, r2) := by first | (rw [hy306]; with_reducible exact H) | (have H2_ := (Option.bind_some _ _).symm.trans H; rw [hy306]; with_reducible exact H2_) | (have H2_ := (Option.bind_some _ _).symm.trans H; with_reducible exact H2_) | with_reducible exact H | (rw [hy306]; exact H) | exact H
  have Ny306 := Aside0.mk hy306
  clear hy306
  obtain ⟨y309, hy309⟩ : ∃ y_ : List Int, y_ = (([0, 0, 0, 1, 2] : List Int)) := ⟨_, rfl⟩
  replace H : ((spec_l20Rd_pick.f k t299 t305 5).bind fun bt312 => (if 0 ≤ bt312.1 then (if bt312.1 < (y309.length : Int) then (if 0 ≤ (rd y309 bt312.1) then (if (rd y309 bt312.1) < (y306.length : Int) then (some (t302, rd y306 (rd y309 bt312.1))) else (none)) else (none)) else (none)) else (none))) = some (r1, r2) := by first | (rw [hy309]; with_reducible exact H) | (have H2_ := (Option.bind_some _ _).symm.trans H; rw [hy309]; with_reducible exact H2_) | (have H2_ := (Option.bind_some _ _).symm.trans H; with_reducible exact H2_) | with_reducible exact H | (rw [hy309]; exact H) | exact H
  have Ny309 := Aside0.mk hy309
  clear hy309
  replace H := Option.bind_eq_some_iff.mp H
  obtain ⟨⟨t312, t313⟩, A50, H⟩ := H
  replace H : (if 0 ≤ t312 then (if t312 < (y309.length : Int) then (if 0 ≤ (rd y309 t312) then (if (rd y309 t312) < (y306.length : Int) then (some (t302, rd y306 (rd y309 t312))) else (none)) else (none)) else (none)) else (none)) = some (r1, r2) := H
  have A5 := Aside0.mk A50
  clear A50
  by_cases c6 : 0 ≤ t312
  · rw [if_pos c6] at H
    have c6b0 : decide (0 ≤ t312) = true := decide_eq_true c6
    clear c6
    by_cases c7 : t312 < (y309.length : Int)
    · rw [if_pos c7] at H
      have c7b0 : decide (t312 < (y309.length : Int)) = true := decide_eq_true c7
      clear c7
      by_cases c8 : 0 ≤ (rd y309 t312)
      · rw [if_pos c8] at H
        have c8b0 : decide (0 ≤ (rd y309 t312)) = true := decide_eq_true c8
        clear c8
        by_cases c9 : (rd y309 t312) < (y306.length : Int)
        · rw [if_pos c9] at H
          have c9b0 : decide ((rd y309 t312) < (y306.length : Int)) = true := decide_eq_true c9
          clear c9
          simp only [Option.some.injEq, Prod.mk.injEq] at H
          obtain ⟨rfl, rfl⟩ := H
          go_enter Tryd.func45, Tryd.ntmps45
          try go_wp2_with (first | ((with_reducible refine gate_callee (f := 65) rfl ?_); refine goesL_ (some 6) rfl rfl Tryd.func65 (by kernel_rfl) rfl #[.slice A0 l0.length c0] rfl (by (try simp only [List.map_toArray, List.map_cons, List.map_nil]); first | done | rfl | (simp only [List.length_drop, List.length_take]; rfl) | (simp only [w64_u8]; rfl)) ?_; (with_reducible refine (spec_l20Open.calls _ _ l0 t299 t300 w _ ?side1 ?side2 ?side3 A2.out).mono ?_); (case side1 => repeat (first | (with_reducible first | exact HB.out | apply below_alloc | apply pw_below_drewN | apply below_drew1) | exact HB.out)); (case side2 => exact HR0.out); (case side3 => exact HC0.out); rintro e w10 ⟨g301, rfl, hi, hb, hb2⟩; refine ⟨_, rfl, ?_⟩; have n0_ := Aside0.mk (hb); have n1_ := Aside0.mk (hi); clear HB; have HB := n0_; have HI301 := n1_; clear n0_ n1_; (try clear hb); (try clear hb2); (try clear hk); (try clear hi)))
          have pi314 : (0 ≤ (t312 : Int)) = True := eq_true (of_decide_eq_true (by first | (with_reducible assumption) | assumption))
          have qi314 : (t312 < (y309.length : Int)) = True := eq_true (of_decide_eq_true (by first | (with_reducible assumption) | assumption))
          have pi315 : (0 ≤ ((rd y309 t312) : Int)) = True := eq_true (of_decide_eq_true (by first | (with_reducible assumption) | assumption))
          have qi315 : ((rd y309 t312) < (y306.length : Int)) = True := eq_true (of_decide_eq_true (by first | (with_reducible assumption) | assumption))
          have n0_ := Aside0.mk (IsS81.drew HI301.out)
          have n1_ := Aside0.mk (below_drew1 HB.out)
          clear HI301
          clear HB
          have HI301 := n0_
          have HB := n1_
          clear n0_ n1_
          refine start_ (n := 15) (S := fun w' => True) (ds := []) #[false, false, false, false, false, false, false, false, false, false, false, false, false, false, false] (by kernel_rfl) rfl rfl trivial (fun hHeld => ?_); refine with_tabW spec_DrawMakRoom.tab2 spec_DrawMakRoom.bits2 (fun HT_ HW_ => ?_)
          generalize w10.drew = w11 at HI301 HB hHeld ⊢
          refine pure_ (i := 0) (N := some 7) (v := ?_) (a' := ?_) #[true, false, false, false, false, false, false, false, false, false, false, false, false, false, false] rfl rfl (any_of HT_.out (by kernel_rfl)) (fun _ _ _ h => h) (Or.inl ⟨by rfl, ?_⟩) ?_ ?_
          rotate_left
          · intro w'
            go_simp
            with_reducible rfl
          rotate_left
          · simp only [Act.put, List.setIfInBounds_toArray, List.set_cons_zero, List.set_cons_succ, i64_w, i32_w]
            rfl
          refine pure_ (i := 2) (N := some 9) (v := ?_) (a' := ?_) #[true, false, true, false, false, false, false, false, false, false, false, false, false, false, false] rfl rfl (any_of HT_.out (by kernel_rfl)) (fun _ _ _ h => h) (Or.inl ⟨by rfl, ?_⟩) ?_ ?_
          rotate_left
          · intro w'
            go_simp
            with_reducible rfl
          rotate_left
          · simp only [Act.put, List.setIfInBounds_toArray, List.set_cons_zero, List.set_cons_succ, i64_w, i32_w]
            rfl
          refine pure_ (i := 7) (N := some 14) (v := ?_) (a' := ?_) #[true, false, true, false, false, false, false, true, false, false, false, false, false, false, false] rfl rfl (any_of HT_.out (by kernel_rfl)) (fun _ _ _ h => h) (Or.inl ⟨by rfl, ?_⟩) ?_ ?_
          rotate_left
          · intro w'
            go_simp
            with_reducible rfl
          rotate_left
          · simp only [Act.put, List.setIfInBounds_toArray, List.set_cons_zero, List.set_cons_succ, i64_w, i32_w]
            rfl
          refine inv_at [1, 3, 4, 5, 6, 8, 9, 10, 11, 12, 13, 14] (fun a0_ b a w' => ∃ (v307 : Value) (adz_v307 : Addr) (v310 : Value) (adz_v310 : Addr) (m9_ : Value) (m11_ : Value), a = putSel a0_ b [(1, 8, .string t302), (3, 10, .int .i64 t304), (4, 11, .int .i64 (wrap64 (1 + t304))), (5, 12, v307), (6, 13, v310), (8, 15, .int .i64 t312), (9, 16, m9_), (10, 17, .int .i64 (rd y309 t312)), (11, 18, m11_), (12, 19, .int .i64 (rd y306 (rd y309 t312))), (13, 2, .string t302), (14, 3, .int .i64 (rd y306 (rd y309 t312)))] ∧ (b 1 = false → IsS81 w w' g301 t299 t300) ∧ (Below w.heap.size w w') ∧ (b 1 = true → b 3 = false → IsS81 w w' g301 t299 t303) ∧ (b 3 = true → b 8 = false → IsS81 w w' g301 t299 t305) ∧ (b 5 = true → Kd.R (Kd.int .i64) 3 w' w.heap.size (fun _ => True) v307 y306) ∧ (b 5 = true → ∃ c_, (v307 : Value) = .slice (some adz_v307) y306.length c_) ∧ (b 6 = true → Kd.R (Kd.int .i64) 3 w' w.heap.size (fun _ => True) v310 y309) ∧ (b 6 = true → ∃ c_, (v310 : Value) = .slice (some adz_v310) y309.length c_) ∧ (b 8 = true → IsS81 w w' g301 t299 t313) ∧ (b 9 = true → (m9_ : Value) = .pointer (some (adz_v310.add (t312).toNat))) ∧ (b 11 = true → (m11_ : Value) = .pointer (some (adz_v307.add ((rd y309 t312)).toNat)))) HT_.out HW_.out (by kernel_rfl) (by kernel_rfl) ?_ ?_ ?_
          · exact ⟨.bool false, ⟨0, 0, none⟩, .bool false, ⟨0, 0, none⟩, .bool false, .bool false, by simp only [putSel, Bool.false_eq_true, if_false], fun _ => HI301.out, HB.out, fun h_ => absurd h_ (by decide), fun h_ => absurd h_ (by decide), fun h_ => absurd h_ (by decide), fun h_ => absurd h_ (by decide), fun h_ => absurd h_ (by decide), fun h_ => absurd h_ (by decide), fun h_ => absurd h_ (by decide), fun h_ => absurd h_ (by decide), fun h_ => absurd h_ (by decide)⟩
          · skip
            clear HB HI301
            refine steps_cons ?_ ?_
            · rintro b a w' ⟨v307, adz_v307, v310, adz_v310, m9_, m11_, ha, Q_HI301, Q_HB, Q_HI301_e1, Q_HI301_e3, Q_HO308, Q_HA_HO308, Q_HO311, Q_HA_HO311, Q_HI301_e8, Q_X9_, Q_X11_⟩ hb_ hon hoff
              refine ⟨_, rfl, fun K hK => ?_⟩
              have e7 : a.tmps[7]? = some (.pointer (some ⟨g301, 0, none⟩)) := by rw [ha]; exact (putSel_off rfl).trans rfl
              replace ha := Aside0.mk ha
              have HI301 := Aside0.mk (Q_HI301 hb_)
              have HB := Aside0.mk Q_HB
              refine goes_ Tryd.func70 (by kernel_rfl) rfl #[.pointer (some ⟨g301, 0, none⟩), .int .i64 5] (by rfl) rfl rfl (by first | (simp only [List.map_toArray, List.map_cons, List.map_nil, Act.eval, Array.getD_eq_getD_getElem?, Option.getD_some, e7]; done) | (simp only [List.map_toArray, List.map_cons, List.map_nil, Act.eval, Array.getD_eq_getD_getElem?, Option.getD_some, e7]; rfl)) ?_
              with_reducible refine (spec_l20SecretOr.calls k g301 t299 t300 5 t302 t303 w _ ?side1 ?side2 A3.out).mono ?_
              (case side1 => repeat (first | (with_reducible first | exact HI301.out | apply IsS81.alloc | apply IsS81.drewN | apply IsS81.drew | apply IsS81.set_1) | exact HI301.out))
              (case side2 => repeat (first | (with_reducible first | exact HB.out | apply below_alloc | apply pw_below_drewN | apply below_drew1 | refine below_set ?_ (IsS81.ge HI301.out)) | exact HB.out))
              rintro e w12 ⟨rfl, hi, hb, hk⟩
              refine ⟨_, rfl, ?_⟩
              have n0_ := Aside0.mk (hb)
              have n1_ := Aside0.mk (hi)
              have z_HO311 := fun (h0_ : b 6 = true) => (show Kd.R (Kd.int .i64) 3 w12 w.heap.size (fun _ => True) v310 y309 from by first | exact (Kd.R_mono (Kd.R_keep (IsS81.apart (show IsS81 w _ g301 t299 t300 from by repeat (first | (with_reducible first | exact HI301.out | apply IsS81.alloc | apply IsS81.drewN | apply IsS81.drew | apply IsS81.set_1) | exact HI301.out)) (by (with_reducible repeat (first | apply Kd.R_alloc | apply Kd.R_drewN | apply Kd.R_drew)); exact (Q_HO311 h0_)) (by decide)) hk (fun _ h => h.2)) (fun _ h => h.1)) | exact Kd.R_mono (Kd.R_mono (Kd.R_keep (IsS81.apart (show IsS81 w _ g301 t299 t300 from by repeat (first | (with_reducible first | exact HI301.out | apply IsS81.alloc | apply IsS81.drewN | apply IsS81.drew | apply IsS81.set_1) | exact HI301.out)) (by (with_reducible repeat (first | apply Kd.R_alloc | apply Kd.R_drewN | apply Kd.R_drew)); exact (Q_HO311 h0_)) (by decide)) hk (fun _ h => h.2)) (fun _ h => h.1)) (fun _ h_ => by first | trivial | exact h_ | exact h_.1))
              clear HB
              clear HI301
              have HB := n0_
              have HI301 := n1_
              clear n0_ n1_
              (try clear hb)
              (try clear hb2)
              (try clear hk)
              (try clear hi)
              refine hK.out _ _ ⟨v307, adz_v307, v310, adz_v310, m9_, m11_, (by rw [ha.out]; exact putSel_upk 0 hb_ rfl rfl rfl), fun h0_ => absurd ((up_self b 1).symm.trans h0_) (by decide), (by repeat (first | (with_reducible first | exact HB.out | apply below_alloc | apply pw_below_drewN | apply below_drew1 | refine below_set ?_ (IsS81.ge HI301.out)) | exact HB.out)), fun _ _ => (by repeat (first | (with_reducible first | exact HI301.out | apply IsS81.alloc | apply IsS81.drewN | apply IsS81.drew | apply IsS81.set_1) | exact HI301.out)), fun h0_ _ => absurd ((hoff 3 (by kernel_rfl)).symm.trans h0_) (by decide), fun h0_ => absurd ((hoff 5 (by kernel_rfl)).symm.trans h0_) (by decide), fun h0_ => absurd ((hoff 5 (by kernel_rfl)).symm.trans h0_) (by decide), z_HO311, Q_HA_HO311, fun h0_ => absurd ((hoff 8 (by kernel_rfl)).symm.trans h0_) (by decide), fun h0_ => absurd ((hoff 9 (by kernel_rfl)).symm.trans h0_) (by decide), fun h0_ => absurd ((hoff 11 (by kernel_rfl)).symm.trans h0_) (by decide)⟩
            refine steps_cons ?_ ?_
            · rintro b a w' ⟨v307, adz_v307, v310, adz_v310, m9_, m11_, ha, Q_HI301, Q_HB, Q_HI301_e1, Q_HI301_e3, Q_HO308, Q_HA_HO308, Q_HO311, Q_HA_HO311, Q_HI301_e8, Q_X9_, Q_X11_⟩ hb_ hon hoff
              refine ⟨_, rfl, fun K hK => ?_⟩
              have e9 : a.tmps[9]? = some (.pointer (some ⟨g301, 0, none⟩)) := by rw [ha]; exact (putSel_off rfl).trans rfl
              replace ha := Aside0.mk ha
              have HB := Aside0.mk Q_HB
              have HI301 := Aside0.mk (Q_HI301_e1 (hon 1 (by kernel_rfl)) hb_)
              refine goes_ Tryd.func81 (by kernel_rfl) rfl #[.pointer (some ⟨g301, 0, none⟩), .int .i64 9] (by rfl) rfl rfl (by first | (simp only [List.map_toArray, List.map_cons, List.map_nil, Act.eval, Array.getD_eq_getD_getElem?, Option.getD_some, e9]; done) | (simp only [List.map_toArray, List.map_cons, List.map_nil, Act.eval, Array.getD_eq_getD_getElem?, Option.getD_some, e9]; rfl)) ?_
              with_reducible refine (spec_l20Rd_pick.calls k g301 t299 t303 9 t304 t305 w _ ?side1 ?side2 A4.out).mono ?_
              (case side1 => repeat (first | (with_reducible first | exact HI301.out | apply IsS81.alloc | apply IsS81.drewN | apply IsS81.drew | apply IsS81.set_1) | exact HI301.out))
              (case side2 => repeat (first | (with_reducible first | exact HB.out | apply below_alloc | apply pw_below_drewN | apply below_drew1 | refine below_set ?_ (IsS81.ge HI301.out)) | exact HB.out))
              rintro e w14 ⟨rfl, hi, hb, hk⟩
              refine ⟨_, rfl, ?_⟩
              have n0_ := Aside0.mk (hb)
              have n1_ := Aside0.mk (hi)
              have z_HO311 := fun (h0_ : b 6 = true) => (show Kd.R (Kd.int .i64) 3 w14 w.heap.size (fun _ => True) v310 y309 from by first | exact (Kd.R_mono (Kd.R_keep (IsS81.apart (show IsS81 w _ g301 t299 t303 from by repeat (first | (with_reducible first | exact HI301.out | apply IsS81.alloc | apply IsS81.drewN | apply IsS81.drew | apply IsS81.set_1) | exact HI301.out)) (by (with_reducible repeat (first | apply Kd.R_alloc | apply Kd.R_drewN | apply Kd.R_drew)); exact (Q_HO311 h0_)) (by decide)) hk (fun _ h => h.2)) (fun _ h => h.1)) | exact Kd.R_mono (Kd.R_mono (Kd.R_keep (IsS81.apart (show IsS81 w _ g301 t299 t303 from by repeat (first | (with_reducible first | exact HI301.out | apply IsS81.alloc | apply IsS81.drewN | apply IsS81.drew | apply IsS81.set_1) | exact HI301.out)) (by (with_reducible repeat (first | apply Kd.R_alloc | apply Kd.R_drewN | apply Kd.R_drew)); exact (Q_HO311 h0_)) (by decide)) hk (fun _ h => h.2)) (fun _ h => h.1)) (fun _ h_ => by first | trivial | exact h_ | exact h_.1))
              clear HB
              clear HI301
              have HB := n0_
              have HI301 := n1_
              clear n0_ n1_
              (try clear hb)
              (try clear hb2)
              (try clear hk)
              (try clear hi)
              refine hK.out _ _ ⟨v307, adz_v307, v310, adz_v310, m9_, m11_, (by rw [ha.out]; exact putSel_upk 1 hb_ rfl rfl rfl), fun h0_ => absurd ((hon 1 (by kernel_rfl)).symm.trans h0_) (by decide), (by repeat (first | (with_reducible first | exact HB.out | apply below_alloc | apply pw_below_drewN | apply below_drew1 | refine below_set ?_ (IsS81.ge HI301.out)) | exact HB.out)), fun _ h1_ => absurd ((up_self b 3).symm.trans h1_) (by decide), fun _ _ => (by repeat (first | (with_reducible first | exact HI301.out | apply IsS81.alloc | apply IsS81.drewN | apply IsS81.drew | apply IsS81.set_1) | exact HI301.out)), fun h0_ => absurd ((hoff 5 (by kernel_rfl)).symm.trans h0_) (by decide), fun h0_ => absurd ((hoff 5 (by kernel_rfl)).symm.trans h0_) (by decide), z_HO311, Q_HA_HO311, fun h0_ => absurd ((hoff 8 (by kernel_rfl)).symm.trans h0_) (by decide), fun h0_ => absurd ((hoff 9 (by kernel_rfl)).symm.trans h0_) (by decide), fun h0_ => absurd ((hoff 11 (by kernel_rfl)).symm.trans h0_) (by decide)⟩
            refine steps_cons ?_ ?_
            · rintro b a w' ⟨v307, adz_v307, v310, adz_v310, m9_, m11_, ha, Q_HI301, Q_HB, Q_HI301_e1, Q_HI301_e3, Q_HO308, Q_HA_HO308, Q_HO311, Q_HA_HO311, Q_HI301_e8, Q_X9_, Q_X11_⟩ hb_ hon hoff
              refine ⟨_, rfl, fun K hK => ?_⟩
              have e10 : a.tmps[10]? = some (.int .i64 t304) := by rw [ha]; exact putSel_on (e := (3, 10, .int .i64 t304)) 1 rfl rfl (hon 3 (by kernel_rfl)) rfl
              replace ha := Aside0.mk ha
              have HB := Aside0.mk Q_HB
              refine value_ (w1 := w') (v := .int .i64 (wrap64 (1 + t304))) (by rfl) rfl ?_ ?_
              · go_simp
                (try simp only [i64_w])
                try rfl
              refine hK.out _ _ ⟨v307, adz_v307, v310, adz_v310, m9_, m11_, (by rw [ha.out]; exact putSel_upk 2 hb_ rfl rfl rfl), fun h0_ => absurd ((hon 1 (by kernel_rfl)).symm.trans h0_) (by decide), Q_HB, fun _ h1_ => absurd ((hon 3 (by kernel_rfl)).symm.trans h1_) (by decide), Q_HI301_e3, fun h0_ => absurd ((hoff 5 (by kernel_rfl)).symm.trans h0_) (by decide), fun h0_ => absurd ((hoff 5 (by kernel_rfl)).symm.trans h0_) (by decide), Q_HO311, Q_HA_HO311, Q_HI301_e8, Q_X9_, fun h0_ => absurd ((hoff 11 (by kernel_rfl)).symm.trans h0_) (by decide)⟩
            refine steps_cons ?_ ?_
            · rintro b a w' ⟨v307, adz_v307, v310, adz_v310, m9_, m11_, ha, Q_HI301, Q_HB, Q_HI301_e1, Q_HI301_e3, Q_HO308, Q_HA_HO308, Q_HO311, Q_HA_HO311, Q_HI301_e8, Q_X9_, Q_X11_⟩ hb_ hon hoff
              refine ⟨_, rfl, fun K hK => ?_⟩
              have e11 : a.tmps[11]? = some (.int .i64 (wrap64 (1 + t304))) := by rw [ha]; exact putSel_on (e := (4, 11, .int .i64 (wrap64 (1 + t304)))) 2 rfl rfl (hon 4 (by kernel_rfl)) rfl
              replace ha := Aside0.mk ha
              have HB := Aside0.mk Q_HB
              refine Kd.R_lit_step (Kd.int .i64) _ 3 ?hg (N := 12) ?hd (xs := ([wrap64 (1 + t304), 0, 10] : List Int)) (inner := [.int .i64 (wrap64 (1 + t304)), .int .i64 0, .int .i64 10]) (ok := fun _ => True) (okp := fun _ => True) ?hr ?hp (fun _ hk => hk) trivial (Below.refl _ _) (Nat.le_refl _) (by simp) ?_; (case hd => rfl); (case hg => rfl); (case hr => first | (go_simp; done) | (go_simp; rfl)); (case hp => exact (Reps.one (show Kd.M (Kd.int .i64) _ _ _ (wrap64 (1 + t304)) [.int .i64 (wrap64 (1 + t304))] from rfl) (Reps.one (show Kd.M (Kd.int .i64) _ _ _ 0 [.int .i64 0] from rfl) (Reps.one (show Kd.M (Kd.int .i64) _ _ _ 10 [.int .i64 10] from rfl) (Reps.none _ _)))))
              intro v307 w15 ho16 hb hg_ hnew_
              clear hg_ hnew_
              (first | rw [← Ny306.out] at ho16 | (simp only [Int.reduceToNat] at ho16; rw [← Ny306.out] at ho16))
              have n0_ := Aside0.mk (Kd.R_lower ho16 (below_size (by repeat (first | (with_reducible first | exact HB.out | apply below_alloc | apply pw_below_drewN | apply below_drew1) | exact HB.out))))
              have n2_ := Aside0.mk (below_step (by repeat (first | (with_reducible first | exact HB.out | apply below_alloc | apply pw_below_drewN | apply below_drew1) | exact HB.out)) hb)
              have z_HI301_e3 := fun (h0_ : b 3 = true) (h1_ : b 8 = false) => (show IsS81 w w15 g301 t299 t305 from by first | exact (IsS81.below (by repeat (first | (with_reducible first | exact (Q_HI301_e3 h0_ h1_) | apply IsS81.alloc | apply IsS81.drewN | apply IsS81.drew | apply IsS81.set_1) | exact (Q_HI301_e3 h0_ h1_))) hb))
              have z_HO311 := fun (h0_ : b 6 = true) => (show Kd.R (Kd.int .i64) 3 w15 w.heap.size (fun _ => True) v310 y309 from by first | exact (Kd.R_elder' (by (with_reducible repeat (first | apply Kd.R_alloc | apply Kd.R_drewN | apply Kd.R_drew)); exact (Q_HO311 h0_)) (Kd.R_base ho16) hb) | exact Kd.R_mono (Kd.R_elder' (by (with_reducible repeat (first | apply Kd.R_alloc | apply Kd.R_drewN | apply Kd.R_drew)); exact (Q_HO311 h0_)) (Kd.R_base ho16) hb) (fun _ h_ => by first | trivial | exact h_ | exact h_.1))
              have z_HI301_e8 := fun (h0_ : b 8 = true) => (show IsS81 w w15 g301 t299 t313 from by first | exact (IsS81.below (by repeat (first | (with_reducible first | exact (Q_HI301_e8 h0_) | apply IsS81.alloc | apply IsS81.drewN | apply IsS81.drew | apply IsS81.set_1) | exact (Q_HI301_e8 h0_))) hb))
              clear HB
              have HO308 := n0_
              have HB := n2_
              clear n0_ n2_
              clear hb ho16
              obtain ⟨Ao17, co17, eo17⟩ := Kd.R_slice HO308.out
              subst eo17
              obtain ⟨ado17, fo17, _⟩ := Kd.at_int (Kd.R_reads' HO308.out).2.2 0 (by decide) (by rw [Ny306.out]; simp)
              cases fo17
              refine hK.out _ _ ⟨.slice (some ado17) y306.length co17, ado17, v310, adz_v310, m9_, m11_, (by rw [ha.out]; exact putSel_upk 3 hb_ rfl rfl rfl), fun h0_ => absurd ((hon 1 (by kernel_rfl)).symm.trans h0_) (by decide), (by repeat (first | (with_reducible first | exact HB.out | apply below_alloc | apply pw_below_drewN | apply below_drew1) | exact HB.out)), fun _ h1_ => absurd ((hon 3 (by kernel_rfl)).symm.trans h1_) (by decide), z_HI301_e3, fun _ => (by (with_reducible repeat (first | apply Kd.R_alloc | apply Kd.R_drewN | apply Kd.R_drew)); exact HO308.out), fun _ => ⟨_, rfl⟩, z_HO311, Q_HA_HO311, z_HI301_e8, Q_X9_, fun h0_ => absurd ((hoff 11 (by kernel_rfl)).symm.trans h0_) (by decide)⟩
            refine steps_cons ?_ ?_
            · rintro b a w' ⟨v307, adz_v307, v310, adz_v310, m9_, m11_, ha, Q_HI301, Q_HB, Q_HI301_e1, Q_HI301_e3, Q_HO308, Q_HA_HO308, Q_HO311, Q_HA_HO311, Q_HI301_e8, Q_X9_, Q_X11_⟩ hb_ hon hoff
              refine ⟨_, rfl, fun K hK => ?_⟩
              replace ha := Aside0.mk ha
              have HB := Aside0.mk Q_HB
              refine Kd.R_lit_step (Kd.int .i64) _ 3 ?hg (N := 13) ?hd (xs := ([0, 0, 0, 1, 2] : List Int)) (inner := [.int .i64 0, .int .i64 0, .int .i64 0, .int .i64 1, .int .i64 2]) (ok := fun _ => True) (okp := fun _ => True) ?hr ?hp (fun _ hk => hk) trivial (Below.refl _ _) (Nat.le_refl _) (by simp) ?_; (case hd => rfl); (case hg => rfl); (case hr => first | (go_simp; done) | (go_simp; rfl)); (case hp => exact (Reps.one (show Kd.M (Kd.int .i64) _ _ _ 0 [.int .i64 0] from rfl) (Reps.one (show Kd.M (Kd.int .i64) _ _ _ 0 [.int .i64 0] from rfl) (Reps.one (show Kd.M (Kd.int .i64) _ _ _ 0 [.int .i64 0] from rfl) (Reps.one (show Kd.M (Kd.int .i64) _ _ _ 1 [.int .i64 1] from rfl) (Reps.one (show Kd.M (Kd.int .i64) _ _ _ 2 [.int .i64 2] from rfl) (Reps.none _ _)))))))
              intro v310 w12 ho13 hb hg_ hnew_
              clear hg_ hnew_
              (first | rw [← Ny309.out] at ho13 | (simp only [Int.reduceToNat] at ho13; rw [← Ny309.out] at ho13))
              have n0_ := Aside0.mk (Kd.R_lower ho13 (below_size (by repeat (first | (with_reducible first | exact HB.out | apply below_alloc | apply pw_below_drewN | apply below_drew1) | exact HB.out))))
              have n2_ := Aside0.mk (below_step (by repeat (first | (with_reducible first | exact HB.out | apply below_alloc | apply pw_below_drewN | apply below_drew1) | exact HB.out)) hb)
              have z_HI301 := fun (h0_ : b 1 = false) => (show IsS81 w w12 g301 t299 t300 from by first | exact (IsS81.below (by repeat (first | (with_reducible first | exact (Q_HI301 h0_) | apply IsS81.alloc | apply IsS81.drewN | apply IsS81.drew | apply IsS81.set_1) | exact (Q_HI301 h0_))) hb))
              have z_HI301_e1 := fun (h0_ : b 1 = true) (h1_ : b 3 = false) => (show IsS81 w w12 g301 t299 t303 from by first | exact (IsS81.below (by repeat (first | (with_reducible first | exact (Q_HI301_e1 h0_ h1_) | apply IsS81.alloc | apply IsS81.drewN | apply IsS81.drew | apply IsS81.set_1) | exact (Q_HI301_e1 h0_ h1_))) hb))
              have z_HI301_e3 := fun (h0_ : b 3 = true) (h1_ : b 8 = false) => (show IsS81 w w12 g301 t299 t305 from by first | exact (IsS81.below (by repeat (first | (with_reducible first | exact (Q_HI301_e3 h0_ h1_) | apply IsS81.alloc | apply IsS81.drewN | apply IsS81.drew | apply IsS81.set_1) | exact (Q_HI301_e3 h0_ h1_))) hb))
              have z_HO308 := fun (h0_ : b 5 = true) => (show Kd.R (Kd.int .i64) 3 w12 w.heap.size (fun _ => True) v307 y306 from by first | exact (Kd.R_elder' (by (with_reducible repeat (first | apply Kd.R_alloc | apply Kd.R_drewN | apply Kd.R_drew)); exact (Q_HO308 h0_)) (Kd.R_base ho13) hb) | exact Kd.R_mono (Kd.R_elder' (by (with_reducible repeat (first | apply Kd.R_alloc | apply Kd.R_drewN | apply Kd.R_drew)); exact (Q_HO308 h0_)) (Kd.R_base ho13) hb) (fun _ h_ => by first | trivial | exact h_ | exact h_.1))
              have z_HI301_e8 := fun (h0_ : b 8 = true) => (show IsS81 w w12 g301 t299 t313 from by first | exact (IsS81.below (by repeat (first | (with_reducible first | exact (Q_HI301_e8 h0_) | apply IsS81.alloc | apply IsS81.drewN | apply IsS81.drew | apply IsS81.set_1) | exact (Q_HI301_e8 h0_))) hb))
              clear HB
              have HO311 := n0_
              have HB := n2_
              clear n0_ n2_
              clear hb ho13
              obtain ⟨Ao14, co14, eo14⟩ := Kd.R_slice HO311.out
              subst eo14
              obtain ⟨ado14, fo14, _⟩ := Kd.at_int (Kd.R_reads' HO311.out).2.2 0 (by decide) (by rw [Ny309.out]; simp)
              cases fo14
              refine hK.out _ _ ⟨v307, adz_v307, .slice (some ado14) y309.length co14, ado14, m9_, m11_, (by rw [ha.out]; exact putSel_upk 4 hb_ rfl rfl rfl), z_HI301, (by repeat (first | (with_reducible first | exact HB.out | apply below_alloc | apply pw_below_drewN | apply below_drew1) | exact HB.out)), z_HI301_e1, z_HI301_e3, z_HO308, Q_HA_HO308, fun _ => (by (with_reducible repeat (first | apply Kd.R_alloc | apply Kd.R_drewN | apply Kd.R_drew)); exact HO311.out), fun _ => ⟨_, rfl⟩, z_HI301_e8, fun h0_ => absurd ((hoff 9 (by kernel_rfl)).symm.trans h0_) (by decide), fun h0_ => absurd ((hoff 11 (by kernel_rfl)).symm.trans h0_) (by decide)⟩
            refine steps_cons ?_ ?_
            · rintro b a w' ⟨v307, adz_v307, v310, adz_v310, m9_, m11_, ha, Q_HI301, Q_HB, Q_HI301_e1, Q_HI301_e3, Q_HO308, Q_HA_HO308, Q_HO311, Q_HA_HO311, Q_HI301_e8, Q_X9_, Q_X11_⟩ hb_ hon hoff
              refine ⟨_, rfl, fun K hK => ?_⟩
              have e14 : a.tmps[14]? = some (.pointer (some ⟨g301, 0, none⟩)) := by rw [ha]; exact (putSel_off rfl).trans rfl
              replace ha := Aside0.mk ha
              have HB := Aside0.mk Q_HB
              have HI301 := Aside0.mk (Q_HI301_e3 (hon 3 (by kernel_rfl)) hb_)
              refine goes_ Tryd.func81 (by kernel_rfl) rfl #[.pointer (some ⟨g301, 0, none⟩), .int .i64 5] (by rfl) rfl rfl (by first | (simp only [List.map_toArray, List.map_cons, List.map_nil, Act.eval, Array.getD_eq_getD_getElem?, Option.getD_some, e14]; done) | (simp only [List.map_toArray, List.map_cons, List.map_nil, Act.eval, Array.getD_eq_getD_getElem?, Option.getD_some, e14]; rfl)) ?_
              with_reducible refine (spec_l20Rd_pick.calls k g301 t299 t305 5 t312 t313 w _ ?side1 ?side2 A5.out).mono ?_
              (case side1 => repeat (first | (with_reducible first | exact HI301.out | apply IsS81.alloc | apply IsS81.drewN | apply IsS81.drew | apply IsS81.set_1) | exact HI301.out))
              (case side2 => repeat (first | (with_reducible first | exact HB.out | apply below_alloc | apply pw_below_drewN | apply below_drew1 | refine below_set ?_ (IsS81.ge HI301.out)) | exact HB.out))
              rintro e w15 ⟨rfl, hi, hb, hk⟩
              refine ⟨_, rfl, ?_⟩
              have n0_ := Aside0.mk (hb)
              have n1_ := Aside0.mk (hi)
              have z_HO308 := fun (h0_ : b 5 = true) => (show Kd.R (Kd.int .i64) 3 w15 w.heap.size (fun _ => True) v307 y306 from by first | exact (Kd.R_mono (Kd.R_keep (IsS81.apart (show IsS81 w _ g301 t299 t305 from by repeat (first | (with_reducible first | exact HI301.out | apply IsS81.alloc | apply IsS81.drewN | apply IsS81.drew | apply IsS81.set_1) | exact HI301.out)) (by (with_reducible repeat (first | apply Kd.R_alloc | apply Kd.R_drewN | apply Kd.R_drew)); exact (Q_HO308 h0_)) (by decide)) hk (fun _ h => h.2)) (fun _ h => h.1)) | exact Kd.R_mono (Kd.R_mono (Kd.R_keep (IsS81.apart (show IsS81 w _ g301 t299 t305 from by repeat (first | (with_reducible first | exact HI301.out | apply IsS81.alloc | apply IsS81.drewN | apply IsS81.drew | apply IsS81.set_1) | exact HI301.out)) (by (with_reducible repeat (first | apply Kd.R_alloc | apply Kd.R_drewN | apply Kd.R_drew)); exact (Q_HO308 h0_)) (by decide)) hk (fun _ h => h.2)) (fun _ h => h.1)) (fun _ h_ => by first | trivial | exact h_ | exact h_.1))
              have z_HO311 := fun (h0_ : b 6 = true) => (show Kd.R (Kd.int .i64) 3 w15 w.heap.size (fun _ => True) v310 y309 from by first | exact (Kd.R_mono (Kd.R_keep (IsS81.apart (show IsS81 w _ g301 t299 t305 from by repeat (first | (with_reducible first | exact HI301.out | apply IsS81.alloc | apply IsS81.drewN | apply IsS81.drew | apply IsS81.set_1) | exact HI301.out)) (by (with_reducible repeat (first | apply Kd.R_alloc | apply Kd.R_drewN | apply Kd.R_drew)); exact (Q_HO311 h0_)) (by decide)) hk (fun _ h => h.2)) (fun _ h => h.1)) | exact Kd.R_mono (Kd.R_mono (Kd.R_keep (IsS81.apart (show IsS81 w _ g301 t299 t305 from by repeat (first | (with_reducible first | exact HI301.out | apply IsS81.alloc | apply IsS81.drewN | apply IsS81.drew | apply IsS81.set_1) | exact HI301.out)) (by (with_reducible repeat (first | apply Kd.R_alloc | apply Kd.R_drewN | apply Kd.R_drew)); exact (Q_HO311 h0_)) (by decide)) hk (fun _ h => h.2)) (fun _ h => h.1)) (fun _ h_ => by first | trivial | exact h_ | exact h_.1))
              clear HB
              clear HI301
              have HB := n0_
              have HI301 := n1_
              clear n0_ n1_
              (try clear hb)
              (try clear hb2)
              (try clear hk)
              (try clear hi)
              refine hK.out _ _ ⟨v307, adz_v307, v310, adz_v310, m9_, m11_, (by rw [ha.out]; exact putSel_upk 5 hb_ rfl rfl rfl), fun h0_ => absurd ((hon 1 (by kernel_rfl)).symm.trans h0_) (by decide), (by repeat (first | (with_reducible first | exact HB.out | apply below_alloc | apply pw_below_drewN | apply below_drew1 | refine below_set ?_ (IsS81.ge HI301.out)) | exact HB.out)), fun _ h1_ => absurd ((hon 3 (by kernel_rfl)).symm.trans h1_) (by decide), fun _ h1_ => absurd ((up_self b 8).symm.trans h1_) (by decide), z_HO308, Q_HA_HO308, z_HO311, Q_HA_HO311, fun _ => (by repeat (first | (with_reducible first | exact HI301.out | apply IsS81.alloc | apply IsS81.drewN | apply IsS81.drew | apply IsS81.set_1) | exact HI301.out)), fun h0_ => absurd ((hoff 9 (by kernel_rfl)).symm.trans h0_) (by decide), fun h0_ => absurd ((hoff 11 (by kernel_rfl)).symm.trans h0_) (by decide)⟩
            refine steps_cons ?_ ?_
            · rintro b a w' ⟨v307, adz_v307, v310, adz_v310, m9_, m11_, ha, Q_HI301, Q_HB, Q_HI301_e1, Q_HI301_e3, Q_HO308, Q_HA_HO308, Q_HO311, Q_HA_HO311, Q_HI301_e8, Q_X9_, Q_X11_⟩ hb_ hon hoff
              refine ⟨_, rfl, fun K hK => ?_⟩
              have e13 : a.tmps[13]? = some (v310) := by rw [ha]; exact putSel_on (e := (6, 13, v310)) 4 rfl rfl (hon 6 (by kernel_rfl)) rfl
              have e15 : a.tmps[15]? = some (.int .i64 t312) := by rw [ha]; exact putSel_on (e := (8, 15, .int .i64 t312)) 5 rfl rfl (hon 8 (by kernel_rfl)) rfl
              replace ha := Aside0.mk ha
              have HB := Aside0.mk Q_HB
              have HO311 := Aside0.mk (Q_HO311 (hon 6 (by kernel_rfl)))
              have HA_HO311 := Aside0.mk (Q_HA_HO311 (hon 6 (by kernel_rfl)))
              have HI301 := Aside0.mk (Q_HI301_e8 (hon 8 (by kernel_rfl)))
              obtain ⟨c_, hv_⟩ := HA_HO311.out
              rw [hv_] at e13
              refine value_ (w1 := w') (v := .pointer (some (adz_v310.add (t312).toNat))) (by rfl) rfl ?_ ?_
              · go_simp
                (try simp only [i64_w])
                try rfl
              refine hK.out _ _ ⟨v307, adz_v307, v310, adz_v310, (.pointer (some (adz_v310.add (t312).toNat))), m11_, (by rw [ha.out]; exact putSel_upk 6 hb_ rfl rfl rfl), fun h0_ => absurd ((hon 1 (by kernel_rfl)).symm.trans h0_) (by decide), Q_HB, fun _ h1_ => absurd ((hon 3 (by kernel_rfl)).symm.trans h1_) (by decide), fun _ h1_ => absurd ((hon 8 (by kernel_rfl)).symm.trans h1_) (by decide), Q_HO308, Q_HA_HO308, Q_HO311, Q_HA_HO311, Q_HI301_e8, fun _ => rfl, fun h0_ => absurd ((hoff 11 (by kernel_rfl)).symm.trans h0_) (by decide)⟩
            refine steps_cons ?_ ?_
            · rintro b a w' ⟨v307, adz_v307, v310, adz_v310, m9_, m11_, ha, Q_HI301, Q_HB, Q_HI301_e1, Q_HI301_e3, Q_HO308, Q_HA_HO308, Q_HO311, Q_HA_HO311, Q_HI301_e8, Q_X9_, Q_X11_⟩ hb_ hon hoff
              refine ⟨_, rfl, fun K hK => ?_⟩
              have e16 : a.tmps[16]? = some (m9_) := by rw [ha]; exact putSel_on (e := (9, 16, m9_)) 6 rfl rfl (hon 9 (by kernel_rfl)) rfl
              rw [Q_X9_ (hon 9 (by kernel_rfl))] at e16
              replace ha := Aside0.mk ha
              have HB := Aside0.mk Q_HB
              have HO311 := Aside0.mk (Q_HO311 (hon 6 (by kernel_rfl)))
              have HA_HO311 := Aside0.mk (Q_HA_HO311 (hon 6 (by kernel_rfl)))
              have HI301 := Aside0.mk (Q_HI301_e8 (hon 8 (by kernel_rfl)))
              obtain ⟨c_, hv_⟩ := HA_HO311.out
              have hF_ := HO311.out
              rw [hv_] at hF_
              obtain ⟨ad_, ea_, hx_⟩ := Kd.at_int (Kd.R_reads' hF_).2.2 t312 (of_eq_true pi314) (of_eq_true qi314)
              cases ea_
              refine value_ (w1 := w') (v := .int .i64 (rd y309 t312)) (by rfl) rfl ?_ ?_
              · go_simp
                (try simp only [i64_w])
                try rfl
              refine hK.out _ _ ⟨v307, adz_v307, v310, adz_v310, m9_, m11_, (by rw [ha.out]; exact putSel_upk 7 hb_ rfl rfl rfl), fun h0_ => absurd ((hon 1 (by kernel_rfl)).symm.trans h0_) (by decide), Q_HB, fun _ h1_ => absurd ((hon 3 (by kernel_rfl)).symm.trans h1_) (by decide), fun _ h1_ => absurd ((hon 8 (by kernel_rfl)).symm.trans h1_) (by decide), Q_HO308, Q_HA_HO308, Q_HO311, Q_HA_HO311, Q_HI301_e8, Q_X9_, fun h0_ => absurd ((hoff 11 (by kernel_rfl)).symm.trans h0_) (by decide)⟩
            refine steps_cons ?_ ?_
            · rintro b a w' ⟨v307, adz_v307, v310, adz_v310, m9_, m11_, ha, Q_HI301, Q_HB, Q_HI301_e1, Q_HI301_e3, Q_HO308, Q_HA_HO308, Q_HO311, Q_HA_HO311, Q_HI301_e8, Q_X9_, Q_X11_⟩ hb_ hon hoff
              refine ⟨_, rfl, fun K hK => ?_⟩
              have e12 : a.tmps[12]? = some (v307) := by rw [ha]; exact putSel_on (e := (5, 12, v307)) 3 rfl rfl (hon 5 (by kernel_rfl)) rfl
              have e17 : a.tmps[17]? = some (.int .i64 (rd y309 t312)) := by rw [ha]; exact putSel_on (e := (10, 17, .int .i64 (rd y309 t312))) 7 rfl rfl (hon 10 (by kernel_rfl)) rfl
              replace ha := Aside0.mk ha
              have HB := Aside0.mk Q_HB
              have HO308 := Aside0.mk (Q_HO308 (hon 5 (by kernel_rfl)))
              have HA_HO308 := Aside0.mk (Q_HA_HO308 (hon 5 (by kernel_rfl)))
              have HO311 := Aside0.mk (Q_HO311 (hon 6 (by kernel_rfl)))
              have HA_HO311 := Aside0.mk (Q_HA_HO311 (hon 6 (by kernel_rfl)))
              have HI301 := Aside0.mk (Q_HI301_e8 (hon 8 (by kernel_rfl)))
              obtain ⟨c_, hv_⟩ := HA_HO308.out
              rw [hv_] at e12
              refine value_ (w1 := w') (v := .pointer (some (adz_v307.add ((rd y309 t312)).toNat))) (by rfl) rfl ?_ ?_
              · go_simp
                (try simp only [i64_w])
                try rfl
              refine hK.out _ _ ⟨v307, adz_v307, v310, adz_v310, m9_, (.pointer (some (adz_v307.add ((rd y309 t312)).toNat))), (by rw [ha.out]; exact putSel_upk 8 hb_ rfl rfl rfl), fun h0_ => absurd ((hon 1 (by kernel_rfl)).symm.trans h0_) (by decide), Q_HB, fun _ h1_ => absurd ((hon 3 (by kernel_rfl)).symm.trans h1_) (by decide), fun _ h1_ => absurd ((hon 8 (by kernel_rfl)).symm.trans h1_) (by decide), Q_HO308, Q_HA_HO308, Q_HO311, Q_HA_HO311, Q_HI301_e8, Q_X9_, fun _ => rfl⟩
            refine steps_cons ?_ ?_
            · rintro b a w' ⟨v307, adz_v307, v310, adz_v310, m9_, m11_, ha, Q_HI301, Q_HB, Q_HI301_e1, Q_HI301_e3, Q_HO308, Q_HA_HO308, Q_HO311, Q_HA_HO311, Q_HI301_e8, Q_X9_, Q_X11_⟩ hb_ hon hoff
              refine ⟨_, rfl, fun K hK => ?_⟩
              have e18 : a.tmps[18]? = some (m11_) := by rw [ha]; exact putSel_on (e := (11, 18, m11_)) 8 rfl rfl (hon 11 (by kernel_rfl)) rfl
              rw [Q_X11_ (hon 11 (by kernel_rfl))] at e18
              replace ha := Aside0.mk ha
              have HB := Aside0.mk Q_HB
              have HO308 := Aside0.mk (Q_HO308 (hon 5 (by kernel_rfl)))
              have HA_HO308 := Aside0.mk (Q_HA_HO308 (hon 5 (by kernel_rfl)))
              have HO311 := Aside0.mk (Q_HO311 (hon 6 (by kernel_rfl)))
              have HA_HO311 := Aside0.mk (Q_HA_HO311 (hon 6 (by kernel_rfl)))
              have HI301 := Aside0.mk (Q_HI301_e8 (hon 8 (by kernel_rfl)))
              obtain ⟨c_, hv_⟩ := HA_HO308.out
              have hF_ := HO308.out
              rw [hv_] at hF_
              obtain ⟨ad_, ea_, hx_⟩ := Kd.at_int (Kd.R_reads' hF_).2.2 (rd y309 t312) (of_eq_true pi315) (of_eq_true qi315)
              cases ea_
              refine value_ (w1 := w') (v := .int .i64 (rd y306 (rd y309 t312))) (by rfl) rfl ?_ ?_
              · go_simp
                (try simp only [i64_w])
                try rfl
              refine hK.out _ _ ⟨v307, adz_v307, v310, adz_v310, m9_, m11_, (by rw [ha.out]; exact putSel_upk 9 hb_ rfl rfl rfl), fun h0_ => absurd ((hon 1 (by kernel_rfl)).symm.trans h0_) (by decide), Q_HB, fun _ h1_ => absurd ((hon 3 (by kernel_rfl)).symm.trans h1_) (by decide), fun _ h1_ => absurd ((hon 8 (by kernel_rfl)).symm.trans h1_) (by decide), Q_HO308, Q_HA_HO308, Q_HO311, Q_HA_HO311, Q_HI301_e8, Q_X9_, Q_X11_⟩
            refine steps_cons ?_ ?_
            · rintro b a w' ⟨v307, adz_v307, v310, adz_v310, m9_, m11_, ha, Q_HI301, Q_HB, Q_HI301_e1, Q_HI301_e3, Q_HO308, Q_HA_HO308, Q_HO311, Q_HA_HO311, Q_HI301_e8, Q_X9_, Q_X11_⟩ hb_ hon hoff
              refine ⟨_, rfl, fun K hK => ?_⟩
              have e8 : a.tmps[8]? = some (.string t302) := by rw [ha]; exact putSel_on (e := (1, 8, .string t302)) 0 rfl rfl (hon 1 (by kernel_rfl)) rfl
              replace ha := Aside0.mk ha
              have HB := Aside0.mk Q_HB
              have HI301 := Aside0.mk (Q_HI301_e8 (hon 8 (by kernel_rfl)))
              refine value_ (w1 := w') (v := .string t302) (by rfl) rfl ?_ ?_
              · go_simp
                (try simp only [i64_w])
                try rfl
              refine hK.out _ _ ⟨v307, adz_v307, v310, adz_v310, m9_, m11_, (by rw [ha.out]; exact putSel_upk 10 hb_ rfl rfl rfl), fun h0_ => absurd ((hon 1 (by kernel_rfl)).symm.trans h0_) (by decide), Q_HB, fun _ h1_ => absurd ((hon 3 (by kernel_rfl)).symm.trans h1_) (by decide), fun _ h1_ => absurd ((hon 8 (by kernel_rfl)).symm.trans h1_) (by decide), Q_HO308, Q_HA_HO308, Q_HO311, Q_HA_HO311, Q_HI301_e8, Q_X9_, Q_X11_⟩
            refine steps_cons ?_ ?_
            · rintro b a w' ⟨v307, adz_v307, v310, adz_v310, m9_, m11_, ha, Q_HI301, Q_HB, Q_HI301_e1, Q_HI301_e3, Q_HO308, Q_HA_HO308, Q_HO311, Q_HA_HO311, Q_HI301_e8, Q_X9_, Q_X11_⟩ hb_ hon hoff
              refine ⟨_, rfl, fun K hK => ?_⟩
              have e19 : a.tmps[19]? = some (.int .i64 (rd y306 (rd y309 t312))) := by rw [ha]; exact putSel_on (e := (12, 19, .int .i64 (rd y306 (rd y309 t312)))) 9 rfl rfl (hon 12 (by kernel_rfl)) rfl
              replace ha := Aside0.mk ha
              have HB := Aside0.mk Q_HB
              have HO308 := Aside0.mk (Q_HO308 (hon 5 (by kernel_rfl)))
              have HA_HO308 := Aside0.mk (Q_HA_HO308 (hon 5 (by kernel_rfl)))
              have HO311 := Aside0.mk (Q_HO311 (hon 6 (by kernel_rfl)))
              have HA_HO311 := Aside0.mk (Q_HA_HO311 (hon 6 (by kernel_rfl)))
              have HI301 := Aside0.mk (Q_HI301_e8 (hon 8 (by kernel_rfl)))
              refine value_ (w1 := w') (v := .int .i64 (rd y306 (rd y309 t312))) (by rfl) rfl ?_ ?_
              · go_simp
                (try simp only [i64_w])
                try rfl
              refine hK.out _ _ ⟨v307, adz_v307, v310, adz_v310, m9_, m11_, (by rw [ha.out]; exact putSel_upk 11 hb_ rfl rfl rfl), fun h0_ => absurd ((hon 1 (by kernel_rfl)).symm.trans h0_) (by decide), Q_HB, fun _ h1_ => absurd ((hon 3 (by kernel_rfl)).symm.trans h1_) (by decide), fun _ h1_ => absurd ((hon 8 (by kernel_rfl)).symm.trans h1_) (by decide), Q_HO308, Q_HA_HO308, Q_HO311, Q_HA_HO311, Q_HI301_e8, Q_X9_, Q_X11_⟩
            exact steps_nil
          rintro b a w21 hall ⟨v307, adz_v307, v310, adz_v310, m9_, m11_, ha, Q_HI301, Q_HB, Q_HI301_e1, Q_HI301_e3, Q_HO308, Q_HA_HO308, Q_HO311, Q_HA_HO311, Q_HI301_e8, Q_X9_, Q_X11_⟩
          clear HB HI301
          have hb1_ := hall 1 (by kernel_rfl)
          have hb3_ := hall 3 (by kernel_rfl)
          have hb4_ := hall 4 (by kernel_rfl)
          have hb5_ := hall 5 (by kernel_rfl)
          have hb6_ := hall 6 (by kernel_rfl)
          have hb8_ := hall 8 (by kernel_rfl)
          have hb9_ := hall 9 (by kernel_rfl)
          have hb10_ := hall 10 (by kernel_rfl)
          have hb11_ := hall 11 (by kernel_rfl)
          have hb12_ := hall 12 (by kernel_rfl)
          have hb13_ := hall 13 (by kernel_rfl)
          have hb14_ := hall 14 (by kernel_rfl)
          subst ha
          obtain rfl := Q_X9_ hb9_
          obtain rfl := Q_X11_ hb11_
          simp only [putSel, hb1_, hb3_, hb4_, hb5_, hb6_, hb8_, hb9_, hb10_, hb11_, hb12_, hb13_, hb14_, if_true, Act.put, List.setIfInBounds_toArray, List.set_cons_zero, List.set_cons_succ]
          clear Q_HI301
          have HB := Aside0.mk Q_HB
          clear Q_HB
          clear Q_HI301_e1
          clear Q_HI301_e3
          have HO308 := Aside0.mk (Q_HO308 hb5_)
          clear Q_HO308
          have HA_HO308 := Aside0.mk (Q_HA_HO308 hb5_)
          clear Q_HA_HO308
          have HO311 := Aside0.mk (Q_HO311 hb6_)
          clear Q_HO311
          have HA_HO311 := Aside0.mk (Q_HA_HO311 hb6_)
          clear Q_HA_HO311
          have HI301 := Aside0.mk (Q_HI301_e8 hb8_)
          clear Q_HI301_e8
          clear hall hb1_ hb3_ hb4_ hb5_ hb6_ hb8_ hb9_ hb10_ hb11_ hb12_ hb13_ hb14_
          obtain ⟨co22, eo22⟩ := HA_HO308.out
          clear HA_HO308
          subst eo22
          obtain ⟨co23, eo23⟩ := HA_HO311.out
          clear HA_HO311
          subst eo23
          try go_wp2
          go_ret2
          exact ⟨by first | rfl | (simp [errW_none, errW_some] <;> rfl) | (simp [*, errW_none, errW_some] <;> rfl), by repeat (first | (with_reducible first | exact HB.out | apply below_alloc | apply pw_below_drewN | apply below_drew1 | refine below_set ?_ (IsS81.ge HI301.out)) | exact HB.out)⟩
        · rw [if_neg c9] at H
          exact absurd H (by simp)
      · rw [if_neg c8] at H
        exact absurd H (by simp)
    · rw [if_neg c7] at H
      exact absurd H (by simp)
  · rw [if_neg c6] at H
    exact absurd H (by simp)

end Go.Proofs.YtdcaipomjimplaaDoor.Wa
