-- Written by this session's own program (wip/tools/pp.py) out of the translation, over functions given by hand. Lean checks it.
import Derived.Test.YtdcaipomjimplaaDoorWcx0
import Derived.Test.YtdcaipomjimplaaDoorWcx1
import Derived.Test.YtdcaipomjimplaaDoorWcx3
import Derived.Test.YtdcaipomjimplaaDoorWcx5
namespace Go.Proofs.YtdcaipomjimplaaDoor.Wc
open Go.RowKit Go.Proofs.YtdcaipomjimplaaDoorW.PrintWords Go.Proofs.YtdcaipomjimplaaDoorW.PrintLast Go.Proofs.YtdcaipomjimplaaDoorW.PrintMore
attribute [local go_sem] max2_int min2_int max_two min_two max_three min_three max_four min_four   -- for this text's walks alone
set_option linter.unusedVariables false
set_option linter.unusedSimpArgs false

/-! ### spec_l20Rd_pick: function 81 -/
def spec_l20Rd_pick.j0 : Nat → Int → Bool → List Int → Int → Option (Int × Int)
  | 0, _, _, _, _ => none
  | k + 1, x1, x24, x1000, x1001 => if x24 = true then (some (0, x1001)) else (if (wrap64 (x1001 - 1)) < (x1000.length : Int) then (if 0 ≤ (wrap64 (x1001 - 1)) then (if x1 = 0 then (none) else (some (Int.tmod (wrap64 (rd x1000 (wrap64 (x1001 - 1)))) x1, x1001))) else (none)) else (if (x1000.length : Int) = 0 then (none) else (if 0 ≤ (Int.tmod (wrap64 (x1001 - 1)) (x1000.length : Int)) then (if (Int.tmod (wrap64 (x1001 - 1)) (x1000.length : Int)) < (x1000.length : Int) then (if 0 ≤ (Int.tmod (wrap64 ((wrap64 ((wrap64 (x1001 - 1)) * 7)) + 3)) (x1000.length : Int)) then (if (Int.tmod (wrap64 ((wrap64 ((wrap64 (x1001 - 1)) * 7)) + 3)) (x1000.length : Int)) < (x1000.length : Int) then (if x1 = 0 then (none) else (some (Int.tmod (Go.bits .xor .i64 (wrap64 ((wrap64 ((wrap64 ((wrap64 ((wrap64 (rd x1000 (Int.tmod (wrap64 (x1001 - 1)) (x1000.length : Int)))) * 131)) + (wrap64 ((wrap64 (rd x1000 (Int.tmod (wrap64 ((wrap64 ((wrap64 (x1001 - 1)) * 7)) + 3)) (x1000.length : Int)))) * 1117)))) + (wrap64 ((wrap64 (x1001 - 1)) * 29)))) + (wrap64 ((wrap64 (Int.tdiv (wrap64 (x1001 - 1)) (x1000.length : Int))) * 53)))) (wrap64 (Int.tdiv (wrap64 ((wrap64 ((wrap64 ((wrap64 ((wrap64 (rd x1000 (Int.tmod (wrap64 (x1001 - 1)) (x1000.length : Int)))) * 131)) + (wrap64 ((wrap64 (rd x1000 (Int.tmod (wrap64 ((wrap64 ((wrap64 (x1001 - 1)) * 7)) + 3)) (x1000.length : Int)))) * 1117)))) + (wrap64 ((wrap64 (x1001 - 1)) * 29)))) + (wrap64 ((wrap64 (Int.tdiv (wrap64 (x1001 - 1)) (x1000.length : Int))) * 53)))) 64))) x1, x1001))) else (none)) else (none)) else (none)) else (none))))
def spec_l20Rd_pick.f (k : Nat) (s0_0 : List Int) (s0_1 : Int) (a1 : Int) : Option (Int × Int) := if a1 < 1 then (spec_l20Rd_pick.j0 k a1 true s0_0 (wrap64 (s0_1 + 1))) else (spec_l20Rd_pick.j0 k a1 ((s0_0.length : Int) == 0) s0_0 (wrap64 (s0_1 + 1)))
theorem spec_l20Rd_pick.mono_l : ∀ k, (∀ y0 y1 y2 y3, LeO (spec_l20Rd_pick.j0 k y0 y1 y2 y3) (spec_l20Rd_pick.j0 (k + 1) y0 y1 y2 y3))
  | 0 => fun _ _ _ _ r h => by simp [spec_l20Rd_pick.j0] at h
  | k + 1 => by
    have ih0 := spec_l20Rd_pick.mono_l k
    · intro y0 y1 y2 y3
      unfold spec_l20Rd_pick.j0
      repeat' first
      | (with_reducible exact ih0 _ _ _ _)
      | (with_reducible exact LeO.refl _)
      | (with_reducible exact LeO.none _)
      | (with_reducible refine LeO.ite ?_ ?_)
      | (with_reducible refine LeO.bind ?_ (fun _ => ?_))
      | exact LeO.none _
      | refine LeO.ite ?_ ?_
      | refine LeO.bind ?_ (fun _ => ?_)
theorem spec_l20Rd_pick.mono : ∀ a0 a1 a2 k, LeO (spec_l20Rd_pick.f k a0 a1 a2) (spec_l20Rd_pick.f (k + 1) a0 a1 a2) := by
  intro a0 a1 a2 k; have ih0 := spec_l20Rd_pick.mono_l k; unfold spec_l20Rd_pick.f
  repeat' first
      | (with_reducible exact ih0 _ _ _ _)
      | (with_reducible exact LeO.refl _)
      | (with_reducible exact LeO.none _)
      | (with_reducible refine LeO.ite ?_ ?_)
      | (with_reducible refine LeO.bind ?_ (fun _ => ?_))
      | exact LeO.none _
      | refine LeO.ite ?_ ?_
      | refine LeO.bind ?_ (fun _ => ?_)
set_option maxHeartbeats 8000000 in
set_option maxRecDepth 100000 in
theorem spec_l20Rd_pick.calls (k : Nat) (g : Nat) (s0_0 : List Int) (s0_1 : Int) (a1 : Int) (r1 : Int) (r2 : Int) (w0 w : World) (hI : IsS81 w0 w g s0_0 s0_1) (hB : Below w0.heap.size w0 w) (h : spec_l20Rd_pick.f k s0_0 s0_1 a1 = some (r1, r2)) :
    Calls Tryd.prog 81 #[.pointer (some ⟨g, 0, none⟩), .int .i64 a1] w fun e w' => e = .returned (.int .i64 r1) ∧ IsS81 w0 w' g s0_0 r2 ∧ Below w0.heap.size w0 w' ∧ KeepBut w w' g none := by
  have HI0 := am_ hI; have HK := am_ (KeepBut.refl w g none); have HL := am_ hB.size; clear hI; have HW0 := am_ hB.size; have HB := am_ hB; clear hB; have H : (if a1 < 1 then (spec_l20Rd_pick.j0 k a1 true s0_0 (wrap64 (s0_1 + 1))) else (spec_l20Rd_pick.j0 k a1 ((s0_0.length : Int) == 0) s0_0 (wrap64 (s0_1 + 1)))) = some (r1, r2) := h; clear h; have HC3 := am_ H; clear H; obtain ⟨ASz4_0, cSz4_0, HGz4, hgz4, HSz4_0⟩ := HI0.out; have hcz4_0 := cellS81_0 HGz4; have hcz4_1 := cellS81_1 HGz4; have hfz4_1 := blk_frozen HGz4 1; clear HGz4 hgz4; go_enter Tryd.func81, Tryd.ntmps81
  go_upto_region 2 with (fail)
  repeat (go_quiet (fail); go_upto_region 2 with (fail))
  go_cut [24] (fun v24 wc => ∃ (kq : Nat) (x24_2 : Bool), v24 = .bool x24_2 ∧ Aside0 (spec_l20Rd_pick.j0 kq a1 x24_2 s0_0 (wrap64 (s0_1 + 1)) = some (r1, r2)) ∧ Aside0 (kq ≤ k) ∧ Aside0 (IsS81 w0 wc g s0_0 (wrap64 (s0_1 + 1))) ∧ Aside0 (KeepBut w wc g none) ∧ Aside0 (Below w0.heap.size w0 wc))
  case first =>
    have H := HC3.out; clear HC3; by_cases c5 : a1 < 1
    · rw [if_pos c5] at H
      have c5b0 : decide (a1 < 1) = true := decide_eq_true c5; clear c5; (first | rw [c5b0] | (simp only [i64_w, i32_w]; rw [c5b0]) | skip); have H' := am_ H; clear H; go_wp2
      repeat (go_quiet (fail); try go_wp2)
      go_meet
      case rel => exact ⟨_, (true), y4_, H', ⟨by first | omega | exact Nat.le_refl _⟩, ⟨y15_ HI0.out⟩, ⟨y9_ HK.out⟩, ⟨y8_ HB.out (IsS81.ge HI0.out)⟩⟩
    rw [if_neg c5] at H; have c5b0 : decide (a1 < 1) = false := decide_eq_false c5; clear c5; (first | rw [c5b0] | (simp only [i64_w, i32_w]; rw [c5b0]) | skip); have H' := am_ H; clear H; obtain ⟨ASz6_0, cSz6_0, HGz6, hgz6, HSz6_0⟩ := HI0.out; have hcz6_0 := cellS81_0 HGz6; have hcz6_1 := cellS81_1 HGz6; have hfz6_1 := blk_frozen HGz6 1; clear HGz6 hgz6; go_wp2
    repeat (go_quiet (fail); try go_wp2)
    go_meet
    case rel => exact ⟨_, (((s0_0.length : Int) == 0)), y4_, H', ⟨by first | omega | exact Nat.le_refl _⟩, ⟨y15_ HI0.out⟩, ⟨y9_ HK.out⟩, ⟨y8_ HB.out (IsS81.ge HI0.out)⟩⟩
  case rest =>
    clear HC3; (try clear p2); (try clear c5); (try clear c5b0); (try clear p6); (try clear hcz4_0); (try clear hcz4_1); (try clear hcz6_0); (try clear hcz6_1); (try clear hfz4_1); (try clear hfz6_1); obtain ⟨kq, x24_2, rfl, HA, HJ2, HI0, HK, HB⟩ := hcut
    cases kq with
    | zero => exact absurd HA.out (by simp [spec_l20Rd_pick.j0])
    | succ kj2 =>
      have H := HA.out; clear HA; simp only [spec_l20Rd_pick.j0] at H; by_cases c7 : x24_2 = true
      · subst c7
        have H1 : (some (0, (wrap64 (s0_1 + 1)))) = some (r1, r2) := by rw [if_pos rfl] at H; exact H
        clear H; have H := H1; clear H1; simp only [Option.some.injEq, Prod.mk.injEq] at H; obtain ⟨rfl, rfl⟩ := H; go_wp2
        repeat (go_quiet (fail); try go_wp2)
        go_ret; exact ⟨y6_, y15_ HI0.out, y8_ HB.out (IsS81.ge HI0.out), y9_ HK.out⟩
      replace c7 := Bool.eq_false_iff.mpr c7; subst c7
      have H1 : (if (wrap64 ((wrap64 (s0_1 + 1)) - 1)) < (s0_0.length : Int) then (if 0 ≤ (wrap64 ((wrap64 (s0_1 + 1)) - 1)) then (if a1 = 0 then (none) else (some (Int.tmod (wrap64 (rd s0_0 (wrap64 ((wrap64 (s0_1 + 1)) - 1)))) a1, (wrap64 (s0_1 + 1))))) else (none)) else (if (s0_0.length : Int) = 0 then (none) else (if 0 ≤ (Int.tmod (wrap64 ((wrap64 (s0_1 + 1)) - 1)) (s0_0.length : Int)) then (if (Int.tmod (wrap64 ((wrap64 (s0_1 + 1)) - 1)) (s0_0.length : Int)) < (s0_0.length : Int) then (if 0 ≤ (Int.tmod (wrap64 ((wrap64 ((wrap64 ((wrap64 (s0_1 + 1)) - 1)) * 7)) + 3)) (s0_0.length : Int)) then (if (Int.tmod (wrap64 ((wrap64 ((wrap64 ((wrap64 (s0_1 + 1)) - 1)) * 7)) + 3)) (s0_0.length : Int)) < (s0_0.length : Int) then (if a1 = 0 then (none) else (some (Int.tmod (Go.bits .xor .i64 (wrap64 ((wrap64 ((wrap64 ((wrap64 ((wrap64 (rd s0_0 (Int.tmod (wrap64 ((wrap64 (s0_1 + 1)) - 1)) (s0_0.length : Int)))) * 131)) + (wrap64 ((wrap64 (rd s0_0 (Int.tmod (wrap64 ((wrap64 ((wrap64 ((wrap64 (s0_1 + 1)) - 1)) * 7)) + 3)) (s0_0.length : Int)))) * 1117)))) + (wrap64 ((wrap64 ((wrap64 (s0_1 + 1)) - 1)) * 29)))) + (wrap64 ((wrap64 (Int.tdiv (wrap64 ((wrap64 (s0_1 + 1)) - 1)) (s0_0.length : Int))) * 53)))) (wrap64 (Int.tdiv (wrap64 ((wrap64 ((wrap64 ((wrap64 ((wrap64 (rd s0_0 (Int.tmod (wrap64 ((wrap64 (s0_1 + 1)) - 1)) (s0_0.length : Int)))) * 131)) + (wrap64 ((wrap64 (rd s0_0 (Int.tmod (wrap64 ((wrap64 ((wrap64 ((wrap64 (s0_1 + 1)) - 1)) * 7)) + 3)) (s0_0.length : Int)))) * 1117)))) + (wrap64 ((wrap64 ((wrap64 (s0_1 + 1)) - 1)) * 29)))) + (wrap64 ((wrap64 (Int.tdiv (wrap64 ((wrap64 (s0_1 + 1)) - 1)) (s0_0.length : Int))) * 53)))) 64))) a1, (wrap64 (s0_1 + 1))))) else (none)) else (none)) else (none)) else (none)))) = some (r1, r2) := by rw [if_neg (show ¬ (false = true) by decide)] at H; exact H
      clear H; have H := H1; clear H1; by_cases c8 : (wrap64 ((wrap64 (s0_1 + 1)) - 1)) < (s0_0.length : Int)
      · rw [if_pos c8] at H
        have c8b0 : decide ((wrap64 ((wrap64 (s0_1 + 1)) - 1)) < (s0_0.length : Int)) = true := decide_eq_true c8; clear c8
        obtain ⟨ji9, hji9⟩ : ∃ j_ : Int, (wrap64 ((wrap64 (s0_1 + 1)) - 1)) = j_ := ⟨_, rfl⟩
        replace H : (if 0 ≤ (ji9) then (if a1 = 0 then (none) else (some (Int.tmod (wrap64 (rd s0_0 (ji9))) a1, (wrap64 (s0_1 + 1))))) else (none)) = some (r1, r2) := by first | (rw [hji9] at H; exact H) | (simp only [hji9] at H ⊢; exact H)
        (try rw [hji9] at c8b0); have hji9w : (IntKind.i64.wrap ((wrap64 (s0_1 + 1)) - 1)) = ji9 := (i64_w _).trans hji9; by_cases c10 : 0 ≤ (ji9)
        · rw [if_pos c10] at H
          have c10b0 : decide (0 ≤ (ji9)) = true := decide_eq_true c10; clear c10; by_cases c11 : a1 = 0
          · rw [if_pos c11] at H
            exact absurd H (by simp)
          rw [if_neg c11] at H; have c11b0 : (a1 == 0) = false := beq_eq_false_iff_ne.mpr c11; have c11b1 : (a1 != 0) = true := bne_iff_ne.mpr c11; simp only [Option.some.injEq, Prod.mk.injEq] at H; obtain ⟨rfl, rfl⟩ := H; obtain ⟨ASz12_0, cSz12_0, HGz12, hgz12, HSz12_0⟩ := HI0.out; have hcz12_0 := cellS81_0 HGz12; have hcz12_1 := cellS81_1 HGz12; have hfz12_1 := blk_frozen HGz12 1; clear HGz12 hgz12; have p170 : 0 ≤ ((ji9) : Int) := of_decide_eq_true y3_; have q170 : (ji9) < (s0_0.length : Int) := of_decide_eq_true y3_; obtain ⟨ad170, e170, hx170_0⟩ := Kd.at_int HSz12_0 (ji9) p170 q170
          cases e170
          replace hx170_0 := pw_cell_below HB.out hx170_0; replace p170 := eq_true p170; replace q170 := eq_true q170; go_wp2
          repeat (go_quiet (fail); try go_wp2)
          go_ret; exact ⟨by first | rfl | (simp [errW_none, errW_some] <;> rfl) | (simp only [← hji9]; first | rfl | (simp [errW_none, errW_some] <;> rfl)) | (simp [*, errW_none, errW_some] <;> rfl), y15_ HI0.out, y8_ HB.out (IsS81.ge HI0.out), y9_ HK.out⟩
        rw [if_neg c10] at H; exact absurd H (by simp)
      rw [if_neg c8] at H; have c8b0 : decide ((wrap64 ((wrap64 (s0_1 + 1)) - 1)) < (s0_0.length : Int)) = false := decide_eq_false c8; clear c8; by_cases c13 : (s0_0.length : Int) = 0
      · rw [if_pos c13] at H
        exact absurd H (by simp)
      rw [if_neg c13] at H; have c13b0 : ((s0_0.length : Int) == 0) = false := beq_eq_false_iff_ne.mpr c13; have c13b1 : ((s0_0.length : Int) != 0) = true := bne_iff_ne.mpr c13
      have c13b2 : ¬ (s0_0 = []) := fun h_ => c13 (by rw [h_]; rfl)
      obtain ⟨ji14, hji14⟩ : ∃ j_ : Int, (Int.tmod (wrap64 ((wrap64 (s0_1 + 1)) - 1)) (s0_0.length : Int)) = j_ := ⟨_, rfl⟩
      replace H : (if 0 ≤ (ji14) then (if (ji14) < (s0_0.length : Int) then (if 0 ≤ (Int.tmod (wrap64 ((wrap64 ((wrap64 ((wrap64 (s0_1 + 1)) - 1)) * 7)) + 3)) (s0_0.length : Int)) then (if (Int.tmod (wrap64 ((wrap64 ((wrap64 ((wrap64 (s0_1 + 1)) - 1)) * 7)) + 3)) (s0_0.length : Int)) < (s0_0.length : Int) then (if a1 = 0 then (none) else (some (Int.tmod (Go.bits .xor .i64 (wrap64 ((wrap64 ((wrap64 ((wrap64 ((wrap64 (rd s0_0 (ji14))) * 131)) + (wrap64 ((wrap64 (rd s0_0 (Int.tmod (wrap64 ((wrap64 ((wrap64 ((wrap64 (s0_1 + 1)) - 1)) * 7)) + 3)) (s0_0.length : Int)))) * 1117)))) + (wrap64 ((wrap64 ((wrap64 (s0_1 + 1)) - 1)) * 29)))) + (wrap64 ((wrap64 (Int.tdiv (wrap64 ((wrap64 (s0_1 + 1)) - 1)) (s0_0.length : Int))) * 53)))) (wrap64 (Int.tdiv (wrap64 ((wrap64 ((wrap64 ((wrap64 ((wrap64 (rd s0_0 (ji14))) * 131)) + (wrap64 ((wrap64 (rd s0_0 (Int.tmod (wrap64 ((wrap64 ((wrap64 ((wrap64 (s0_1 + 1)) - 1)) * 7)) + 3)) (s0_0.length : Int)))) * 1117)))) + (wrap64 ((wrap64 ((wrap64 (s0_1 + 1)) - 1)) * 29)))) + (wrap64 ((wrap64 (Int.tdiv (wrap64 ((wrap64 (s0_1 + 1)) - 1)) (s0_0.length : Int))) * 53)))) 64))) a1, (wrap64 (s0_1 + 1))))) else (none)) else (none)) else (none)) else (none)) = some (r1, r2) := by first | (rw [hji14] at H; exact H) | (simp only [hji14] at H ⊢; exact H)
      by_cases c15 : 0 ≤ (ji14)
      · rw [if_pos c15] at H
        have c15b0 : decide (0 ≤ (ji14)) = true := decide_eq_true c15; clear c15; by_cases c16 : (ji14) < (s0_0.length : Int)
        · rw [if_pos c16] at H
          have c16b0 : decide ((ji14) < (s0_0.length : Int)) = true := decide_eq_true c16; clear c16
          obtain ⟨ji17, hji17⟩ : ∃ j_ : Int, (Int.tmod (wrap64 ((wrap64 ((wrap64 ((wrap64 (s0_1 + 1)) - 1)) * 7)) + 3)) (s0_0.length : Int)) = j_ := ⟨_, rfl⟩
          replace H : (if 0 ≤ (ji17) then (if (ji17) < (s0_0.length : Int) then (if a1 = 0 then (none) else (some (Int.tmod (Go.bits .xor .i64 (wrap64 ((wrap64 ((wrap64 ((wrap64 ((wrap64 (rd s0_0 (ji14))) * 131)) + (wrap64 ((wrap64 (rd s0_0 (ji17))) * 1117)))) + (wrap64 ((wrap64 ((wrap64 (s0_1 + 1)) - 1)) * 29)))) + (wrap64 ((wrap64 (Int.tdiv (wrap64 ((wrap64 (s0_1 + 1)) - 1)) (s0_0.length : Int))) * 53)))) (wrap64 (Int.tdiv (wrap64 ((wrap64 ((wrap64 ((wrap64 ((wrap64 (rd s0_0 (ji14))) * 131)) + (wrap64 ((wrap64 (rd s0_0 (ji17))) * 1117)))) + (wrap64 ((wrap64 ((wrap64 (s0_1 + 1)) - 1)) * 29)))) + (wrap64 ((wrap64 (Int.tdiv (wrap64 ((wrap64 (s0_1 + 1)) - 1)) (s0_0.length : Int))) * 53)))) 64))) a1, (wrap64 (s0_1 + 1))))) else (none)) else (none)) = some (r1, r2) := by first | (rw [hji17] at H; exact H) | (simp only [hji17] at H ⊢; exact H)
          by_cases c18 : 0 ≤ (ji17)
          · rw [if_pos c18] at H
            have c18b0 : decide (0 ≤ (ji17)) = true := decide_eq_true c18; clear c18; by_cases c19 : (ji17) < (s0_0.length : Int)
            · rw [if_pos c19] at H
              have c19b0 : decide ((ji17) < (s0_0.length : Int)) = true := decide_eq_true c19; clear c19; by_cases c20 : a1 = 0
              · rw [if_pos c20] at H
                exact absurd H (by simp)
              rw [if_neg c20] at H; have c20b0 : (a1 == 0) = false := beq_eq_false_iff_ne.mpr c20; have c20b1 : (a1 != 0) = true := bne_iff_ne.mpr c20; simp only [Option.some.injEq, Prod.mk.injEq] at H; obtain ⟨rfl, rfl⟩ := H; obtain ⟨ASz21_0, cSz21_0, HGz21, hgz21, HSz21_0⟩ := HI0.out; have hcz21_0 := cellS81_0 HGz21; have hcz21_1 := cellS81_1 HGz21; have hfz21_1 := blk_frozen HGz21 1; clear HGz21 hgz21; have p171 : 0 ≤ ((ji14) : Int) := of_decide_eq_true y3_; have q171 : (ji14) < (s0_0.length : Int) := of_decide_eq_true y3_; obtain ⟨ad171, e171, hx171_0⟩ := Kd.at_int HSz21_0 (ji14) p171 q171
              cases e171
              replace hx171_0 := pw_cell_below HB.out hx171_0; replace p171 := eq_true p171; replace q171 := eq_true q171; have p172 : 0 ≤ ((ji17) : Int) := of_decide_eq_true y3_; have q172 : (ji17) < (s0_0.length : Int) := of_decide_eq_true y3_; obtain ⟨ad172, e172, hx172_0⟩ := Kd.at_int HSz21_0 (ji17) p172 q172
              obtain rfl : ad171 = ad172 := (by injection e172)
              replace hx172_0 := pw_cell_below HB.out hx172_0; replace p172 := eq_true p172; replace q172 := eq_true q172; go_wp2
              repeat (go_quiet (fail); try go_wp2)
              go_ret; exact ⟨by first | rfl | (simp [errW_none, errW_some] <;> rfl) | (simp only [← hji14, ← hji17]; first | rfl | (simp [errW_none, errW_some] <;> rfl)) | (simp [*, errW_none, errW_some] <;> rfl), y15_ HI0.out, y8_ HB.out (IsS81.ge HI0.out), y9_ HK.out⟩
            rw [if_neg c19] at H; exact absurd H (by simp)
          rw [if_neg c18] at H; exact absurd H (by simp)
        rw [if_neg c16] at H; exact absurd H (by simp)
      rw [if_neg c15] at H; exact absurd H (by simp)

/-! ### spec_l20Node: function 66 -/
def spec_l20Node.f (k : Nat) (s0_0 : List Int) (s0_1 : Int) : Option (Int × Int) := (spec_l20Rd_pick.f k s0_0 s0_1 15).bind fun bt173 => ((spec_l20Rd_pick.f k s0_0 bt173.2 8).bind fun bt175 => ((some (([bt173.1, wrap64 (7 + bt175.1), (-1), 15] : List Int) : List Int)).bind fun y177 => ((some (([0, 0, 0, 1, 1, 2, 3] : List Int) : List Int)).bind fun y180 => ((spec_l20Rd_pick.f k s0_0 bt175.2 7).bind fun bt183 => (if 0 ≤ bt183.1 then (if bt183.1 < (y180.length : Int) then (if 0 ≤ (rd y180 bt183.1) then (if (rd y180 bt183.1) < (y177.length : Int) then (some (rd y177 (rd y180 bt183.1), bt183.2)) else (none)) else (none)) else (none)) else (none))))))
theorem spec_l20Node.mono : ∀ a0 a1 k, LeO (spec_l20Node.f k a0 a1) (spec_l20Node.f (k + 1) a0 a1) := by
  intro a0 a1 k; unfold spec_l20Node.f
  repeat' first
      | (with_reducible exact spec_l20Rd_pick.mono _ _ _ _)
      | (with_reducible exact LeO.refl _)
      | (with_reducible exact LeO.none _)
      | (with_reducible refine LeO.ite ?_ ?_)
      | (with_reducible refine LeO.bind ?_ (fun _ => ?_))
      | exact LeO.none _
      | refine LeO.ite ?_ ?_
      | refine LeO.bind ?_ (fun _ => ?_)
set_option maxHeartbeats 8000000 in
set_option maxRecDepth 100000 in
theorem spec_l20Node.calls (k : Nat) (g : Nat) (s0_0 : List Int) (s0_1 : Int) (r1 : Int) (r2 : Int) (w0 w : World) (hI : IsS81 w0 w g s0_0 s0_1) (hB : Below w0.heap.size w0 w) (h : spec_l20Node.f k s0_0 s0_1 = some (r1, r2)) :
    Calls Tryd.prog 66 #[.pointer (some ⟨g, 0, none⟩)] w fun e w' => e = .returned (.int .i64 r1) ∧ IsS81 w0 w' g s0_0 r2 ∧ Below w0.heap.size w0 w' ∧ KeepBut w w' g none := by
  have HI0 := am_ hI; have HK := am_ (KeepBut.refl w g none); have HL := am_ hB.size; clear hI; have HW0 := am_ hB.size; have HB := am_ hB; clear hB; have H : ((spec_l20Rd_pick.f k s0_0 s0_1 15).bind fun bt173 => ((spec_l20Rd_pick.f k s0_0 bt173.2 8).bind fun bt175 => ((some (([bt173.1, wrap64 (7 + bt175.1), (-1), 15] : List Int) : List Int)).bind fun y177 => ((some (([0, 0, 0, 1, 1, 2, 3] : List Int) : List Int)).bind fun y180 => ((spec_l20Rd_pick.f k s0_0 bt175.2 7).bind fun bt183 => (if 0 ≤ bt183.1 then (if bt183.1 < (y180.length : Int) then (if 0 ≤ (rd y180 bt183.1) then (if (rd y180 bt183.1) < (y177.length : Int) then (some (rd y177 (rd y180 bt183.1), bt183.2)) else (none)) else (none)) else (none)) else (none))))))) = some (r1, r2) := h; clear h; replace H := Option.bind_eq_some_iff.mp H; obtain ⟨⟨t173, t174⟩, A20, H⟩ := H; replace H : ((spec_l20Rd_pick.f k s0_0 t174 8).bind fun bt175 => ((some (([t173, wrap64 (7 + bt175.1), (-1), 15] : List Int) : List Int)).bind fun y177 => ((some (([0, 0, 0, 1, 1, 2, 3] : List Int) : List Int)).bind fun y180 => ((spec_l20Rd_pick.f k s0_0 bt175.2 7).bind fun bt183 => (if 0 ≤ bt183.1 then (if bt183.1 < (y180.length : Int) then (if 0 ≤ (rd y180 bt183.1) then (if (rd y180 bt183.1) < (y177.length : Int) then (some (rd y177 (rd y180 bt183.1), bt183.2)) else (none)) else (none)) else (none)) else (none)))))) = some (r1, r2) := H; have A2 := am_ A20; clear A20; replace H := Option.bind_eq_some_iff.mp H; obtain ⟨⟨t175, t176⟩, A30, H⟩ := H; replace H : ((some (([t173, wrap64 (7 + t175), (-1), 15] : List Int) : List Int)).bind fun y177 => ((some (([0, 0, 0, 1, 1, 2, 3] : List Int) : List Int)).bind fun y180 => ((spec_l20Rd_pick.f k s0_0 t176 7).bind fun bt183 => (if 0 ≤ bt183.1 then (if bt183.1 < (y180.length : Int) then (if 0 ≤ (rd y180 bt183.1) then (if (rd y180 bt183.1) < (y177.length : Int) then (some (rd y177 (rd y180 bt183.1), bt183.2)) else (none)) else (none)) else (none)) else (none))))) = some (r1, r2) := H; have A3 := am_ A30; clear A30
  obtain ⟨y177, hy177⟩ : ∃ y_ : List Int, y_ = (([t173, wrap64 (7 + t175), (-1), 15] : List Int)) := ⟨_, rfl⟩
  replace H : ((some (([0, 0, 0, 1, 1, 2, 3] : List Int) : List Int)).bind fun y180 => ((spec_l20Rd_pick.f k s0_0 t176 7).bind fun bt183 => (if 0 ≤ bt183.1 then (if bt183.1 < (y180.length : Int) then (if 0 ≤ (rd y180 bt183.1) then (if (rd y180 bt183.1) < (y177.length : Int) then (some (rd y177 (rd y180 bt183.1), bt183.2)) else (none)) else (none)) else (none)) else (none)))) = some (r1, r2) := by first | (rw [hy177]; with_reducible exact H) | (have H2_ := (Option.bind_some _ _).symm.trans H; rw [hy177]; with_reducible exact H2_) | (have H2_ := (Option.bind_some _ _).symm.trans H; with_reducible exact H2_) | with_reducible exact H | (rw [hy177]; exact H) | exact H
  have Ny177 := am_ hy177; clear hy177
  obtain ⟨y180, hy180⟩ : ∃ y_ : List Int, y_ = (([0, 0, 0, 1, 1, 2, 3] : List Int)) := ⟨_, rfl⟩
  replace H : ((spec_l20Rd_pick.f k s0_0 t176 7).bind fun bt183 => (if 0 ≤ bt183.1 then (if bt183.1 < (y180.length : Int) then (if 0 ≤ (rd y180 bt183.1) then (if (rd y180 bt183.1) < (y177.length : Int) then (some (rd y177 (rd y180 bt183.1), bt183.2)) else (none)) else (none)) else (none)) else (none))) = some (r1, r2) := by first | (rw [hy180]; with_reducible exact H) | (have H2_ := (Option.bind_some _ _).symm.trans H; rw [hy180]; with_reducible exact H2_) | (have H2_ := (Option.bind_some _ _).symm.trans H; with_reducible exact H2_) | with_reducible exact H | (rw [hy180]; exact H) | exact H
  have Ny180 := am_ hy180; clear hy180; replace H := Option.bind_eq_some_iff.mp H; obtain ⟨⟨t183, t184⟩, A40, H⟩ := H; replace H : (if 0 ≤ t183 then (if t183 < (y180.length : Int) then (if 0 ≤ (rd y180 t183) then (if (rd y180 t183) < (y177.length : Int) then (some (rd y177 (rd y180 t183), t184)) else (none)) else (none)) else (none)) else (none)) = some (r1, r2) := H; have A4 := am_ A40; clear A40; by_cases c5 : 0 ≤ t183
  · rw [if_pos c5] at H
    have c5b0 : decide (0 ≤ t183) = true := decide_eq_true c5; clear c5; by_cases c6 : t183 < (y180.length : Int)
    · rw [if_pos c6] at H
      have c6b0 : decide (t183 < (y180.length : Int)) = true := decide_eq_true c6; clear c6; by_cases c7 : 0 ≤ (rd y180 t183)
      · rw [if_pos c7] at H
        have c7b0 : decide (0 ≤ (rd y180 t183)) = true := decide_eq_true c7; clear c7; by_cases c8 : (rd y180 t183) < (y177.length : Int)
        · rw [if_pos c8] at H
          have c8b0 : decide ((rd y180 t183) < (y177.length : Int)) = true := decide_eq_true c8; clear c8; simp only [Option.some.injEq, Prod.mk.injEq] at H; obtain ⟨rfl, rfl⟩ := H; go_enter Tryd.func66, Tryd.ntmps66; go_wp2_with (first | ((with_reducible refine gate_callee (f := 81) rfl ?_); refine goesL_ (some 4) rfl rfl Tryd.func81 (by kernel_rfl) rfl #[.pointer (some ⟨g, 0, none⟩), .int .i64 15] rfl y1_ ?_; (with_reducible refine (spec_l20Rd_pick.calls k g s0_0 s0_1 15 t173 t174 w0 _ ?side1 ?side2 A2.out).mono ?_); (case side1 => exact y15_ HI0.out); (case side2 => exact y8_ HB.out (IsS81.ge HI0.out)); rintro e w9 ⟨rfl, hi, hb, hk⟩; refine ⟨_, rfl, ?_⟩; replace HK := am_ (KeepBut.trans (y9_ HK.out) hk (.inl rfl)); replace HB := am_ (hb); replace HI0 := am_ (hi); (try clear hi hb hk)) | ((with_reducible refine gate_callee (f := 81) rfl ?_); refine goesL_ (some 6) rfl rfl Tryd.func81 (by kernel_rfl) rfl #[.pointer (some ⟨g, 0, none⟩), .int .i64 8] rfl y1_ ?_; (with_reducible refine (spec_l20Rd_pick.calls k g s0_0 t174 8 t175 t176 w0 _ ?side1 ?side2 A3.out).mono ?_); (case side1 => exact y15_ HI0.out); (case side2 => exact y8_ HB.out (IsS81.ge HI0.out)); rintro e w10 ⟨rfl, hi, hb, hk⟩; refine ⟨_, rfl, ?_⟩; replace HK := am_ (KeepBut.trans (y9_ HK.out) hk (.inl rfl)); replace HB := am_ (hb); replace HI0 := am_ (hi); (try clear hi hb hk)) | ((with_reducible refine gate_dst (N := 8) rfl ?_); refine Kd.R_lit (Kd.int .i64) _ 3 ?hg (N := 8) ?hd (xs := ([t173, wrap64 (7 + t175), (-1), 15] : List Int)) (inner := [.int .i64 t173, .int .i64 (wrap64 (7 + t175)), .int .i64 (-1), .int .i64 15]) (ok := fun _ => True) (okp := fun _ => True) ?hr ?hp (fun _ hk => hk) trivial (Below.refl _ _) (Nat.le_refl _) (by simp) ?_; (case hd => rfl); (case hg => rfl); (case hr => first | (go_simp; done) | (go_simp; rfl)); (case hp => exact (Reps.one (show Kd.M (Kd.int .i64) _ _ _ t173 [.int .i64 t173] from rfl) (Reps.one (show Kd.M (Kd.int .i64) _ _ _ (wrap64 (7 + t175)) [.int .i64 (wrap64 (7 + t175))] from rfl) (Reps.one (show Kd.M (Kd.int .i64) _ _ _ (-1) [.int .i64 (-1)] from rfl) (Reps.one (show Kd.M (Kd.int .i64) _ _ _ 15 [.int .i64 15] from rfl) (Reps.none _ _)))))); intro v178 w11 ho12 hb hg_ hnew_; clear hg_ hnew_; (first | rw [← Ny177.out] at ho12 | (simp only [Int.reduceToNat] at ho12; rw [← Ny177.out] at ho12)); have HO179 := am_ (Kd.R_lower ho12 (keep_size (w := w) (g := g) (row := none) (y9_ HK.out))); replace HK := am_ (KeepBut.trans (y9_ HK.out) (KeepBut.of_below hb g none) (.inl rfl)); replace HB := am_ (below_step (y8_ HB.out (IsS81.ge HI0.out)) hb); replace HI0 := am_ (IsS81.below (y15_ HI0.out) hb); clear hb ho12) | ((with_reducible refine gate_dst (N := 9) rfl ?_); refine Kd.R_lit (Kd.int .i64) _ 3 ?hg (N := 9) ?hd (xs := ([0, 0, 0, 1, 1, 2, 3] : List Int)) (inner := [.int .i64 0, .int .i64 0, .int .i64 0, .int .i64 1, .int .i64 1, .int .i64 2, .int .i64 3]) (ok := fun _ => True) (okp := fun _ => True) ?hr ?hp (fun _ hk => hk) trivial (Below.refl _ _) (Nat.le_refl _) (by simp) ?_; (case hd => rfl); (case hg => rfl); (case hr => first | (go_simp; done) | (go_simp; rfl)); (case hp => exact (Reps.one (show Kd.M (Kd.int .i64) _ _ _ 0 [.int .i64 0] from rfl) (Reps.one (show Kd.M (Kd.int .i64) _ _ _ 0 [.int .i64 0] from rfl) (Reps.one (show Kd.M (Kd.int .i64) _ _ _ 0 [.int .i64 0] from rfl) (Reps.one (show Kd.M (Kd.int .i64) _ _ _ 1 [.int .i64 1] from rfl) (Reps.one (show Kd.M (Kd.int .i64) _ _ _ 1 [.int .i64 1] from rfl) (Reps.one (show Kd.M (Kd.int .i64) _ _ _ 2 [.int .i64 2] from rfl) (Reps.one (show Kd.M (Kd.int .i64) _ _ _ 3 [.int .i64 3] from rfl) (Reps.none _ _))))))))); intro v181 w13 ho14 hb hg_ hnew_; clear hg_ hnew_; (first | rw [← Ny180.out] at ho14 | (simp only [Int.reduceToNat] at ho14; rw [← Ny180.out] at ho14)); have HO182 := am_ (Kd.R_lower (Kd.R_new' ho14 (Kd.R_lt (y11_ HO179.out))) (keep_size (w := w) (g := g) (row := none) (y9_ HK.out))); replace HO179 := am_ (Kd.R_elder' (y11_ HO179.out) (Kd.R_base ho14) hb); replace HK := am_ (KeepBut.trans (y9_ HK.out) (KeepBut.of_below hb g none) (.inl rfl)); replace HB := am_ (below_step (y8_ HB.out (IsS81.ge HI0.out)) hb); replace HI0 := am_ (IsS81.below (y15_ HI0.out) hb); clear hb ho14) | ((with_reducible refine gate_callee (f := 81) rfl ?_); refine goesL_ (some 11) rfl rfl Tryd.func81 (by kernel_rfl) rfl #[.pointer (some ⟨g, 0, none⟩), .int .i64 7] rfl y1_ ?_; (with_reducible refine (spec_l20Rd_pick.calls k g s0_0 t176 7 t183 t184 w0 _ ?side1 ?side2 A4.out).mono ?_); (case side1 => exact y15_ HI0.out); (case side2 => exact y8_ HB.out (IsS81.ge HI0.out)); rintro e w15 ⟨rfl, hi, hb, hk⟩; refine ⟨_, rfl, ?_⟩; replace HO179 := am_ (Kd.R_mono (Kd.R_keep (IsS81.apart (show IsS81 w0 _ g s0_0 t176 from y15_ HI0.out) (y11_ HO179.out) (by decide)) hk (fun _ h => h.2)) (fun _ h => h.1)); replace HO182 := am_ (Kd.R_mono (Kd.R_keep (IsS81.apart (show IsS81 w0 _ g s0_0 t176 from y15_ HI0.out) (y11_ HO182.out) (by decide)) hk (fun _ h => h.2)) (fun _ h => h.1)); replace HK := am_ (KeepBut.trans (y9_ HK.out) hk (.inl rfl)); replace HB := am_ (hb); replace HI0 := am_ (hi); (try clear hi hb hk); obtain ⟨Ao16, co16, eo16⟩ := Kd.R_slice HO182.out; subst eo16; have p185 : 0 ≤ (t183 : Int) := of_decide_eq_true y3_; have q185 : t183 < (y180.length : Int) := of_decide_eq_true y3_; obtain ⟨ad185, e185, hx185_0⟩ := Kd.at_int (Kd.R_reads' HO182.out).2.2 t183 p185 q185; cases e185; replace p185 := eq_true p185; replace q185 := eq_true q185; obtain ⟨Ao17, co17, eo17⟩ := Kd.R_slice HO179.out; subst eo17; have p186 : 0 ≤ ((rd y180 t183) : Int) := of_decide_eq_true y3_; have q186 : (rd y180 t183) < (y177.length : Int) := of_decide_eq_true y3_; obtain ⟨ad186, e186, hx186_0⟩ := Kd.at_int (Kd.R_reads' HO179.out).2.2 (rd y180 t183) p186 q186; cases e186; replace p186 := eq_true p186; replace q186 := eq_true q186)); go_ret; exact ⟨y6_, y15_ HI0.out, y8_ HB.out (IsS81.ge HI0.out), y9_ HK.out⟩
        rw [if_neg c8] at H; exact absurd H (by simp)
      rw [if_neg c7] at H; exact absurd H (by simp)
    rw [if_neg c6] at H; exact absurd H (by simp)
  rw [if_neg c5] at H; exact absurd H (by simp)

/-! ### spec_TreNew: function 60 -/
def spec_TreNew.f  : Option (List ByteArray) := if 15 ≤ 17592186044416 then (some (List.replicate 15 (⟨#[]⟩ : ByteArray))) else (none)
set_option maxHeartbeats 8000000 in
set_option maxRecDepth 100000 in
theorem spec_TreNew.calls  (r : List ByteArray) (w : World) (h : spec_TreNew.f  = some r) :
    Calls Tryd.prog 60 #[] w fun e w' => ∃ v0_ : Value, e = .returned (.agg #[v0_]) ∧ Kd.R Kd.string 9 w' w.heap.size (fun _ => True) v0_ r ∧ Below w.heap.size w w' := by
  have hu55 := Tryd.underlying55; have HB := am_ (Below.refl w.heap.size w); have H : (if 15 ≤ 17592186044416 then (some (List.replicate 15 (⟨#[]⟩ : ByteArray))) else (none)) = some r := h; clear h; by_cases c1 : 15 ≤ 17592186044416
  · rw [if_pos c1] at H
    have c1b0 := eq_true c1; have c1b1 : decide (15 ≤ 17592186044416) = true := decide_eq_true c1; clear c1
    obtain ⟨y188, hy188⟩ : ∃ y_ : List ByteArray, y_ = (List.replicate 15 (⟨#[]⟩ : ByteArray)) := ⟨_, rfl⟩
    replace H : (some y188) = some r := by first | (rw [hy188]; with_reducible exact H) | (have H2_ := (Option.bind_some _ _).symm.trans H; rw [hy188]; with_reducible exact H2_) | (have H2_ := (Option.bind_some _ _).symm.trans H; with_reducible exact H2_) | with_reducible exact H | (rw [hy188]; exact H) | exact H
    have Ny188 := am_ hy188; clear hy188; obtain rfl := Option.some.inj H; go_enter Tryd.func60, Tryd.ntmps60; go_wp2_with (first | ((with_reducible refine gate_dst (N := 0) rfl ?_); refine box_event ?hg (N := 0) ?hd (cs := #[.slice none 0 0]) (t := 55) ?hr ?_; (case hd => rfl); (case hg => rfl); (case hr => first | (go_simp; done) | (go_simp; rfl)); intro gb187 hg w2 hbox hb; have BK187 := am_ (hbox); have GW187 := am_ ((by rw [hg]; exact (below_size (y7_ HB.out)) : w.heap.size ≤ gb187)); have GE187 := am_ ((by rw [hg]; exact (below_size (y7_ HB.out)) : w.heap.size ≤ gb187)); replace HB := am_ (below_step (y7_ HB.out) hb); clear hb hbox hg) | ((with_reducible refine gate_dst (N := 1) rfl ?_); refine Kd.R_make Kd.string _ 9 rfl (N := 1) rfl 51 _ _ rfl 15 rfl rfl Tryd.underlying51 (.string ⟨#[]⟩) 16 info9 rfl (by decide) (by omega) (⟨#[]⟩ : ByteArray) (ok := fun _ => True) (okp := fun _ => True) rfl (fun _ hk => hk) trivial (by omega) (by omega) (Below.refl _ _) (Nat.le_refl _) ?_; intro v189 w3 ho4 hb hg_ hnew_; clear hg_ hnew_; (first | rw [← Ny188.out] at ho4 | (simp only [Int.reduceToNat] at ho4; rw [← Ny188.out] at ho4)); have HO190 := am_ (Kd.R_lower ho4 (below_size (y8_ HB.out GE187.out))); replace BK187 := am_ (blk_below (g := gb187) (o := .cells #[.slice none 0 0] 55 (0, 0)) (y12_ BK187.out) hb); replace HB := am_ (below_step (y8_ HB.out GE187.out) hb); clear hb ho4; obtain ⟨Ao5, co5, eo5⟩ := Kd.R_slice HO190.out; subst eo5; have hcz6_0 : w3.cell? ⟨gb187, 0, none⟩ = some (.slice none 0 0) := (blk_cell BK187.out 0).trans rfl; have hfz6_0 := blk_frozen BK187.out 0)); refine bodyPost_ret (results_cell_row rfl _ _ gb187 55 #[.slice Ao5 y188.length co5] (0, 0) _ rfl (by (with_reducible repeat (first | refine blk_drewN ?_ _ | refine blk_drew ?_ | refine blk_alloc ?_ _)); refine blk_put (cs := #[.slice none 0 0]) ?_ 0 _ y5_; (with_reducible repeat (first | refine blk_drewN ?_ _ | refine blk_drew ?_ | refine blk_alloc ?_ _)); exact BK187.out) Tryd.underlying55 rfl (by kernel_rfl)) rfl ?_; exact ⟨_, y6_, by (with_reducible repeat (first | apply Kd.R_alloc | apply Kd.R_drewN | apply Kd.R_drew)); exact Kd.R_mono (Kd.R_far (p := ⟨gb187, 0, none⟩) (Kd.R_types HO190.out BK187.out (by decide)) (fun _ hk => hk.2) (.slice Ao5 y188.length co5)) (fun _ hk => trivial), y8_ HB.out GE187.out⟩
  rw [if_neg c1] at H; exact absurd H (by simp)

/-! ### spec_l1Ok: function 80 -/
def spec_l1Ok.f (k : Nat) (a0 : ByteArray) : Option (ByteArray) := (spec_SecOk.f k a0).bind fun t191 => (if t191 = true then (some a0) else (some (⟨#[]⟩ : ByteArray)))
theorem spec_l1Ok.mono : ∀ a0 k, LeO (spec_l1Ok.f k a0) (spec_l1Ok.f (k + 1) a0) := by
  intro a0 k; unfold spec_l1Ok.f
  repeat' first
      | (with_reducible exact spec_SecOk.mono _ _)
      | (with_reducible exact LeO.refl _)
      | (with_reducible exact LeO.none _)
      | (with_reducible refine LeO.ite ?_ ?_)
      | (with_reducible refine LeO.bind ?_ (fun _ => ?_))
      | exact LeO.none _
      | refine LeO.ite ?_ ?_
      | refine LeO.bind ?_ (fun _ => ?_)
set_option maxHeartbeats 8000000 in
set_option maxRecDepth 100000 in
theorem spec_l1Ok.calls (k : Nat) (a0 : ByteArray) (r : ByteArray) (w : World) (h : spec_l1Ok.f k a0 = some r) :
    Calls Tryd.prog 80 #[.string a0] w fun e w' => e = .returned (.string r) ∧ Below w.heap.size w w' := by
  have HB := am_ (Below.refl w.heap.size w); have H : ((spec_SecOk.f k a0).bind fun t191 => (if t191 = true then (some a0) else (some (⟨#[]⟩ : ByteArray)))) = some r := h; clear h; replace H := Option.bind_eq_some_iff.mp H; obtain ⟨t191, A20, H⟩ := H; replace H : (if t191 = true then (some a0) else (some (⟨#[]⟩ : ByteArray))) = some r := H; have A2 := am_ A20; clear A20; by_cases c3 : t191 = true
  · subst c3
    have H1 : (some a0) = some r := by rw [if_pos rfl] at H; exact H
    clear H; have H := H1; clear H1; obtain rfl := Option.some.inj H; go_enter Tryd.func80, Tryd.ntmps80; go_wp2_with (first | ((with_reducible refine gate_callee (f := 30) rfl ?_); refine goesL_ (some 4) rfl rfl Tryd.func30 (by kernel_rfl) rfl #[.string a0] rfl y1_ ?_; (with_reducible refine (spec_SecOk.calls k a0 true _ A2.out).mono ?_); rintro e w4 ⟨rfl, hb⟩; refine ⟨_, rfl, ?_⟩; replace HB := am_ (below_step (y7_ HB.out) hb); clear hb)); go_ret; exact ⟨y6_, y7_ HB.out⟩
  replace c3 := Bool.eq_false_iff.mpr c3; subst c3
  have H1 : (some (⟨#[]⟩ : ByteArray)) = some r := by rw [if_neg (show ¬ (false = true) by decide)] at H; exact H
  clear H; have H := H1; clear H1; obtain rfl := Option.some.inj H; go_enter Tryd.func80, Tryd.ntmps80; go_wp2_with (first | ((with_reducible refine gate_callee (f := 30) rfl ?_); refine goesL_ (some 4) rfl rfl Tryd.func30 (by kernel_rfl) rfl #[.string a0] rfl y1_ ?_; (with_reducible refine (spec_SecOk.calls k a0 false _ A2.out).mono ?_); rintro e w5 ⟨rfl, hb⟩; refine ⟨_, rfl, ?_⟩; replace HB := am_ (below_step (y7_ HB.out) hb); clear hb)); go_ret; exact ⟨y6_, y7_ HB.out⟩

/-! ### spec_MakEpoch: function 37 -/
def spec_MakEpoch.f (k : Nat) (a0 : ByteArray) (a1 : ByteArray) : Option (ByteArray) := (spec_SecOk.f k a0).bind fun t192 => (if t192 = true then ((spec_SecOk.f k a1).bind fun t193 => (if t193 = true then (if 1 + a0.size ≤ 9223372036854775807 then (if ((⟨#[101]⟩ : ByteArray) ++ a0).size + a1.size ≤ 9223372036854775807 then ((spec_l1Ok.f k (((⟨#[101]⟩ : ByteArray) ++ a0) ++ a1)).bind fun t194 => (some t194)) else (none)) else (none)) else (some (⟨#[]⟩ : ByteArray)))) else (some (⟨#[]⟩ : ByteArray)))
theorem spec_MakEpoch.mono : ∀ a0 a1 k, LeO (spec_MakEpoch.f k a0 a1) (spec_MakEpoch.f (k + 1) a0 a1) := by
  intro a0 a1 k; unfold spec_MakEpoch.f
  repeat' first
      | (with_reducible exact spec_SecOk.mono _ _)
      | (with_reducible exact spec_l1Ok.mono _ _)
      | (with_reducible exact LeO.refl _)
      | (with_reducible exact LeO.none _)
      | (with_reducible refine LeO.ite ?_ ?_)
      | (with_reducible refine LeO.bind ?_ (fun _ => ?_))
      | exact LeO.none _
      | refine LeO.ite ?_ ?_
      | refine LeO.bind ?_ (fun _ => ?_)
set_option maxHeartbeats 8000000 in
set_option maxRecDepth 100000 in
theorem spec_MakEpoch.calls (k : Nat) (a0 : ByteArray) (a1 : ByteArray) (r : ByteArray) (w : World) (h : spec_MakEpoch.f k a0 a1 = some r) :
    Calls Tryd.prog 37 #[.string a0, .string a1] w fun e w' => e = .returned (.string r) ∧ Below w.heap.size w w' := by
  have HB := am_ (Below.refl w.heap.size w); have H : ((spec_SecOk.f k a0).bind fun t192 => (if t192 = true then ((spec_SecOk.f k a1).bind fun t193 => (if t193 = true then (if 1 + a0.size ≤ 9223372036854775807 then (if ((⟨#[101]⟩ : ByteArray) ++ a0).size + a1.size ≤ 9223372036854775807 then ((spec_l1Ok.f k (((⟨#[101]⟩ : ByteArray) ++ a0) ++ a1)).bind fun t194 => (some t194)) else (none)) else (none)) else (some (⟨#[]⟩ : ByteArray)))) else (some (⟨#[]⟩ : ByteArray)))) = some r := h; clear h; replace H := Option.bind_eq_some_iff.mp H; obtain ⟨t192, A30, H⟩ := H; replace H : (if t192 = true then ((spec_SecOk.f k a1).bind fun t193 => (if t193 = true then (if 1 + a0.size ≤ 9223372036854775807 then (if ((⟨#[101]⟩ : ByteArray) ++ a0).size + a1.size ≤ 9223372036854775807 then ((spec_l1Ok.f k (((⟨#[101]⟩ : ByteArray) ++ a0) ++ a1)).bind fun t194 => (some t194)) else (none)) else (none)) else (some (⟨#[]⟩ : ByteArray)))) else (some (⟨#[]⟩ : ByteArray))) = some r := H; have A3 := am_ A30; clear A30; by_cases c4 : t192 = true
  · subst c4
    have H1 : ((spec_SecOk.f k a1).bind fun t193 => (if t193 = true then (if 1 + a0.size ≤ 9223372036854775807 then (if ((⟨#[101]⟩ : ByteArray) ++ a0).size + a1.size ≤ 9223372036854775807 then ((spec_l1Ok.f k (((⟨#[101]⟩ : ByteArray) ++ a0) ++ a1)).bind fun t194 => (some t194)) else (none)) else (none)) else (some (⟨#[]⟩ : ByteArray)))) = some r := by rw [if_pos rfl] at H; exact H
    clear H; have H := H1; clear H1; replace H := Option.bind_eq_some_iff.mp H; obtain ⟨t193, A50, H⟩ := H; replace H : (if t193 = true then (if 1 + a0.size ≤ 9223372036854775807 then (if ((⟨#[101]⟩ : ByteArray) ++ a0).size + a1.size ≤ 9223372036854775807 then ((spec_l1Ok.f k (((⟨#[101]⟩ : ByteArray) ++ a0) ++ a1)).bind fun t194 => (some t194)) else (none)) else (none)) else (some (⟨#[]⟩ : ByteArray))) = some r := H; have A5 := am_ A50; clear A50; by_cases c6 : t193 = true
    · subst c6
      have H1 : (if 1 + a0.size ≤ 9223372036854775807 then (if ((⟨#[101]⟩ : ByteArray) ++ a0).size + a1.size ≤ 9223372036854775807 then ((spec_l1Ok.f k (((⟨#[101]⟩ : ByteArray) ++ a0) ++ a1)).bind fun t194 => (some t194)) else (none)) else (none)) = some r := by rw [if_pos rfl] at H; exact H
      clear H; have H := H1; clear H1; by_cases c7 : 1 + a0.size ≤ 9223372036854775807
      · rw [if_pos c7] at H
        have c7b0 := eq_true c7; have c7b1 : decide (1 + a0.size ≤ 9223372036854775807) = true := decide_eq_true c7
        try have c7b2 : (9223372036854775807 < 1 + a0.size) = False := eq_false (Nat.not_lt.2 c7)
        by_cases c8 : ((⟨#[101]⟩ : ByteArray) ++ a0).size + a1.size ≤ 9223372036854775807
        · rw [if_pos c8] at H
          have c8b0 := eq_true c8; have c8b1 : decide (((⟨#[101]⟩ : ByteArray) ++ a0).size + a1.size ≤ 9223372036854775807) = true := decide_eq_true c8
          try have c8b2 : (9223372036854775807 < ((⟨#[101]⟩ : ByteArray) ++ a0).size + a1.size) = False := eq_false (Nat.not_lt.2 c8)
          try (have c8e := c8; simp only [ByteArray.size_append] at c8e; have c8e0 := eq_true c8e; have c8e1 := decide_eq_true c8e; have c8e2 := eq_false (Nat.not_lt.2 c8e))
          replace H := Option.bind_eq_some_iff.mp H; obtain ⟨t194, A90, H⟩ := H; replace H : (some t194) = some r := H; have A9 := am_ A90; clear A90; obtain rfl := Option.some.inj H; go_enter Tryd.func37, Tryd.ntmps37; go_wp2_with (first | ((with_reducible refine gate_callee (f := 30) rfl ?_); refine goesL_ (some 6) rfl rfl Tryd.func30 (by kernel_rfl) rfl #[.string a0] rfl y1_ ?_; (with_reducible refine (spec_SecOk.calls k a0 true _ A3.out).mono ?_); rintro e w10 ⟨rfl, hb⟩; refine ⟨_, rfl, ?_⟩; replace HB := am_ (below_step (y7_ HB.out) hb); clear hb) | (go_at_call 30; (with_reducible refine (spec_SecOk.calls k a1 true _ A5.out).mono ?_); rintro e w11 ⟨rfl, hb⟩; replace HB := am_ (below_step (y7_ HB.out) hb); clear hb) | ((with_reducible refine gate_callee (f := 80) rfl ?_); refine goesL_ (some 17) rfl rfl Tryd.func80 (by kernel_rfl) rfl #[.string (((⟨#[101]⟩ : ByteArray) ++ a0) ++ a1)] rfl y1_ ?_; (with_reducible refine (spec_l1Ok.calls k (((⟨#[101]⟩ : ByteArray) ++ a0) ++ a1) t194 _ A9.out).mono ?_); rintro e w12 ⟨rfl, hb⟩; refine ⟨_, rfl, ?_⟩; replace HB := am_ (below_step (y7_ HB.out) hb); clear hb)); go_ret; exact ⟨y6_, y7_ HB.out⟩
        rw [if_neg c8] at H; exact absurd H (by simp)
      rw [if_neg c7] at H; exact absurd H (by simp)
    replace c6 := Bool.eq_false_iff.mpr c6; subst c6
    have H1 : (some (⟨#[]⟩ : ByteArray)) = some r := by rw [if_neg (show ¬ (false = true) by decide)] at H; exact H
    clear H; have H := H1; clear H1; obtain rfl := Option.some.inj H; go_enter Tryd.func37, Tryd.ntmps37; go_wp2_with (first | ((with_reducible refine gate_callee (f := 30) rfl ?_); refine goesL_ (some 6) rfl rfl Tryd.func30 (by kernel_rfl) rfl #[.string a0] rfl y1_ ?_; (with_reducible refine (spec_SecOk.calls k a0 true _ A3.out).mono ?_); rintro e w13 ⟨rfl, hb⟩; refine ⟨_, rfl, ?_⟩; replace HB := am_ (below_step (y7_ HB.out) hb); clear hb) | (go_at_call 30; (with_reducible refine (spec_SecOk.calls k a1 false _ A5.out).mono ?_); rintro e w14 ⟨rfl, hb⟩; replace HB := am_ (below_step (y7_ HB.out) hb); clear hb)); go_ret; exact ⟨y6_, y7_ HB.out⟩
  replace c4 := Bool.eq_false_iff.mpr c4; subst c4
  have H1 : (some (⟨#[]⟩ : ByteArray)) = some r := by rw [if_neg (show ¬ (false = true) by decide)] at H; exact H
  clear H; have H := H1; clear H1; obtain rfl := Option.some.inj H; go_enter Tryd.func37, Tryd.ntmps37; go_wp2_with (first | ((with_reducible refine gate_callee (f := 30) rfl ?_); refine goesL_ (some 6) rfl rfl Tryd.func30 (by kernel_rfl) rfl #[.string a0] rfl y1_ ?_; (with_reducible refine (spec_SecOk.calls k a0 false _ A3.out).mono ?_); rintro e w15 ⟨rfl, hb⟩; refine ⟨_, rfl, ?_⟩; replace HB := am_ (below_step (y7_ HB.out) hb); clear hb)); go_ret; exact ⟨y6_, y7_ HB.out⟩

/-! ### spec_MakNext: function 42 -/
def spec_MakNext.f (k : Nat) (a0 : ByteArray) : Option (ByteArray) := (spec_SecOk.f k a0).bind fun t195 => (if t195 = true then (if 1 + a0.size ≤ 9223372036854775807 then ((spec_l1Ok.f k ((⟨#[110]⟩ : ByteArray) ++ a0)).bind fun t196 => (some t196)) else (none)) else (some (⟨#[]⟩ : ByteArray)))
theorem spec_MakNext.mono : ∀ a0 k, LeO (spec_MakNext.f k a0) (spec_MakNext.f (k + 1) a0) := by
  intro a0 k; unfold spec_MakNext.f
  repeat' first
      | (with_reducible exact spec_SecOk.mono _ _)
      | (with_reducible exact spec_l1Ok.mono _ _)
      | (with_reducible exact LeO.refl _)
      | (with_reducible exact LeO.none _)
      | (with_reducible refine LeO.ite ?_ ?_)
      | (with_reducible refine LeO.bind ?_ (fun _ => ?_))
      | exact LeO.none _
      | refine LeO.ite ?_ ?_
      | refine LeO.bind ?_ (fun _ => ?_)
set_option maxHeartbeats 8000000 in
set_option maxRecDepth 100000 in
theorem spec_MakNext.calls (k : Nat) (a0 : ByteArray) (r : ByteArray) (w : World) (h : spec_MakNext.f k a0 = some r) :
    Calls Tryd.prog 42 #[.string a0] w fun e w' => e = .returned (.string r) ∧ Below w.heap.size w w' := by
  have HB := am_ (Below.refl w.heap.size w); have H : ((spec_SecOk.f k a0).bind fun t195 => (if t195 = true then (if 1 + a0.size ≤ 9223372036854775807 then ((spec_l1Ok.f k ((⟨#[110]⟩ : ByteArray) ++ a0)).bind fun t196 => (some t196)) else (none)) else (some (⟨#[]⟩ : ByteArray)))) = some r := h; clear h; replace H := Option.bind_eq_some_iff.mp H; obtain ⟨t195, A20, H⟩ := H; replace H : (if t195 = true then (if 1 + a0.size ≤ 9223372036854775807 then ((spec_l1Ok.f k ((⟨#[110]⟩ : ByteArray) ++ a0)).bind fun t196 => (some t196)) else (none)) else (some (⟨#[]⟩ : ByteArray))) = some r := H; have A2 := am_ A20; clear A20; by_cases c3 : t195 = true
  · subst c3
    have H1 : (if 1 + a0.size ≤ 9223372036854775807 then ((spec_l1Ok.f k ((⟨#[110]⟩ : ByteArray) ++ a0)).bind fun t196 => (some t196)) else (none)) = some r := by rw [if_pos rfl] at H; exact H
    clear H; have H := H1; clear H1; by_cases c4 : 1 + a0.size ≤ 9223372036854775807
    · rw [if_pos c4] at H
      have c4b0 := eq_true c4; have c4b1 : decide (1 + a0.size ≤ 9223372036854775807) = true := decide_eq_true c4
      try have c4b2 : (9223372036854775807 < 1 + a0.size) = False := eq_false (Nat.not_lt.2 c4)
      replace H := Option.bind_eq_some_iff.mp H; obtain ⟨t196, A50, H⟩ := H; replace H : (some t196) = some r := H; have A5 := am_ A50; clear A50; obtain rfl := Option.some.inj H; go_enter Tryd.func42, Tryd.ntmps42; go_wp2_with (first | ((with_reducible refine gate_callee (f := 30) rfl ?_); refine goesL_ (some 4) rfl rfl Tryd.func30 (by kernel_rfl) rfl #[.string a0] rfl y1_ ?_; (with_reducible refine (spec_SecOk.calls k a0 true _ A2.out).mono ?_); rintro e w6 ⟨rfl, hb⟩; refine ⟨_, rfl, ?_⟩; replace HB := am_ (below_step (y7_ HB.out) hb); clear hb) | ((with_reducible refine gate_callee (f := 80) rfl ?_); refine goesL_ (some 8) rfl rfl Tryd.func80 (by kernel_rfl) rfl #[.string ((⟨#[110]⟩ : ByteArray) ++ a0)] rfl y1_ ?_; (with_reducible refine (spec_l1Ok.calls k ((⟨#[110]⟩ : ByteArray) ++ a0) t196 _ A5.out).mono ?_); rintro e w7 ⟨rfl, hb⟩; refine ⟨_, rfl, ?_⟩; replace HB := am_ (below_step (y7_ HB.out) hb); clear hb)); go_ret; exact ⟨y6_, y7_ HB.out⟩
    rw [if_neg c4] at H; exact absurd H (by simp)
  replace c3 := Bool.eq_false_iff.mpr c3; subst c3
  have H1 : (some (⟨#[]⟩ : ByteArray)) = some r := by rw [if_neg (show ¬ (false = true) by decide)] at H; exact H
  clear H; have H := H1; clear H1; obtain rfl := Option.some.inj H; go_enter Tryd.func42, Tryd.ntmps42; go_wp2_with (first | ((with_reducible refine gate_callee (f := 30) rfl ?_); refine goesL_ (some 4) rfl rfl Tryd.func30 (by kernel_rfl) rfl #[.string a0] rfl y1_ ?_; (with_reducible refine (spec_SecOk.calls k a0 false _ A2.out).mono ?_); rintro e w8 ⟨rfl, hb⟩; refine ⟨_, rfl, ?_⟩; replace HB := am_ (below_step (y7_ HB.out) hb); clear hb)); go_ret; exact ⟨y6_, y7_ HB.out⟩

/-! ### spec_MakKey: function 43 -/
def spec_MakKey.f (k : Nat) (a0 : ByteArray) : Option (ByteArray) := (spec_SecOk.f k a0).bind fun t197 => (if t197 = true then (if 1 + a0.size ≤ 9223372036854775807 then ((spec_l1Ok.f k ((⟨#[107]⟩ : ByteArray) ++ a0)).bind fun t198 => (some t198)) else (none)) else (some (⟨#[]⟩ : ByteArray)))
theorem spec_MakKey.mono : ∀ a0 k, LeO (spec_MakKey.f k a0) (spec_MakKey.f (k + 1) a0) := by
  intro a0 k; unfold spec_MakKey.f
  repeat' first
      | (with_reducible exact spec_SecOk.mono _ _)
      | (with_reducible exact spec_l1Ok.mono _ _)
      | (with_reducible exact LeO.refl _)
      | (with_reducible exact LeO.none _)
      | (with_reducible refine LeO.ite ?_ ?_)
      | (with_reducible refine LeO.bind ?_ (fun _ => ?_))
      | exact LeO.none _
      | refine LeO.ite ?_ ?_
      | refine LeO.bind ?_ (fun _ => ?_)
set_option maxHeartbeats 8000000 in
set_option maxRecDepth 100000 in
theorem spec_MakKey.calls (k : Nat) (a0 : ByteArray) (r : ByteArray) (w : World) (h : spec_MakKey.f k a0 = some r) :
    Calls Tryd.prog 43 #[.string a0] w fun e w' => e = .returned (.string r) ∧ Below w.heap.size w w' := by
  have HB := am_ (Below.refl w.heap.size w); have H : ((spec_SecOk.f k a0).bind fun t197 => (if t197 = true then (if 1 + a0.size ≤ 9223372036854775807 then ((spec_l1Ok.f k ((⟨#[107]⟩ : ByteArray) ++ a0)).bind fun t198 => (some t198)) else (none)) else (some (⟨#[]⟩ : ByteArray)))) = some r := h; clear h; replace H := Option.bind_eq_some_iff.mp H; obtain ⟨t197, A20, H⟩ := H; replace H : (if t197 = true then (if 1 + a0.size ≤ 9223372036854775807 then ((spec_l1Ok.f k ((⟨#[107]⟩ : ByteArray) ++ a0)).bind fun t198 => (some t198)) else (none)) else (some (⟨#[]⟩ : ByteArray))) = some r := H; have A2 := am_ A20; clear A20; by_cases c3 : t197 = true
  · subst c3
    have H1 : (if 1 + a0.size ≤ 9223372036854775807 then ((spec_l1Ok.f k ((⟨#[107]⟩ : ByteArray) ++ a0)).bind fun t198 => (some t198)) else (none)) = some r := by rw [if_pos rfl] at H; exact H
    clear H; have H := H1; clear H1; by_cases c4 : 1 + a0.size ≤ 9223372036854775807
    · rw [if_pos c4] at H
      have c4b0 := eq_true c4; have c4b1 : decide (1 + a0.size ≤ 9223372036854775807) = true := decide_eq_true c4
      try have c4b2 : (9223372036854775807 < 1 + a0.size) = False := eq_false (Nat.not_lt.2 c4)
      replace H := Option.bind_eq_some_iff.mp H; obtain ⟨t198, A50, H⟩ := H; replace H : (some t198) = some r := H; have A5 := am_ A50; clear A50; obtain rfl := Option.some.inj H; go_enter Tryd.func43, Tryd.ntmps43; go_wp2_with (first | ((with_reducible refine gate_callee (f := 30) rfl ?_); refine goesL_ (some 4) rfl rfl Tryd.func30 (by kernel_rfl) rfl #[.string a0] rfl y1_ ?_; (with_reducible refine (spec_SecOk.calls k a0 true _ A2.out).mono ?_); rintro e w6 ⟨rfl, hb⟩; refine ⟨_, rfl, ?_⟩; replace HB := am_ (below_step (y7_ HB.out) hb); clear hb) | ((with_reducible refine gate_callee (f := 80) rfl ?_); refine goesL_ (some 8) rfl rfl Tryd.func80 (by kernel_rfl) rfl #[.string ((⟨#[107]⟩ : ByteArray) ++ a0)] rfl y1_ ?_; (with_reducible refine (spec_l1Ok.calls k ((⟨#[107]⟩ : ByteArray) ++ a0) t198 _ A5.out).mono ?_); rintro e w7 ⟨rfl, hb⟩; refine ⟨_, rfl, ?_⟩; replace HB := am_ (below_step (y7_ HB.out) hb); clear hb)); go_ret; exact ⟨y6_, y7_ HB.out⟩
    rw [if_neg c4] at H; exact absurd H (by simp)
  replace c3 := Bool.eq_false_iff.mpr c3; subst c3
  have H1 : (some (⟨#[]⟩ : ByteArray)) = some r := by rw [if_neg (show ¬ (false = true) by decide)] at H; exact H
  clear H; have H := H1; clear H1; obtain rfl := Option.some.inj H; go_enter Tryd.func43, Tryd.ntmps43; go_wp2_with (first | ((with_reducible refine gate_callee (f := 30) rfl ?_); refine goesL_ (some 4) rfl rfl Tryd.func30 (by kernel_rfl) rfl #[.string a0] rfl y1_ ?_; (with_reducible refine (spec_SecOk.calls k a0 false _ A2.out).mono ?_); rintro e w8 ⟨rfl, hb⟩; refine ⟨_, rfl, ?_⟩; replace HB := am_ (below_step (y7_ HB.out) hb); clear hb)); go_ret; exact ⟨y6_, y7_ HB.out⟩

/-! ### spec_MakSay: function 48 -/
def spec_MakSay.j0 : Nat → ByteArray → Int → Bool → Option (ByteArray)
  | 0, _, _, _ => none
  | k + 1, x0, x1, x12 => if x12 = true then (some (⟨#[]⟩ : ByteArray)) else ((spec_l1Who.f x1).bind fun t201 => (if 1 + t201.size ≤ 9223372036854775807 then (if ((⟨#[109]⟩ : ByteArray) ++ t201).size + x0.size ≤ 9223372036854775807 then ((spec_l1Ok.f k (((⟨#[109]⟩ : ByteArray) ++ t201) ++ x0)).bind fun t202 => (some t202)) else (none)) else (none)))
def spec_MakSay.f (k : Nat) (a0 : ByteArray) (a1 : Int) : Option (ByteArray) := (spec_SecOk.f k a0).bind fun t199 => (if t199 = true then ((spec_l1In.f a1 0 7).bind fun t200 => (spec_MakSay.j0 k a0 a1 (!t200))) else (spec_MakSay.j0 k a0 a1 true))
theorem spec_MakSay.mono_l : ∀ k, (∀ y0 y1 y2, LeO (spec_MakSay.j0 k y0 y1 y2) (spec_MakSay.j0 (k + 1) y0 y1 y2))
  | 0 => fun _ _ _ r h => by simp [spec_MakSay.j0] at h
  | k + 1 => by
    have ih0 := spec_MakSay.mono_l k
    · intro y0 y1 y2
      unfold spec_MakSay.j0
      repeat' first
      | (with_reducible exact ih0 _ _ _)
      | (with_reducible exact spec_SecOk.mono _ _)
      | (with_reducible exact spec_l1Ok.mono _ _)
      | (with_reducible exact LeO.refl _)
      | (with_reducible exact LeO.none _)
      | (with_reducible refine LeO.ite ?_ ?_)
      | (with_reducible refine LeO.bind ?_ (fun _ => ?_))
      | exact LeO.none _
      | refine LeO.ite ?_ ?_
      | refine LeO.bind ?_ (fun _ => ?_)
theorem spec_MakSay.mono : ∀ a0 a1 k, LeO (spec_MakSay.f k a0 a1) (spec_MakSay.f (k + 1) a0 a1) := by
  intro a0 a1 k; have ih0 := spec_MakSay.mono_l k; unfold spec_MakSay.f
  repeat' first
      | (with_reducible exact ih0 _ _ _)
      | (with_reducible exact spec_SecOk.mono _ _)
      | (with_reducible exact spec_l1Ok.mono _ _)
      | (with_reducible exact LeO.refl _)
      | (with_reducible exact LeO.none _)
      | (with_reducible refine LeO.ite ?_ ?_)
      | (with_reducible refine LeO.bind ?_ (fun _ => ?_))
      | exact LeO.none _
      | refine LeO.ite ?_ ?_
      | refine LeO.bind ?_ (fun _ => ?_)
set_option maxHeartbeats 8000000 in
set_option maxRecDepth 100000 in
theorem spec_MakSay.calls (k : Nat) (a0 : ByteArray) (a1 : Int) (r : ByteArray) (w : World) (h : spec_MakSay.f k a0 a1 = some r) :
    Calls Tryd.prog 48 #[.string a0, .int .i64 a1] w fun e w' => e = .returned (.string r) ∧ Below w.heap.size w w' := by
  have HB := am_ (Below.refl w.heap.size w); have H : ((spec_SecOk.f k a0).bind fun t199 => (if t199 = true then ((spec_l1In.f a1 0 7).bind fun t200 => (spec_MakSay.j0 k a0 a1 (!t200))) else (spec_MakSay.j0 k a0 a1 true))) = some r := h; clear h; have HC3 := am_ H; clear H; go_enter Tryd.func48, Tryd.ntmps48
  go_upto_region 1 with (fail)
  go_cut [12] (fun v12 wc => ∃ (kq : Nat) (x12_2 : Bool), v12 = .bool x12_2 ∧ Aside0 (spec_MakSay.j0 kq a0 a1 x12_2 = some r) ∧ Aside0 (kq ≤ k) ∧ Aside0 (Below w.heap.size w wc))
  case first =>
    have H := HC3.out; clear HC3; replace H := Option.bind_eq_some_iff.mp H; obtain ⟨t199, A40, H⟩ := H; replace H : (if t199 = true then ((spec_l1In.f a1 0 7).bind fun t200 => (spec_MakSay.j0 k a0 a1 (!t200))) else (spec_MakSay.j0 k a0 a1 true)) = some r := H; have A4 := am_ A40; clear A40; by_cases c5 : t199 = true
    · subst c5
      have H1 : ((spec_l1In.f a1 0 7).bind fun t200 => (spec_MakSay.j0 k a0 a1 (!t200))) = some r := by rw [if_pos rfl] at H; exact H
      clear H; have H := H1; clear H1; replace H := Option.bind_eq_some_iff.mp H; obtain ⟨t200, A60, H⟩ := H; replace H : (spec_MakSay.j0 k a0 a1 (!t200)) = some r := H; have A6 := am_ A60; clear A60; have H' := am_ H; clear H; go_wp2_with (first | ((with_reducible refine gate_callee (f := 30) rfl ?_); refine goesL_ (some 6) rfl rfl Tryd.func30 (by kernel_rfl) rfl #[.string a0] rfl y1_ ?_; (with_reducible refine (spec_SecOk.calls k a0 true _ A4.out).mono ?_); rintro e w7 ⟨rfl, hb⟩; refine ⟨_, rfl, ?_⟩; replace HB := am_ (below_step (y7_ HB.out) hb); clear hb) | (go_at_call 68; (with_reducible refine (spec_l1In.calls a1 0 7 t200 _ A6.out).mono ?_); rintro e w' ⟨rfl, ⟨nd, rfl⟩⟩)); go_meet
      case rel => exact ⟨_, (!t200), y4_, H', ⟨by first | omega | exact Nat.le_refl _⟩, ⟨y7_ HB.out⟩⟩
    replace c5 := Bool.eq_false_iff.mpr c5; subst c5
    have H1 : (spec_MakSay.j0 k a0 a1 true) = some r := by rw [if_neg (show ¬ (false = true) by decide)] at H; exact H
    clear H; have H := H1; clear H1; have H' := am_ H; clear H; go_wp2_with (first | ((with_reducible refine gate_callee (f := 30) rfl ?_); refine goesL_ (some 6) rfl rfl Tryd.func30 (by kernel_rfl) rfl #[.string a0] rfl y1_ ?_; (with_reducible refine (spec_SecOk.calls k a0 false _ A4.out).mono ?_); rintro e w8 ⟨rfl, hb⟩; refine ⟨_, rfl, ?_⟩; replace HB := am_ (below_step (y7_ HB.out) hb); clear hb)); go_meet
    case rel => exact ⟨_, (true), y4_, H', ⟨by first | omega | exact Nat.le_refl _⟩, ⟨y7_ HB.out⟩⟩
  case rest =>
    clear HC3; (try clear p2); (try clear c3); (try clear c4); (try clear c5); obtain ⟨kq, x12_2, rfl, HA, HJ2, HB⟩ := hcut
    cases kq with
    | zero => exact absurd HA.out (by simp [spec_MakSay.j0])
    | succ kj2 =>
      have H := HA.out; clear HA; simp only [spec_MakSay.j0] at H; by_cases c9 : x12_2 = true
      · subst c9
        have H1 : (some (⟨#[]⟩ : ByteArray)) = some r := by rw [if_pos rfl] at H; exact H
        clear H; have H := H1; clear H1; obtain rfl := Option.some.inj H; go_wp2; go_ret; exact ⟨y6_, y7_ HB.out⟩
      replace c9 := Bool.eq_false_iff.mpr c9; subst c9
      have H1 : ((spec_l1Who.f a1).bind fun t201 => (if 1 + t201.size ≤ 9223372036854775807 then (if ((⟨#[109]⟩ : ByteArray) ++ t201).size + a0.size ≤ 9223372036854775807 then ((spec_l1Ok.f kj2 (((⟨#[109]⟩ : ByteArray) ++ t201) ++ a0)).bind fun t202 => (some t202)) else (none)) else (none))) = some r := by rw [if_neg (show ¬ (false = true) by decide)] at H; exact H
      clear H; have H := H1; clear H1; replace H := Option.bind_eq_some_iff.mp H; obtain ⟨t201, A100, H⟩ := H; replace H : (if 1 + t201.size ≤ 9223372036854775807 then (if ((⟨#[109]⟩ : ByteArray) ++ t201).size + a0.size ≤ 9223372036854775807 then ((spec_l1Ok.f kj2 (((⟨#[109]⟩ : ByteArray) ++ t201) ++ a0)).bind fun t202 => (some t202)) else (none)) else (none)) = some r := H; have A10 := am_ A100; clear A100; by_cases c11 : 1 + t201.size ≤ 9223372036854775807
      · rw [if_pos c11] at H
        have c11b0 := eq_true c11; have c11b1 : decide (1 + t201.size ≤ 9223372036854775807) = true := decide_eq_true c11
        try have c11b2 : (9223372036854775807 < 1 + t201.size) = False := eq_false (Nat.not_lt.2 c11)
        by_cases c12 : ((⟨#[109]⟩ : ByteArray) ++ t201).size + a0.size ≤ 9223372036854775807
        · rw [if_pos c12] at H
          have c12b0 := eq_true c12; have c12b1 : decide (((⟨#[109]⟩ : ByteArray) ++ t201).size + a0.size ≤ 9223372036854775807) = true := decide_eq_true c12
          try have c12b2 : (9223372036854775807 < ((⟨#[109]⟩ : ByteArray) ++ t201).size + a0.size) = False := eq_false (Nat.not_lt.2 c12)
          try (have c12e := c12; simp only [ByteArray.size_append] at c12e; have c12e0 := eq_true c12e; have c12e1 := decide_eq_true c12e; have c12e2 := eq_false (Nat.not_lt.2 c12e))
          replace H := Option.bind_eq_some_iff.mp H; obtain ⟨t202, A130, H⟩ := H; replace H : (some t202) = some r := H; have A13 := am_ A130; clear A130; obtain rfl := Option.some.inj H; go_wp2_with (first | ((with_reducible refine gate_callee (f := 84) rfl ?_); refine goesL_ (some 14) rfl rfl Tryd.func84 (by kernel_rfl) rfl #[.int .i64 a1] rfl y1_ ?_; (with_reducible refine (spec_l1Who.calls a1 t201 _ A10.out).mono ?_); rintro e w14 ⟨rfl, hb⟩; refine ⟨_, rfl, ?_⟩; replace HB := am_ (below_step (y7_ HB.out) hb); clear hb) | ((with_reducible refine gate_callee (f := 80) rfl ?_); refine goesL_ (some 18) rfl rfl Tryd.func80 (by kernel_rfl) rfl #[.string (((⟨#[109]⟩ : ByteArray) ++ t201) ++ a0)] rfl y1_ ?_; (with_reducible refine (spec_l1Ok.calls kj2 (((⟨#[109]⟩ : ByteArray) ++ t201) ++ a0) t202 _ A13.out).mono ?_); rintro e w15 ⟨rfl, hb⟩; refine ⟨_, rfl, ?_⟩; replace HB := am_ (below_step (y7_ HB.out) hb); clear hb)); go_ret; exact ⟨y6_, y7_ HB.out⟩
        rw [if_neg c12] at H; exact absurd H (by simp)
      rw [if_neg c11] at H; exact absurd H (by simp)

end Go.Proofs.YtdcaipomjimplaaDoor.Wc
