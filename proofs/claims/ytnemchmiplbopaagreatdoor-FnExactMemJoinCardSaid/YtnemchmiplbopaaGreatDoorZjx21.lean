-- Written by this session's own program (wip/tools/pp.py) out of the translation, over functions given by hand. Lean checks it.
import Derived.Test.YtnemchmiplbopaaGreatDoorZjx0
import Derived.Test.YtnemchmiplbopaaGreatDoorZjx2
import Derived.Test.YtnemchmiplbopaaGreatDoorZjx3
namespace Go.Proofs.YtnemchmiplbopaaGreatDoor.Zj
open Go.RowKit Go.Proofs.YtnemchmiplbopaaGreatDoorW.PrintWords Go.Proofs.YtnemchmiplbopaaGreatDoorW.PrintLast Go.Proofs.YtnemchmiplbopaaGreatDoorW.PrintMore
attribute [local go_sem] max2_int min2_int max_two min_two max_three min_three max_four min_four   -- for this text's walks alone
set_option linter.unusedVariables false
set_option linter.unusedSimpArgs false

/-! ### laws_eqKnwBox: function 106 -/
def laws_eqKnwBox.f (a0_0 : ByteArray) (a0_1 : ByteArray) (a1_0 : ByteArray) (a1_1 : ByteArray) : Option (Bool) := if a0_0.toList = a1_0.toList then (if a0_1.toList = a1_1.toList then (some true) else (some false)) else (some false)
theorem laws_eqKnwBox.W {P : Prop} (h : P := by
  go_enter Tryz.func106, Tryz.ntmps106
  go_wp2_with ((with_reducible refine gl_ ?_); first | ((with_reducible refine gx_ 2 rfl ?_); refine bx_ 2 52 #[.string a0_0, .string a0_1] ?_; intro gb488 hg w_ BK488 hb; have GW488 := ge_ (w0 := w) hg (y7_ HB.out); have GE488 := ge_ (w0 := w) hg (y7_ HB.out); replace HB := st_ (y7_ HB.out) hb; clear hb hg) | ((with_reducible refine gx_ 3 rfl ?_); refine bx_ 3 52 #[.string a1_0, .string a1_1] ?_; intro gb489 hg w_ BK489 hb; have GW489 := ge_ (w0 := w) hg (yb_ HB.out); have GE489 := ge_ (w0 := w) hg (yb_ HB.out); replace HB := st_ (yb_ HB.out) hb; have NB488_489 := nb_ hg BK488; have NB489_488 := nc_ hg BK488; replace BK488 := bk_ BK488 hb; clear hb hg; have hz_ := NB488_489.out; have hz_ := NB489_488.out; have hz_ := cc2_ BK488.out; have hz_ := cf2_ BK488.out; have hz_ := cc2_ BK489.out; have hz_ := cf2_ BK489.out))
  go_ret
  exact ⟨y6_, yb_ HB.out⟩) : P := h
set_option maxHeartbeats 8000000 in
set_option maxRecDepth 100000 in
theorem laws_eqKnwBox.calls {a0_0 : ByteArray} {a0_1 : ByteArray} {a1_0 : ByteArray} {a1_1 : ByteArray} {r : Bool} {w : World} (H : laws_eqKnwBox.f a0_0 a0_1 a1_0 a1_1 = some r) :
    Calls Tryz.prog 106 #[.agg #[.string a0_0, .string a0_1], .agg #[.string a1_0, .string a1_1]] w fun e w' => e = .returned (.bool r) ∧ Below w.heap.size w w' := by
  have hu52 := Tryz.underlying52; have HB := am_ (Below.refl w.heap.size w); revert H; unfold laws_eqKnwBox.f; refine ie2_ ?_ ?_
  · intro c3b0 c3b1
    refine ie2_ ?_ ?_
    · intro c4b0 c4b1; refine oj_ ?_; rintro rfl; exact laws_eqKnwBox.W
    intro c4 c4b0 c4b1; refine oj_ ?_; rintro rfl; exact laws_eqKnwBox.W
  intro c3 c3b0 c3b1; refine oj_ ?_; rintro rfl; exact laws_eqKnwBox.W

/-! ### laws_eqKnwBoxS: function 67 -/
def laws_eqKnwBoxS.l0 : Nat → List (S52) → List (S52) → Int → Option (Bool)
  | 0, _, _, _ => none
  | k + 1, x0, x1, x5 => if x5 < (x0.length : Int) then (if 0 ≤ x5 then (if x5 < (x1.length : Int) then ((laws_eqKnwBox.f ((rd_T52 x0 x5).f0) ((rd_T52 x0 x5).f1) ((rd_T52 x1 x5).f0) ((rd_T52 x1 x5).f1)).bind fun t492 => (if t492 = true then (laws_eqKnwBoxS.l0 k x0 x1 (wrap64 (x5 + 1))) else (some false))) else (none)) else (none)) else (some true)
def laws_eqKnwBoxS.f (k : Nat) (l0 : List (S52)) (l1 : List (S52)) : Option (Bool) := if (l0.length : Int) = (l1.length : Int) then (laws_eqKnwBoxS.l0 k l0 l1 0) else (some false)
def laws_eqKnwBoxS.T6 : Bool × List (List Nat × List Nat) := (true, [([], []), ([], []), ([0, 1], [0, 1]), ([2], [2]), ([], []), ([], []), ([4, 5], [4, 5]), ([6], [6]), ([3, 7], [3, 7]), ([8], [8])])
def laws_eqKnwBoxS.B6 : List Nat := [0, 0, 3, 7, 0, 0, 48, 112, 255, 511]
theorem laws_eqKnwBoxS.tab6 : rtab .any (opsOf Tryz.f67 6) = laws_eqKnwBoxS.T6 := by kernel_rfl
theorem laws_eqKnwBoxS.bits6 : waitsOk laws_eqKnwBoxS.T6.2 laws_eqKnwBoxS.B6 = true := by kernel_rfl
set_option maxHeartbeats 8000000 in
set_option maxRecDepth 100000 in
theorem laws_eqKnwBoxS.calls {k : Nat} {A0 : Option Addr} {c0 : Nat} {l0 : List (S52)} {A1 : Option Addr} {c1 : Nat} {l1 : List (S52)} {r : Bool} {w : World} (hr0 : Kd.C k52 w A0 l0.length l0) (hc0 : l0.length ≤ c0) (hr1 : Kd.C k52 w A1 l1.length l1) (hc1 : l1.length ≤ c1) (H : laws_eqKnwBoxS.f k l0 l1 = some r) :
    Calls Tryz.prog 67 #[.slice A0 l0.length c0, .slice A1 l1.length c1] w fun e w' => e = .returned (.bool r) ∧ Below w.heap.size w w' := by
  have hu52 := Tryz.underlying52; have HR0 := am_ hr0; have HC0 := am_ hc0; clear hr0 hc0; have HR1 := am_ hr1; have HC1 := am_ hc1; clear hr1 hc1; have HB := am_ (Below.refl w.heap.size w); revert H; unfold laws_eqKnwBoxS.f; refine ie3_ ?_ ?_
  · intro c3 c3b0 c3b1; have c3b2 : (l0.length == l1.length) = true := by first | simpa using c3 | (simp at c3 ⊢; omega)
    clear c3; refine ai_ fun H' => ?_; go_enter Tryz.func67, Tryz.ntmps67; go_wp2
    go_loopg [5] k (fun kq v5 w' => ∃ (x5_1 : Int), v5 = .int .i64 x5_1 ∧ Aside0 (laws_eqKnwBoxS.l0 kq l0 l1 x5_1 = some r) ∧ Aside0 (kq ≤ k) ∧ Aside0 (Below w.heap.size w w'))
    case atStart => exact ⟨(0), y4_, H', ⟨Nat.le_refl _⟩, ⟨y7_ HB.out⟩⟩
    case round =>
      clear H'; (try clear c1); (try clear c3); (try clear c3b0); (try clear c3b1); (try clear c3b2); obtain ⟨x5_1, rfl, HA, HK1, HB⟩ := hrel
      cases gk with
      | zero => exact absurd HA.out (by simp [laws_eqKnwBoxS.l0])
      | succ k1 =>
        have H := HA.out; clear HA; simp only [laws_eqKnwBoxS.l0] at H; revert H; refine it_ ?_ ?_
        · intro c4b0
          refine in_ fun c5b0 => ?_
          refine in_ fun c6b0 => ?_
          refine oc_ fun t492 A7 => ?_; refine ai_ fun HH => ?_
          try go_wp2
          replace HB := am_ (below_drew1 HB.out); have p490 : 0 ≤ (x5_1 : Int) := of_decide_eq_true y3_; have q490 : x5_1 < (l0.length : Int) := of_decide_eq_true y3_; obtain ⟨ad490, e490, hx490_0, hx490_1⟩ := at_T52 HR0.out x5_1 p490 q490; have hw490_1 := hx490_1; have hw490_0 := hx490_0
          cases e490
          replace hx490_0 := (HB.out.cell (World.block_lt_of_cell? w _ hx490_0)).trans hx490_0; replace hx490_1 := (HB.out.cell (World.block_lt_of_cell? w _ hx490_1)).trans hx490_1; replace p490 := eq_true p490; replace q490 := eq_true q490; have p491 : 0 ≤ (x5_1 : Int) := of_decide_eq_true y3_; have q491 : x5_1 < (l1.length : Int) := of_decide_eq_true y3_; obtain ⟨ad491, e491, hx491_0, hx491_1⟩ := at_T52 HR1.out x5_1 p491 q491; have hw491_1 := hx491_1; have hw491_0 := hx491_0
          cases e491
          replace hx491_0 := (HB.out.cell (World.block_lt_of_cell? w _ hx491_0)).trans hx491_0; replace hx491_1 := (HB.out.cell (World.block_lt_of_cell? w _ hx491_1)).trans hx491_1; replace p491 := eq_true p491; replace q491 := eq_true q491; refine start_ (n := 10) (S := fun w' => w'.cell? (ad490.add ((x5_1).toNat * 2)) = some (.string ((rd_T52 l0 x5_1).f0)) ∧ w'.cell? ⟨(ad490.add ((x5_1).toNat * 2)).block, (ad490.add ((x5_1).toNat * 2)).off + 1, none⟩ = some (.string ((rd_T52 l0 x5_1).f1)) ∧ w'.cell? (ad491.add ((x5_1).toNat * 2)) = some (.string ((rd_T52 l1 x5_1).f0)) ∧ w'.cell? ⟨(ad491.add ((x5_1).toNat * 2)).block, (ad491.add ((x5_1).toNat * 2)).off + 1, none⟩ = some (.string ((rd_T52 l1 x5_1).f1))) (ds := []) #[false, false, false, false, false, false, false, false, false, false] (by kernel_rfl) rfl rfl ⟨((HB.out.cell (World.block_lt_of_cell? w _ hw490_0)).trans hw490_0), ((HB.out.cell (World.block_lt_of_cell? w _ hw490_1)).trans hw490_1), ((HB.out.cell (World.block_lt_of_cell? w _ hw491_0)).trans hw491_0), ((HB.out.cell (World.block_lt_of_cell? w _ hw491_1)).trans hw491_1)⟩ (fun hHeld => ?_); refine with_tabW laws_eqKnwBoxS.tab6 laws_eqKnwBoxS.bits6 (fun HT_ HW_ => ?_); generalize wr.drew = w9 at HB hx490_0 hx490_1 hx491_0 hx491_1 hHeld ⊢; refine pI_ 0 17 (bs_ 10 1) ?_; refine pI_ 1 18 (bs_ 10 3) ?_; refine pI_ 2 19 (bs_ 10 7) ?_; refine pI_ 4 21 (bs_ 10 23) ?_; refine pI_ 5 22 (bs_ 10 55) ?_; refine pI_ 6 23 (bs_ 10 119) ?_; refine pT_ 3 20 (bs_ 10 127) ?_; refine pT_ 7 24 (bs_ 10 255) ?_; refine oN_ 8 25 (bs_ 10 511) (fun K hK => ?_); refine gs_ (laws_eqKnwBox.calls A7.out) ?_
          rintro e w10 ⟨rfl, hb⟩; refine ⟨_, rfl, ?_⟩; replace HB := st_ (y7_ HB.out) hb; clear hb; refine hK.out _ _ ⟨((HB.out.cell (World.block_lt_of_cell? w _ hw490_0)).trans hw490_0), ((HB.out.cell (World.block_lt_of_cell? w _ hw490_1)).trans hw490_1), ((HB.out.cell (World.block_lt_of_cell? w _ hw491_0)).trans hw491_0), ((HB.out.cell (World.block_lt_of_cell? w _ hw491_1)).trans hw491_1)⟩ (fun hHeld => ?_); clear hK K; refine nm_ ?_
          refine pI_ 9 26 (bs_ 10 1023) ?_; refine done_ (done_of HT_.out (by kernel_rfl)) ?_
          obtain ⟨H⟩ := HH; revert H; refine ib_ ?_ ?_
          · rintro rfl
            refine ai_ fun H' => ?_
            try go_wp2
            go_roundg k1
            case measure => have := HK1.out; omega
            case rel => exact ⟨(wrap64 (x5_1 + 1)), y4_, H', ⟨by have := HK1.out; omega⟩, ⟨y7_ HB.out⟩⟩
          rintro rfl
          refine oj_ ?_; rintro rfl
          try go_wp2
          go_ret; exact ⟨y6_, y7_ HB.out⟩
        intro c4b0; refine oj_ ?_; rintro rfl; go_wp2; go_ret; exact ⟨y6_, y7_ HB.out⟩
  intro c3 c3b0 c3b1; have c3b2 : (l0.length == l1.length) = false := by first | simpa using c3 | (simp at c3 ⊢; omega)
  refine oj_ ?_; rintro rfl; go_enter Tryz.func67, Tryz.ntmps67; go_wp2; go_ret; exact ⟨y6_, y7_ HB.out⟩

/-! ### laws_eqCmtWelcome: function 68 -/
def laws_eqCmtWelcome.f (a0_0 : ByteArray) (a0_1 : ByteArray) (a0_2 : ByteArray) (a0_3 : ByteArray) (a0_4 : ByteArray) (a1_0 : ByteArray) (a1_1 : ByteArray) (a1_2 : ByteArray) (a1_3 : ByteArray) (a1_4 : ByteArray) : Option (Bool) := if a0_0.toList = a1_0.toList then ((laws_eqKnwBox.f a0_1 a0_2 a1_1 a1_2).bind fun t495 => (if t495 = true then ((laws_eqKnwBox.f a0_3 a0_4 a1_3 a1_4).bind fun t496 => (if t496 = true then (some true) else (some false))) else (some false))) else (some false)
theorem laws_eqCmtWelcome.W {P : Prop} (h : P := by
  go_enter Tryz.func68, Tryz.ntmps68
  go_wp2_with ((with_reducible refine gl_ ?_); first | ((with_reducible refine gx_ 2 rfl ?_); refine bx_ 2 54 #[.string a0_0, .string a0_1, .string a0_2, .string a0_3, .string a0_4] ?_; intro gb493 hg w_ BK493 hb; have GW493 := ge_ (w0 := w) hg (y7_ HB.out); have GE493 := ge_ (w0 := w) hg (y7_ HB.out); replace HB := st_ (y7_ HB.out) hb; clear hb hg) | ((with_reducible refine gx_ 3 rfl ?_); refine bx_ 3 54 #[.string a1_0, .string a1_1, .string a1_2, .string a1_3, .string a1_4] ?_; intro gb494 hg w_ BK494 hb; have GW494 := ge_ (w0 := w) hg (yb_ HB.out); have GE494 := ge_ (w0 := w) hg (yb_ HB.out); replace HB := st_ (yb_ HB.out) hb; have NB493_494 := nb_ hg BK493; have NB494_493 := nc_ hg BK493; replace BK493 := bk_ BK493 hb; clear hb hg; have hz_ := NB493_494.out; have hz_ := NB494_493.out; have hz_ := cc5_ BK493.out; have hz_ := cf5_ BK493.out; have hz_ := cc5_ BK494.out; have hz_ := cf5_ BK494.out) | ((with_reducible refine gf_ 106 14 rfl rfl ?_); refine gb_ (laws_eqKnwBox.calls A4.out) ?_; intro w_ hb; replace BK493 := bk_ BK493 hb; replace BK494 := bk_ BK494 hb; replace HB := st_ (yb_ HB.out) hb; clear hb; have hz_ := cc5_ BK493.out; have hz_ := cf5_ BK493.out; have hz_ := cc5_ BK494.out; have hz_ := cf5_ BK494.out) | ((with_reducible refine gf_ 106 20 rfl rfl ?_); refine gb_ (laws_eqKnwBox.calls A6.out) ?_; intro w_ hb; replace BK493 := bk_ BK493 hb; replace BK494 := bk_ BK494 hb; replace HB := st_ (yb_ HB.out) hb; clear hb))
  go_ret
  exact ⟨y6_, yb_ HB.out⟩) : P := h
set_option maxHeartbeats 8000000 in
set_option maxRecDepth 100000 in
theorem laws_eqCmtWelcome.calls {a0_0 : ByteArray} {a0_1 : ByteArray} {a0_2 : ByteArray} {a0_3 : ByteArray} {a0_4 : ByteArray} {a1_0 : ByteArray} {a1_1 : ByteArray} {a1_2 : ByteArray} {a1_3 : ByteArray} {a1_4 : ByteArray} {r : Bool} {w : World} (H : laws_eqCmtWelcome.f a0_0 a0_1 a0_2 a0_3 a0_4 a1_0 a1_1 a1_2 a1_3 a1_4 = some r) :
    Calls Tryz.prog 68 #[.agg #[.string a0_0, .string a0_1, .string a0_2, .string a0_3, .string a0_4], .agg #[.string a1_0, .string a1_1, .string a1_2, .string a1_3, .string a1_4]] w fun e w' => e = .returned (.bool r) ∧ Below w.heap.size w w' := by
  have hu54 := Tryz.underlying54; have hu52 := Tryz.underlying52; have HB := am_ (Below.refl w.heap.size w); revert H; unfold laws_eqCmtWelcome.f; refine ie2_ ?_ ?_
  · intro c3b0 c3b1
    refine oc_ fun t495 A4 => ?_; refine ib_ ?_ ?_
    · rintro rfl
      refine oc_ fun t496 A6 => ?_; refine ib_ ?_ ?_
      · rintro rfl; refine oj_ ?_; rintro rfl; exact laws_eqCmtWelcome.W
      rintro rfl; refine oj_ ?_; rintro rfl; exact laws_eqCmtWelcome.W
    rintro rfl; refine oj_ ?_; rintro rfl; exact laws_eqCmtWelcome.W
  intro c3 c3b0 c3b1; refine oj_ ?_; rintro rfl; exact laws_eqCmtWelcome.W

/-! ### laws_eqCmtCommit: function 21 -/
def laws_eqCmtCommit.f (k : Nat) (a0_0 : Int) (a0_1 : ByteArray) (a0_2 : ByteArray) (a0_3 : Int) (a0_4 : Int) (a0_5 : ByteArray) (l0_6 : List ByteArray) (l0_7 : List (S52)) (a0_8 : ByteArray) (a0_9 : ByteArray) (a0_10 : ByteArray) (a0_11 : ByteArray) (a0_12 : ByteArray) (a1_0 : Int) (a1_1 : ByteArray) (a1_2 : ByteArray) (a1_3 : Int) (a1_4 : Int) (a1_5 : ByteArray) (l1_6 : List ByteArray) (l1_7 : List (S52)) (a1_8 : ByteArray) (a1_9 : ByteArray) (a1_10 : ByteArray) (a1_11 : ByteArray) (a1_12 : ByteArray) : Option (Bool) := if a0_0 = a1_0 then (if a0_1.toList = a1_1.toList then (if a0_2.toList = a1_2.toList then (if a0_3 = a1_3 then (if a0_4 = a1_4 then (if a0_5.toList = a1_5.toList then ((laws_eqStringS.f k l0_6 l1_6).bind fun t499 => (if t499 = true then ((laws_eqKnwBoxS.f k l0_7 l1_7).bind fun t500 => (if t500 = true then ((laws_eqCmtWelcome.f a0_8 a0_9 a0_10 a0_11 a0_12 a1_8 a1_9 a1_10 a1_11 a1_12).bind fun t501 => (if t501 = true then (some true) else (some false))) else (some false))) else (some false))) else (some false)) else (some false)) else (some false)) else (some false)) else (some false)) else (some false)
theorem laws_eqCmtCommit.W {P : Prop} (h : P := by
  go_enter Tryz.func21, Tryz.ntmps21
  go_wp2_with ((with_reducible refine gl_ ?_); first | ((with_reducible refine gx_ 2 rfl ?_); refine bx_ 2 56 #[.int .i64 a0_0, .string a0_1, .string a0_2, .int .i64 a0_3, .int .i64 a0_4, .string a0_5, .slice A0_6 l0_6.length c0_6, .slice A0_7 l0_7.length c0_7, .string a0_8, .string a0_9, .string a0_10, .string a0_11, .string a0_12] ?_; intro gb497 hg w_ BK497 hb; have GW497 := ge_ (w0 := w) hg (y7_ HB.out); have GE497 := ge_ (w0 := w) hg (y7_ HB.out); replace HB := st_ (y7_ HB.out) hb; clear hb hg) | ((with_reducible refine gx_ 3 rfl ?_); refine bx_ 3 56 #[.int .i64 a1_0, .string a1_1, .string a1_2, .int .i64 a1_3, .int .i64 a1_4, .string a1_5, .slice A1_6 l1_6.length c1_6, .slice A1_7 l1_7.length c1_7, .string a1_8, .string a1_9, .string a1_10, .string a1_11, .string a1_12] ?_; intro gb498 hg w_ BK498 hb; have GW498 := ge_ (w0 := w) hg (yb_ HB.out); have GE498 := ge_ (w0 := w) hg (yb_ HB.out); replace HB := st_ (yb_ HB.out) hb; have NB497_498 := nb_ hg BK497; have NB498_497 := nc_ hg BK497; replace BK497 := bk_ BK497 hb; clear hb hg; have hz_ := NB497_498.out; have hz_ := NB498_497.out; have hz_ := cc13_ BK497.out; have hz_ := cf13_ BK497.out; have hz_ := cc13_ BK498.out; have hz_ := cf13_ BK498.out) | ((with_reducible refine gf_ 13 39 rfl rfl ?_); refine gd_ (laws_eqStringS.calls (y17_ (Kd.C_below HR0_6.out HB.out)) HC0_6.out (y17_ (Kd.C_below HR1_6.out HB.out)) HC1_6.out A9.out) ?_; intro nd) | ((with_reducible refine gf_ 67 45 rfl rfl ?_); refine gb_ (laws_eqKnwBoxS.calls ?side1 HC0_7.out ?side3 HC1_7.out A11.out) ?_; (case side1 => repeat (first | exact (Kd.C_below HR0_7.out (yb_ HB.out)) | (with_reducible refine Kd.C_alloc ?_ _) | (with_reducible refine Kd.C_drewN ?_ _) | (with_reducible refine Kd.C_drew ?_))); (case side3 => repeat (first | exact (Kd.C_below HR1_7.out (yb_ HB.out)) | (with_reducible refine Kd.C_alloc ?_ _) | (with_reducible refine Kd.C_drewN ?_ _) | (with_reducible refine Kd.C_drew ?_))); intro w_ hb; replace BK497 := bk_ BK497 hb; replace BK498 := bk_ BK498 hb; replace HB := st_ (yb_ HB.out) hb; clear hb; have hz_ := cc13_ BK497.out; have hz_ := cf13_ BK497.out; have hz_ := cc13_ BK498.out; have hz_ := cf13_ BK498.out) | ((with_reducible refine gf_ 68 51 rfl rfl ?_); refine gb_ (laws_eqCmtWelcome.calls A13.out) ?_; intro w_ hb; replace BK497 := bk_ BK497 hb; replace BK498 := bk_ BK498 hb; replace HB := st_ (yb_ HB.out) hb; clear hb))
  go_ret
  exact ⟨y6_, yb_ HB.out⟩) : P := h
set_option maxHeartbeats 8000000 in
set_option maxRecDepth 100000 in
theorem laws_eqCmtCommit.calls {k : Nat} {a0_0 : Int} {a0_1 : ByteArray} {a0_2 : ByteArray} {a0_3 : Int} {a0_4 : Int} {a0_5 : ByteArray} {A0_6 : Option Addr} {c0_6 : Nat} {l0_6 : List ByteArray} {A0_7 : Option Addr} {c0_7 : Nat} {l0_7 : List (S52)} {a0_8 : ByteArray} {a0_9 : ByteArray} {a0_10 : ByteArray} {a0_11 : ByteArray} {a0_12 : ByteArray} {a1_0 : Int} {a1_1 : ByteArray} {a1_2 : ByteArray} {a1_3 : Int} {a1_4 : Int} {a1_5 : ByteArray} {A1_6 : Option Addr} {c1_6 : Nat} {l1_6 : List ByteArray} {A1_7 : Option Addr} {c1_7 : Nat} {l1_7 : List (S52)} {a1_8 : ByteArray} {a1_9 : ByteArray} {a1_10 : ByteArray} {a1_11 : ByteArray} {a1_12 : ByteArray} {r : Bool} {w : World} (hr0_6 : Kd.C Kd.string w A0_6 l0_6.length l0_6) (hc0_6 : l0_6.length ≤ c0_6) (hr0_7 : Kd.C k52 w A0_7 l0_7.length l0_7) (hc0_7 : l0_7.length ≤ c0_7) (hr1_6 : Kd.C Kd.string w A1_6 l1_6.length l1_6) (hc1_6 : l1_6.length ≤ c1_6) (hr1_7 : Kd.C k52 w A1_7 l1_7.length l1_7) (hc1_7 : l1_7.length ≤ c1_7) (H : laws_eqCmtCommit.f k a0_0 a0_1 a0_2 a0_3 a0_4 a0_5 l0_6 l0_7 a0_8 a0_9 a0_10 a0_11 a0_12 a1_0 a1_1 a1_2 a1_3 a1_4 a1_5 l1_6 l1_7 a1_8 a1_9 a1_10 a1_11 a1_12 = some r) :
    Calls Tryz.prog 21 #[.agg #[.int .i64 a0_0, .string a0_1, .string a0_2, .int .i64 a0_3, .int .i64 a0_4, .string a0_5, .slice A0_6 l0_6.length c0_6, .slice A0_7 l0_7.length c0_7, .string a0_8, .string a0_9, .string a0_10, .string a0_11, .string a0_12], .agg #[.int .i64 a1_0, .string a1_1, .string a1_2, .int .i64 a1_3, .int .i64 a1_4, .string a1_5, .slice A1_6 l1_6.length c1_6, .slice A1_7 l1_7.length c1_7, .string a1_8, .string a1_9, .string a1_10, .string a1_11, .string a1_12]] w fun e w' => e = .returned (.bool r) ∧ Below w.heap.size w w' := by
  have hu56 := Tryz.underlying56; have hu54 := Tryz.underlying54; have HR0_6 := am_ hr0_6; have HC0_6 := am_ hc0_6; clear hr0_6 hc0_6; have HR0_7 := am_ hr0_7; have HC0_7 := am_ hc0_7; clear hr0_7 hc0_7; have HR1_6 := am_ hr1_6; have HC1_6 := am_ hc1_6; clear hr1_6 hc1_6; have HR1_7 := am_ hr1_7; have HC1_7 := am_ hc1_7; clear hr1_7 hc1_7; have HB := am_ (Below.refl w.heap.size w); revert H; unfold laws_eqCmtCommit.f; refine ie2_ ?_ ?_
  · intro c3b0 c3b1
    refine ie2_ ?_ ?_
    · intro c4b0 c4b1
      refine ie2_ ?_ ?_
      · intro c5b0 c5b1
        refine ie2_ ?_ ?_
        · intro c6b0 c6b1
          refine ie2_ ?_ ?_
          · intro c7b0 c7b1
            refine ie2_ ?_ ?_
            · intro c8b0 c8b1
              refine oc_ fun t499 A9 => ?_; refine ib_ ?_ ?_
              · rintro rfl
                refine oc_ fun t500 A11 => ?_; refine ib_ ?_ ?_
                · rintro rfl
                  refine oc_ fun t501 A13 => ?_; refine ib_ ?_ ?_
                  · rintro rfl; refine oj_ ?_; rintro rfl; exact laws_eqCmtCommit.W
                  rintro rfl; refine oj_ ?_; rintro rfl; exact laws_eqCmtCommit.W
                rintro rfl; refine oj_ ?_; rintro rfl; exact laws_eqCmtCommit.W
              rintro rfl; refine oj_ ?_; rintro rfl; exact laws_eqCmtCommit.W
            intro c8 c8b0 c8b1; refine oj_ ?_; rintro rfl; exact laws_eqCmtCommit.W
          intro c7 c7b0 c7b1; refine oj_ ?_; rintro rfl; exact laws_eqCmtCommit.W
        intro c6 c6b0 c6b1; refine oj_ ?_; rintro rfl; exact laws_eqCmtCommit.W
      intro c5 c5b0 c5b1; refine oj_ ?_; rintro rfl; exact laws_eqCmtCommit.W
    intro c4 c4b0 c4b1; refine oj_ ?_; rintro rfl; exact laws_eqCmtCommit.W
  intro c3 c3b0 c3b1; refine oj_ ?_; rintro rfl; exact laws_eqCmtCommit.W

/-! ### laws_markKnwBoxS: function 69 -/
def laws_markKnwBoxS.l0 : Nat → List (S52) → Int → Int → Option (Int × (List (S52)))
  | 0, _, _, _ => none
  | k + 1, x0, x1, x5 => if x5 < (x0.length : Int) then ((laws_markText.f k x1).bind fun t502 => (if 0 ≤ x5 then ((some (x0.set (x5 : Int).toNat (⟨t502, (rd_T52 x0 x5).f1⟩ : S52) : List (S52))).bind fun y503 => ((laws_markText.f k (wrap64 (x1 + 1))).bind fun t504 => (laws_markKnwBoxS.l0 k (y503.set (x5 : Int).toNat (⟨(rd_T52 y503 x5).f0, t504⟩ : S52)) (wrap64 ((wrap64 (x1 + 1)) + 1)) (wrap64 (x5 + 1))))) else (none))) else (some (x1, x0))
def laws_markKnwBoxS.f (k : Nat) (l0 : List (S52)) (a1 : Int) : Option (Int × (List (S52))) := laws_markKnwBoxS.l0 k l0 a1 0
set_option maxHeartbeats 8000000 in
set_option maxRecDepth 100000 in
theorem laws_markKnwBoxS.calls {k : Nat} {P0_ : Nat → Prop} {u9000_ : Value} {l0 : List (S52)} {a1 : Int} {r1 : Int} {r2 : List (S52)} {w0 w : World} (hB : Below w0.heap.size w0 w) (ho0 : Kd.R k52 52 w w0.heap.size P0_ u9000_ l0) (H : laws_markKnwBoxS.f k l0 a1 = some (r1, r2)) :
    Calls Tryz.prog 69 #[u9000_, .int .i64 a1] w fun e w' => e = .returned (.int .i64 r1) ∧ Kd.R k52 52 w' w0.heap.size (fun k_ => (P0_ k_ ∨ w.heap.size ≤ k_)) u9000_ r2 ∧ Below w0.heap.size w0 w' ∧ Kept w w' (fun k_ => P0_ k_) := by
  have HO0 := am_ (show Kd.R k52 52 w w0.heap.size (fun k_ => (P0_ k_ ∨ w.heap.size ≤ k_)) u9000_ l0 from Kd.R_mono ho0 (fun k_ hk => (.inl hk))); have HK := am_ (Kept.refl w (fun k_ => P0_ k_)); have HW0 := am_ hB.size; have HB := am_ hB; clear hB; revert H; unfold laws_markKnwBoxS.f; refine ai_ fun H' => ?_; go_enter Tryz.func69, Tryz.ntmps69; go_wp2
  go_loopg [1, 5] k (fun kq v1 v5 w' => ∃ (x0_1 : List (S52)) (x1_1 : Int) (x5_1 : Int), v1 = .int .i64 x1_1 ∧ v5 = .int .i64 x5_1 ∧ Aside0 (laws_markKnwBoxS.l0 kq x0_1 x1_1 x5_1 = some (r1, r2)) ∧ Aside0 (kq ≤ k) ∧ Aside0 (Kd.R k52 52 w' w0.heap.size (fun k_ => (P0_ k_ ∨ w.heap.size ≤ k_)) u9000_ x0_1) ∧ Aside0 (Kept w w' (fun k_ => P0_ k_)) ∧ Aside0 (Below w0.heap.size w0 w'))
  case atStart => exact ⟨(l0), (a1), (0), y4_, y4_, H', ⟨Nat.le_refl _⟩, ⟨y11_ HO0.out⟩, ⟨y16_ HK.out⟩, ⟨y7_ HB.out⟩⟩
  case round =>
    clear H'; obtain ⟨x0_1, x1_1, x5_1, rfl, rfl, HA, HK1, HO_0, HK, HB⟩ := hrel
    cases gk with
    | zero => exact absurd HA.out (by simp [laws_markKnwBoxS.l0])
    | succ k1 =>
      have H := HA.out; clear HA; simp only [laws_markKnwBoxS.l0] at H; revert H; refine it_ ?_ ?_
      · intro c3b0
        refine oc_ fun t502 A4 => ?_; refine in_ fun c5b0 => ?_
        refine on_ fun y503 Ny503 => ?_; refine oc_ fun t504 A7 => ?_
        generalize hy505 : (y503.set (x5_1 : Int).toNat (⟨(rd_T52 y503 x5_1).f0, t504⟩ : S52)) = y505; have Ny505 := am_ hy505.symm; clear hy505; refine ai_ fun H' => ?_; obtain ⟨Ao9, co9, eo9⟩ := Kd.R_slice HO_0.out; subst eo9; go_wp2_with (first | ((with_reducible refine gate_store (t := 9) (p := 17) rfl ?_); refine store_event (t := 9) (p := 17) (v := ?vo_w12) (w1 := (w10.setCell ⟨go6, (x5_1 : Int).toNat * 2, none⟩ (.string t502))) ?hg ?ho ?hn ?hr ?_; (case ho => rfl); (case hg => rfl); (case hn => rfl); (case hr => go_simp; try rfl); intro w12 hw; have hg : w10.grownBy w12 (some go6) := (by rw [hw]; exact HP11.2); have hp_ : Kd.R k52 52 w12 w0.heap.size (fun k_ => (P0_ k_ ∨ w.heap.size ≤ k_)) (.slice (some ⟨go6, 0, none⟩) x0_1.length co9) y503 := (by rw [hw, Ny503.out]; exact HP11.1); clear HP11; replace HB := am_ ((by rw [hw]; exact below_set (HB.out) GB6.out : Below w0.heap.size w0 w12)); replace HK := am_ (Kept.of_grown (S := (fun k_ => P0_ k_)) hg (y16_ HK.out) (fun k_ e_ => (HO_0.out.1 k_ e_))); replace HO_0 := am_ hp_; clear hg hw hp_) | ((with_reducible refine gate_store (t := 9) (p := 25) rfl ?_); refine store_event (t := 9) (p := 25) (v := ?vo_w15) (w1 := (w13.setCell ⟨go6, (x5_1 : Int).toNat * 2 + 1, none⟩ (.string t504))) ?hg ?ho ?hn ?hr ?_; (case ho => rfl); (case hg => rfl); (case hn => rfl); (case hr => go_simp; try rfl); intro w15 hw; have hg : w13.grownBy w15 (some go6) := (by rw [hw]; exact HP14.2); have hp_ : Kd.R k52 52 w15 w0.heap.size (fun k_ => (P0_ k_ ∨ w.heap.size ≤ k_)) (.slice (some ⟨go6, 0, none⟩) x0_1.length co9) y505 := (by rw [hw, Ny505.out]; exact HP14.1); clear HP14; replace HB := am_ ((by rw [hw]; exact below_set (HB.out) GB6.out : Below w0.heap.size w0 w15)); replace HK := am_ (Kept.of_grown (S := (fun k_ => P0_ k_)) hg (y16_ HK.out) (fun k_ e_ => (HO_0.out.1 k_ e_))); replace HO_0 := am_ hp_; clear hg hw hp_) | ((with_reducible refine gl_ ?_); first | ((with_reducible refine gf_ 46 15 rfl rfl ?_); refine gb_ (laws_markText.calls A4.out) ?_; intro w10 hb; replace HO_0 := rb_ (y11_ HO_0.out) hb; replace HK := am_ (Kept.below (S := (fun k_ => P0_ k_)) (y16_ HK.out) hb); replace HB := st_ (y7_ HB.out) hb; clear hb; have p6 : 0 ≤ (x5_1 : Int) := of_decide_eq_true y3_; have q6 : (x5_1 : Int) < ((x0_1.length : Int) : Int) := of_decide_eq_true y3_; obtain ⟨go6, co6, eo6, gb6, gl6, cl6, HG6⟩ := Kd.R_form HO_0.out (by omega); (first | cases eo6 | (injection eo6 with ea_ en_ ec_; (first | subst ea_ | (injection ea_ with ea_; subst ea_)); subst ec_; clear en_)); have GB6 := am_ gb6; have GG6 := am_ HG6; clear gb6 gl6 HG6; have HMgo6 := am_ (show (P0_ go6 ∨ w.heap.size ≤ go6) from (HO_0.out.1 _ rfl)); obtain ⟨ce6, hcl6, hM6, hcc6, hfr6⟩ := Kd.R_elem HO_0.out z52 (x5_1 : Int) p6 q6; obtain rfl := k52_openM hM6; have hx6_0 : w10.cell? ⟨go6, (x5_1 : Int).toNat * 2, none⟩ = some (.string ((rd_T52 x0_1 x5_1).f0)) := hcc6 0 _ rfl; have hx6_1 : w10.cell? ⟨go6, (x5_1 : Int).toNat * 2 + 1, none⟩ = some (.string ((rd_T52 x0_1 x5_1).f1)) := hcc6 1 _ rfl; have hf6_0 : w10.frozen? ⟨go6, (x5_1 : Int).toNat * 2, none⟩ = false := hfr6 0; have hf6_1 : w10.frozen? ⟨go6, (x5_1 : Int).toNat * 2 + 1, none⟩ = false := hfr6 1; clear hcl6 hcc6 hfr6 hM6; replace p6 := eq_true p6; replace q6 := eq_true q6; have HX11 := am_ (show Kd.R k52 52 w10 w0.heap.size (fun k_ => (P0_ k_ ∨ w.heap.size ≤ k_)) (.slice (some ⟨go6, 0, none⟩) x0_1.length co9) x0_1 from (y11_ HO_0.out)); obtain ⟨ce11, hcl11, hM11, hcc11, hfr11⟩ := Kd.R_elem HX11.out z52 (x5_1 : Int) (of_decide_eq_true y3_) (by have h_ : (x5_1 : Int) < ((x0_1.length : Int) : Int) := of_decide_eq_true y3_; first | exact h_ | (have e_ := (Kd.R_reads' HO_0.out).1; omega) | simpa using h_); obtain rfl := k52_openM hM11; have HP11 := Kd.R_seg HX11.out (x5_1 : Int) (of_decide_eq_true y3_) (by have h_ : (x5_1 : Int) < ((x0_1.length : Int) : Int) := of_decide_eq_true y3_; first | exact h_ | (have e_ := (Kd.R_reads' HO_0.out).1; omega) | simpa using h_) (seg := [.string t502]) (j := 0) hcl11 hcc11 (show 1 ≤ 2 from by decide) (x' := (⟨t502, (rd_T52 x0_1 x5_1).f1⟩ : S52)) (k52_mkM _ _ _ (⟨t502, (rd_T52 x0_1 x5_1).f1⟩ : S52) ) (fun _ hk => hk); have hx11_0 := hcc11 0 _ rfl; (try simp only [show (k52).sz = 2 from rfl, Nat.mul_one, Nat.add_zero] at hx11_0); have hf11_0 := hfr11 0; (try simp only [show (k52).sz = 2 from rfl, Nat.mul_one, Nat.add_zero] at hf11_0); clear hcl11 hcc11 hfr11 hM11) | ((with_reducible refine gf_ 46 23 rfl rfl ?_); refine gb_ (laws_markText.calls A7.out) ?_; intro w13 hb; replace HO_0 := rb_ (y11_ HO_0.out) hb; replace HK := am_ (Kept.below (S := (fun k_ => P0_ k_)) (y16_ HK.out) hb); replace HB := st_ (y7_ HB.out) hb; clear hb; have p8 : 0 ≤ (x5_1 : Int) := of_decide_eq_true y3_; have q8 : (x5_1 : Int) < ((x0_1.length : Int) : Int) := of_decide_eq_true y3_; obtain ⟨ce8, hcl8, hM8, hcc8, hfr8⟩ := Kd.R_elem HO_0.out z52 (x5_1 : Int) p8 q8; obtain rfl := k52_openM hM8; have hx8_0 : w13.cell? ⟨go6, (x5_1 : Int).toNat * 2, none⟩ = some (.string ((rd_T52 y503 x5_1).f0)) := hcc8 0 _ rfl; have hx8_1 : w13.cell? ⟨go6, (x5_1 : Int).toNat * 2 + 1, none⟩ = some (.string ((rd_T52 y503 x5_1).f1)) := hcc8 1 _ rfl; have hf8_0 : w13.frozen? ⟨go6, (x5_1 : Int).toNat * 2, none⟩ = false := hfr8 0; have hf8_1 : w13.frozen? ⟨go6, (x5_1 : Int).toNat * 2 + 1, none⟩ = false := hfr8 1; clear hcl8 hcc8 hfr8 hM8; replace p8 := eq_true p8; replace q8 := eq_true q8; have HX14 := am_ (show Kd.R k52 52 w13 w0.heap.size (fun k_ => (P0_ k_ ∨ w.heap.size ≤ k_)) (.slice (some ⟨go6, 0, none⟩) x0_1.length co9) y503 from (y11_ HO_0.out)); obtain ⟨ce14, hcl14, hM14, hcc14, hfr14⟩ := Kd.R_elem HX14.out z52 (x5_1 : Int) (of_decide_eq_true y3_) (by have h_ : (x5_1 : Int) < ((x0_1.length : Int) : Int) := of_decide_eq_true y3_; first | exact h_ | (have e_ := (Kd.R_reads' HO_0.out).1; omega) | simpa using h_); obtain rfl := k52_openM hM14; have HP14 := Kd.R_seg HX14.out (x5_1 : Int) (of_decide_eq_true y3_) (by have h_ : (x5_1 : Int) < ((x0_1.length : Int) : Int) := of_decide_eq_true y3_; first | exact h_ | (have e_ := (Kd.R_reads' HO_0.out).1; omega) | simpa using h_) (seg := [.string t504]) (j := 1) hcl14 hcc14 (show 2 ≤ 2 from by decide) (x' := (⟨(rd_T52 y503 x5_1).f0, t504⟩ : S52)) (k52_mkM _ _ _ (⟨(rd_T52 y503 x5_1).f0, t504⟩ : S52) ) (fun _ hk => hk); have hx14_1 := hcc14 1 _ rfl; (try simp only [show (k52).sz = 2 from rfl, Nat.mul_one, Nat.add_zero] at hx14_1); have hf14_1 := hfr14 1; (try simp only [show (k52).sz = 2 from rfl, Nat.mul_one, Nat.add_zero] at hf14_1); clear hcl14 hcc14 hfr14 hM14)))
        go_roundg k1
        case measure => have := HK1.out; omega
        case rel => exact ⟨(y505), (wrap64 ((wrap64 (x1_1 + 1)) + 1)), (wrap64 (x5_1 + 1)), y4_, y4_, H', ⟨by have := HK1.out; omega⟩, ⟨y11_ HO_0.out⟩, ⟨y16_ HK.out⟩, ⟨y7_ HB.out⟩⟩
      intro c3b0; intro H; replace H := op2_ H; obtain ⟨rfl, rfl⟩ := H; obtain ⟨Ao16, co16, eo16⟩ := Kd.R_slice HO_0.out; subst eo16; go_wp2; go_ret; exact ⟨y6_, y11_ HO_0.out, y7_ HB.out, y16_ HK.out⟩

/-! ### laws_markCmtCommit: function 22 -/
def laws_markCmtCommit.f (k : Nat) (a0_0 : Int) (a0_1 : ByteArray) (a0_2 : ByteArray) (a0_3 : Int) (a0_4 : Int) (a0_5 : ByteArray) (l0_6 : List ByteArray) (l0_7 : List (S52)) (a0_8 : ByteArray) (a0_9 : ByteArray) (a0_10 : ByteArray) (a0_11 : ByteArray) (a0_12 : ByteArray) (a1 : Int) : Option (Int × List ByteArray × (List (S52))) := (laws_markStringS.f k l0_6 a1).bind fun bt507 => ((laws_markKnwBoxS.f k l0_7 bt507.1).bind fun bt509 => (some (bt509.1, bt507.2, bt509.2)))
set_option maxHeartbeats 8000000 in
set_option maxRecDepth 100000 in
theorem laws_markCmtCommit.calls {k : Nat} {a0_0 : Int} {a0_1 : ByteArray} {a0_2 : ByteArray} {a0_3 : Int} {a0_4 : Int} {a0_5 : ByteArray} {P0_6_ : Nat → Prop} {u9000_ : Value} {l0_6 : List ByteArray} {P0_7_ : Nat → Prop} {u9001_ : Value} {l0_7 : List (S52)} {a0_8 : ByteArray} {a0_9 : ByteArray} {a0_10 : ByteArray} {a0_11 : ByteArray} {a0_12 : ByteArray} {a1 : Int} {r1 : Int} {r2 : List ByteArray} {r3 : List (S52)} {w0 w : World} (hB : Below w0.heap.size w0 w) (ho0_6 : Kd.R Kd.string 9 w w0.heap.size P0_6_ u9000_ l0_6) (ho0_7 : Kd.R k52 52 w w0.heap.size P0_7_ u9001_ l0_7) (H : laws_markCmtCommit.f k a0_0 a0_1 a0_2 a0_3 a0_4 a0_5 l0_6 l0_7 a0_8 a0_9 a0_10 a0_11 a0_12 a1 = some (r1, r2, r3)) :
    Calls Tryz.prog 22 #[.agg #[.int .i64 a0_0, .string a0_1, .string a0_2, .int .i64 a0_3, .int .i64 a0_4, .string a0_5, u9000_, u9001_, .string a0_8, .string a0_9, .string a0_10, .string a0_11, .string a0_12], .int .i64 a1] w fun e w' => e = .returned (.int .i64 r1) ∧ Kd.R Kd.string 9 w' w0.heap.size (fun k_ => ((P0_6_ k_ ∨ P0_7_ k_) ∨ w.heap.size ≤ k_)) u9000_ r2 ∧ Kd.R k52 52 w' w0.heap.size (fun k_ => ((P0_6_ k_ ∨ P0_7_ k_) ∨ w.heap.size ≤ k_)) u9001_ r3 ∧ Below w0.heap.size w0 w' ∧ Kept w w' (fun k_ => P0_6_ k_ ∨ P0_7_ k_) := by
  have hu56 := Tryz.underlying56; have HO0_6 := am_ (show Kd.R Kd.string 9 w w0.heap.size (fun k_ => ((P0_6_ k_ ∨ P0_7_ k_) ∨ w.heap.size ≤ k_)) u9000_ l0_6 from Kd.R_mono ho0_6 (fun k_ hk => (.inl (.inl hk)))); have HO0_7 := am_ (show Kd.R k52 52 w w0.heap.size (fun k_ => ((P0_6_ k_ ∨ P0_7_ k_) ∨ w.heap.size ≤ k_)) u9001_ l0_7 from Kd.R_mono ho0_7 (fun k_ hk => (.inl (.inr hk)))); have HK := am_ (Kept.refl w (fun k_ => P0_6_ k_ ∨ P0_7_ k_)); have HW0 := am_ hB.size; have HB := am_ hB; clear hB; revert H; unfold laws_markCmtCommit.f; refine oc_ ?_; rintro ⟨t507, t508⟩ A3 H; dsimp only at H; revert H; refine oc_ ?_; rintro ⟨t509, t510⟩ A4 H; dsimp only at H; revert H; intro H; replace H := op3_ H; obtain ⟨rfl, rfl, rfl⟩ := H; obtain ⟨Ao5, co5, eo5⟩ := Kd.R_slice HO0_6.out; subst eo5; obtain ⟨Ao6, co6, eo6⟩ := Kd.R_slice HO0_7.out; subst eo6; go_enter Tryz.func22, Tryz.ntmps22; go_wp2_with (first | ((with_reducible refine gate_dst (N := 2) rfl ?_); refine box_event ?hg (N := 2) ?hd (cs := #[.int .i64 a0_0, .string a0_1, .string a0_2, .int .i64 a0_3, .int .i64 a0_4, .string a0_5, .slice Ao5 l0_6.length co5, .slice Ao6 l0_7.length co6, .string a0_8, .string a0_9, .string a0_10, .string a0_11, .string a0_12]) (t := 56) ?hr ?_; (case hd => rfl); (case hg => rfl); (case hr => go_simp; try rfl); intro gb506 hg w7 hbox hb; replace HO0_6 := rb_ (y11_ HO0_6.out) hb; replace HO0_7 := rb_ (y11_ HO0_7.out) hb; have BK506 := am_ hbox; have GW506 := am_ ((by rw [hg]; exact (by first | exact HK.out.1 | exact (show Kept w _ (fun k_ => P0_6_ k_ ∨ P0_7_ k_) from y16_ HK.out).1) : w.heap.size ≤ gb506)); replace HK := am_ (Kept.below (S := (fun k_ => P0_6_ k_ ∨ P0_7_ k_)) (y16_ HK.out) hb); have GE506 := ge_ (w0 := w0) hg (y7_ HB.out); replace HB := st_ (y7_ HB.out) hb; clear hb hbox hg; have hcz8 := cc13_ BK506.out; have hfz8 := cf13_ BK506.out) | ((with_reducible refine gl_ ?_); first | ((with_reducible refine gf_ 15 8 rfl rfl ?_); refine gc_ (laws_markStringS.callsR k (fun k_ => some k_ = (.slice Ao5 l0_6.length co5 : Value).ownBlock) (.slice Ao5 l0_6.length co5) l0_6 a1 t507 t508 w0 _ (yb_ HB.out) (Kd.R_tight rfl HO0_6.out) A3.out) ?_; rintro e w9 ⟨rfl, hy0, hb, hkp⟩; refine ⟨_, rfl, ?_⟩; replace HO0_7 := am_ (Kd.R_mono (ok' := fun k_ => ((P0_6_ k_ ∨ P0_7_ k_) ∨ w.heap.size ≤ k_)) (Kd.R_keptB ((Kd.R_apart' HO0_7.out (Kd.R_typed HO0_6.out) (by decide))) hkp (fun k_ hk_ hs_ => (hk_.2) hs_)) (fun k_ hk_ => hk_.1.1)); replace BK506 := am_ (blk_kept (y12_ BK506.out) hkp (rn_ HO0_6.out BK506.out)); replace HK := am_ (Kept.then_ (S := (fun k_ => P0_6_ k_ ∨ P0_7_ k_)) (by repeat (first | (with_reducible first | exact HK.out | apply Kept.alloc | apply Kept.drewN | apply Kept.drew | refine Kept.setCell ?_ (.inr GW506.out) _) | exact HK.out)) hkp (fun k_ hs_ => (fun e_ => (HO0_6.out.1 k_ e_.symm)) hs_)); replace HO0_6 := am_ (Kd.R_reok rfl hy0 (fun k_ e_ => HO0_6.out.1 k_ e_)); replace HB := am_ hb; (try clear hb); (try clear hkp); (try clear hy0); have hcz10 := cc13_ BK506.out; have hfz10 := cf13_ BK506.out) | ((with_reducible refine gf_ 69 12 rfl rfl ?_); refine gc_ (laws_markKnwBoxS.calls (yb_ HB.out) (Kd.R_tight rfl HO0_7.out) A4.out) ?_; rintro e w11 ⟨rfl, hy0, hb, hkp⟩; refine ⟨_, rfl, ?_⟩; replace HO0_6 := am_ (Kd.R_mono (ok' := fun k_ => ((P0_6_ k_ ∨ P0_7_ k_) ∨ w.heap.size ≤ k_)) (Kd.R_keptB ((Kd.R_apart' HO0_6.out (Kd.R_typed HO0_7.out) (by decide))) hkp (fun k_ hk_ hs_ => (hk_.2) hs_)) (fun k_ hk_ => hk_.1.1)); replace BK506 := am_ (blk_kept (y12_ BK506.out) hkp (rn_ HO0_7.out BK506.out)); replace HK := am_ (Kept.then_ (S := (fun k_ => P0_6_ k_ ∨ P0_7_ k_)) (by repeat (first | (with_reducible first | exact HK.out | apply Kept.alloc | apply Kept.drewN | apply Kept.drew | refine Kept.setCell ?_ (.inr GW506.out) _) | exact HK.out)) hkp (fun k_ hs_ => (fun e_ => (HO0_7.out.1 k_ e_.symm)) hs_)); replace HO0_7 := am_ (Kd.R_reok rfl hy0 (fun k_ e_ => HO0_7.out.1 k_ e_)); replace HB := am_ hb; (try clear hb); (try clear hkp); (try clear hy0)))); go_ret; exact ⟨y6_, y11_ HO0_6.out, y11_ HO0_7.out, yb_ HB.out, by repeat (first | (with_reducible first | exact HK.out | apply Kept.alloc | apply Kept.drewN | apply Kept.drew | refine Kept.setCell ?_ (.inr GW506.out) _) | exact HK.out)⟩

end Go.Proofs.YtnemchmiplbopaaGreatDoor.Zj

namespace Go.Proofs.YtnemchmiplbopaaGreatDoor.Zj
open Go.RowKit Go.Proofs.YtnemchmiplbopaaGreatDoorW.PrintWords Go.Proofs.YtnemchmiplbopaaGreatDoorW.PrintLast Go.Proofs.YtnemchmiplbopaaGreatDoorW.PrintMore
attribute [local go_sem] max2_int min2_int max_two min_two max_three min_three max_four min_four   -- for this text's walks alone
set_option linter.unusedVariables false
set_option linter.unusedSimpArgs false

/-! ### laws_heldStringS: function 16 -/
def laws_heldStringS.l0 : Nat → List ByteArray → Int → Int → Option (Int)
  | 0, _, _, _ => none
  | k + 1, x0, x1, x5 => if x5 < (x0.length : Int) then (if 0 ≤ x5 then ((laws_markText.f k x1).bind fun t512 => (if (rdOf ByteArray.empty x0 x5).toList = t512.toList then (laws_heldStringS.l0 k x0 (wrap64 (x1 + 1)) (wrap64 (x5 + 1))) else (some (-1)))) else (none)) else (some x1)
def laws_heldStringS.f (k : Nat) (l0 : List ByteArray) (a1 : Int) : Option (Int) := laws_heldStringS.l0 k l0 a1 0
set_option maxHeartbeats 8000000 in
set_option maxRecDepth 100000 in
theorem laws_heldStringS.calls {k : Nat} {A0 : Option Addr} {c0 : Nat} {l0 : List ByteArray} {a1 : Int} {r : Int} {w : World} (hr0 : Kd.C Kd.string w A0 l0.length l0) (hc0 : l0.length ≤ c0) (H : laws_heldStringS.f k l0 a1 = some r) :
    Calls Tryz.prog 16 #[.slice A0 l0.length c0, .int .i64 a1] w fun e w' => e = .returned (.int .i64 r) ∧ Below w.heap.size w w' := by
  have HR0 := am_ hr0; have HC0 := am_ hc0; clear hr0 hc0; have HB := am_ (Below.refl w.heap.size w); revert H; unfold laws_heldStringS.f; refine ai_ fun H' => ?_; go_enter Tryz.func16, Tryz.ntmps16; go_wp2
  go_loopg [1, 5] k (fun kq v1 v5 w' => ∃ (x1_1 : Int) (x5_1 : Int), v1 = .int .i64 x1_1 ∧ v5 = .int .i64 x5_1 ∧ Aside0 (laws_heldStringS.l0 kq l0 x1_1 x5_1 = some r) ∧ Aside0 (kq ≤ k) ∧ Aside0 (Below w.heap.size w w'))
  case atStart => exact ⟨(a1), (0), y4_, y4_, H', ⟨Nat.le_refl _⟩, ⟨y7_ HB.out⟩⟩
  case round =>
    clear H'; obtain ⟨x1_1, x5_1, rfl, rfl, HA, HK1, HB⟩ := hrel
    cases gk with
    | zero => exact absurd HA.out (by simp [laws_heldStringS.l0])
    | succ k1 =>
      have H := HA.out; clear HA; simp only [laws_heldStringS.l0] at H; revert H; refine it_ ?_ ?_
      · intro c3b0
        refine in_ fun c4b0 => ?_
        refine oc_ fun t512 A5 => ?_; refine ai_ fun HH => ?_
        try go_wp2
        replace HB := am_ (below_drew1 HB.out); have p511 : 0 ≤ (x5_1 : Int) := of_decide_eq_true y3_; have q511 : x5_1 < (l0.length : Int) := of_decide_eq_true y3_; obtain ⟨ad511, e511, hx511_0⟩ := Kd.at_string HR0.out x5_1 p511 q511; have hw511_0 := hx511_0
        cases e511
        replace hx511_0 := (HB.out.cell (World.block_lt_of_cell? w _ hx511_0)).trans hx511_0; replace p511 := eq_true p511; replace q511 := eq_true q511; refine start_ (n := 7) (S := fun w' => w'.cell? (ad511.add (x5_1).toNat) = some (.string (rdOf ByteArray.empty l0 x5_1))) (ds := []) #[false, false, false, false, false, false, false] (by kernel_rfl) rfl rfl (((HB.out.cell (World.block_lt_of_cell? w _ hw511_0)).trans hw511_0)) (fun hHeld => ?_); generalize wr.drew = w7 at HB hx511_0 hHeld ⊢; refine pure_ (i := 0) (N := some 12) (v := ?_) (a' := ?_) #[true, false, false, false, false, false, false] rfl rfl (by kernel_rfl) (fun _ _ _ h => h) (Or.inl ⟨by rfl, ?_⟩) ?_ ?_; rotate_left
        · intro w'; go_simp; with_reducible rfl
        rotate_left
        · simp only [Act.put, List.setIfInBounds_toArray, List.set_cons_zero, List.set_cons_succ, i64_w, i32_w]; rfl
        refine pure_ (i := 1) (N := some 13) (v := ?_) (a' := ?_) #[true, true, false, false, false, false, false] rfl rfl (by kernel_rfl) (fun _ _ _ h => h) (Or.inl ⟨by rfl, ?_⟩) ?_ ?_; rotate_left
        · intro w'; go_simp; with_reducible rfl
        rotate_left
        · simp only [Act.put, List.setIfInBounds_toArray, List.set_cons_zero, List.set_cons_succ, i64_w, i32_w]; rfl
        refine pure_ (i := 2) (N := some 14) (v := ?_) (a' := ?_) #[true, true, true, false, false, false, false] rfl rfl (by kernel_rfl) (fun _ _ _ h => h) (Or.inl ⟨by rfl, ?_⟩) ?_ ?_; rotate_left
        · intro w'; go_simp; with_reducible rfl
        rotate_left
        · simp only [Act.put, List.setIfInBounds_toArray, List.set_cons_zero, List.set_cons_succ, i64_w, i32_w]; rfl
        refine pure_ (i := 4) (N := some 16) (v := ?_) (a' := ?_) #[true, true, true, false, true, false, false] rfl rfl (by kernel_rfl) (fun _ _ _ h => h) (Or.inl ⟨by rfl, ?_⟩) ?_ ?_; rotate_left
        · intro w'; go_simp; with_reducible rfl
        rotate_left
        · simp only [Act.put, List.setIfInBounds_toArray, List.set_cons_zero, List.set_cons_succ, i64_w, i32_w]; rfl
        refine take_ (i := 3) (N := some 15) (v := ?_) (a' := ?_) #[true, true, true, true, true, false, false] rfl rfl (by kernel_rfl) (fun _ _ _ h => h) (Or.inl ⟨by rfl, ?_⟩) hHeld ?_ ?_; rotate_left
        · intro w' s0; go_simp; with_reducible rfl
        rotate_left
        · simp only [Act.put, List.setIfInBounds_toArray, List.set_cons_zero, List.set_cons_succ, i64_w, i32_w]; rfl
        refine one_ (i := 5) (N := some 17) #[true, true, true, true, true, true, false] rfl rfl (by kernel_rfl) (by decide) (fun K hK => ?_); refine gs_ (laws_markText.calls A5.out) ?_
        rintro e w8 ⟨rfl, hb⟩; refine ⟨_, rfl, ?_⟩; replace HB := st_ (y7_ HB.out) hb; clear hb; refine hK.out _ _ (((HB.out.cell (World.block_lt_of_cell? w _ hw511_0)).trans hw511_0)) (fun hHeld => ?_); clear hK K; refine nm_ ?_
        refine pure_ (i := 6) (N := some 18) (v := ?_) (a' := ?_) #[true, true, true, true, true, true, true] rfl rfl (by kernel_rfl) (fun _ _ _ h => h) (Or.inl ⟨by rfl, ?_⟩) ?_ ?_; rotate_left
        · intro w'; go_simp; with_reducible rfl
        rotate_left
        · simp only [Act.put, List.setIfInBounds_toArray, List.set_cons_zero, List.set_cons_succ, i64_w, i32_w]; rfl
        refine done_ (by kernel_rfl) ?_
        obtain ⟨H⟩ := HH; revert H; refine ie2_ ?_ ?_
        · intro c6b0 c6b1; (try simp only [em_, bne, c6b0, c6b1, Bool.not_true, Bool.not_false])
          refine ai_ fun H' => ?_
          try go_wp2
          go_roundg k1
          case measure => have := HK1.out; omega
          case rel => exact ⟨(wrap64 (x1_1 + 1)), (wrap64 (x5_1 + 1)), y4_, y4_, H', ⟨by have := HK1.out; omega⟩, ⟨y7_ HB.out⟩⟩
        intro c6 c6b0 c6b1; (try simp only [em_, bne, c6b0, c6b1, Bool.not_true, Bool.not_false])
        refine oj_ ?_; rintro rfl
        try go_wp2
        go_ret; exact ⟨y6_, y7_ HB.out⟩
      intro c3b0; refine oj_ ?_; rintro rfl; go_wp2; go_ret; exact ⟨y6_, y7_ HB.out⟩

/-! ### laws_heldTreTree: function 70 -/
def laws_heldTreTree.f (k : Nat) (l0_0 : List ByteArray) (a1 : Int) : Option (Int) := (laws_heldStringS.f k l0_0 a1).bind fun t514 => (if t514 < 0 then (some (-1)) else (some t514))
theorem laws_heldTreTree.W {P : Prop} (h : P := by
  go_enter Tryz.func70, Tryz.ntmps70
  go_wp2_with ((with_reducible refine gl_ ?_); first | ((with_reducible refine gx_ 2 rfl ?_); refine bx_ 2 30 #[.slice A0_0 l0_0.length c0_0] ?_; intro gb513 hg w_ BK513 hb; have GW513 := ge_ (w0 := w) hg (y7_ HB.out); have GE513 := ge_ (w0 := w) hg (y7_ HB.out); replace HB := st_ (y7_ HB.out) hb; clear hb hg; have hz_ := blk_c0 BK513.out; have hz_ := blk_frozen BK513.out 0) | ((with_reducible refine gf_ 16 8 rfl rfl ?_); refine gb_ (laws_heldStringS.calls (y17_ (Kd.C_below HR0_0.out HB.out)) HC0_0.out A3.out) ?_; intro w_ hb; replace BK513 := bk_ BK513 hb; replace HB := st_ (yb_ HB.out) hb; clear hb))
  go_ret
  exact ⟨y6_, yb_ HB.out⟩) : P := h
set_option maxHeartbeats 8000000 in
set_option maxRecDepth 100000 in
theorem laws_heldTreTree.calls {k : Nat} {A0_0 : Option Addr} {c0_0 : Nat} {l0_0 : List ByteArray} {a1 : Int} {r : Int} {w : World} (hr0_0 : Kd.C Kd.string w A0_0 l0_0.length l0_0) (hc0_0 : l0_0.length ≤ c0_0) (H : laws_heldTreTree.f k l0_0 a1 = some r) :
    Calls Tryz.prog 70 #[.agg #[.slice A0_0 l0_0.length c0_0], .int .i64 a1] w fun e w' => e = .returned (.int .i64 r) ∧ Below w.heap.size w w' := by
  have hu30 := Tryz.underlying30; have HR0_0 := am_ hr0_0; have HC0_0 := am_ hc0_0; clear hr0_0 hc0_0; have HB := am_ (Below.refl w.heap.size w); revert H; unfold laws_heldTreTree.f; refine oc_ fun t514 A3 => ?_; refine it_ ?_ ?_
  · intro c4b0; refine oj_ ?_; rintro rfl; exact laws_heldTreTree.W
  intro c4b0; refine oj_ ?_; rintro rfl; exact laws_heldTreTree.W

/-! ### laws_heldMemOwnS: function 71 -/
def laws_heldMemOwnS.l0 : Nat → List (S74) → Int → Int → Option (Int)
  | 0, _, _, _ => none
  | k + 1, x0, x1, x5 => if x5 < (x0.length : Int) then (if 0 ≤ x5 then (if ((rd_T74 x0 x5).f0) = x1 then ((laws_markText.f k (wrap64 (x1 + 1))).bind fun t517 => (if ((rd_T74 x0 x5).f1).toList = t517.toList then (laws_heldMemOwnS.l0 k x0 (wrap64 ((wrap64 (x1 + 1)) + 1)) (wrap64 (x5 + 1))) else (some (-1)))) else (some (-1))) else (none)) else (some x1)
def laws_heldMemOwnS.f (k : Nat) (l0 : List (S74)) (a1 : Int) : Option (Int) := laws_heldMemOwnS.l0 k l0 a1 0
def laws_heldMemOwnS.T7 : Bool × List (List Nat × List Nat) := (true, [([], []), ([], []), ([0, 1], [0, 1]), ([2], [2]), ([3], [3]), ([], []), ([5], [5]), ([4, 6], [4, 6])])
def laws_heldMemOwnS.B7 : List Nat := [0, 0, 3, 7, 15, 0, 32, 127]
theorem laws_heldMemOwnS.tab7 : rtab .any (opsOf Tryz.f71 7) = laws_heldMemOwnS.T7 := by kernel_rfl
theorem laws_heldMemOwnS.bits7 : waitsOk laws_heldMemOwnS.T7.2 laws_heldMemOwnS.B7 = true := by kernel_rfl
set_option maxHeartbeats 8000000 in
set_option maxRecDepth 100000 in
theorem laws_heldMemOwnS.calls {k : Nat} {A0 : Option Addr} {c0 : Nat} {l0 : List (S74)} {a1 : Int} {r : Int} {w : World} (hr0 : Kd.C k74 w A0 l0.length l0) (hc0 : l0.length ≤ c0) (H : laws_heldMemOwnS.f k l0 a1 = some r) :
    Calls Tryz.prog 71 #[.slice A0 l0.length c0, .int .i64 a1] w fun e w' => e = .returned (.int .i64 r) ∧ Below w.heap.size w w' := by
  have HR0 := am_ hr0; have HC0 := am_ hc0; clear hr0 hc0; have HB := am_ (Below.refl w.heap.size w); revert H; unfold laws_heldMemOwnS.f; refine ai_ fun H' => ?_; go_enter Tryz.func71, Tryz.ntmps71; go_wp2
  go_loopg [1, 5] k (fun kq v1 v5 w' => ∃ (x1_1 : Int) (x5_1 : Int), v1 = .int .i64 x1_1 ∧ v5 = .int .i64 x5_1 ∧ Aside0 (laws_heldMemOwnS.l0 kq l0 x1_1 x5_1 = some r) ∧ Aside0 (kq ≤ k) ∧ Aside0 (Below w.heap.size w w'))
  case atStart => exact ⟨(a1), (0), y4_, y4_, H', ⟨Nat.le_refl _⟩, ⟨y7_ HB.out⟩⟩
  case round =>
    clear H'; obtain ⟨x1_1, x5_1, rfl, rfl, HA, HK1, HB⟩ := hrel
    cases gk with
    | zero => exact absurd HA.out (by simp [laws_heldMemOwnS.l0])
    | succ k1 =>
      have H := HA.out; clear HA; simp only [laws_heldMemOwnS.l0] at H; revert H; refine it_ ?_ ?_
      · intro c3b0
        refine in_ fun c4b0 => ?_
        refine ai_ fun HH => ?_
        have p515 : 0 ≤ (x5_1 : Int) := of_decide_eq_true y3_; have q515 : x5_1 < (l0.length : Int) := of_decide_eq_true y3_; obtain ⟨ad515, e515, hx515_0, hx515_1⟩ := at_T74 HR0.out x5_1 p515 q515
        cases e515
        replace hx515_0 := (HB.out.cell (World.block_lt_of_cell? w _ hx515_0)).trans hx515_0; replace hx515_1 := (HB.out.cell (World.block_lt_of_cell? w _ hx515_1)).trans hx515_1; replace p515 := eq_true p515; replace q515 := eq_true q515
        obtain ⟨H⟩ := HH; revert H; refine ie2_ ?_ ?_
        · intro c5b0 c5b1; (try simp only [em_, bne, c5b0, c5b1, Bool.not_true, Bool.not_false])
          refine oc_ fun t517 A6 => ?_; refine ai_ fun HH => ?_
          try go_wp2
          replace HB := am_ (below_drew1 HB.out); have p516 : 0 ≤ (x5_1 : Int) := of_decide_eq_true y3_; have q516 : x5_1 < (l0.length : Int) := of_decide_eq_true y3_; obtain ⟨ad516, e516, hx516_0, hx516_1⟩ := at_T74 HR0.out x5_1 p516 q516; have hw516_1 := hx516_1; have hw516_0 := hx516_0
          obtain rfl : ad515 = ad516 := (by injection e516)
          replace hx516_0 := (HB.out.cell (World.block_lt_of_cell? w _ hx516_0)).trans hx516_0; replace hx516_1 := (HB.out.cell (World.block_lt_of_cell? w _ hx516_1)).trans hx516_1; replace p516 := eq_true p516; replace q516 := eq_true q516; refine start_ (n := 8) (S := fun w' => w'.cell? (ad515.add ((x5_1).toNat * 2)) = some (.int .i64 ((rd_T74 l0 x5_1).f0)) ∧ w'.cell? ⟨(ad515.add ((x5_1).toNat * 2)).block, (ad515.add ((x5_1).toNat * 2)).off + 1, none⟩ = some (.string ((rd_T74 l0 x5_1).f1))) (ds := []) #[false, false, false, false, false, false, false, false] (by kernel_rfl) rfl rfl ⟨((HB.out.cell (World.block_lt_of_cell? w _ hw516_0)).trans hw516_0), ((HB.out.cell (World.block_lt_of_cell? w _ hw516_1)).trans hw516_1)⟩ (fun hHeld => ?_); refine with_tabW laws_heldMemOwnS.tab7 laws_heldMemOwnS.bits7 (fun HT_ HW_ => ?_); generalize wr.drew = w8 at HB hx516_0 hx516_1 hHeld ⊢; refine pI_ 0 21 (bs_ 8 1) ?_; refine pI_ 1 22 (bs_ 8 3) ?_; refine pI_ 2 23 (bs_ 8 7) ?_; refine pI_ 3 24 (bs_ 8 15) ?_; refine pI_ 5 26 (bs_ 8 47) ?_; refine pT_ 4 25 (bs_ 8 63) ?_; refine oN_ 6 27 (bs_ 8 127) (fun K hK => ?_); refine gs_ (laws_markText.calls A6.out) ?_
          rintro e w9 ⟨rfl, hb⟩; refine ⟨_, rfl, ?_⟩; replace HB := st_ (y7_ HB.out) hb; clear hb; refine hK.out _ _ ⟨((HB.out.cell (World.block_lt_of_cell? w _ hw516_0)).trans hw516_0), ((HB.out.cell (World.block_lt_of_cell? w _ hw516_1)).trans hw516_1)⟩ (fun hHeld => ?_); clear hK K; refine nm_ ?_
          refine pI_ 7 28 (bs_ 8 255) ?_; refine done_ (done_of HT_.out (by kernel_rfl)) ?_
          obtain ⟨H⟩ := HH; revert H; refine ie2_ ?_ ?_
          · intro c7b0 c7b1; (try simp only [em_, bne, c7b0, c7b1, Bool.not_true, Bool.not_false])
            refine ai_ fun H' => ?_
            try go_wp2
            go_roundg k1
            case measure => have := HK1.out; omega
            case rel => exact ⟨(wrap64 ((wrap64 (x1_1 + 1)) + 1)), (wrap64 (x5_1 + 1)), y4_, y4_, H', ⟨by have := HK1.out; omega⟩, ⟨y7_ HB.out⟩⟩
          intro c7 c7b0 c7b1; (try simp only [em_, bne, c7b0, c7b1, Bool.not_true, Bool.not_false])
          refine oj_ ?_; rintro rfl
          try go_wp2
          go_ret; exact ⟨y6_, y7_ HB.out⟩
        intro c5 c5b0 c5b1; (try simp only [em_, bne, c5b0, c5b1, Bool.not_true, Bool.not_false])
        refine oj_ ?_; rintro rfl
        go_wp2; go_ret; exact ⟨y6_, y7_ HB.out⟩
      intro c3b0; refine oj_ ?_; rintro rfl; go_wp2; go_ret; exact ⟨y6_, y7_ HB.out⟩

/-! ### laws_heldMemMember: function 23 -/
def laws_heldMemMember.f (k : Nat) (a0_0 : Bool) (a0_1 : Int) (l0_2 : List ByteArray) (l0_3 : List (S74)) (a0_4 : Int) (a0_5 : ByteArray) (a0_6 : ByteArray) (a1 : Int) : Option (Int) := (laws_heldTreTree.f k l0_2 a1).bind fun t519 => (if t519 < 0 then (some (-1)) else ((laws_heldMemOwnS.f k l0_3 t519).bind fun t520 => (if t520 < 0 then (some (-1)) else (some t520))))
theorem laws_heldMemMember.W {P : Prop} (h : P := by
  go_enter Tryz.func23, Tryz.ntmps23
  go_wp2_with ((with_reducible refine gl_ ?_); first | ((with_reducible refine gx_ 2 rfl ?_); refine bx_ 2 33 #[.bool a0_0, .int .i64 a0_1, .slice A0_2 l0_2.length c0_2, .slice A0_3 l0_3.length c0_3, .int .i64 a0_4, .string a0_5, .string a0_6] ?_; intro gb518 hg w_ BK518 hb; have GW518 := ge_ (w0 := w) hg (y7_ HB.out); have GE518 := ge_ (w0 := w) hg (y7_ HB.out); replace HB := st_ (y7_ HB.out) hb; clear hb hg; have hz_ := cc7_ BK518.out; have hz_ := cf7_ BK518.out) | ((with_reducible refine gf_ 70 8 rfl rfl ?_); refine gb_ (laws_heldTreTree.calls (y17_ (Kd.C_below HR0_2.out HB.out)) HC0_2.out A3.out) ?_; intro w_ hb; replace BK518 := bk_ BK518 hb; replace HB := st_ (yb_ HB.out) hb; clear hb; have hz_ := cc7_ BK518.out; have hz_ := cf7_ BK518.out) | ((with_reducible refine gf_ 71 14 rfl rfl ?_); refine gb_ (laws_heldMemOwnS.calls (y17_ (Kd.C_below HR0_3.out HB.out)) HC0_3.out A8.out) ?_; intro w_ hb; replace BK518 := bk_ BK518 hb; replace HB := st_ (yb_ HB.out) hb; clear hb))
  go_ret
  exact ⟨y6_, yb_ HB.out⟩) : P := h
set_option maxHeartbeats 8000000 in
set_option maxRecDepth 100000 in
theorem laws_heldMemMember.calls {k : Nat} {a0_0 : Bool} {a0_1 : Int} {A0_2 : Option Addr} {c0_2 : Nat} {l0_2 : List ByteArray} {A0_3 : Option Addr} {c0_3 : Nat} {l0_3 : List (S74)} {a0_4 : Int} {a0_5 : ByteArray} {a0_6 : ByteArray} {a1 : Int} {r : Int} {w : World} (hr0_2 : Kd.C Kd.string w A0_2 l0_2.length l0_2) (hc0_2 : l0_2.length ≤ c0_2) (hr0_3 : Kd.C k74 w A0_3 l0_3.length l0_3) (hc0_3 : l0_3.length ≤ c0_3) (H : laws_heldMemMember.f k a0_0 a0_1 l0_2 l0_3 a0_4 a0_5 a0_6 a1 = some r) :
    Calls Tryz.prog 23 #[.agg #[.bool a0_0, .int .i64 a0_1, .slice A0_2 l0_2.length c0_2, .slice A0_3 l0_3.length c0_3, .int .i64 a0_4, .string a0_5, .string a0_6], .int .i64 a1] w fun e w' => e = .returned (.int .i64 r) ∧ Below w.heap.size w w' := by
  have hu33 := Tryz.underlying33; have hu30 := Tryz.underlying30; have HR0_2 := am_ hr0_2; have HC0_2 := am_ hc0_2; clear hr0_2 hc0_2; have HR0_3 := am_ hr0_3; have HC0_3 := am_ hc0_3; clear hr0_3 hc0_3; have HB := am_ (Below.refl w.heap.size w); revert H; unfold laws_heldMemMember.f; refine oc_ fun t519 A3 => ?_; refine it_ ?_ ?_
  · intro c4b0; refine oj_ ?_; rintro rfl; exact laws_heldMemMember.W
  intro c4b0
  refine oc_ fun t520 A8 => ?_; refine it_ ?_ ?_
  · intro c9b0; refine oj_ ?_; rintro rfl; exact laws_heldMemMember.W
  intro c9b0; refine oj_ ?_; rintro rfl; exact laws_heldMemMember.W

end Go.Proofs.YtnemchmiplbopaaGreatDoor.Zj
