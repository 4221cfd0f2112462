-- Written by this session's own program (wip/tools/pp.py) out of the translation, over functions given by hand. Lean checks it.
import Derived.Test.YtnemchmiplbopaaGreatDoorZjx0
import Derived.Test.YtnemchmiplbopaaGreatDoorZjx6
namespace Go.Proofs.YtnemchmiplbopaaGreatDoor.Zj
open Go.RowKit Go.Proofs.YtnemchmiplbopaaGreatDoorW.PrintWords Go.Proofs.YtnemchmiplbopaaGreatDoorW.PrintLast Go.Proofs.YtnemchmiplbopaaGreatDoorW.PrintMore
attribute [local go_sem] max2_int min2_int max_two min_two max_three min_three max_four min_four   -- for this text's walks alone
set_option linter.unusedVariables false
set_option linter.unusedSimpArgs false

/-! ### spec_l1How: function 73 -/
def spec_l1How.l0 : Nat → ByteArray → Int → Int → Option (Int × Int × Int × ByteArray × ByteArray)
  | 0, _, _, _ => none
  | k + 1, x0, x4, x5 => if x5 < (wrap64 ((x0.size : Int) - 1)) then (if 0 ≤ x5 then (if x5 < (x0.size : Int) then (spec_l1How.l0 k x0 (wrap64 ((wrap64 (x4 * 10)) + (((bt x0 x5) - 48) % 256))) (wrap64 (x5 + 1))) else (none)) else (none)) else (if 0 < (x0.size : Int) then (some (1, ((bt x0 0) - 65) % 256, x4, (⟨#[]⟩ : ByteArray), (⟨#[]⟩ : ByteArray))) else (none))
def spec_l1How.f (k : Nat) (a0 : ByteArray) : Option (Int × Int × Int × ByteArray × ByteArray) := if 0 < (a0.size : Int) then (if (bt a0 0) = 110 then (if 1 ≤ (a0.size : Int) then (some (2, 0, 0, a0.extract 1 a0.size, (⟨#[]⟩ : ByteArray))) else (none)) else (if (bt a0 0) = 107 then (if 1 ≤ (a0.size : Int) then (some (3, 0, 0, a0.extract 1 a0.size, (⟨#[]⟩ : ByteArray))) else (none)) else (if (bt a0 0) = 109 then (if 1 < (a0.size : Int) then (if 2 ≤ (a0.size : Int) then (some (5, ((bt a0 1) - 65) % 256, 0, a0.extract 2 a0.size, (⟨#[]⟩ : ByteArray))) else (none)) else (none)) else (if (bt a0 0) = 114 then (if 1 < (a0.size : Int) then (if 2 ≤ (a0.size : Int) then (some (6, 0, ((bt a0 1) - 48) % 256, a0.extract 2 a0.size, (⟨#[]⟩ : ByteArray))) else (none)) else (none)) else (if (bt a0 0) = 101 then ((spec_l1Size.f k a0 1).bind fun t168 => (if 1 ≤ (wrap64 (1 + t168)) then (if (wrap64 (1 + t168)) ≤ (a0.size : Int) then (if 0 ≤ (wrap64 (1 + t168)) then (some (4, 0, 0, a0.extract 1 ((wrap64 (1 + t168)) : Int).toNat, a0.extract ((wrap64 (1 + t168)) : Int).toNat a0.size)) else (none)) else (none)) else (none))) else (spec_l1How.l0 k a0 0 1)))))) else (none)
theorem spec_l1How.mono_l : ∀ k, (∀ y0 y1 y2, LeO (spec_l1How.l0 k y0 y1 y2) (spec_l1How.l0 (k + 1) y0 y1 y2))
  | 0 => fun _ _ _ r h => by simp [spec_l1How.l0] at h
  | k + 1 => by
    have ih0 := spec_l1How.mono_l k
    · intro y0 y1 y2
      unfold spec_l1How.l0
      repeat' first
      | (with_reducible exact ih0 _ _ _)
      | (with_reducible exact spec_l1Size.mono _ _ _)
      | (with_reducible first | exact LeO.refl _ | exact LeO.none _ | refine LeO.ite ?_ ?_ | refine LeO.bind ?_ (fun _ => ?_)) | exact LeO.none _ | refine LeO.ite ?_ ?_ | refine LeO.bind ?_ (fun _ => ?_)
theorem spec_l1How.mono : ∀ a0 k, LeO (spec_l1How.f k a0) (spec_l1How.f (k + 1) a0) := by
  intro a0 k; have ih0 := spec_l1How.mono_l k; unfold spec_l1How.f
  repeat' first
      | (with_reducible exact ih0 _ _ _)
      | (with_reducible exact spec_l1Size.mono _ _ _)
      | (with_reducible first | exact LeO.refl _ | exact LeO.none _ | refine LeO.ite ?_ ?_ | refine LeO.bind ?_ (fun _ => ?_)) | exact LeO.none _ | refine LeO.ite ?_ ?_ | refine LeO.bind ?_ (fun _ => ?_)
def spec_l1How.T7 : Bool × List (List Nat × List Nat) := (true, [([], []), ([0], [0]), ([1], [1]), ([2], [2]), ([], []), ([4], [4]), ([3, 5], [3, 5]), ([6, 0, 1, 2, 3, 4, 5, 6], [6])])
def spec_l1How.B7 : List Nat := [0, 1, 3, 7, 0, 16, 63, 127]
theorem spec_l1How.tab7 : rtab .any (opsOf Tryz.f73 7) = spec_l1How.T7 := by kernel_rfl
theorem spec_l1How.bits7 : waitsOk spec_l1How.T7.2 spec_l1How.B7 = true := by kernel_rfl
def spec_l1How.T9 : Bool × List (List Nat × List Nat) := (true, [([], []), ([0], [0]), ([1], [1]), ([2], [2]), ([], []), ([4], [4]), ([3, 5], [3, 5]), ([6, 0, 1, 2, 3, 4, 5, 6], [6])])
def spec_l1How.B9 : List Nat := [0, 1, 3, 7, 0, 16, 63, 127]
theorem spec_l1How.tab9 : rtab .any (opsOf Tryz.f73 9) = spec_l1How.T9 := by kernel_rfl
theorem spec_l1How.bits9 : waitsOk spec_l1How.T9.2 spec_l1How.B9 = true := by kernel_rfl
def spec_l1How.T12 : Bool × List (List Nat × List Nat) := (true, [([], []), ([], []), ([1], [1]), ([0, 2], [0, 2]), ([], []), ([], []), ([5], [5]), ([4, 6], [4, 6]), ([3, 7], [3, 7]), ([8, 0, 1, 2, 3, 4, 5, 6, 7, 8], [8])])
def spec_l1How.B12 : List Nat := [0, 0, 2, 7, 0, 0, 32, 112, 255, 511]
theorem spec_l1How.tab12 : rtab .any (opsOf Tryz.f73 12) = spec_l1How.T12 := by kernel_rfl
theorem spec_l1How.bits12 : waitsOk spec_l1How.T12.2 spec_l1How.B12 = true := by kernel_rfl
set_option maxHeartbeats 8000000 in
set_option maxRecDepth 100000 in
theorem spec_l1How.calls {k : Nat} {a0 : ByteArray} {r1 : Int} {r2 : Int} {r3 : Int} {r4 : ByteArray} {r5 : ByteArray} {w : World} (H : spec_l1How.f k a0 = some (r1, r2, r3, r4, r5)) :
    Calls Tryz.prog 73 #[.string a0] w fun e w' => e = .returned (.agg #[.int .i64 r1, .int .i64 r2, .int .i64 r3, .string r4, .string r5]) ∧ Below w.heap.size w w' := by
  have hu98 := Tryz.underlying98; have HB := am_ (Below.refl w.heap.size w); revert H; unfold spec_l1How.f; refine in1_ fun c2 c2b0 => ?_
  have c2b1 : decide (0 < a0.size) = true := decide_eq_true (by omega); clear c2; refine ie2_ ?_ ?_
  · intro c4b0 c4b1
    refine il_ fun c5b0 c5b1 => ?_
    intro H; replace H := op5_ H; obtain ⟨rfl, rfl, rfl, rfl, rfl⟩ := H; go_enter Tryz.func73, Tryz.ntmps73; go_wp2_with ((with_reducible refine gl_ ?_); first | ((with_reducible refine gx_ 2 rfl ?_); refine bx_ 2 98 #[.int .i64 0, .int .i64 0, .int .i64 0, .string (⟨#[]⟩ : ByteArray), .string (⟨#[]⟩ : ByteArray)] ?_; intro gb167 hg w6 BK167 hb; have GW167 := ge_ (w0 := w) hg (y7_ HB.out); have GE167 := ge_ (w0 := w) hg (y7_ HB.out); replace HB := st_ (y7_ HB.out) hb; clear hb hg; have p3 : 0 ≤ (0 : Int) := (by omega); have q3 : 0 < a0.size := (by have : (0 : Int) < (a0.size : Int) := of_decide_eq_true y3_; omega); have hx3 : ∀ h : 0 < a0.size, ((a0[0]'h).toNat : Int) = bt a0 0 := bt_at a0 0; clear p3; have qi3 : (0 < (a0.size : Int)) = True := eq_true (of_decide_eq_true y3_); replace q3 := eq_true q3; have hcz7 := cc5_ BK167.out; have hfz7 := cf5_ BK167.out)); refine bodyPost_ret (results_cell_row rfl _ _ gb167 98 #[.int .i64 2, .int .i64 0, .int .i64 0, .string (a0.extract 1 a0.size), .string (⟨#[]⟩ : ByteArray)] (0, 0) _ rfl (pw_ BK167.out) Tryz.underlying98 rfl (by kernel_rfl)) rfl ?_; exact ⟨y6_, yb_ HB.out⟩
  intro c4 c4b0 c4b1
  refine ie2_ ?_ ?_
  · intro c8b0 c8b1
    refine il_ fun c9b0 c9b1 => ?_
    intro H; replace H := op5_ H; obtain ⟨rfl, rfl, rfl, rfl, rfl⟩ := H; go_enter Tryz.func73, Tryz.ntmps73; go_wp2_with ((with_reducible refine gl_ ?_); first | ((with_reducible refine gx_ 2 rfl ?_); refine bx_ 2 98 #[.int .i64 0, .int .i64 0, .int .i64 0, .string (⟨#[]⟩ : ByteArray), .string (⟨#[]⟩ : ByteArray)] ?_; intro gb167 hg w10 BK167 hb; have GW167 := ge_ (w0 := w) hg (y7_ HB.out); have GE167 := ge_ (w0 := w) hg (y7_ HB.out); replace HB := st_ (y7_ HB.out) hb; clear hb hg; have p3 : 0 ≤ (0 : Int) := (by omega); have q3 : 0 < a0.size := (by have : (0 : Int) < (a0.size : Int) := of_decide_eq_true y3_; omega); have hx3 : ∀ h : 0 < a0.size, ((a0[0]'h).toNat : Int) = bt a0 0 := bt_at a0 0; clear p3; have qi3 : (0 < (a0.size : Int)) = True := eq_true (of_decide_eq_true y3_); replace q3 := eq_true q3; have hcz11 := cc5_ BK167.out; have hfz11 := cf5_ BK167.out)); refine bodyPost_ret (results_cell_row rfl _ _ gb167 98 #[.int .i64 3, .int .i64 0, .int .i64 0, .string (a0.extract 1 a0.size), .string (⟨#[]⟩ : ByteArray)] (0, 0) _ rfl (pw_ BK167.out) Tryz.underlying98 rfl (by kernel_rfl)) rfl ?_; exact ⟨y6_, yb_ HB.out⟩
  intro c8 c8b0 c8b1
  refine ie2_ ?_ ?_
  · intro c12b0 c12b1
    refine in1_ fun c13 c13b0 => ?_
    have c13b1 : decide (1 < a0.size) = true := decide_eq_true (by omega); clear c13; refine il_ fun c15b0 c15b1 => ?_
    intro H; replace H := op5_ H; obtain ⟨rfl, rfl, rfl, rfl, rfl⟩ := H; go_enter Tryz.func73, Tryz.ntmps73
    try go_wp2_with ((with_reducible refine gl_ ?_); first | ((with_reducible refine gx_ 2 rfl ?_); refine bx_ 2 98 #[.int .i64 0, .int .i64 0, .int .i64 0, .string (⟨#[]⟩ : ByteArray), .string (⟨#[]⟩ : ByteArray)] ?_; intro gb167 hg w16 BK167 hb; have GW167 := ge_ (w0 := w) hg (y7_ HB.out); have GE167 := ge_ (w0 := w) hg (y7_ HB.out); replace HB := st_ (y7_ HB.out) hb; clear hb hg; have p3 : 0 ≤ (0 : Int) := (by omega); have q3 : 0 < a0.size := (by have : (0 : Int) < (a0.size : Int) := of_decide_eq_true y3_; omega); have hx3 : ∀ h : 0 < a0.size, ((a0[0]'h).toNat : Int) = bt a0 0 := bt_at a0 0; clear p3; have qi3 : (0 < (a0.size : Int)) = True := eq_true (of_decide_eq_true y3_); replace q3 := eq_true q3))
    replace BK167 := am_ (blk_drew BK167.out); replace HB := am_ (below_drew1 HB.out)
    have p14 : 0 ≤ (1 : Int) := (by omega)
    have q14 : 1 < a0.size := (by have : (1 : Int) < (a0.size : Int) := of_decide_eq_true y3_; omega)
    have hx14 : ∀ h : 1 < a0.size, ((a0[1]'h).toNat : Int) = bt a0 1 := bt_at a0 1; clear p14; have qi14 : (1 < (a0.size : Int)) = True := eq_true (of_decide_eq_true y3_); replace q14 := eq_true q14; refine start_ (n := 8) (S := fun w' => True) (ds := []) #[false, false, false, false, false, false, false, false] (by kernel_rfl) rfl rfl trivial (fun hHeld => ?_); refine with_tabW spec_l1How.tab7 spec_l1How.bits7 (fun HT_ HW_ => ?_); generalize w16.drew = w17 at BK167 HB hHeld ⊢; refine pI_ 0 20 (bs_ 8 1) ?_; refine pI_ 4 24 (bs_ 8 17) ?_; refine pI_ 5 25 (bs_ 8 49) ?_; refine pT_ 1 21 (bs_ 8 51) ?_; refine pI_ 2 22 (bs_ 8 55) ?_; refine pI_ 3 23 (bs_ 8 63) ?_; refine pI_ 6 26 (bs_ 8 127) ?_; refine oE_ 7 (bs_ 8 255) (fun K hK => ?_); have hs18 : w17.cell? ⟨gb167, 0, none⟩ = some (.int .i64 0) := (blk_cell BK167.out 0).trans rfl; have hfs18 := blk_frozen BK167.out 0; have hs19 : w17.cell? ⟨gb167, 1, none⟩ = some (.int .i64 0) := (blk_cell BK167.out 1).trans rfl; have hfs19 := blk_frozen BK167.out 1; have hs20 : w17.cell? ⟨gb167, 2, none⟩ = some (.int .i64 0) := (blk_cell BK167.out 2).trans rfl; have hfs20 := blk_frozen BK167.out 2; have hs21 : w17.cell? ⟨gb167, 3, none⟩ = some (.string (⟨#[]⟩ : ByteArray)) := (blk_cell BK167.out 3).trans rfl; have hfs21 := blk_frozen BK167.out 3; have hs22 : w17.cell? ⟨gb167, 4, none⟩ = some (.string (⟨#[]⟩ : ByteArray)) := (blk_cell BK167.out 4).trans rfl; have hfs22 := blk_frozen BK167.out 4; refine skip_ (w1 := ?_) (by rfl) rfl ?_ ?_; rotate_left
    · go_simp; rfl
    refine hK.out _ _ trivial (fun hHeld => ?_); clear hK K; refine done_ (done_of HT_.out (by kernel_rfl)) ?_
    try go_wp2
    refine bodyPost_ret (results_cell_row rfl _ _ gb167 98 #[.int .i64 5, .int .i64 (((bt a0 1) - 65) % 256), .int .i64 0, .string (a0.extract 2 a0.size), .string (⟨#[]⟩ : ByteArray)] (0, 0) _ rfl (pw_ BK167.out) Tryz.underlying98 rfl (by kernel_rfl)) rfl ?_; exact ⟨y6_, yb_ HB.out⟩
  intro c12 c12b0 c12b1
  refine ie2_ ?_ ?_
  · intro c23b0 c23b1
    refine in1_ fun c24 c24b0 => ?_
    have c24b1 : decide (1 < a0.size) = true := decide_eq_true (by omega); clear c24; refine il_ fun c26b0 c26b1 => ?_
    intro H; replace H := op5_ H; obtain ⟨rfl, rfl, rfl, rfl, rfl⟩ := H; go_enter Tryz.func73, Tryz.ntmps73
    try go_wp2_with ((with_reducible refine gl_ ?_); first | ((with_reducible refine gx_ 2 rfl ?_); refine bx_ 2 98 #[.int .i64 0, .int .i64 0, .int .i64 0, .string (⟨#[]⟩ : ByteArray), .string (⟨#[]⟩ : ByteArray)] ?_; intro gb167 hg w27 BK167 hb; have GW167 := ge_ (w0 := w) hg (y7_ HB.out); have GE167 := ge_ (w0 := w) hg (y7_ HB.out); replace HB := st_ (y7_ HB.out) hb; clear hb hg; have p3 : 0 ≤ (0 : Int) := (by omega); have q3 : 0 < a0.size := (by have : (0 : Int) < (a0.size : Int) := of_decide_eq_true y3_; omega); have hx3 : ∀ h : 0 < a0.size, ((a0[0]'h).toNat : Int) = bt a0 0 := bt_at a0 0; clear p3; have qi3 : (0 < (a0.size : Int)) = True := eq_true (of_decide_eq_true y3_); replace q3 := eq_true q3))
    replace BK167 := am_ (blk_drew BK167.out); replace HB := am_ (below_drew1 HB.out)
    have p25 : 0 ≤ (1 : Int) := (by omega)
    have q25 : 1 < a0.size := (by have : (1 : Int) < (a0.size : Int) := of_decide_eq_true y3_; omega)
    have hx25 : ∀ h : 1 < a0.size, ((a0[1]'h).toNat : Int) = bt a0 1 := bt_at a0 1; clear p25; have qi25 : (1 < (a0.size : Int)) = True := eq_true (of_decide_eq_true y3_); replace q25 := eq_true q25; refine start_ (n := 8) (S := fun w' => True) (ds := []) #[false, false, false, false, false, false, false, false] (by kernel_rfl) rfl rfl trivial (fun hHeld => ?_); refine with_tabW spec_l1How.tab9 spec_l1How.bits9 (fun HT_ HW_ => ?_); generalize w27.drew = w28 at BK167 HB hHeld ⊢; refine pI_ 0 29 (bs_ 8 1) ?_; refine pI_ 4 33 (bs_ 8 17) ?_; refine pI_ 5 34 (bs_ 8 49) ?_; refine pT_ 1 30 (bs_ 8 51) ?_; refine pI_ 2 31 (bs_ 8 55) ?_; refine pI_ 3 32 (bs_ 8 63) ?_; refine pI_ 6 35 (bs_ 8 127) ?_; refine oE_ 7 (bs_ 8 255) (fun K hK => ?_); have hs29 : w28.cell? ⟨gb167, 0, none⟩ = some (.int .i64 0) := (blk_cell BK167.out 0).trans rfl; have hfs29 := blk_frozen BK167.out 0; have hs30 : w28.cell? ⟨gb167, 1, none⟩ = some (.int .i64 0) := (blk_cell BK167.out 1).trans rfl; have hfs30 := blk_frozen BK167.out 1; have hs31 : w28.cell? ⟨gb167, 2, none⟩ = some (.int .i64 0) := (blk_cell BK167.out 2).trans rfl; have hfs31 := blk_frozen BK167.out 2; have hs32 : w28.cell? ⟨gb167, 3, none⟩ = some (.string (⟨#[]⟩ : ByteArray)) := (blk_cell BK167.out 3).trans rfl; have hfs32 := blk_frozen BK167.out 3; have hs33 : w28.cell? ⟨gb167, 4, none⟩ = some (.string (⟨#[]⟩ : ByteArray)) := (blk_cell BK167.out 4).trans rfl; have hfs33 := blk_frozen BK167.out 4; refine skip_ (w1 := ?_) (by rfl) rfl ?_ ?_; rotate_left
    · go_simp; rfl
    refine hK.out _ _ trivial (fun hHeld => ?_); clear hK K; refine done_ (done_of HT_.out (by kernel_rfl)) ?_
    try go_wp2
    refine bodyPost_ret (results_cell_row rfl _ _ gb167 98 #[.int .i64 6, .int .i64 0, .int .i64 (((bt a0 1) - 48) % 256), .string (a0.extract 2 a0.size), .string (⟨#[]⟩ : ByteArray)] (0, 0) _ rfl (pw_ BK167.out) Tryz.underlying98 rfl (by kernel_rfl)) rfl ?_; exact ⟨y6_, yb_ HB.out⟩
  intro c23 c23b0 c23b1
  refine ie2_ ?_ ?_
  · intro c34b0 c34b1
    refine oc_ fun t168 A35 => ?_; refine il1_ fun c36 c36b0 c36b1 => ?_
    refine il1_ fun c37 c37b0 c37b1 => ?_
    obtain ⟨ji38, hji38⟩ : ∃ j_ : Int, (wrap64 (1 + t168)) = j_ := ⟨_, rfl⟩
    intro H; rw [hji38] at H; revert H
    (try rw [hji38] at c36b0); (try rw [hji38] at c36b1); (try rw [hji38] at c36); (try rw [hji38] at c37b0); (try rw [hji38] at c37b1); (try rw [hji38] at c37); (try rw [hji38] at A35); have hji38w : (IntKind.i64.wrap (1 + t168)) = ji38 := (i64_w _).trans hji38; refine il_ fun c39b0 c39b1 => ?_
    have c40b0 := eq_true (of_decide_eq_true y3_ : (ji38) ≤ (a0.size : Int)); intro H; replace H := op5_ H; obtain ⟨rfl, rfl, rfl, rfl, rfl⟩ := H; go_enter Tryz.func73, Tryz.ntmps73
    try go_wp2_with ((with_reducible refine gl_ ?_); first | ((with_reducible refine gx_ 2 rfl ?_); refine bx_ 2 98 #[.int .i64 0, .int .i64 0, .int .i64 0, .string (⟨#[]⟩ : ByteArray), .string (⟨#[]⟩ : ByteArray)] ?_; intro gb167 hg w41 BK167 hb; have GW167 := ge_ (w0 := w) hg (y7_ HB.out); have GE167 := ge_ (w0 := w) hg (y7_ HB.out); replace HB := st_ (y7_ HB.out) hb; clear hb hg; have p3 : 0 ≤ (0 : Int) := (by omega); have q3 : 0 < a0.size := (by have : (0 : Int) < (a0.size : Int) := of_decide_eq_true y3_; omega); have hx3 : ∀ h : 0 < a0.size, ((a0[0]'h).toNat : Int) = bt a0 0 := bt_at a0 0; clear p3; have qi3 : (0 < (a0.size : Int)) = True := eq_true (of_decide_eq_true y3_); replace q3 := eq_true q3) | ((with_reducible refine gf_ 77 39 rfl rfl ?_); refine gb_ (spec_l1Size.calls k a0 1 t168 _ A35.out) ?_; intro w42 hb; replace BK167 := bk_ BK167 hb; replace HB := st_ (yb_ HB.out) hb; clear hb))
    replace BK167 := am_ (blk_drew BK167.out); replace HB := am_ (below_drew1 HB.out); refine start_ (n := 10) (S := fun w' => True) (ds := []) #[false, false, false, false, false, false, false, false, false, false] (by kernel_rfl) rfl rfl trivial (fun hHeld => ?_); refine with_tabW spec_l1How.tab12 spec_l1How.bits12 (fun HT_ HW_ => ?_); generalize w42.drew = w43 at BK167 HB hHeld ⊢; refine pI_ 0 40 (bs_ 10 1) ?_; refine pI_ 1 41 (bs_ 10 3) ?_; refine pI_ 2 42 (bs_ 10 7) ?_; refine pI_ 3 43 (bs_ 10 15) ?_; refine pI_ 4 44 (bs_ 10 31) ?_; refine pI_ 5 45 (bs_ 10 63) ?_; refine pI_ 6 46 (bs_ 10 127) ?_; refine pI_ 7 47 (bs_ 10 255) ?_; refine pI_ 8 48 (bs_ 10 511) ?_; refine oE_ 9 (bs_ 10 1023) (fun K hK => ?_); have hs44 : w43.cell? ⟨gb167, 0, none⟩ = some (.int .i64 0) := (blk_cell BK167.out 0).trans rfl; have hfs44 := blk_frozen BK167.out 0; have hs45 : w43.cell? ⟨gb167, 1, none⟩ = some (.int .i64 0) := (blk_cell BK167.out 1).trans rfl; have hfs45 := blk_frozen BK167.out 1; have hs46 : w43.cell? ⟨gb167, 2, none⟩ = some (.int .i64 0) := (blk_cell BK167.out 2).trans rfl; have hfs46 := blk_frozen BK167.out 2; have hs47 : w43.cell? ⟨gb167, 3, none⟩ = some (.string (⟨#[]⟩ : ByteArray)) := (blk_cell BK167.out 3).trans rfl; have hfs47 := blk_frozen BK167.out 3; have hs48 : w43.cell? ⟨gb167, 4, none⟩ = some (.string (⟨#[]⟩ : ByteArray)) := (blk_cell BK167.out 4).trans rfl; have hfs48 := blk_frozen BK167.out 4; refine skip_ (w1 := ?_) (by rfl) rfl ?_ ?_; rotate_left
    · go_simp; rfl
    refine hK.out _ _ trivial (fun hHeld => ?_); clear hK K; refine done_ (done_of HT_.out (by kernel_rfl)) ?_
    try go_wp2
    refine bodyPost_ret (results_cell_row rfl _ _ gb167 98 #[.int .i64 4, .int .i64 0, .int .i64 0, .string (a0.extract 1 ((ji38) : Int).toNat), .string (a0.extract ((ji38) : Int).toNat a0.size)] (0, 0) _ rfl (pw_ BK167.out) Tryz.underlying98 rfl (by kernel_rfl)) rfl ?_; exact ⟨by first | rfl | (simp [errW_none, errW_some] <;> rfl) | (simp only [← hji38]; first | rfl | (simp [errW_none, errW_some] <;> rfl)) | (simp [*, errW_none, errW_some] <;> rfl), yb_ HB.out⟩
  intro c34 c34b0 c34b1; refine ai_ fun H' => ?_; go_enter Tryz.func73, Tryz.ntmps73; go_wp2_with ((with_reducible refine gl_ ?_); first | ((with_reducible refine gx_ 2 rfl ?_); refine bx_ 2 98 #[.int .i64 0, .int .i64 0, .int .i64 0, .string (⟨#[]⟩ : ByteArray), .string (⟨#[]⟩ : ByteArray)] ?_; intro gb167 hg w49 BK167 hb; have GW167 := ge_ (w0 := w) hg (y7_ HB.out); have GE167 := ge_ (w0 := w) hg (y7_ HB.out); replace HB := st_ (y7_ HB.out) hb; clear hb hg; have p3 : 0 ≤ (0 : Int) := (by omega); have q3 : 0 < a0.size := (by have : (0 : Int) < (a0.size : Int) := of_decide_eq_true y3_; omega); have hx3 : ∀ h : 0 < a0.size, ((a0[0]'h).toNat : Int) = bt a0 0 := bt_at a0 0; clear p3; have qi3 : (0 < (a0.size : Int)) = True := eq_true (of_decide_eq_true y3_); replace q3 := eq_true q3))
  go_loopg [4, 5] k (fun kq v4 v5 w' => ∃ (x4_1 : Int) (x5_1 : Int), v4 = .int .i64 x4_1 ∧ v5 = .int .i64 x5_1 ∧ Aside0 (spec_l1How.l0 kq a0 x4_1 x5_1 = some (r1, r2, r3, r4, r5)) ∧ Aside0 (kq ≤ k) ∧ Aside0 (w'.heap[gb167]? = some (.cells #[.int .i64 0, .int .i64 0, .int .i64 0, .string (⟨#[]⟩ : ByteArray), .string (⟨#[]⟩ : ByteArray)] 98 (0, 0))) ∧ Aside0 (Below w.heap.size w w'))
  case atStart => exact ⟨(0), (1), y4_, y4_, H', ⟨Nat.le_refl _⟩, ⟨y12_ BK167.out⟩, ⟨yb_ HB.out⟩⟩
  case round =>
    clear H'; (try clear c2); (try clear c2b0); (try clear c2b1); (try clear p3); (try clear q3); (try clear hx3); (try clear qi3); (try clear c4); (try clear c4b0); (try clear c4b1); (try clear c5b0); (try clear c5b1); (try clear c8); (try clear c8b0); (try clear c8b1); (try clear c9b0); (try clear c9b1); (try clear c12); (try clear c12b0); (try clear c12b1); (try clear c13); (try clear c13b0); (try clear c13b1); (try clear p14); (try clear q14); (try clear hx14); (try clear qi14); (try clear c15b0); (try clear c15b1); (try clear c23); (try clear c23b0); (try clear c23b1); (try clear c24); (try clear c24b0); (try clear c24b1); (try clear p25); (try clear q25); (try clear hx25); (try clear qi25); (try clear c26b0); (try clear c26b1); (try clear c34); (try clear c34b0); (try clear c34b1); (try clear c36); (try clear c36b0); (try clear c36b1); (try clear c37); (try clear c37b0); (try clear c37b1); (try clear c39b0); (try clear c39b1); (try clear c40b0); (try clear hcz11); (try clear hcz7); (try clear hfz11); (try clear hfz7); (try clear p14); (try clear p25); (try clear p3); (try clear q14); (try clear q25); (try clear q3); obtain ⟨x4_1, x5_1, rfl, rfl, HA, HK1, BK167, HB⟩ := hrel
    cases gk with
    | zero => exact absurd HA.out (by simp [spec_l1How.l0])
    | succ k1 =>
      have H := HA.out; clear HA; simp only [spec_l1How.l0] at H; revert H; refine it_ ?_ ?_
      · intro c50b0
        refine in_ fun c51b0 => ?_
        refine in_ fun c52b0 => ?_
        refine ai_ fun H' => ?_; have p53 : 0 ≤ (x5_1 : Int) := of_decide_eq_true y3_; have q53 : x5_1 < (a0.size : Int) := of_decide_eq_true y3_; have hx53 := bt_at a0 x5_1; replace p53 := eq_true p53; replace q53 := eq_true q53; go_wp2
        go_roundg k1
        case measure => have := HK1.out; omega
        case rel => exact ⟨(wrap64 ((wrap64 (x4_1 * 10)) + (((bt a0 x5_1) - 48) % 256))), (wrap64 (x5_1 + 1)), y4_, y4_, H', ⟨by have := HK1.out; omega⟩, ⟨y12_ BK167.out⟩, ⟨yb_ HB.out⟩⟩
      intro c50b0
      refine in1_ fun c54 c54b0 => ?_
      have c54b1 : decide (0 < a0.size) = true := decide_eq_true (by omega); clear c54; intro H; replace H := op5_ H; obtain ⟨rfl, rfl, rfl, rfl, rfl⟩ := H
      have p55 : 0 ≤ (0 : Int) := (by omega)
      have q55 : 0 < a0.size := (by have : (0 : Int) < (a0.size : Int) := of_decide_eq_true y3_; omega)
      have hx55 : ∀ h : 0 < a0.size, ((a0[0]'h).toNat : Int) = bt a0 0 := bt_at a0 0; clear p55; have qi55 : (0 < (a0.size : Int)) = True := eq_true (of_decide_eq_true y3_); replace q55 := eq_true q55; have hcz56 := cc5_ BK167.out; have hfz56 := cf5_ BK167.out; go_wp2; refine bodyPost_ret (results_cell_row rfl _ _ gb167 98 #[.int .i64 1, .int .i64 (((bt a0 0) - 65) % 256), .int .i64 x4_1, .string (⟨#[]⟩ : ByteArray), .string (⟨#[]⟩ : ByteArray)] (0, 0) _ rfl (pw_ BK167.out) Tryz.underlying98 rfl (by kernel_rfl)) rfl ?_; exact ⟨y6_, yb_ HB.out⟩

end Go.Proofs.YtnemchmiplbopaaGreatDoor.Zj
