-- Written by this session's own program (wip/tools/pp.py) out of the translation, over functions given by hand. Lean checks it.
import Derived.Test.YtnemchmiplbopaaGreatDoorZjx0
import Derived.Test.YtnemchmiplbopaaGreatDoorZjx3
import Derived.Test.YtnemchmiplbopaaGreatDoorZjx6
import Derived.Test.YtnemchmiplbopaaGreatDoorZjx7
import Derived.Test.YtnemchmiplbopaaGreatDoorZjx8
import Derived.Test.YtnemchmiplbopaaGreatDoorZjx9
import Derived.Test.YtnemchmiplbopaaGreatDoorZjx10
namespace Go.Proofs.YtnemchmiplbopaaGreatDoor.Zj
open Go.RowKit Go.Proofs.YtnemchmiplbopaaGreatDoorW.PrintWords Go.Proofs.YtnemchmiplbopaaGreatDoorW.PrintLast Go.Proofs.YtnemchmiplbopaaGreatDoorW.PrintMore
attribute [local go_sem] max2_int min2_int max_two min_two max_three min_three max_four min_four   -- for this text's walks alone
set_option linter.unusedVariables false
set_option linter.unusedSimpArgs false

/-! ### spec_MemOk: function 7 -/
def spec_MemOk.f (k : Nat) (a0_0 : Bool) (a0_1 : Int) (l0_2 : List ByteArray) (l0_3 : List (S74)) (a0_4 : Int) (a0_5 : ByteArray) (a0_6 : ByteArray) : Option (Bool) := if a0_0 = true then ((spec_l1In.f a0_1 0 7).bind fun t237 => (if t237 = true then ((spec_TreOk.f k l0_2).bind fun t238 => (if t238 = true then ((spec_l4Fits.f k a0_0 a0_1 l0_2 l0_3 a0_4 a0_5 a0_6).bind fun t239 => (if t239 = true then ((spec_l4All.f k a0_0 a0_1 l0_2 l0_3 a0_4 a0_5 a0_6).bind fun t240 => (if t240 = true then ((spec_l1In.f a0_4 0 12).bind fun t241 => (if t241 = true then ((spec_SecOk.f k a0_5).bind fun t242 => (if t242 = true then (some (decide ((a0_6.size : Int) ≤ 300))) else (some false))) else (some false))) else (some false))) else (some false))) else (some false))) else (some false))) else (if a0_1 = 0 then (if (l0_2.length : Int) = 0 then (if (l0_3.length : Int) = 0 then (if a0_4 = 0 then (if a0_5.toList = ([] : List UInt8) then (some (a0_6.toList == ([] : List UInt8))) else (some false)) else (some false)) else (some false)) else (some false)) else (some false))
theorem spec_MemOk.W {P : Prop} (h : P := by
  go_enter Tryz.func7, Tryz.ntmps7
  go_wp2_with (first | (go_at_call 27; (with_reducible refine (spec_TreOk.calls ?side1 ?side2 A5.out).mono ?_); (case side1 => repeat (first | exact (Kd.C_below HR0_2.out (yb_ HB.out)) | (with_reducible refine Kd.C_alloc ?_ _) | (with_reducible refine Kd.C_drewN ?_ _) | (with_reducible refine Kd.C_drew ?_))); (case side2 => exact HC0_2.out); rintro e w_ ⟨rfl, hb⟩; replace BK236 := bk_ BK236 hb; replace HB := st_ (yb_ HB.out) hb; clear hb; have hz_ := cc7_ BK236.out; have hz_ := cf7_ BK236.out) | (go_at_call 28; (with_reducible refine (spec_l4Fits.calls ?side1 ?side2 ?side3 ?side4 A7.out).mono ?_); (case side1 => exact y17_ (Kd.C_below HR0_2.out HB.out)); (case side2 => exact HC0_2.out); (case side3 => exact y17_ (Kd.C_below HR0_3.out HB.out)); (case side4 => exact HC0_3.out); rintro e w_ ⟨rfl, hb⟩; replace BK236 := bk_ BK236 hb; replace HB := st_ (yb_ HB.out) hb; clear hb; have hz_ := cc7_ BK236.out; have hz_ := cf7_ BK236.out) | (go_at_call 29; (with_reducible refine (spec_l4All.calls ?side1 ?side2 ?side3 ?side4 A9.out).mono ?_); (case side1 => exact y17_ (Kd.C_below HR0_2.out HB.out)); (case side2 => exact HC0_2.out); (case side3 => exact y17_ (Kd.C_below HR0_3.out HB.out)); (case side4 => exact HC0_3.out); rintro e w_ ⟨rfl, hb⟩; replace BK236 := bk_ BK236 hb; replace HB := st_ (yb_ HB.out) hb; clear hb; have hz_ := cc7_ BK236.out; have hz_ := cf7_ BK236.out) | (go_at_call 26; (with_reducible refine (spec_l1In.calls A11.out).mono ?_); rintro e w' ⟨rfl, ⟨nd, rfl⟩⟩) | (go_at_call 30; (with_reducible refine (spec_SecOk.calls A13.out).mono ?_); rintro e w_ ⟨rfl, hb⟩; replace BK236 := bk_ BK236 hb; replace HB := st_ (yb_ HB.out) hb; clear hb; have hz_ := cc7_ BK236.out; have hz_ := cf7_ BK236.out) | ((with_reducible refine gl_ ?_); first | ((with_reducible refine gx_ 1 rfl ?_); (try (refine gate_guard (by rfl) ?_; dsimp only)); refine bx_ 1 33 #[.bool false, .int .i64 a0_1, .slice A0_2 l0_2.length c0_2, .slice A0_3 l0_3.length c0_3, .int .i64 a0_4, .string a0_5, .string a0_6] ?_; intro gb236 hg w_ BK236 hb; have GW236 := ge_ (w0 := w) hg (y7_ HB.out); have GE236 := ge_ (w0 := w) hg (y7_ HB.out); replace HB := st_ (y7_ HB.out) hb; clear hb hg; have hz_ := cc7_ BK236.out; have hz_ := cf7_ BK236.out) | ((with_reducible refine gx_ 1 rfl ?_); (try (refine gate_guard (by rfl) ?_; dsimp only)); refine bx_ 1 33 #[.bool true, .int .i64 a0_1, .slice A0_2 l0_2.length c0_2, .slice A0_3 l0_3.length c0_3, .int .i64 a0_4, .string a0_5, .string a0_6] ?_; intro gb236 hg w_ BK236 hb; have GW236 := ge_ (w0 := w) hg (y7_ HB.out); have GE236 := ge_ (w0 := w) hg (y7_ HB.out); replace HB := st_ (y7_ HB.out) hb; clear hb hg; have hz_ := cc7_ BK236.out; have hz_ := cf7_ BK236.out) | ((with_reducible refine gf_ 26 39 rfl rfl ?_); refine gd_ (spec_l1In.calls A3.out) ?_; intro nd)))
  go_ret
  exact ⟨y6_, yb_ HB.out⟩) : P := h
set_option maxHeartbeats 8000000 in
set_option maxRecDepth 100000 in
theorem spec_MemOk.calls {k : Nat} {a0_0 : Bool} {a0_1 : Int} {A0_2 : Option Addr} {c0_2 : Nat} {l0_2 : List ByteArray} {A0_3 : Option Addr} {c0_3 : Nat} {l0_3 : List (S74)} {a0_4 : Int} {a0_5 : ByteArray} {a0_6 : ByteArray} {r : Bool} {w : World} (hr0_2 : Kd.C Kd.string w A0_2 l0_2.length l0_2) (hc0_2 : l0_2.length ≤ c0_2) (hr0_3 : Kd.C k74 w A0_3 l0_3.length l0_3) (hc0_3 : l0_3.length ≤ c0_3) (H : spec_MemOk.f k a0_0 a0_1 l0_2 l0_3 a0_4 a0_5 a0_6 = some r) :
    Calls Tryz.prog 7 #[.agg #[.bool a0_0, .int .i64 a0_1, .slice A0_2 l0_2.length c0_2, .slice A0_3 l0_3.length c0_3, .int .i64 a0_4, .string a0_5, .string a0_6]] w fun e w' => e = .returned (.bool r) ∧ Below w.heap.size w w' := by
  have hu33 := Tryz.underlying33; have hu30 := Tryz.underlying30; have HR0_2 := am_ hr0_2; have HC0_2 := am_ hc0_2; clear hr0_2 hc0_2; have HR0_3 := am_ hr0_3; have HC0_3 := am_ hc0_3; clear hr0_3 hc0_3; have HB := am_ (Below.refl w.heap.size w); revert H; unfold spec_MemOk.f; refine ib_ ?_ ?_
  · rintro rfl
    refine oc_ fun t237 A3 => ?_; refine ib_ ?_ ?_
    · rintro rfl
      refine oc_ fun t238 A5 => ?_; refine ib_ ?_ ?_
      · rintro rfl
        refine oc_ fun t239 A7 => ?_; refine ib_ ?_ ?_
        · rintro rfl
          refine oc_ fun t240 A9 => ?_; refine ib_ ?_ ?_
          · rintro rfl
            refine oc_ fun t241 A11 => ?_; refine ib_ ?_ ?_
            · rintro rfl
              refine oc_ fun t242 A13 => ?_; refine ib_ ?_ ?_
              · rintro rfl; refine oj_ ?_; rintro rfl; exact spec_MemOk.W
              rintro rfl; refine oj_ ?_; rintro rfl; exact spec_MemOk.W
            rintro rfl; refine oj_ ?_; rintro rfl; exact spec_MemOk.W
          rintro rfl; refine oj_ ?_; rintro rfl; exact spec_MemOk.W
        rintro rfl; refine oj_ ?_; rintro rfl; exact spec_MemOk.W
      rintro rfl; refine oj_ ?_; rintro rfl; exact spec_MemOk.W
    rintro rfl; refine oj_ ?_; rintro rfl; exact spec_MemOk.W
  rintro rfl
  refine ie2_ ?_ ?_
  · intro c59b0 c59b1
    refine ie2_ ?_ ?_
    · intro c60b0 c60b1
      refine ie2_ ?_ ?_
      · intro c61b0 c61b1
        refine ie2_ ?_ ?_
        · intro c62b0 c62b1
          refine ie2_ ?_ ?_
          · intro c63b0 c63b1; refine oj_ ?_; rintro rfl; exact spec_MemOk.W
          intro c63 c63b0 c63b1; refine oj_ ?_; rintro rfl; exact spec_MemOk.W
        intro c62 c62b0 c62b1; refine oj_ ?_; rintro rfl; exact spec_MemOk.W
      intro c61 c61b0 c61b1; have c61b2 : ¬ (l0_3 = []) := fun h_ => c61 (by rw [h_]; rfl)
      refine oj_ ?_; rintro rfl; exact spec_MemOk.W
    intro c60 c60b0 c60b1; have c60b2 : ¬ (l0_2 = []) := fun h_ => c60 (by rw [h_]; rfl)
    refine oj_ ?_; rintro rfl; exact spec_MemOk.W
  intro c59 c59b0 c59b1; refine oj_ ?_; rintro rfl; exact spec_MemOk.W

/-! ### spec_l2Boxes: function 91 -/
def spec_l2Boxes.l0 : Nat → List (S52) → Int → Option (Bool)
  | 0, _, _ => none
  | k + 1, x0, x3 => if x3 < (x0.length : Int) then (if 0 ≤ x3 then ((spec_SecOk.f k ((rd_T52 x0 x3).f0)).bind fun t244 => (if t244 = true then ((spec_SecOk.f k ((rd_T52 x0 x3).f1)).bind fun t246 => (if t246 = true then (spec_l2Boxes.l0 k x0 (wrap64 (x3 + 1))) else (some false))) else (some false))) else (none)) else (some true)
def spec_l2Boxes.f (k : Nat) (l0 : List (S52)) : Option (Bool) := if (l0.length : Int) > 400 then (some false) else (spec_l2Boxes.l0 k l0 0)
theorem spec_l2Boxes.W {P : Prop} (h : P := by
  go_wp2_with (first | (go_at_call 30; (with_reducible refine (spec_SecOk.calls A7.out).mono ?_); rintro e w_ ⟨rfl, hb⟩; replace HB := st_ (y7_ HB.out) hb; clear hb) | ((with_reducible refine gl_ ?_); first | ((with_reducible refine gf_ 30 18 rfl rfl ?_); refine gb_ (spec_SecOk.calls A5.out) ?_; intro w_ hb; replace HB := st_ (y7_ HB.out) hb; clear hb; have p901 : 0 ≤ (x3_1 : Int) := of_decide_eq_true y3_; have q901 : x3_1 < (l0.length : Int) := of_decide_eq_true y3_; obtain ⟨ad901, e901, hx901, hx902⟩ := at_T52 HR0.out x3_1 p901 q901; obtain rfl : ad243 = ad901 := (by injection e901); replace hx901 := (HB.out.cell (World.block_lt_of_cell? w _ hx901)).trans hx901; replace hx902 := (HB.out.cell (World.block_lt_of_cell? w _ hx902)).trans hx902; replace p901 := eq_true p901; replace q901 := eq_true q901)))
  go_ret
  exact ⟨y6_, y7_ HB.out⟩) : P := h
set_option maxHeartbeats 8000000 in
set_option maxRecDepth 100000 in
theorem spec_l2Boxes.calls {k : Nat} {A0 : Option Addr} {c0 : Nat} {l0 : List (S52)} {r : Bool} {w : World} (hr0 : Kd.C k52 w A0 l0.length l0) (hc0 : l0.length ≤ c0) (H : spec_l2Boxes.f k l0 = some r) :
    Calls Tryz.prog 91 #[.slice A0 l0.length c0] w fun e w' => e = .returned (.bool r) ∧ Below w.heap.size w w' := by
  have HR0 := am_ hr0; have HC0 := am_ hc0; clear hr0 hc0; have HB := am_ (Below.refl w.heap.size w); revert H; unfold spec_l2Boxes.f; refine itg3_ ?_ ?_
  · intro c2 c2b0; have c2b1 : decide (400 < l0.length) = true := decide_eq_true (by omega); clear c2; refine oj_ ?_; rintro rfl; go_enter Tryz.func91, Tryz.ntmps91; go_wp2; go_ret; exact ⟨y6_, y7_ HB.out⟩
  intro c2 c2b0; have c2b1 : decide (400 < l0.length) = false := decide_eq_false (by omega); clear c2; refine ai_ fun H' => ?_; go_enter Tryz.func91, Tryz.ntmps91; go_wp2
  go_loopg [3] k (fun kq v3 w' => ∃ (x3_1 : Int), v3 = .int .i64 x3_1 ∧ Aside0 (spec_l2Boxes.l0 kq l0 x3_1 = some r) ∧ Aside0 (kq ≤ k) ∧ Aside0 (Below w.heap.size w w'))
  case atStart => exact ⟨(0), y4_, H', ⟨Nat.le_refl _⟩, ⟨y7_ HB.out⟩⟩
  case round =>
    clear H'; (try clear c2); (try clear c2b0); (try clear c2b1); obtain ⟨x3_1, rfl, HA, HK1, HB⟩ := hrel
    cases gk with
    | zero => exact absurd HA.out (by simp [spec_l2Boxes.l0])
    | succ k1 =>
      have H := HA.out; clear HA; simp only [spec_l2Boxes.l0] at H; revert H; refine it_ ?_ ?_
      · intro c3b0
        refine in_ fun c4b0 => ?_
        refine oc_ fun t244 A5 => ?_; refine ai_ fun HH => ?_
        have p243 : 0 ≤ (x3_1 : Int) := of_decide_eq_true y3_; have q243 : x3_1 < (l0.length : Int) := of_decide_eq_true y3_; obtain ⟨ad243, e243, hx243_0, hx243_1⟩ := at_T52 HR0.out x3_1 p243 q243
        cases e243
        replace hx243_0 := (HB.out.cell (World.block_lt_of_cell? w _ hx243_0)).trans hx243_0; replace hx243_1 := (HB.out.cell (World.block_lt_of_cell? w _ hx243_1)).trans hx243_1; replace p243 := eq_true p243; replace q243 := eq_true q243
        obtain ⟨H⟩ := HH; revert H; refine ib_ ?_ ?_
        · rintro rfl
          refine oc_ fun t246 A7 => ?_; refine ai_ fun HH => ?_
          obtain ⟨H⟩ := HH; revert H; refine ib_ ?_ ?_
          · rintro rfl
            refine ai_ fun H' => ?_
            go_wp2_with (first | (go_at_call 30; (with_reducible refine (spec_SecOk.calls A7.out).mono ?_); rintro e w10 ⟨rfl, hb⟩; replace HB := st_ (y7_ HB.out) hb; clear hb) | ((with_reducible refine gl_ ?_); first | ((with_reducible refine gf_ 30 18 rfl rfl ?_); refine gb_ (spec_SecOk.calls A5.out) ?_; intro w9 hb; replace HB := st_ (y7_ HB.out) hb; clear hb; have p245 : 0 ≤ (x3_1 : Int) := of_decide_eq_true y3_; have q245 : x3_1 < (l0.length : Int) := of_decide_eq_true y3_; obtain ⟨ad245, e245, hx245_0, hx245_1⟩ := at_T52 HR0.out x3_1 p245 q245; obtain rfl : ad243 = ad245 := (by injection e245); replace hx245_0 := (HB.out.cell (World.block_lt_of_cell? w _ hx245_0)).trans hx245_0; replace hx245_1 := (HB.out.cell (World.block_lt_of_cell? w _ hx245_1)).trans hx245_1; replace p245 := eq_true p245; replace q245 := eq_true q245)))
            go_roundg k1
            case measure => have := HK1.out; omega
            case rel => exact ⟨(wrap64 (x3_1 + 1)), y4_, H', ⟨by have := HK1.out; omega⟩, ⟨y7_ HB.out⟩⟩
          rintro rfl
          refine oj_ ?_; rintro rfl
          exact spec_l2Boxes.W
        rintro rfl
        refine oj_ ?_; rintro rfl
        exact spec_l2Boxes.W
      intro c3b0; refine oj_ ?_; rintro rfl; go_wp2; go_ret; exact ⟨y6_, y7_ HB.out⟩

/-! ### spec_l4Key: function 92 -/
def spec_l4Key.f (k : Nat) (a0 : ByteArray) : Option (Bool) := (spec_SecOk.f k a0).bind fun t247 => (if t247 = true then ((spec_l1How.f k a0).bind fun bt248 => (some (bt248.1 == 3))) else (some false))
theorem spec_l4Key.W {P : Prop} (h : P := by
  go_enter Tryz.func92, Tryz.ntmps92
  go_wp2_with (first | (go_at_call 73; (with_reducible refine (spec_l1How.calls A4.out).mono ?_); rintro e w_ ⟨rfl, hb⟩; replace HB := st_ (y7_ HB.out) hb; clear hb) | ((with_reducible refine gl_ ?_); first | ((with_reducible refine gf_ 30 4 rfl rfl ?_); refine gb_ (spec_SecOk.calls A2.out) ?_; intro w_ hb; replace HB := st_ (y7_ HB.out) hb; clear hb)))
  go_ret
  exact ⟨y6_, y7_ HB.out⟩) : P := h
set_option maxHeartbeats 8000000 in
set_option maxRecDepth 100000 in
theorem spec_l4Key.calls {k : Nat} {a0 : ByteArray} {r : Bool} {w : World} (H : spec_l4Key.f k a0 = some r) :
    Calls Tryz.prog 92 #[.string a0] w fun e w' => e = .returned (.bool r) ∧ Below w.heap.size w w' := by
  have hfl98_0 : ∀ (fv0 fv1 fv2 fv3 fv4 : Value) (W : World), (Instr.field 98 (.agg #[fv0, fv1, fv2, fv3, fv4]) 0).run Tryz.prog W = .ok fv0 W := fun _ _ _ _ _ _ => by kernel_rfl
  have HB := am_ (Below.refl w.heap.size w); revert H; unfold spec_l4Key.f; refine oc_ fun t247 A2 => ?_; refine ib_ ?_ ?_
  · rintro rfl; refine oc_ ?_; rintro ⟨t248, t249, t250, t251, t252⟩ A4 H; dsimp only at H; revert H; refine oj_ ?_; rintro rfl; exact spec_l4Key.W
  rintro rfl; refine oj_ ?_; rintro rfl; exact spec_l4Key.W

end Go.Proofs.YtnemchmiplbopaaGreatDoor.Zj
