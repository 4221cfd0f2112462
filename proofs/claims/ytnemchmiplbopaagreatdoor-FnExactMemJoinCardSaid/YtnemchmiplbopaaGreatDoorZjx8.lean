-- Written by this session's own program (wip/tools/pp.py) out of the translation, over functions given by hand. Lean checks it.
import Derived.Test.YtnemchmiplbopaaGreatDoorZjx0
import Derived.Test.YtnemchmiplbopaaGreatDoorZjx3
import Derived.Test.YtnemchmiplbopaaGreatDoorZjx6
import Derived.Test.YtnemchmiplbopaaGreatDoorZjx7
namespace Go.Proofs.YtnemchmiplbopaaGreatDoor.Zj
open Go.RowKit Go.Proofs.YtnemchmiplbopaaGreatDoorW.PrintWords Go.Proofs.YtnemchmiplbopaaGreatDoorW.PrintLast Go.Proofs.YtnemchmiplbopaaGreatDoorW.PrintMore
attribute [local go_sem] max2_int min2_int max_two min_two max_three min_three max_four min_four   -- for this text's walks alone
set_option linter.unusedVariables false
set_option linter.unusedSimpArgs false

/-! ### spec_TreOk: function 27 -/
mutual
def spec_TreOk.l0 : Nat → Int → List ByteArray → Option (Bool)
  | 0, _, _ => none
  | k + 1, x3, x170000 => if x3 < 15 then (if 0 ≤ x3 then (if x3 < (x170000.length : Int) then (if (rdOf ByteArray.empty x170000 x3).toList = ([] : List UInt8) then (spec_TreOk.j1 k x3 false x170000) else ((spec_SecOk.f k (rdOf ByteArray.empty x170000 x3)).bind fun t172 => (if t172 = true then ((spec_l1How.f k (rdOf ByteArray.empty x170000 x3)).bind fun bt174 => (spec_TreOk.j1 k x3 (bt174.1 != 3) x170000)) else (spec_TreOk.j1 k x3 true x170000)))) else (none)) else (none)) else (some true)
def spec_TreOk.j1 : Nat → Int → Bool → List ByteArray → Option (Bool)
  | 0, _, _, _ => none
  | k + 1, x3, x36, x170000 => if x36 = true then (some false) else (spec_TreOk.l0 k (wrap64 (x3 + 1)) x170000)
end
def spec_TreOk.f (k : Nat) (l0_0 : List ByteArray) : Option (Bool) := if (l0_0.length : Int) = 15 then (spec_TreOk.l0 k 0 l0_0) else (some false)
theorem spec_TreOk.W {P : Prop} (h : P := by
  go_wp2_with (first | (go_at_call 30; (with_reducible refine (spec_SecOk.calls A11.out).mono ?_); rintro e w_ ⟨rfl, hb⟩; replace BK169 := bk_ BK169 hb; replace HB := st_ (yb_ HB.out) hb; clear hb; have hz_ := blk_c0 BK169.out; have hz_ := blk_frozen BK169.out 0; have p901 : 0 ≤ (x3_1 : Int) := of_decide_eq_true y3_; have q901 : x3_1 < (l0_0.length : Int) := of_decide_eq_true y3_; obtain ⟨ad901, e901, hx901⟩ := Kd.at_string HR0_0.out x3_1 p901 q901; obtain rfl : ad170 = ad901 := (by injection e901); replace hx901 := (HB.out.cell (World.block_lt_of_cell? w _ hx901)).trans hx901; replace p901 := eq_true p901; replace q901 := eq_true q901) | (go_at_call 73; (with_reducible refine (spec_l1How.calls A13.out).mono ?_); rintro e w_ ⟨rfl, hb⟩; replace BK169 := bk_ BK169 hb; replace HB := st_ (yb_ HB.out) hb; clear hb))
  go_meet
  case rel => first | exact ⟨_, ((t174 != 3)), y4_, H', ⟨by have := HK1.out; first | omega | exact Nat.le_refl _⟩, ⟨y12_ BK169.out⟩, ⟨yb_ HB.out⟩⟩ | exact ⟨_, (true), y4_, H', ⟨by have := HK1.out; first | omega | exact Nat.le_refl _⟩, ⟨y12_ BK169.out⟩, ⟨yb_ HB.out⟩⟩) : P := h
set_option maxHeartbeats 8000000 in
set_option maxRecDepth 100000 in
theorem spec_TreOk.calls {k : Nat} {A0_0 : Option Addr} {c0_0 : Nat} {l0_0 : List ByteArray} {r : Bool} {w : World} (hr0_0 : Kd.C Kd.string w A0_0 l0_0.length l0_0) (hc0_0 : l0_0.length ≤ c0_0) (H : spec_TreOk.f k l0_0 = some r) :
    Calls Tryz.prog 27 #[.agg #[.slice A0_0 l0_0.length c0_0]] w fun e w' => e = .returned (.bool r) ∧ Below w.heap.size w w' := by
  have hu30 := Tryz.underlying30
  have hfl98_0 : ∀ (fv0 fv1 fv2 fv3 fv4 : Value) (W : World), (Instr.field 98 (.agg #[fv0, fv1, fv2, fv3, fv4]) 0).run Tryz.prog W = .ok fv0 W := fun _ _ _ _ _ _ => by kernel_rfl
  have HR0_0 := am_ hr0_0; have HC0_0 := am_ hc0_0; clear hr0_0 hc0_0; have HB := am_ (Below.refl w.heap.size w); revert H; unfold spec_TreOk.f; refine ie2_ ?_ ?_
  · intro c2b0 c2b1; refine ai_ fun H' => ?_; go_enter Tryz.func27, Tryz.ntmps27; go_wp2_with ((with_reducible refine gl_ ?_); first | ((with_reducible refine gx_ 1 rfl ?_); refine bx_ 1 30 #[.slice A0_0 l0_0.length c0_0] ?_; intro gb169 hg w3 BK169 hb; have GW169 := ge_ (w0 := w) hg (y7_ HB.out); have GE169 := ge_ (w0 := w) hg (y7_ HB.out); replace HB := st_ (y7_ HB.out) hb; clear hb hg; have hcz4 := blk_c0 BK169.out; have hfz4_0 := blk_frozen BK169.out 0))
    go_loopg [3] k (fun kq v3 w' => ∃ (x3_1 : Int), v3 = .int .i64 x3_1 ∧ Aside0 (spec_TreOk.l0 kq x3_1 l0_0 = some r) ∧ Aside0 (kq ≤ k) ∧ Aside0 (w'.heap[gb169]? = some (.cells #[(.slice A0_0 l0_0.length c0_0)] 30 (0, 0))) ∧ Aside0 (Below w.heap.size w w'))
    case atStart => exact ⟨(0), y4_, H', ⟨Nat.le_refl _⟩, ⟨y12_ BK169.out⟩, ⟨yb_ HB.out⟩⟩
    case round =>
      clear H'; (try clear c2); (try clear c2b0); (try clear c2b1); (try clear hcz4); (try clear hfz4_0); obtain ⟨x3_1, rfl, HA, HK1, BK169, HB⟩ := hrel
      cases gk with
      | zero => exact absurd HA.out (by simp [spec_TreOk.l0])
      | succ k1 =>
        have H := HA.out; clear HA; simp only [spec_TreOk.l0] at H; revert H; refine it_ ?_ ?_
        · intro c5b0; refine ai_ fun HC6 => ?_
          go_upto_region 6 with (fail)
          go_cut [36] (fun v36 wc => ∃ (kq : Nat) (x36_5 : Bool), v36 = .bool x36_5 ∧ Aside0 (spec_TreOk.j1 kq x3_1 x36_5 l0_0 = some r) ∧ Aside0 (kq ≤ k1) ∧ Aside0 (wc.heap[gb169]? = some (.cells #[(.slice A0_0 l0_0.length c0_0)] 30 (0, 0))) ∧ Aside0 (Below w.heap.size w wc))
          case first =>
            have H := HC6.out; clear HC6; revert H; refine in_ fun c7b0 => ?_
            (first | rw [c7b0] | (simp only [i64_w, i32_w]; rw [c7b0]) | skip); refine in_ fun c8b0 => ?_
            refine ai_ fun HH => ?_
            have hcz10 := blk_c0 BK169.out; have hfz10_0 := blk_frozen BK169.out 0; have p170 : 0 ≤ (x3_1 : Int) := of_decide_eq_true y3_; have q170 : x3_1 < (l0_0.length : Int) := of_decide_eq_true y3_; obtain ⟨ad170, e170, hx170_0⟩ := Kd.at_string HR0_0.out x3_1 p170 q170
            cases e170
            replace hx170_0 := (HB.out.cell (World.block_lt_of_cell? w _ hx170_0)).trans hx170_0; replace p170 := eq_true p170; replace q170 := eq_true q170
            obtain ⟨H⟩ := HH; revert H; refine ie2_ ?_ ?_
            · intro c9b0 c9b1; (try simp only [em_, bne, c9b0, c9b1, Bool.not_true, Bool.not_false])
              refine ai_ fun H' => ?_
              go_wp2; go_meet
              case rel => exact ⟨_, (false), y4_, H', ⟨by have := HK1.out; first | omega | exact Nat.le_refl _⟩, ⟨y12_ BK169.out⟩, ⟨yb_ HB.out⟩⟩
            intro c9 c9b0 c9b1; (try simp only [em_, bne, c9b0, c9b1, Bool.not_true, Bool.not_false])
            refine oc_ fun t172 A11 => ?_; refine ai_ fun HH => ?_
            have p171 : 0 ≤ (x3_1 : Int) := of_decide_eq_true y3_; have q171 : x3_1 < (l0_0.length : Int) := of_decide_eq_true y3_; obtain ⟨ad171, e171, hx171_0⟩ := Kd.at_string HR0_0.out x3_1 p171 q171
            obtain rfl : ad170 = ad171 := (by injection e171)
            replace hx171_0 := (HB.out.cell (World.block_lt_of_cell? w _ hx171_0)).trans hx171_0; replace p171 := eq_true p171; replace q171 := eq_true q171
            obtain ⟨H⟩ := HH; revert H; refine ib_ ?_ ?_
            · rintro rfl
              refine oc_ ?_; rintro ⟨t174, t175, t176, t177, t178⟩ A13 H; dsimp only at H; revert H; refine ai_ fun H' => ?_
              exact spec_TreOk.W
            rintro rfl
            refine ai_ fun H' => ?_
            exact spec_TreOk.W
          case rest =>
            clear HC6; (try clear c2); (try clear c2b0); (try clear c2b1); (try clear c5b0); (try clear c7b0); (try clear c8b0); (try clear c9); (try clear c9b0); (try clear c9b1); (try clear hcz10); (try clear hcz4); (try clear hfz10_0); (try clear hfz4_0); (try clear hx170_0); (try clear hx171_0); (try clear p170); (try clear p171); (try clear q170); (try clear q171); obtain ⟨kq, x36_5, rfl, HA, HJ5, BK169, HB⟩ := hcut
            cases kq with
            | zero => exact absurd HA.out (by simp [spec_TreOk.j1])
            | succ kj5 =>
              have H := HA.out; clear HA; simp only [spec_TreOk.j1] at H; revert H; refine ib_ ?_ ?_
              · rintro rfl; refine oj_ ?_; rintro rfl; go_wp2; go_ret; exact ⟨y6_, yb_ HB.out⟩
              rintro rfl; refine ai_ fun H' => ?_; go_wp2
              go_roundg kj5
              case measure => have := HK1.out; have := HJ5.out; omega
              case rel => exact ⟨(wrap64 (x3_1 + 1)), y4_, H', ⟨by have := HK1.out; have := HJ5.out; omega⟩, ⟨y12_ BK169.out⟩, ⟨yb_ HB.out⟩⟩
        intro c5b0; refine oj_ ?_; rintro rfl; go_wp2; go_ret; exact ⟨y6_, yb_ HB.out⟩
  intro c2 c2b0 c2b1; refine oj_ ?_; rintro rfl; go_enter Tryz.func27, Tryz.ntmps27; go_wp2_with ((with_reducible refine gl_ ?_); first | ((with_reducible refine gx_ 1 rfl ?_); refine bx_ 1 30 #[.slice A0_0 l0_0.length c0_0] ?_; intro gb169 hg w21 BK169 hb; have GW169 := ge_ (w0 := w) hg (y7_ HB.out); have GE169 := ge_ (w0 := w) hg (y7_ HB.out); replace HB := st_ (y7_ HB.out) hb; clear hb hg; have hcz22 := blk_c0 BK169.out; have hfz22_0 := blk_frozen BK169.out 0)); go_ret; exact ⟨y6_, yb_ HB.out⟩

/-! ### spec_l1Ok: function 93 -/
def spec_l1Ok.f (k : Nat) (a0 : ByteArray) : Option (ByteArray) := (spec_SecOk.f k a0).bind fun t179 => (if t179 = true then (some a0) else (some (⟨#[]⟩ : ByteArray)))
theorem spec_l1Ok.W {P : Prop} (h : P := by
  go_enter Tryz.func93, Tryz.ntmps93
  go_wp2_with ((with_reducible refine gl_ ?_); first | ((with_reducible refine gf_ 30 4 rfl rfl ?_); refine gb_ (spec_SecOk.calls A2.out) ?_; intro w_ hb; replace HB := st_ (y7_ HB.out) hb; clear hb))
  go_ret
  exact ⟨y6_, y7_ HB.out⟩) : P := h
set_option maxHeartbeats 8000000 in
set_option maxRecDepth 100000 in
theorem spec_l1Ok.calls {k : Nat} {a0 : ByteArray} {r : ByteArray} {w : World} (H : spec_l1Ok.f k a0 = some r) :
    Calls Tryz.prog 93 #[.string a0] w fun e w' => e = .returned (.string r) ∧ Below w.heap.size w w' := by
  have HB := am_ (Below.refl w.heap.size w); revert H; unfold spec_l1Ok.f; refine oc_ fun t179 A2 => ?_; refine ib_ ?_ ?_
  · rintro rfl; refine oj_ ?_; rintro rfl; exact spec_l1Ok.W
  rintro rfl; refine oj_ ?_; rintro rfl; exact spec_l1Ok.W

/-! ### spec_MakKey: function 51 -/
def spec_MakKey.f (k : Nat) (a0 : ByteArray) : Option (ByteArray) := (spec_SecOk.f k a0).bind fun t180 => (if t180 = true then (if 1 + a0.size ≤ 9223372036854775807 then ((spec_l1Ok.f k ((⟨#[107]⟩ : ByteArray) ++ a0)).bind fun t181 => (some t181)) else (none)) else (some (⟨#[]⟩ : ByteArray)))
theorem spec_MakKey.W {P : Prop} (h : P := by
  go_enter Tryz.func51, Tryz.ntmps51
  go_wp2_with ((with_reducible refine gl_ ?_); first | ((with_reducible refine gf_ 30 4 rfl rfl ?_); refine gb_ (spec_SecOk.calls A2.out) ?_; intro w_ hb; replace HB := st_ (y7_ HB.out) hb; clear hb) | ((with_reducible refine gf_ 93 8 rfl rfl ?_); refine gb_ (spec_l1Ok.calls A5.out) ?_; intro w_ hb; replace HB := st_ (y7_ HB.out) hb; clear hb))
  go_ret
  exact ⟨y6_, y7_ HB.out⟩) : P := h
set_option maxHeartbeats 8000000 in
set_option maxRecDepth 100000 in
theorem spec_MakKey.calls {k : Nat} {a0 : ByteArray} {r : ByteArray} {w : World} (H : spec_MakKey.f k a0 = some r) :
    Calls Tryz.prog 51 #[.string a0] w fun e w' => e = .returned (.string r) ∧ Below w.heap.size w w' := by
  have HB := am_ (Below.refl w.heap.size w); revert H; unfold spec_MakKey.f; refine oc_ fun t180 A2 => ?_; refine ib_ ?_ ?_
  · rintro rfl
    refine il1_ fun c4 c4b0 c4b1 => ?_
    try have c4b2 : (9223372036854775807 < 1 + a0.size) = False := eq_false (Nat.not_lt.2 c4)
    refine oc_ fun t181 A5 => ?_; refine oj_ ?_; rintro rfl; exact spec_MakKey.W
  rintro rfl; refine oj_ ?_; rintro rfl; exact spec_MakKey.W

/-! ### spec_TreLeaf: function 54 -/
def spec_TreLeaf.f (a0 : Int) : Option (Int) := (spec_l1In.f a0 0 7).bind fun t182 => (if t182 = true then (some (wrap64 (7 + a0))) else (some (-1)))
theorem spec_TreLeaf.W {P : Prop} (h : P := by
  go_enter Tryz.func54, Tryz.ntmps54
  go_wp2_with ((with_reducible refine gl_ ?_); first | ((with_reducible refine gf_ 26 4 rfl rfl ?_); refine gd_ (spec_l1In.calls A2.out) ?_; intro nd))
  go_ret
  exact ⟨by first | rfl | (simp; done) | (simp [*]; done), by repeat (first | exact Drawn0.refl _ | apply Drawn0.step)⟩) : P := h
set_option maxHeartbeats 8000000 in
set_option maxRecDepth 100000 in
theorem spec_TreLeaf.calls {a0 : Int} {r : Int} {w : World} (H : spec_TreLeaf.f a0 = some r) :
    Calls Tryz.prog 54 #[.int .i64 a0] w fun e w' => e = .returned (.int .i64 r) ∧ Drawn0 w w' := by
  revert H; unfold spec_TreLeaf.f; refine oc_ fun t182 A2 => ?_; refine ib_ ?_ ?_
  · rintro rfl; refine oj_ ?_; rintro rfl; exact spec_TreLeaf.W
  rintro rfl; refine oj_ ?_; rintro rfl; exact spec_TreLeaf.W

/-! ### spec_l4In: function 74 -/
def spec_l4In.l0 : Nat → List Int → Int → Int → Option (Bool)
  | 0, _, _, _ => none
  | k + 1, x0, x1, x5 => if x5 < (x0.length : Int) then (if 0 ≤ x5 then (if (rd x0 x5) = x1 then (some true) else (spec_l4In.l0 k x0 x1 (wrap64 (x5 + 1)))) else (none)) else (some false)
def spec_l4In.f (k : Nat) (l0 : List Int) (a1 : Int) : Option (Bool) := spec_l4In.l0 k l0 a1 0
set_option maxHeartbeats 8000000 in
set_option maxRecDepth 100000 in
theorem spec_l4In.calls {k : Nat} {A0 : Option Addr} {c0 : Nat} {l0 : List Int} {a1 : Int} {r : Bool} {w : World} (hr0 : Kd.C (Kd.int .i64) w A0 l0.length l0) (hc0 : l0.length ≤ c0) (H : spec_l4In.f k l0 a1 = some r) :
    Calls Tryz.prog 74 #[.slice A0 l0.length c0, .int .i64 a1] w fun e w' => e = .returned (.bool r) ∧ Drawn0 w w' := by
  have HR0 := am_ hr0; have HC0 := am_ hc0; clear hr0 hc0; revert H; unfold spec_l4In.f; refine ai_ fun H' => ?_; go_enter Tryz.func74, Tryz.ntmps74; go_wp2
  go_loopg [5] k (fun kq v5 w' => ∃ (x5_1 : Int), v5 = .int .i64 x5_1 ∧ Aside0 (spec_l4In.l0 kq l0 a1 x5_1 = some r) ∧ Aside0 (kq ≤ k) ∧ Drawn0 w w')
  case atStart => exact ⟨(0), y4_, H', ⟨Nat.le_refl _⟩, by repeat (first | exact Drawn0.refl _ | apply Drawn0.step)⟩
  case round =>
    clear H'; obtain ⟨x5_1, rfl, HA, HK1, ⟨m1, rfl⟩⟩ := hrel
    cases gk with
    | zero => exact absurd HA.out (by simp [spec_l4In.l0])
    | succ k1 =>
      have H := HA.out; clear HA; simp only [spec_l4In.l0] at H; revert H; refine it_ ?_ ?_
      · intro c3b0
        refine in_ fun c4b0 => ?_
        refine ie2_ ?_ ?_
        · intro c5b0 c5b1; refine oj_ ?_; rintro rfl; obtain ⟨ad183, e183, p183, q183, hx183_0⟩ := as_ (Kd.at_int HR0.out x5_1); cases e183; go_wp2; go_ret; exact ⟨by first | rfl | (simp; done) | (simp [*]; done), by repeat (first | exact Drawn0.refl _ | apply Drawn0.step)⟩
        intro c5 c5b0 c5b1; refine ai_ fun H' => ?_; obtain ⟨ad183, e183, p183, q183, hx183_0⟩ := as_ (Kd.at_int HR0.out x5_1); cases e183; go_wp2
        go_roundg k1
        case measure => have := HK1.out; omega
        case rel => exact ⟨(wrap64 (x5_1 + 1)), y4_, H', ⟨by have := HK1.out; omega⟩, by repeat (first | exact Drawn0.refl _ | apply Drawn0.step)⟩
      intro c3b0; refine oj_ ?_; rintro rfl; go_wp2; go_ret; exact ⟨by first | rfl | (simp; done) | (simp [*]; done), by repeat (first | exact Drawn0.refl _ | apply Drawn0.step)⟩

/-! ### spec_TreUp: function 75 -/
def spec_TreUp.l0 : Nat → List Int → Int → Option (List Int)
  | 0, _, _ => none
  | k + 1, x3, x4 => if x4 > 0 then (if x3.length < 17592186044416 then (spec_TreUp.l0 k (x3 ++ [wrap64 (Int.tdiv (wrap64 (x4 - 1)) 2)]) (wrap64 (Int.tdiv (wrap64 (x4 - 1)) 2))) else (none)) else (some x3)
def spec_TreUp.f (k : Nat) (a0 : Int) : Option (List Int) := (some (([] : List Int) : List Int)).bind fun y184 => ((spec_l1In.f a0 0 14).bind fun t187 => (if t187 = true then (spec_TreUp.l0 k y184 a0) else (some y184)))
theorem spec_TreUp.mono_l : ∀ k, (∀ y0 y1, LeO (spec_TreUp.l0 k y0 y1) (spec_TreUp.l0 (k + 1) y0 y1))
  | 0 => fun _ _ r h => by simp [spec_TreUp.l0] at h
  | k + 1 => by
    have ih0 := spec_TreUp.mono_l k
    · intro y0 y1
      unfold spec_TreUp.l0
      repeat' first
      | (with_reducible exact ih0 _ _)
      | (with_reducible first | exact LeO.refl _ | exact LeO.none _ | refine LeO.ite ?_ ?_ | refine LeO.bind ?_ (fun _ => ?_)) | exact LeO.none _ | refine LeO.ite ?_ ?_ | refine LeO.bind ?_ (fun _ => ?_)
theorem spec_TreUp.mono : ∀ a0 k, LeO (spec_TreUp.f k a0) (spec_TreUp.f (k + 1) a0) := by
  intro a0 k; have ih0 := spec_TreUp.mono_l k; unfold spec_TreUp.f
  repeat' first
      | (with_reducible exact ih0 _ _)
      | (with_reducible first | exact LeO.refl _ | exact LeO.none _ | refine LeO.ite ?_ ?_ | refine LeO.bind ?_ (fun _ => ?_)) | exact LeO.none _ | refine LeO.ite ?_ ?_ | refine LeO.bind ?_ (fun _ => ?_)
set_option maxHeartbeats 8000000 in
set_option maxRecDepth 100000 in
theorem spec_TreUp.calls {k : Nat} {a0 : Int} {r : List Int} {w : World} (H : spec_TreUp.f k a0 = some r) :
    Calls Tryz.prog 75 #[.int .i64 a0] w fun e w' => ∃ v0_ : Value, e = .returned (v0_) ∧ Kd.R (Kd.int .i64) 3 w' w.heap.size (fun _ => True) v0_ r ∧ Below w.heap.size w w' := by
  have HB := am_ (Below.refl w.heap.size w); revert H; unfold spec_TreUp.f
  refine on_ fun y184 Ny184 => ?_; refine oc_ fun t187 A2 => ?_; refine ib_ ?_ ?_
  · rintro rfl; refine ai_ fun H' => ?_; go_enter Tryz.func75, Tryz.ntmps75; go_wp2_with (first | ((with_reducible refine gate_dst (N := 5) rfl ?_); refine Kd.R_lit (Kd.int .i64) _ 3 ?hg (N := 5) ?hd (xs := ([] : List Int)) (inner := []) (ok := fun _ => True) (okp := fun _ => True) ?hr ?hp (fun _ hk => hk) trivial (Below.refl _ _) (Nat.le_refl _) (by simp) ?_; (case hd => rfl); (case hg => rfl); (case hr => go_simp; try rfl); (case hp => exact (Reps.none _ _)); intro v185 w4 ho5 hb hg_ hnew_; clear hg_ hnew_; (first | rw [← Ny184.out] at ho5 | (simp only [Int.reduceToNat] at ho5; rw [← Ny184.out] at ho5)); have HO186 := am_ (Kd.R_lower ho5 (below_size (y7_ HB.out))); replace HB := st_ (y7_ HB.out) hb; clear hb ho5) | ((with_reducible refine gl_ ?_); first | ((with_reducible refine gf_ 26 7 rfl rfl ?_); refine gd_ (spec_l1In.calls A2.out) ?_; intro nd)))
    go_loopg [3, 4] k (fun kq v3 v4 w' => ∃ (x3_1 : List Int) (x4_1 : Int), v4 = .int .i64 x4_1 ∧ Aside0 (spec_TreUp.l0 kq x3_1 x4_1 = some r) ∧ Aside0 (kq ≤ k) ∧ Aside0 (Kd.R (Kd.int .i64) 3 w' w.heap.size (fun _ => True) v3 x3_1) ∧ Aside0 (Below w.heap.size w w'))
    case atStart => exact ⟨(y184), (a0), y4_, H', ⟨Nat.le_refl _⟩, ⟨y11_ HO186.out⟩, ⟨y7_ HB.out⟩⟩
    case round =>
      clear H'; obtain ⟨x3_1, x4_1, rfl, HA, HK1, HO_3, HB⟩ := hrel
      cases gk with
      | zero => exact absurd HA.out (by simp [spec_TreUp.l0])
      | succ k1 =>
        have H := HA.out; clear HA; simp only [spec_TreUp.l0] at H; revert H; refine itg_ ?_ ?_
        · intro c6b0
          refine ia_ fun LMc7 => ?_
          generalize hy188 : (x3_1 ++ [wrap64 (Int.tdiv (wrap64 (x4_1 - 1)) 2)]) = y188; have Ny188 := am_ hy188.symm; clear hy188; refine ai_ fun H' => ?_; go_wp2_with (first | ((with_reducible refine gate_builtin (b := .append) (xs := #[.tmp 16, .tmp 18]) rfl ?_); at_builtin; refine Kd.R_append (Kd.int .i64) (w0 := w) w.heap.size rfl (.tmp 16) (.tmp 18) 69 3 (.int .i64 0) 8 rfl Tryz.underlying69 info3 rfl (by decide) (by omega) u3 x3_1 (wrap64 (Int.tdiv (wrap64 (x4_1 - 1)) 2)) [.int .i64 (wrap64 (Int.tdiv (wrap64 (x4_1 - 1)) 2))] (fun _ => True) (fun _ => False) rfl rfl ?aP (fun _ hk => hk.elim) ?aF ?aO ?aB ?aS ?aL ?_; (case aP => exact rfl); (case aB => exact (y7_ HB.out)); (case aF => exact (fun _ _ => trivial)); (case aO => exact (y11_ HO_3.out)); (case aS => exact (below_size (y7_ HB.out))); (case aL => have := LMc7.out; omega); intro v189 w8 ho hb hg hat; rw [← Ny188.out] at ho; replace HB := am_ hb; have HO190 := am_ ho; clear HO_3; clear ho hb hg hat))
          go_roundg k1
          case measure => have := HK1.out; omega
          case rel => exact ⟨(y188), (wrap64 (Int.tdiv (wrap64 (x4_1 - 1)) 2)), y4_, H', ⟨by have := HK1.out; omega⟩, ⟨y11_ HO190.out⟩, ⟨y7_ HB.out⟩⟩
        intro c6b0; refine oj_ ?_; rintro rfl; go_wp2; go_ret; exact ⟨_, y6_, y11_ HO_3.out, y7_ HB.out⟩
  rintro rfl; refine oj_ ?_; rintro rfl; go_enter Tryz.func75, Tryz.ntmps75; go_wp2_with (first | ((with_reducible refine gate_dst (N := 5) rfl ?_); refine Kd.R_lit (Kd.int .i64) _ 3 ?hg (N := 5) ?hd (xs := ([] : List Int)) (inner := []) (ok := fun _ => True) (okp := fun _ => True) ?hr ?hp (fun _ hk => hk) trivial (Below.refl _ _) (Nat.le_refl _) (by simp) ?_; (case hd => rfl); (case hg => rfl); (case hr => go_simp; try rfl); (case hp => exact (Reps.none _ _)); intro v185 w9 ho10 hb hg_ hnew_; clear hg_ hnew_; (first | rw [← Ny184.out] at ho10 | (simp only [Int.reduceToNat] at ho10; rw [← Ny184.out] at ho10)); have HO186 := am_ (Kd.R_lower ho10 (below_size (y7_ HB.out))); replace HB := st_ (y7_ HB.out) hb; clear hb ho10) | ((with_reducible refine gl_ ?_); first | ((with_reducible refine gf_ 26 7 rfl rfl ?_); refine gd_ (spec_l1In.calls A2.out) ?_; intro nd))); go_ret; exact ⟨_, y6_, y11_ HO186.out, y7_ HB.out⟩

/-! ### spec_l4Own: function 76 -/
def spec_l4Own.l0 : Nat → Int → Int → Bool → Int → List ByteArray → List (S74) → Int → ByteArray → ByteArray → Option (ByteArray)
  | 0, _, _, _, _, _, _, _, _, _ => none
  | k + 1, x1, x5, x192000, x192001, x192002, x192003, x192004, x192005, x192006 => if x5 < (x192003.length : Int) then (if 0 ≤ x5 then (if ((rd_T74 x192003 x5).f0) = x1 then (some ((rd_T74 x192003 x5).f1)) else (spec_l4Own.l0 k x1 (wrap64 (x5 + 1)) x192000 x192001 x192002 x192003 x192004 x192005 x192006)) else (none)) else (some (⟨#[]⟩ : ByteArray))
def spec_l4Own.f (k : Nat) (a0_0 : Bool) (a0_1 : Int) (l0_2 : List ByteArray) (l0_3 : List (S74)) (a0_4 : Int) (a0_5 : ByteArray) (a0_6 : ByteArray) (a1 : Int) : Option (ByteArray) := spec_l4Own.l0 k a1 0 a0_0 a0_1 l0_2 l0_3 a0_4 a0_5 a0_6
set_option maxHeartbeats 8000000 in
set_option maxRecDepth 100000 in
theorem spec_l4Own.calls {k : Nat} {a0_0 : Bool} {a0_1 : Int} {A0_2 : Option Addr} {c0_2 : Nat} {l0_2 : List ByteArray} {A0_3 : Option Addr} {c0_3 : Nat} {l0_3 : List (S74)} {a0_4 : Int} {a0_5 : ByteArray} {a0_6 : ByteArray} {a1 : Int} {r : ByteArray} {w : World} (hr0_2 : Kd.C Kd.string w A0_2 l0_2.length l0_2) (hc0_2 : l0_2.length ≤ c0_2) (hr0_3 : Kd.C k74 w A0_3 l0_3.length l0_3) (hc0_3 : l0_3.length ≤ c0_3) (H : spec_l4Own.f k a0_0 a0_1 l0_2 l0_3 a0_4 a0_5 a0_6 a1 = some r) :
    Calls Tryz.prog 76 #[.agg #[.bool a0_0, .int .i64 a0_1, .slice A0_2 l0_2.length c0_2, .slice A0_3 l0_3.length c0_3, .int .i64 a0_4, .string a0_5, .string a0_6], .int .i64 a1] w fun e w' => e = .returned (.string r) ∧ Below w.heap.size w w' := by
  have hu33 := Tryz.underlying33; have HR0_2 := am_ hr0_2; have HC0_2 := am_ hc0_2; clear hr0_2 hc0_2; have HR0_3 := am_ hr0_3; have HC0_3 := am_ hc0_3; clear hr0_3 hc0_3; have HB := am_ (Below.refl w.heap.size w); revert H; unfold spec_l4Own.f; refine ai_ fun H' => ?_; go_enter Tryz.func76, Tryz.ntmps76; go_wp2_with ((with_reducible refine gl_ ?_); first | ((with_reducible refine gx_ 2 rfl ?_); refine bx_ 2 33 #[.bool a0_0, .int .i64 a0_1, .slice A0_2 l0_2.length c0_2, .slice A0_3 l0_3.length c0_3, .int .i64 a0_4, .string a0_5, .string a0_6] ?_; intro gb191 hg w3 BK191 hb; have GW191 := ge_ (w0 := w) hg (y7_ HB.out); have GE191 := ge_ (w0 := w) hg (y7_ HB.out); replace HB := st_ (y7_ HB.out) hb; clear hb hg))
  go_loopg [5] k (fun kq v5 w' => ∃ (x5_1 : Int), v5 = .int .i64 x5_1 ∧ Aside0 (spec_l4Own.l0 kq a1 x5_1 a0_0 a0_1 l0_2 l0_3 a0_4 a0_5 a0_6 = some r) ∧ Aside0 (kq ≤ k) ∧ Aside0 (w'.heap[gb191]? = some (.cells #[.bool a0_0, .int .i64 a0_1, (.slice A0_2 l0_2.length c0_2), (.slice A0_3 l0_3.length c0_3), .int .i64 a0_4, .string a0_5, .string a0_6] 33 (0, 0))) ∧ Aside0 (Below w.heap.size w w'))
  case atStart => exact ⟨(0), y4_, H', ⟨Nat.le_refl _⟩, ⟨y12_ BK191.out⟩, ⟨yb_ HB.out⟩⟩
  case round =>
    clear H'; obtain ⟨x5_1, rfl, HA, HK1, BK191, HB⟩ := hrel
    cases gk with
    | zero => exact absurd HA.out (by simp [spec_l4Own.l0])
    | succ k1 =>
      have H := HA.out; clear HA; simp only [spec_l4Own.l0] at H; revert H; refine it_ ?_ ?_
      · intro c4b0
        refine in_ fun c5b0 => ?_
        refine ai_ fun HH => ?_
        have hcz7 := cc7_ BK191.out; have hfz7 := cf7_ BK191.out; have p192 : 0 ≤ (x5_1 : Int) := of_decide_eq_true y3_; have q192 : x5_1 < (l0_3.length : Int) := of_decide_eq_true y3_; obtain ⟨ad192, e192, hx192_0, hx192_1⟩ := at_T74 HR0_3.out x5_1 p192 q192
        cases e192
        replace hx192_0 := (HB.out.cell (World.block_lt_of_cell? w _ hx192_0)).trans hx192_0; replace hx192_1 := (HB.out.cell (World.block_lt_of_cell? w _ hx192_1)).trans hx192_1; replace p192 := eq_true p192; replace q192 := eq_true q192
        obtain ⟨H⟩ := HH; revert H; refine ie2_ ?_ ?_
        · intro c6b0 c6b1; (try simp only [em_, bne, c6b0, c6b1, Bool.not_true, Bool.not_false])
          refine oj_ ?_; rintro rfl
          have p193 : 0 ≤ (x5_1 : Int) := of_decide_eq_true y3_; have q193 : x5_1 < (l0_3.length : Int) := of_decide_eq_true y3_; obtain ⟨ad193, e193, hx193_0, hx193_1⟩ := at_T74 HR0_3.out x5_1 p193 q193
          obtain rfl : ad192 = ad193 := (by injection e193)
          replace hx193_0 := (HB.out.cell (World.block_lt_of_cell? w _ hx193_0)).trans hx193_0; replace hx193_1 := (HB.out.cell (World.block_lt_of_cell? w _ hx193_1)).trans hx193_1; replace p193 := eq_true p193; replace q193 := eq_true q193; go_wp2; go_ret; exact ⟨y6_, yb_ HB.out⟩
        intro c6 c6b0 c6b1; (try simp only [em_, bne, c6b0, c6b1, Bool.not_true, Bool.not_false])
        refine ai_ fun H' => ?_
        go_wp2
        go_roundg k1
        case measure => have := HK1.out; omega
        case rel => exact ⟨(wrap64 (x5_1 + 1)), y4_, H', ⟨by have := HK1.out; omega⟩, ⟨y12_ BK191.out⟩, ⟨yb_ HB.out⟩⟩
      intro c4b0; refine oj_ ?_; rintro rfl; have hcz9 := cc7_ BK191.out; have hfz9 := cf7_ BK191.out; go_wp2; go_ret; exact ⟨y6_, yb_ HB.out⟩

end Go.Proofs.YtnemchmiplbopaaGreatDoor.Zj
