-- Written by this session's own program (wip/tools/pp.py) out of the translation, over functions given by hand. Lean checks it.
import Derived.Test.YtnemchmiplbopaaGreatDoorZjx0
import Derived.Test.YtnemchmiplbopaaGreatDoorZjx3
import Derived.Test.YtnemchmiplbopaaGreatDoorZjx6
import Derived.Test.YtnemchmiplbopaaGreatDoorZjx8
import Derived.Test.YtnemchmiplbopaaGreatDoorZjx1
import Derived.Test.YtnemchmiplbopaaGreatDoorZjx7
import Derived.Test.YtnemchmiplbopaaGreatDoorZjx11
namespace Go.Proofs.YtnemchmiplbopaaGreatDoor.Zj
open Go.RowKit Go.Proofs.YtnemchmiplbopaaGreatDoorW.PrintWords Go.Proofs.YtnemchmiplbopaaGreatDoorW.PrintLast Go.Proofs.YtnemchmiplbopaaGreatDoorW.PrintMore
attribute [local go_sem] max2_int min2_int max_two min_two max_three min_three max_four min_four   -- for this text's walks alone
set_option linter.unusedVariables false
set_option linter.unusedSimpArgs false

/-! ### spec_MakNext: function 94 -/
def spec_MakNext.f (k : Nat) (a0 : ByteArray) : Option (ByteArray) := (spec_SecOk.f k a0).bind fun t270 => (if t270 = true then (if 1 + a0.size ≤ 9223372036854775807 then ((spec_l1Ok.f k ((⟨#[110]⟩ : ByteArray) ++ a0)).bind fun t271 => (some t271)) else (none)) else (some (⟨#[]⟩ : ByteArray)))
theorem spec_MakNext.W {P : Prop} (h : P := by
  go_enter Tryz.func94, Tryz.ntmps94
  go_wp2_with ((with_reducible refine gl_ ?_); first | ((with_reducible refine gf_ 30 4 rfl rfl ?_); refine gb_ (spec_SecOk.calls A2.out) ?_; intro w_ hb; replace HB := st_ (y7_ HB.out) hb; clear hb) | ((with_reducible refine gf_ 93 8 rfl rfl ?_); refine gb_ (spec_l1Ok.calls A5.out) ?_; intro w_ hb; replace HB := st_ (y7_ HB.out) hb; clear hb))
  go_ret
  exact ⟨y6_, y7_ HB.out⟩) : P := h
set_option maxHeartbeats 8000000 in
set_option maxRecDepth 100000 in
theorem spec_MakNext.calls {k : Nat} {a0 : ByteArray} {r : ByteArray} {w : World} (H : spec_MakNext.f k a0 = some r) :
    Calls Tryz.prog 94 #[.string a0] w fun e w' => e = .returned (.string r) ∧ Below w.heap.size w w' := by
  have HB := am_ (Below.refl w.heap.size w); revert H; unfold spec_MakNext.f; refine oc_ fun t270 A2 => ?_; refine ib_ ?_ ?_
  · rintro rfl
    refine il1_ fun c4 c4b0 c4b1 => ?_
    try have c4b2 : (9223372036854775807 < 1 + a0.size) = False := eq_false (Nat.not_lt.2 c4)
    refine oc_ fun t271 A5 => ?_; refine oj_ ?_; rintro rfl; exact spec_MakNext.W
  rintro rfl; refine oj_ ?_; rintro rfl; exact spec_MakNext.W

/-! ### spec_l4Path: function 52 -/
def spec_l4Path.l0 : Nat → ByteArray → List (S74) → List Int → Int → Option ((List (S74)))
  | 0, _, _, _, _ => none
  | k + 1, x1, x5, x6, x7 => if x7 < (x6.length : Int) then ((spec_MakNext.f k x1).bind fun t278 => (if 0 ≤ x7 then (if x5.length < 5864062014805 then (spec_l4Path.l0 k t278 (x5 ++ [(⟨rd x6 x7, t278⟩ : S74)]) x6 (wrap64 (x7 + 1))) else (none)) else (none))) else (some x5)
def spec_l4Path.f (k : Nat) (a0 : Int) (a1 : ByteArray) : Option ((List (S74))) := (spec_TreUp.f k a0).bind fun t275 => (spec_l4Path.l0 k a1 (([(⟨a0, a1⟩ : S74)] : List (S74))) t275 0)
set_option maxHeartbeats 8000000 in
set_option maxRecDepth 100000 in
theorem spec_l4Path.calls {k : Nat} {a0 : Int} {a1 : ByteArray} {r : List (S74)} {w : World} (H : spec_l4Path.f k a0 a1 = some r) :
    Calls Tryz.prog 52 #[.int .i64 a0, .string a1] w fun e w' => ∃ v0_ : Value, e = .returned (v0_) ∧ Kd.R k74 74 w' w.heap.size (fun _ => True) v0_ r ∧ Below w.heap.size w w' := by
  have hu74 := Tryz.underlying74; have HB := am_ (Below.refl w.heap.size w); revert H; unfold spec_l4Path.f
  generalize hy272 : (([(⟨a0, a1⟩ : S74)] : List (S74))) = y272; have Ny272 := am_ hy272.symm; clear hy272; refine oc_ fun t275 A3 => ?_; refine ai_ fun H' => ?_; go_enter Tryz.func52, Tryz.ntmps52; go_wp2_with (first | ((with_reducible refine gate_dst (N := 11) rfl ?_); refine Kd.R_lit k74 _ 74 ?hg (N := 11) ?hd (xs := ([(⟨a0, a1⟩ : S74)] : List (S74))) (inner := [.int .i64 a0, .string a1]) (ok := fun _ => True) (okp := fun _ => True) ?hr ?hp (fun _ hk => hk) trivial (Below.refl _ _) (Nat.le_refl _) (by simp) ?_; (case hd => rfl); (case hg => rfl); (case hr => go_simp; try rfl); (case hp => exact (Reps.c2 (show Kd.M k74 _ _ _ (⟨a0, a1⟩ : S74) [.int .i64 a0, .string a1] from (k74_mkM _ _ _ (⟨a0, a1⟩ : S74) )) (Reps.none _ _))); intro v273 w4 ho5 hb hg_ hnew_; clear hg_ hnew_; (first | rw [← Ny272.out] at ho5 | (simp only [Int.reduceToNat] at ho5; rw [← Ny272.out] at ho5)); have HO274 := am_ (Kd.R_lower ho5 (below_size (y7_ HB.out))); replace HB := st_ (y7_ HB.out) hb; clear hb ho5) | ((with_reducible refine gl_ ?_); first | ((with_reducible refine gf_ 75 13 rfl rfl ?_); refine gc_ (spec_TreUp.calls A3.out) ?_; rintro e w6 ⟨v276, rfl, ho0, hb⟩; refine ⟨_, rfl, ?_⟩; replace HO274 := rb_ (y11_ HO274.out) hb; have HO277 := am_ (Kd.R_lower ho0 (below_size (y7_ HB.out))); replace HB := st_ (y7_ HB.out) hb; (try clear hb); (try clear hk); (try clear ho0))))
  go_loopg [1, 5, 7] k (fun kq v1 v5 v7 w' => ∃ (x1_1 : ByteArray) (x5_1 : List (S74)) (x7_1 : Int), v1 = .string x1_1 ∧ v7 = .int .i64 x7_1 ∧ Aside0 (spec_l4Path.l0 kq x1_1 x5_1 t275 x7_1 = some r) ∧ Aside0 (kq ≤ k) ∧ Aside0 (Kd.R k74 74 w' w.heap.size (fun _ => True) v5 x5_1) ∧ Aside0 (Kd.R (Kd.int .i64) 3 w' w.heap.size (fun _ => True) v276 t275) ∧ Aside0 (Below w.heap.size w w'))
  case atStart => exact ⟨(a1), (y272), (0), y4_, y4_, H', ⟨Nat.le_refl _⟩, ⟨y11_ HO274.out⟩, ⟨y11_ HO277.out⟩, ⟨y7_ HB.out⟩⟩
  case round =>
    clear H'; (try clear c2); obtain ⟨x1_1, x5_1, x7_1, rfl, rfl, HA, HK1, HO_5, HO_6, HB⟩ := hrel
    cases gk with
    | zero => exact absurd HA.out (by simp [spec_l4Path.l0])
    | succ k1 =>
      have H := HA.out; clear HA; simp only [spec_l4Path.l0] at H; revert H; refine it_ ?_ ?_
      · intro c7b0
        refine oc_ fun t278 A8 => ?_; refine in_ fun c9b0 => ?_
        refine ia_ fun LMc10 => ?_
        generalize hy280 : (x5_1 ++ [(⟨rd t275 x7_1, t278⟩ : S74)]) = y280; have Ny280 := am_ hy280.symm; clear hy280; refine ai_ fun H' => ?_; obtain ⟨Ao11, co11, eo11⟩ := Kd.R_slice HO_6.out; subst eo11; go_wp2_with (first | ((with_reducible refine gate_builtin (b := .append) (xs := #[.tmp 22, .tmp 29]) rfl ?_); at_builtin; refine Kd.R_append k74 (w0 := w) w.heap.size rfl (.tmp 22) (.tmp 29) 31 74 (.agg #[(.int .i64 0), (.string ⟨#[]⟩)]) 24 rfl Tryz.underlying31 info74 rfl (by decide) (by omega) u5 x5_1 (⟨rd t275 x7_1, t278⟩ : S74) [.int .i64 (rd t275 x7_1), .string t278] (fun _ => True) (fun _ => False) rfl rfl ?aP (fun _ hk => hk.elim) ?aF ?aO ?aB ?aS ?aL ?_; (case aP => exact k74_mkM _ _ _ (⟨rd t275 x7_1, t278⟩ : S74)); (case aB => exact (y7_ HB.out)); (case aF => exact (fun _ _ => trivial)); (case aO => exact (y11_ HO_5.out)); (case aS => exact (below_size (y7_ HB.out))); (case aL => have := LMc10.out; omega); intro v281 w13 ho hb hg hat; rw [← Ny280.out] at ho; replace HO_6 := am_ (Kd.R_over' (y11_ HO_6.out) (Kd.R_typed (y11_ HO_5.out)) (by decide) hg); replace HB := am_ hb; have HO282 := am_ ho; clear HO_5; clear ho hb hg hat) | ((with_reducible refine gl_ ?_); first | ((with_reducible refine gf_ 94 21 rfl rfl ?_); refine gb_ (spec_MakNext.calls A8.out) ?_; intro w12 hb; replace HO_5 := rb_ (y11_ HO_5.out) hb; replace HO_6 := rb_ (y11_ HO_6.out) hb; replace HB := st_ (y7_ HB.out) hb; clear hb; have p279 : 0 ≤ (x7_1 : Int) := of_decide_eq_true y3_; have q279 : x7_1 < (t275.length : Int) := of_decide_eq_true y3_; obtain ⟨ad279, e279, hx279_0⟩ := Kd.at_int (Kd.R_reads' HO_6.out).2.2 x7_1 p279 q279; cases e279; replace p279 := eq_true p279; replace q279 := eq_true q279)))
        go_roundg k1
        case measure => have := HK1.out; omega
        case rel => exact ⟨(t278), (y280), (wrap64 (x7_1 + 1)), y4_, y4_, H', ⟨by have := HK1.out; omega⟩, ⟨y11_ HO282.out⟩, ⟨y11_ HO_6.out⟩, ⟨y7_ HB.out⟩⟩
      intro c7b0; refine oj_ ?_; rintro rfl; obtain ⟨Ao14, co14, eo14⟩ := Kd.R_slice HO_6.out; subst eo14; go_wp2; go_ret; exact ⟨_, y6_, y11_ HO_5.out, y7_ HB.out⟩

/-! ### spec_TreMeet: function 53 -/
mutual
def spec_TreMeet.j0 : Nat → Int → Int → Bool → Option (Int)
  | 0, _, _, _ => none
  | k + 1, x0, x1, x12 => if x12 = true then (some (-1)) else (spec_TreMeet.l0 k x0 x1)
def spec_TreMeet.l0 : Nat → Int → Int → Option (Int)
  | 0, _, _ => none
  | k + 1, x0, x1 => if x0 = x1 then (some x0) else (if x0 > x1 then (spec_TreMeet.l0 k (wrap64 (Int.tdiv (wrap64 (x0 - 1)) 2)) x1) else (spec_TreMeet.l0 k x0 (wrap64 (Int.tdiv (wrap64 (x1 - 1)) 2))))
end
def spec_TreMeet.f (k : Nat) (a0 : Int) (a1 : Int) : Option (Int) := (spec_l1In.f a0 0 14).bind fun t283 => (if t283 = true then ((spec_l1In.f a1 0 14).bind fun t284 => (spec_TreMeet.j0 k a0 a1 (!t284))) else (spec_TreMeet.j0 k a0 a1 true))
theorem spec_TreMeet.mono_l : ∀ k, (∀ y0 y1 y2, LeO (spec_TreMeet.j0 k y0 y1 y2) (spec_TreMeet.j0 (k + 1) y0 y1 y2)) ∧ (∀ y0 y1, LeO (spec_TreMeet.l0 k y0 y1) (spec_TreMeet.l0 (k + 1) y0 y1))
  | 0 => ⟨fun _ _ _ r h => by simp [spec_TreMeet.j0] at h, fun _ _ r h => by simp [spec_TreMeet.l0] at h⟩
  | k + 1 => by
    obtain ⟨ih0, ih1⟩ := spec_TreMeet.mono_l k; refine ⟨?_, ?_⟩
    · intro y0 y1 y2
      unfold spec_TreMeet.j0
      repeat' first
      | (with_reducible exact ih0 _ _ _)
      | (with_reducible exact ih1 _ _)
      | (with_reducible first | exact LeO.refl _ | exact LeO.none _ | refine LeO.ite ?_ ?_ | refine LeO.bind ?_ (fun _ => ?_)) | exact LeO.none _ | refine LeO.ite ?_ ?_ | refine LeO.bind ?_ (fun _ => ?_)
    intro y0 y1; unfold spec_TreMeet.l0
    repeat' first
    | (with_reducible exact ih0 _ _ _)
    | (with_reducible exact ih1 _ _)
    | (with_reducible first | exact LeO.refl _ | exact LeO.none _ | refine LeO.ite ?_ ?_ | refine LeO.bind ?_ (fun _ => ?_)) | exact LeO.none _ | refine LeO.ite ?_ ?_ | refine LeO.bind ?_ (fun _ => ?_)
theorem spec_TreMeet.mono : ∀ a0 a1 k, LeO (spec_TreMeet.f k a0 a1) (spec_TreMeet.f (k + 1) a0 a1) := by
  intro a0 a1 k; obtain ⟨ih0, ih1⟩ := spec_TreMeet.mono_l k; unfold spec_TreMeet.f
  repeat' first
      | (with_reducible exact ih0 _ _ _)
      | (with_reducible exact ih1 _ _)
      | (with_reducible first | exact LeO.refl _ | exact LeO.none _ | refine LeO.ite ?_ ?_ | refine LeO.bind ?_ (fun _ => ?_)) | exact LeO.none _ | refine LeO.ite ?_ ?_ | refine LeO.bind ?_ (fun _ => ?_)
set_option maxHeartbeats 8000000 in
set_option maxRecDepth 100000 in
theorem spec_TreMeet.calls {k : Nat} {a0 : Int} {a1 : Int} {r : Int} {w : World} (H : spec_TreMeet.f k a0 a1 = some r) :
    Calls Tryz.prog 53 #[.int .i64 a0, .int .i64 a1] w fun e w' => e = .returned (.int .i64 r) ∧ Drawn0 w w' := by
  revert H; unfold spec_TreMeet.f; refine ai_ fun HC3 => ?_; go_enter Tryz.func53, Tryz.ntmps53
  go_upto_region 1 with (fail)
  go_cut [12] (fun v12 wc => ∃ (kq : Nat) (x12_2 : Bool), v12 = .bool x12_2 ∧ Aside0 (spec_TreMeet.j0 kq a0 a1 x12_2 = some r) ∧ Aside0 (kq ≤ k) ∧ Drawn0 w wc)
  case first =>
    have H := HC3.out; clear HC3; revert H; refine oc_ fun t283 A4 => ?_; refine ib_ ?_ ?_
    · rintro rfl; refine oc_ fun t284 A6 => ?_; refine ai_ fun H' => ?_; go_wp2_with (first | (go_at_call 26; (with_reducible refine (spec_l1In.calls A6.out).mono ?_); rintro e w' ⟨rfl, ⟨nd, rfl⟩⟩) | ((with_reducible refine gl_ ?_); first | ((with_reducible refine gf_ 26 6 rfl rfl ?_); refine gd_ (spec_l1In.calls A4.out) ?_; intro nd))); go_meet
      case rel => exact ⟨_, (!t284), y4_, H', ⟨by first | omega | exact Nat.le_refl _⟩, by repeat (first | exact Drawn0.refl _ | apply Drawn0.step)⟩
    rintro rfl; refine ai_ fun H' => ?_; go_wp2_with ((with_reducible refine gl_ ?_); first | ((with_reducible refine gf_ 26 6 rfl rfl ?_); refine gd_ (spec_l1In.calls A4.out) ?_; intro nd)); go_meet
    case rel => exact ⟨_, (true), y4_, H', ⟨by first | omega | exact Nat.le_refl _⟩, by repeat (first | exact Drawn0.refl _ | apply Drawn0.step)⟩
  case rest =>
    clear HC3; obtain ⟨kq, x12_2, rfl, HA, HJ2, ⟨mc2, rfl⟩⟩ := hcut
    cases kq with
    | zero => exact absurd HA.out (by simp [spec_TreMeet.j0])
    | succ kj2 =>
      have H := HA.out; clear HA; simp only [spec_TreMeet.j0] at H; revert H; refine ib_ ?_ ?_
      · rintro rfl; refine oj_ ?_; rintro rfl; go_wp2; go_ret; exact ⟨by first | rfl | (simp; done) | (simp [*]; done), by repeat (first | exact Drawn0.refl _ | apply Drawn0.step)⟩
      rintro rfl; refine ai_ fun H' => ?_; go_wp2
      go_loopg [0, 1] kj2 (fun kq v0 v1 w' => ∃ (x0_2 : Int) (x1_2 : Int), v0 = .int .i64 x0_2 ∧ v1 = .int .i64 x1_2 ∧ Aside0 (spec_TreMeet.l0 kq x0_2 x1_2 = some r) ∧ Aside0 (kq ≤ kj2) ∧ Drawn0 w w')
      case atStart => exact ⟨(a0), (a1), y4_, y4_, H', ⟨Nat.le_refl _⟩, by repeat (first | exact Drawn0.refl _ | apply Drawn0.step)⟩
      case round =>
        clear H'; obtain ⟨x0_2, x1_2, rfl, rfl, HA, HK2, ⟨m2, rfl⟩⟩ := hrel
        cases gk with
        | zero => exact absurd HA.out (by simp [spec_TreMeet.l0])
        | succ k2 =>
          have H := HA.out; clear HA; simp only [spec_TreMeet.l0] at H; revert H; refine ie2_ ?_ ?_
          · intro c8b0 c8b1; refine oj_ ?_; rintro rfl; go_wp2; go_ret; exact ⟨by first | rfl | (simp; done) | (simp [*]; done), by repeat (first | exact Drawn0.refl _ | apply Drawn0.step)⟩
          intro c8 c8b0 c8b1
          refine itg_ ?_ ?_
          · intro c9b0; refine ai_ fun H' => ?_; go_wp2
            go_roundg k2
            case measure => have := HJ2.out; have := HK2.out; omega
            case rel => exact ⟨(wrap64 (Int.tdiv (wrap64 (x0_2 - 1)) 2)), (x1_2), y4_, y4_, H', ⟨by have := HJ2.out; have := HK2.out; omega⟩, by repeat (first | exact Drawn0.refl _ | apply Drawn0.step)⟩
          intro c9b0; refine ai_ fun H' => ?_; go_wp2
          go_roundg k2
          case measure => have := HJ2.out; have := HK2.out; omega
          case rel => exact ⟨(x0_2), (wrap64 (Int.tdiv (wrap64 (x1_2 - 1)) 2)), y4_, y4_, H', ⟨by have := HJ2.out; have := HK2.out; omega⟩, by repeat (first | exact Drawn0.refl _ | apply Drawn0.step)⟩

/-! ### spec_l5Count: function 55 -/
def spec_l5Count.l0 : Nat → ByteArray → Int → Int → Option (Int)
  | 0, _, _, _ => none
  | k + 1, x0, x3, x4 => if x4 < (x0.size : Int) then (if 0 ≤ x4 then (if (bt x0 x4) = 59 then (spec_l5Count.l0 k x0 (wrap64 (x3 + 1)) (wrap64 (x4 + 1))) else (spec_l5Count.l0 k x0 x3 (wrap64 (x4 + 1)))) else (none)) else (some x3)
def spec_l5Count.f (k : Nat) (a0 : ByteArray) : Option (Int) := spec_l5Count.l0 k a0 0 0
set_option maxHeartbeats 8000000 in
set_option maxRecDepth 100000 in
theorem spec_l5Count.calls {k : Nat} {a0 : ByteArray} {r : Int} {w : World} (H : spec_l5Count.f k a0 = some r) :
    Calls Tryz.prog 55 #[.string a0] w fun e w' => e = .returned (.int .i64 r) ∧ Drawn0 w w' := by
  revert H; unfold spec_l5Count.f; refine ai_ fun H' => ?_; go_enter Tryz.func55, Tryz.ntmps55; go_wp2
  go_loopg [3, 4] k (fun kq v3 v4 w' => ∃ (x3_1 : Int) (x4_1 : Int), v3 = .int .i64 x3_1 ∧ v4 = .int .i64 x4_1 ∧ Aside0 (spec_l5Count.l0 kq a0 x3_1 x4_1 = some r) ∧ Aside0 (kq ≤ k) ∧ Drawn0 w w')
  case atStart => exact ⟨(0), (0), y4_, y4_, H', ⟨Nat.le_refl _⟩, by repeat (first | exact Drawn0.refl _ | apply Drawn0.step)⟩
  case round =>
    clear H'; obtain ⟨x3_1, x4_1, rfl, rfl, HA, HK1, ⟨m1, rfl⟩⟩ := hrel
    cases gk with
    | zero => exact absurd HA.out (by simp [spec_l5Count.l0])
    | succ k1 =>
      have H := HA.out; clear HA; simp only [spec_l5Count.l0] at H; revert H; refine it_ ?_ ?_
      · intro c2b0
        refine in_ fun c3b0 => ?_
        refine ie2_ ?_ ?_
        · intro c5b0 c5b1; refine ai_ fun H' => ?_; have p4 : 0 ≤ (x4_1 : Int) := of_decide_eq_true y3_; have q4 : x4_1 < (a0.size : Int) := of_decide_eq_true y3_; have hx4 := bt_at a0 x4_1; replace p4 := eq_true p4; replace q4 := eq_true q4; go_wp2
          go_roundg k1
          case measure => have := HK1.out; omega
          case rel => exact ⟨(wrap64 (x3_1 + 1)), (wrap64 (x4_1 + 1)), y4_, y4_, H', ⟨by have := HK1.out; omega⟩, by repeat (first | exact Drawn0.refl _ | apply Drawn0.step)⟩
        intro c5 c5b0 c5b1; refine ai_ fun H' => ?_; have p4 : 0 ≤ (x4_1 : Int) := of_decide_eq_true y3_; have q4 : x4_1 < (a0.size : Int) := of_decide_eq_true y3_; have hx4 := bt_at a0 x4_1; replace p4 := eq_true p4; replace q4 := eq_true q4; go_wp2
        go_roundg k1
        case measure => have := HK1.out; omega
        case rel => exact ⟨(x3_1), (wrap64 (x4_1 + 1)), y4_, y4_, H', ⟨by have := HK1.out; omega⟩, by repeat (first | exact Drawn0.refl _ | apply Drawn0.step)⟩
      intro c2b0; refine oj_ ?_; rintro rfl; go_wp2; go_ret; exact ⟨by first | rfl | (simp; done) | (simp [*]; done), by repeat (first | exact Drawn0.refl _ | apply Drawn0.step)⟩

end Go.Proofs.YtnemchmiplbopaaGreatDoor.Zj

namespace Go.Proofs.YtnemchmiplbopaaGreatDoor.Zj
open Go.RowKit Go.Proofs.YtnemchmiplbopaaGreatDoorW.PrintWords Go.Proofs.YtnemchmiplbopaaGreatDoorW.PrintLast Go.Proofs.YtnemchmiplbopaaGreatDoorW.PrintMore
attribute [local go_sem] max2_int min2_int max_two min_two max_three min_three max_four min_four   -- for this text's walks alone
set_option linter.unusedVariables false
set_option linter.unusedSimpArgs false

attribute [local go_sem high] eqA54
/-! ### spec_CmtOk: function 50 -/
mutual
def spec_CmtOk.j0 : Nat → Bool → Int → ByteArray → ByteArray → Int → Int → ByteArray → List ByteArray → List (S52) → ByteArray → ByteArray → ByteArray → ByteArray → ByteArray → Option (Bool)
  | 0, _, _, _, _, _, _, _, _, _, _, _, _, _, _ => none
  | k + 1, x56, x254000, x254001, x254002, x254003, x254004, x254005, x254006, x254007, x254008, x254009, x254010, x254011, x254012 => if x56 = true then (some false) else ((spec_TreOk.f k x254006).bind fun t263 => (if t263 = true then ((spec_l2Boxes.f k x254007).bind fun t264 => (if t264 = true then (spec_CmtOk.j1 k (decide ((x254007.length : Int) > 20)) x254000 x254001 x254002 x254003 x254004 x254005 x254006 x254007 x254008 x254009 x254010 x254011 x254012) else (spec_CmtOk.j1 k true x254000 x254001 x254002 x254003 x254004 x254005 x254006 x254007 x254008 x254009 x254010 x254011 x254012))) else (spec_CmtOk.j1 k true x254000 x254001 x254002 x254003 x254004 x254005 x254006 x254007 x254008 x254009 x254010 x254011 x254012)))
def spec_CmtOk.j1 : Nat → Bool → Int → ByteArray → ByteArray → Int → Int → ByteArray → List ByteArray → List (S52) → ByteArray → ByteArray → ByteArray → ByteArray → ByteArray → Option (Bool)
  | 0, _, _, _, _, _, _, _, _, _, _, _, _, _, _ => none
  | k + 1, x73, x254000, x254001, x254002, x254003, x254004, x254005, x254006, x254007, x254008, x254009, x254010, x254011, x254012 => if x73 = true then (some false) else (if x254003 < 0 then (if x254005.toList = ([] : List UInt8) then (some (x254008.toList == ([] : List UInt8) && ((x254009.toList == ([] : List UInt8) && (x254010.toList == ([] : List UInt8))) && ((x254011.toList == ([] : List UInt8) && (x254012.toList == ([] : List UInt8))))))) else (some false)) else ((spec_l4Key.f k x254005).bind fun t266 => (if t266 = true then ((spec_l4Key.f k x254008).bind fun t267 => (if t267 = true then (if x254005.toList = x254008.toList then (some false) else (if x254009.toList = x254008.toList then (if x254011.toList = x254008.toList then ((spec_SecOk.f k x254010).bind fun t268 => (if t268 = true then ((spec_SecOk.f k x254012).bind fun t269 => (some t269)) else (some false))) else (some false)) else (some false))) else (some false))) else (some false))))
end
def spec_CmtOk.f (k : Nat) (a0_0 : Int) (a0_1 : ByteArray) (a0_2 : ByteArray) (a0_3 : Int) (a0_4 : Int) (a0_5 : ByteArray) (l0_6 : List ByteArray) (l0_7 : List (S52)) (a0_8 : ByteArray) (a0_9 : ByteArray) (a0_10 : ByteArray) (a0_11 : ByteArray) (a0_12 : ByteArray) : Option (Bool) := (spec_l1In.f a0_0 0 7).bind fun t254 => (if t254 = true then ((spec_SecOk.f k a0_2).bind fun t255 => (if t255 = true then ((spec_l1How.f k a0_2).bind fun bt256 => (if bt256.1 = 1 then (if (wrap64 ((a0_1.size : Int) + (a0_2.size : Int))) > 300 then (spec_CmtOk.j0 k true a0_0 a0_1 a0_2 a0_3 a0_4 a0_5 l0_6 l0_7 a0_8 a0_9 a0_10 a0_11 a0_12) else ((spec_l1In.f a0_3 (-1) 7).bind fun t261 => (if t261 = true then ((spec_l1In.f a0_4 (-1) 7).bind fun t262 => (if t262 = true then (if a0_3 = a0_0 then (spec_CmtOk.j0 k true a0_0 a0_1 a0_2 a0_3 a0_4 a0_5 l0_6 l0_7 a0_8 a0_9 a0_10 a0_11 a0_12) else (spec_CmtOk.j0 k (a0_4 == a0_0) a0_0 a0_1 a0_2 a0_3 a0_4 a0_5 l0_6 l0_7 a0_8 a0_9 a0_10 a0_11 a0_12)) else (spec_CmtOk.j0 k true a0_0 a0_1 a0_2 a0_3 a0_4 a0_5 l0_6 l0_7 a0_8 a0_9 a0_10 a0_11 a0_12))) else (spec_CmtOk.j0 k true a0_0 a0_1 a0_2 a0_3 a0_4 a0_5 l0_6 l0_7 a0_8 a0_9 a0_10 a0_11 a0_12)))) else (spec_CmtOk.j0 k true a0_0 a0_1 a0_2 a0_3 a0_4 a0_5 l0_6 l0_7 a0_8 a0_9 a0_10 a0_11 a0_12))) else (spec_CmtOk.j0 k true a0_0 a0_1 a0_2 a0_3 a0_4 a0_5 l0_6 l0_7 a0_8 a0_9 a0_10 a0_11 a0_12))) else (spec_CmtOk.j0 k true a0_0 a0_1 a0_2 a0_3 a0_4 a0_5 l0_6 l0_7 a0_8 a0_9 a0_10 a0_11 a0_12))
theorem spec_CmtOk.W {P : Prop} (h : P := by
  have hz_ := cc13_ BK253.out
  have hz_ := cf13_ BK253.out
  go_wp2_with (first | (go_at_call 91; (with_reducible refine (spec_l2Boxes.calls ?side1 ?side2 A52.out).mono ?_); (case side1 => exact y17_ (Kd.C_below HR0_7.out HB.out)); (case side2 => exact HC0_7.out); rintro e w_ ⟨rfl, hb⟩; replace BK253 := bk_ BK253 hb; replace HB := st_ (yb_ HB.out) hb; clear hb; have hz_ := cc13_ BK253.out; have hz_ := cf13_ BK253.out) | (go_at_call 30; (with_reducible refine (spec_SecOk.calls A6.out).mono ?_); rintro e w_ ⟨rfl, hb⟩; replace BK253 := bk_ BK253 hb; replace HB := st_ (yb_ HB.out) hb; clear hb; have hz_ := cc13_ BK253.out; have hz_ := cf13_ BK253.out) | (go_at_call 73; (with_reducible refine (spec_l1How.calls A8.out).mono ?_); rintro e w_ ⟨rfl, hb⟩; replace BK253 := bk_ BK253 hb; replace HB := st_ (yb_ HB.out) hb; clear hb; have hz_ := cc13_ BK253.out; have hz_ := cf13_ BK253.out) | (go_at_call 26; (with_reducible refine (spec_l1In.calls A16.out).mono ?_); rintro e w' ⟨rfl, ⟨nd, rfl⟩⟩) | (go_at_call 26; (with_reducible refine (spec_l1In.calls A18.out).mono ?_); rintro e w' ⟨rfl, ⟨nd, rfl⟩⟩) | ((with_reducible refine gl_ ?_); first | ((with_reducible refine gf_ 27 60 rfl rfl ?_); refine gb_ (spec_TreOk.calls (y17_ (Kd.C_below HR0_6.out HB.out)) HC0_6.out A50.out) ?_; intro w_ hb; replace BK253 := bk_ BK253 hb; replace HB := st_ (yb_ HB.out) hb; clear hb; have hz_ := cc13_ BK253.out; have hz_ := cf13_ BK253.out) | ((with_reducible refine gf_ 26 6 rfl rfl ?_); refine gd_ (spec_l1In.calls A4.out) ?_; intro nd)))
  go_meet
  case rel => first | exact ⟨_, (decide ((l0_7.length : Int) > 20)), y4_, H', ⟨by have := HJ1.out; first | omega | exact Nat.le_refl _⟩, ⟨y12_ BK253.out⟩, ⟨yb_ HB.out⟩⟩ | exact ⟨_, (true), y4_, H', ⟨by have := HJ1.out; first | omega | exact Nat.le_refl _⟩, ⟨y12_ BK253.out⟩, ⟨yb_ HB.out⟩⟩ | exact ⟨_, ((a0_4 == a0_0)), y4_, H', ⟨by first | omega | exact Nat.le_refl _⟩, ⟨y12_ BK253.out⟩, ⟨yb_ HB.out⟩⟩ | exact ⟨_, (true), y4_, H', ⟨by first | omega | exact Nat.le_refl _⟩, ⟨y12_ BK253.out⟩, ⟨yb_ HB.out⟩⟩) : P := h
theorem spec_CmtOk.W1 {P : Prop} (h : P := by
  have hz_ := cc13_ BK253.out
  have hz_ := cf13_ BK253.out
  go_wp2_with (first | (go_at_call 92; (with_reducible refine (spec_l4Key.calls A72.out).mono ?_); rintro e w_ ⟨rfl, hb⟩; replace BK253 := bk_ BK253 hb; replace BK265 := bk_ BK265 hb; replace HB := st_ (yb_ HB.out) hb; clear hb; have hz_ := cc13_ BK253.out; have hz_ := cf13_ BK253.out; have hz_ := cc5_ BK265.out; have hz_ := cf5_ BK265.out) | (go_at_call 30; (with_reducible refine (spec_SecOk.calls A87.out).mono ?_); rintro e w_ ⟨rfl, hb⟩; replace BK253 := bk_ BK253 hb; replace BK265 := bk_ BK265 hb; replace HB := st_ (yb_ HB.out) hb; clear hb; have hz_ := cc5_ BK265.out; have hz_ := cf5_ BK265.out) | (go_at_call 30; (with_reducible refine (spec_SecOk.calls A89.out).mono ?_); rintro e w_ ⟨rfl, hb⟩; replace BK253 := bk_ BK253 hb; replace BK265 := bk_ BK265 hb; replace HB := st_ (yb_ HB.out) hb; clear hb) | ((with_reducible refine gl_ ?_); first | ((with_reducible refine gx_ 3 rfl ?_); (try (refine gate_guard (by rfl) ?_; dsimp only)); refine bx_ 3 54 #[.string (⟨#[]⟩ : ByteArray), .string (⟨#[]⟩ : ByteArray), .string (⟨#[]⟩ : ByteArray), .string (⟨#[]⟩ : ByteArray), .string (⟨#[]⟩ : ByteArray)] ?_; intro gb265 hg w_ BK265 hb; have GW265 := ge_ (w0 := w) hg (yb_ HB.out); have GE265 := ge_ (w0 := w) hg (yb_ HB.out); replace HB := st_ (yb_ HB.out) hb; have NB253_265 := nb_ hg BK253; have NB265_253 := nc_ hg BK253; replace BK253 := bk_ BK253 hb; clear hb hg; have hz_ := NB265_253.out; have hz_ := NB253_265.out; have hz_ := cc5_ BK265.out; have hz_ := cf5_ BK265.out; have hz_ := cc13_ BK253.out; have hz_ := cf13_ BK253.out) | ((with_reducible refine gf_ 92 90 rfl rfl ?_); refine gb_ (spec_l4Key.calls A70.out) ?_; intro w_ hb; replace BK253 := bp_ BK253 hb; replace BK265 := bp_ BK265 hb; replace HB := st_ (yb_ HB.out) hb; clear hb; have hz_ := cc5_ BK265.out; have hz_ := cf5_ BK265.out)))
  go_ret
  exact ⟨y6_, yb_ HB.out⟩) : P := h
set_option maxHeartbeats 80000000 in
set_option maxRecDepth 100000 in
theorem spec_CmtOk.calls {k : Nat} {a0_0 : Int} {a0_1 : ByteArray} {a0_2 : ByteArray} {a0_3 : Int} {a0_4 : Int} {a0_5 : ByteArray} {A0_6 : Option Addr} {c0_6 : Nat} {l0_6 : List ByteArray} {A0_7 : Option Addr} {c0_7 : Nat} {l0_7 : List (S52)} {a0_8 : ByteArray} {a0_9 : ByteArray} {a0_10 : ByteArray} {a0_11 : ByteArray} {a0_12 : ByteArray} {r : Bool} {w : World} (hr0_6 : Kd.C Kd.string w A0_6 l0_6.length l0_6) (hc0_6 : l0_6.length ≤ c0_6) (hr0_7 : Kd.C k52 w A0_7 l0_7.length l0_7) (hc0_7 : l0_7.length ≤ c0_7) (H : spec_CmtOk.f k a0_0 a0_1 a0_2 a0_3 a0_4 a0_5 l0_6 l0_7 a0_8 a0_9 a0_10 a0_11 a0_12 = some r) :
    Calls Tryz.prog 50 #[.agg #[.int .i64 a0_0, .string a0_1, .string a0_2, .int .i64 a0_3, .int .i64 a0_4, .string a0_5, .slice A0_6 l0_6.length c0_6, .slice A0_7 l0_7.length c0_7, .string a0_8, .string a0_9, .string a0_10, .string a0_11, .string a0_12]] w fun e w' => e = .returned (.bool r) ∧ Below w.heap.size w w' := by
  have hu56 := Tryz.underlying56; have hu30 := Tryz.underlying30; have hu54 := Tryz.underlying54
  have hfl98_0 : ∀ (fv0 fv1 fv2 fv3 fv4 : Value) (W : World), (Instr.field 98 (.agg #[fv0, fv1, fv2, fv3, fv4]) 0).run Tryz.prog W = .ok fv0 W := fun _ _ _ _ _ _ => by kernel_rfl
  have HR0_6 := am_ hr0_6; have HC0_6 := am_ hc0_6; clear hr0_6 hc0_6; have HR0_7 := am_ hr0_7; have HC0_7 := am_ hc0_7; clear hr0_7 hc0_7; have HB := am_ (Below.refl w.heap.size w); revert H; unfold spec_CmtOk.f; refine ai_ fun HC2 => ?_; go_enter Tryz.func50, Tryz.ntmps50
  go_upto_region 1 with (first | ((with_reducible refine gx_ 1 rfl ?_); (try (refine gate_guard (by rfl) ?_; dsimp only)); refine bx_ 1 56 #[.int .i64 a0_0, .string a0_1, .string a0_2, .int .i64 a0_3, .int .i64 a0_4, .string a0_5, .slice A0_6 l0_6.length c0_6, .slice A0_7 l0_7.length c0_7, .string a0_8, .string a0_9, .string a0_10, .string a0_11, .string a0_12] ?_; intro gb253 hg w3 BK253 hb; have GW253 := ge_ (w0 := w) hg (y7_ HB.out); have GE253 := ge_ (w0 := w) hg (y7_ HB.out); replace HB := st_ (y7_ HB.out) hb; clear hb hg))
  (try simp only [Act.put, List.setIfInBounds_toArray, List.set_cons_zero, List.set_cons_succ]); go_cut [56] (fun v56 wc => ∃ (kq : Nat) (x56_1 : Bool), v56 = .bool x56_1 ∧ Aside0 (spec_CmtOk.j0 kq x56_1 a0_0 a0_1 a0_2 a0_3 a0_4 a0_5 l0_6 l0_7 a0_8 a0_9 a0_10 a0_11 a0_12 = some r) ∧ Aside0 (kq ≤ k) ∧ Aside0 (wc.heap[gb253]? = some (.cells #[.int .i64 a0_0, .string a0_1, .string a0_2, .int .i64 a0_3, .int .i64 a0_4, .string a0_5, (.slice A0_6 l0_6.length c0_6), (.slice A0_7 l0_7.length c0_7), .string a0_8, .string a0_9, .string a0_10, .string a0_11, .string a0_12] 56 (0, 0))) ∧ Aside0 (Below w.heap.size w wc))
  case first =>
    have H := HC2.out; clear HC2; revert H; refine oc_ fun t254 A4 => ?_; refine ib_ ?_ ?_
    · rintro rfl
      refine oc_ fun t255 A6 => ?_; refine ib_ ?_ ?_
      · rintro rfl
        refine oc_ ?_; rintro ⟨t256, t257, t258, t259, t260⟩ A8 H; dsimp only at H; revert H; refine ie2_ ?_ ?_
        · intro c9b0 c9b1; (first | rw [c9b0] | (simp only [i64_w, i32_w]; rw [c9b0]) | skip); refine itg_ ?_ ?_
          · intro c10b0; refine ai_ fun H' => ?_; exact spec_CmtOk.W
          intro c10b0
          refine oc_ fun t261 A16 => ?_; refine ib_ ?_ ?_
          · rintro rfl
            refine oc_ fun t262 A18 => ?_; refine ib_ ?_ ?_
            · rintro rfl
              refine ie2_ ?_ ?_
              · intro c20b0 c20b1; refine ai_ fun H' => ?_; exact spec_CmtOk.W
              intro c20 c20b0 c20b1; refine ai_ fun H' => ?_; exact spec_CmtOk.W
            rintro rfl; refine ai_ fun H' => ?_; exact spec_CmtOk.W
          rintro rfl; refine ai_ fun H' => ?_; exact spec_CmtOk.W
        intro c9 c9b0 c9b1; (first | rw [c9b0] | (simp only [i64_w, i32_w]; rw [c9b0]) | skip); refine ai_ fun H' => ?_; exact spec_CmtOk.W
      rintro rfl; refine ai_ fun H' => ?_; exact spec_CmtOk.W
    rintro rfl; refine ai_ fun H' => ?_; exact spec_CmtOk.W
  case rest =>
    clear HC2; (try clear c9); (try clear c9b0); (try clear c9b1); (try clear c10b0); (try clear c20); (try clear c20b0); (try clear c20b1); obtain ⟨kq, x56_1, rfl, HA, HJ1, BK253, HB⟩ := hcut
    cases kq with
    | zero => exact absurd HA.out (by simp [spec_CmtOk.j0])
    | succ kj1 =>
      have H := HA.out; clear HA; simp only [spec_CmtOk.j0] at H; revert H; refine ib_ ?_ ?_
      · rintro rfl; refine oj_ ?_; rintro rfl; go_wp2; go_ret; exact ⟨y6_, yb_ HB.out⟩
      rintro rfl; refine ai_ fun HC49 => ?_
      go_upto_region 3 with (fail)
      go_cut [73] (fun v73 wc => ∃ (kq : Nat) (x73_48 : Bool), v73 = .bool x73_48 ∧ Aside0 (spec_CmtOk.j1 kq x73_48 a0_0 a0_1 a0_2 a0_3 a0_4 a0_5 l0_6 l0_7 a0_8 a0_9 a0_10 a0_11 a0_12 = some r) ∧ Aside0 (kq ≤ kj1) ∧ Aside0 (wc.heap[gb253]? = some (.cells #[.int .i64 a0_0, .string a0_1, .string a0_2, .int .i64 a0_3, .int .i64 a0_4, .string a0_5, (.slice A0_6 l0_6.length c0_6), (.slice A0_7 l0_7.length c0_7), .string a0_8, .string a0_9, .string a0_10, .string a0_11, .string a0_12] 56 (0, 0))) ∧ Aside0 (Below w.heap.size w wc))
      case first =>
        have H := HC49.out; clear HC49; revert H; refine oc_ fun t263 A50 => ?_; refine ib_ ?_ ?_
        · rintro rfl
          refine oc_ fun t264 A52 => ?_; refine ib_ ?_ ?_
          · rintro rfl; refine ai_ fun H' => ?_; exact spec_CmtOk.W
          rintro rfl; refine ai_ fun H' => ?_; exact spec_CmtOk.W
        rintro rfl; refine ai_ fun H' => ?_; exact spec_CmtOk.W
      case rest =>
        clear HC49; obtain ⟨kq, x73_48, rfl, HA, HJ48, BK253, HB⟩ := hcut
        cases kq with
        | zero => exact absurd HA.out (by simp [spec_CmtOk.j1])
        | succ kj48 =>
          have H := HA.out; clear HA; simp only [spec_CmtOk.j1] at H; revert H; refine ib_ ?_ ?_
          · rintro rfl; refine oj_ ?_; rintro rfl; go_wp2; go_ret; exact ⟨y6_, yb_ HB.out⟩
          rintro rfl
          refine it_ ?_ ?_
          · intro c66b0
            refine ie2_ ?_ ?_
            · intro c67b0 c67b1; refine oj_ ?_; rintro rfl; have hcz68 := cc13_ BK253.out; have hfz68 := cf13_ BK253.out; go_wp2; go_ret; exact ⟨y6_, yb_ HB.out⟩
            intro c67 c67b0 c67b1; refine oj_ ?_; rintro rfl; have hcz69 := cc13_ BK253.out; have hfz69 := cf13_ BK253.out; go_wp2; go_ret; exact ⟨y6_, yb_ HB.out⟩
          intro c66b0
          refine oc_ fun t266 A70 => ?_; refine ib_ ?_ ?_
          · rintro rfl
            refine oc_ fun t267 A72 => ?_; refine ib_ ?_ ?_
            · rintro rfl
              refine ie2_ ?_ ?_
              · intro c74b0 c74b1; refine oj_ ?_; rintro rfl; exact spec_CmtOk.W1
              intro c74 c74b0 c74b1
              refine ie2_ ?_ ?_
              · intro c85b0 c85b1
                refine ie2_ ?_ ?_
                · intro c86b0 c86b1
                  refine oc_ fun t268 A87 => ?_; refine ib_ ?_ ?_
                  · rintro rfl; refine oc_ fun t269 A89 => ?_; refine oj_ ?_; rintro rfl; exact spec_CmtOk.W1
                  rintro rfl; refine oj_ ?_; rintro rfl; exact spec_CmtOk.W1
                intro c86 c86b0 c86b1; refine oj_ ?_; rintro rfl; exact spec_CmtOk.W1
              intro c85 c85b0 c85b1; refine oj_ ?_; rintro rfl; exact spec_CmtOk.W1
            rintro rfl; refine oj_ ?_; rintro rfl; exact spec_CmtOk.W1
          rintro rfl; refine oj_ ?_; rintro rfl; exact spec_CmtOk.W1

end Go.Proofs.YtnemchmiplbopaaGreatDoor.Zj
