-- Written by this session's own program (wip/tools/pp.py) out of the translation, over functions given by hand. Lean checks it.
import Derived.Test.YtnemchmiplbopaaGreatDoorZjx0
import Derived.Test.YtnemchmiplbopaaGreatDoorZjGivK
namespace Go.Proofs.YtnemchmiplbopaaGreatDoor.Zj
open Go.RowKit Go.Proofs.YtnemchmiplbopaaGreatDoorW.PrintWords Go.Proofs.YtnemchmiplbopaaGreatDoorW.PrintLast Go.Proofs.YtnemchmiplbopaaGreatDoorW.PrintMore
attribute [local go_sem] max2_int min2_int max_two min_two max_three min_three max_four min_four   -- for this text's walks alone
set_option linter.unusedVariables false
set_option linter.unusedSimpArgs false

/-! ### laws_toStringS: function 56 -/
def laws_toStringS.l0 : Nat → List ByteArray → List ByteArray → Int → Option (List ByteArray)
  | 0, _, _, _ => none
  | k + 1, x0, x3, x4 => if x4 < (x0.length : Int) then (if 0 ≤ x4 then (if x4 < (x3.length : Int) then (laws_toStringS.l0 k x0 (x3.set (x4 : Int).toNat (rdOf ByteArray.empty x0 x4)) (wrap64 (x4 + 1))) else (none)) else (none)) else (some x3)
def laws_toStringS.f (k : Nat) (l0 : List ByteArray) : Option (List ByteArray) := if 0 ≤ (l0.length : Int) then (if ((l0.length : Int) : Int).toNat ≤ 17592186044416 then (laws_toStringS.l0 k l0 (List.replicate ((l0.length : Int) : Int).toNat (⟨#[]⟩ : ByteArray)) 0) else (none)) else (none)
set_option maxHeartbeats 8000000 in
set_option maxRecDepth 100000 in
theorem laws_toStringS.calls {k : Nat} {A0 : Option Addr} {c0 : Nat} {l0 : List ByteArray} {r : List ByteArray} {w : World} (hr0 : Kd.C Kd.string w A0 l0.length l0) (hc0 : l0.length ≤ c0) (H : laws_toStringS.f k l0 = some r) :
    Calls Tryz.prog 56 #[.slice A0 l0.length c0] w fun e w' => ∃ v0_ : Value, e = .returned (v0_) ∧ Kd.R Kd.string 9 w' w.heap.size (fun _ => True) v0_ r ∧ Below w.heap.size w w' := by
  have HR0 := am_ hr0; have HC0 := am_ hc0; clear hr0 hc0; have HB := am_ (Below.refl w.heap.size w); revert H; unfold laws_toStringS.f; refine il_ fun c2b0 c2b1 => ?_
  refine il_ fun c3b0 c3b1 => ?_
  generalize hy315 : (List.replicate ((l0.length : Int) : Int).toNat (⟨#[]⟩ : ByteArray)) = y315; have Ny315 := am_ hy315.symm; clear hy315; refine ai_ fun H' => ?_; go_enter Tryz.func56, Tryz.ntmps56; go_wp2_with (first | ((with_reducible refine gate_dst (N := 7) rfl ?_); refine Kd.R_make Kd.string _ 9 rfl (N := 7) rfl 22 _ _ rfl (l0.length : Int) rfl rfl Tryz.underlying22 (.string ⟨#[]⟩) 16 info9 rfl (by decide) (by omega) (⟨#[]⟩ : ByteArray) (ok := fun _ => True) (okp := fun _ => True) rfl (fun _ hk => hk) trivial (of_decide_eq_true y3_) (Nat.le_trans (Nat.mul_le_mul_right _ (of_decide_eq_true y3_ : (l0.length : Int).toNat ≤ 17592186044416)) (by omega)) (Below.refl _ _) (Nat.le_refl _) ?_; intro v316 w4 ho5 hb hg_ hnew_; clear hg_ hnew_; (first | rw [← Ny315.out] at ho5 | (simp only [Int.reduceToNat] at ho5; rw [← Ny315.out] at ho5)); have HO317 := am_ (Kd.R_lower ho5 (below_size (y7_ HB.out))); replace HB := st_ (y7_ HB.out) hb; clear hb ho5))
  go_loopg [4] k (fun kq v4 w' => ∃ (x3_1 : List ByteArray) (x4_1 : Int), v4 = .int .i64 x4_1 ∧ Aside0 (laws_toStringS.l0 kq l0 x3_1 x4_1 = some r) ∧ Aside0 (kq ≤ k) ∧ Aside0 (Kd.R Kd.string 9 w' w.heap.size (fun _ => True) v316 x3_1) ∧ Aside0 (Below w.heap.size w w'))
  case atStart => exact ⟨(y315), (0), y4_, H', ⟨Nat.le_refl _⟩, ⟨y11_ HO317.out⟩, ⟨y7_ HB.out⟩⟩
  case round =>
    clear H'; (try clear c2b0); (try clear c2b1); (try clear c3b0); (try clear c3b1); obtain ⟨x3_1, x4_1, rfl, HA, HK1, HO_3, HB⟩ := hrel
    cases gk with
    | zero => exact absurd HA.out (by simp [laws_toStringS.l0])
    | succ k1 =>
      have H := HA.out; clear HA; simp only [laws_toStringS.l0] at H; revert H; refine it_ ?_ ?_
      · intro c6b0
        refine in_ fun c7b0 => ?_
        refine in_ fun c8b0 => ?_
        generalize hy319 : (x3_1.set (x4_1 : Int).toNat (rdOf ByteArray.empty l0 x4_1)) = y319; have Ny319 := am_ hy319.symm; clear hy319; refine ai_ fun H' => ?_; have p318 : 0 ≤ (x4_1 : Int) := of_decide_eq_true y3_; have q318 : x4_1 < (l0.length : Int) := of_decide_eq_true y3_; obtain ⟨ad318, e318, hx318_0⟩ := Kd.at_string HR0.out x4_1 p318 q318
        cases e318
        replace hx318_0 := (HB.out.cell (World.block_lt_of_cell? w _ hx318_0)).trans hx318_0; replace p318 := eq_true p318; replace q318 := eq_true q318; have p9 : 0 ≤ (x4_1 : Int) := of_decide_eq_true y3_; have q9 : (x4_1 : Int) < ((x3_1.length : Int) : Int) := of_decide_eq_true y3_; obtain ⟨go9, co9, eo9, gb9, gl9, cl9, HG9⟩ := Kd.R_form HO_3.out (by omega); (first | cases eo9 | (injection eo9 with ea_ en_ ec_; (first | subst ea_ | (injection ea_ with ea_; subst ea_)); subst ec_; clear en_)); have GB9 := am_ gb9; have GG9 := am_ HG9; clear gb9 gl9 HG9; obtain ⟨hx9_0, hf9_0⟩ := Kd.R_celln (⟨#[]⟩ : ByteArray) HO_3.out (x4_1 : Int) p9 q9; replace p9 := eq_true p9; replace q9 := eq_true q9; have HP10 := Kd.R_putg HO_3.out (x4_1 : Int) (rdOf ByteArray.empty l0 x4_1); go_wp2_with (first | ((with_reducible refine gate_store (t := 9) (p := 20) rfl ?_); refine store_event (t := 9) (p := 20) (v := ?vo_w11) (w1 := (wr.setCell ⟨go9, (x4_1 : Int).toNat, none⟩ (.string (rdOf ByteArray.empty l0 x4_1)))) ?hg ?ho ?hn ?hr ?_; (case ho => rfl); (case hg => rfl); (case hn => rfl); (case hr => go_simp; try rfl); intro w11 hw; have hg : wr.grownBy w11 (some go9) := (by rw [hw]; exact HP10.2); have hp_ : Kd.R Kd.string 9 w11 w.heap.size (fun _ => True) (.slice (some ⟨go9, 0, none⟩) x3_1.length co9) y319 := (by rw [hw, Ny319.out]; exact HP10.1); clear HP10; replace HO_3 := am_ hp_; replace HB := am_ ((by rw [hw]; exact below_set (HB.out) GB9.out : Below w.heap.size w w11)); clear hg hw hp_))
        go_roundg k1
        case measure => have := HK1.out; omega
        case rel => exact ⟨(y319), (wrap64 (x4_1 + 1)), y4_, H', ⟨by have := HK1.out; omega⟩, ⟨y11_ HO_3.out⟩, ⟨y7_ HB.out⟩⟩
      intro c6b0; refine oj_ ?_; rintro rfl; go_wp2; go_ret; exact ⟨_, y6_, y11_ HO_3.out, y7_ HB.out⟩

/-! ### laws_toKnwBox: function 95 -/
def laws_toKnwBox.f (a0_0 : ByteArray) (a0_1 : ByteArray) : Option (ByteArray × ByteArray) := some (a0_0, a0_1)
set_option maxHeartbeats 8000000 in
set_option maxRecDepth 100000 in
theorem laws_toKnwBox.calls {a0_0 : ByteArray} {a0_1 : ByteArray} {r1 : ByteArray} {r2 : ByteArray} {w : World} (H : laws_toKnwBox.f a0_0 a0_1 = some (r1, r2)) :
    Calls Tryz.prog 95 #[.agg #[.string a0_0, .string a0_1]] w fun e w' => e = .returned (.agg #[.string r1, .string r2]) ∧ Below w.heap.size w w' := by
  have hu43 := Tryz.underlying43; have hu52 := Tryz.underlying52; have HB := am_ (Below.refl w.heap.size w); revert H; unfold laws_toKnwBox.f; intro H; replace H := op2_ H; obtain ⟨rfl, rfl⟩ := H; go_enter Tryz.func95, Tryz.ntmps95; go_wp2_with ((with_reducible refine gl_ ?_); first | ((with_reducible refine gx_ 1 rfl ?_); refine bx_ 1 43 #[.string a0_0, .string a0_1] ?_; intro gb320 hg w2 BK320 hb; have GW320 := ge_ (w0 := w) hg (y7_ HB.out); have GE320 := ge_ (w0 := w) hg (y7_ HB.out); replace HB := st_ (y7_ HB.out) hb; clear hb hg) | ((with_reducible refine gx_ 2 rfl ?_); refine bx_ 2 52 #[.string (⟨#[]⟩ : ByteArray), .string (⟨#[]⟩ : ByteArray)] ?_; intro gb321 hg w3 BK321 hb; have GW321 := ge_ (w0 := w) hg (yb_ HB.out); have GE321 := ge_ (w0 := w) hg (yb_ HB.out); replace HB := st_ (yb_ HB.out) hb; have NB320_321 := nb_ hg BK320; have NB321_320 := nc_ hg BK320; replace BK320 := bk_ BK320 hb; clear hb hg) | ((with_reducible refine gx_ 3 rfl ?_); refine bx_ 3 52 #[.string (⟨#[]⟩ : ByteArray), .string (⟨#[]⟩ : ByteArray)] ?_; intro gb322 hg w4 BK322 hb; have GW322 := ge_ (w0 := w) hg (yb_ HB.out); have GE322 := ge_ (w0 := w) hg (yb_ HB.out); replace HB := st_ (yb_ HB.out) hb; have NB320_322 := nb_ hg BK320; have NB322_320 := nc_ hg BK320; replace BK320 := bk_ BK320 hb; have NB321_322 := nb_ hg BK321; have NB322_321 := nc_ hg BK321; replace BK321 := bk_ BK321 hb; clear hb hg; have hnb5 := NB320_321.out; have hnc5 := NB321_320.out; have hnb6 := NB320_322.out; have hnc6 := NB322_320.out; have hcz7 := cc2_ BK320.out; have hfz7 := cf2_ BK320.out; have hnb8 := NB322_321.out; have hnc8 := NB321_322.out; have hcz9 := cc2_ BK322.out; have hfz9 := cf2_ BK322.out; have hcz10 := cc2_ BK321.out; have hfz10 := cf2_ BK321.out)); refine bodyPost_ret (results_cell_row rfl _ _ gb321 52 #[.string a0_0, .string a0_1] (0, 0) _ rfl (pw_ BK321.out) Tryz.underlying52 rfl (by kernel_rfl)) rfl ?_; exact ⟨y6_, yb_ HB.out⟩

/-! ### laws_toKnwBoxS: function 57 -/
def laws_toKnwBoxS.l0 : Nat → List (S43) → List (S52) → Int → Option ((List (S52)))
  | 0, _, _, _ => none
  | k + 1, x0, x3, x4 => if x4 < (x0.length : Int) then (if 0 ≤ x4 then ((laws_toKnwBox.f ((rd_T43 x0 x4).f0) ((rd_T43 x0 x4).f1)).bind fun bt327 => (if x4 < (x3.length : Int) then (laws_toKnwBoxS.l0 k x0 (x3.set (x4 : Int).toNat (⟨bt327.1, bt327.2⟩ : S52)) (wrap64 (x4 + 1))) else (none))) else (none)) else (some x3)
def laws_toKnwBoxS.f (k : Nat) (l0 : List (S43)) : Option ((List (S52))) := if 0 ≤ (l0.length : Int) then (if ((l0.length : Int) : Int).toNat ≤ 8796093022208 then (laws_toKnwBoxS.l0 k l0 (List.replicate ((l0.length : Int) : Int).toNat z52) 0) else (none)) else (none)
set_option maxHeartbeats 8000000 in
set_option maxRecDepth 100000 in
theorem laws_toKnwBoxS.calls {k : Nat} {A0 : Option Addr} {c0 : Nat} {l0 : List (S43)} {r : List (S52)} {w : World} (hr0 : Kd.C k43 w A0 l0.length l0) (hc0 : l0.length ≤ c0) (H : laws_toKnwBoxS.f k l0 = some r) :
    Calls Tryz.prog 57 #[.slice A0 l0.length c0] w fun e w' => ∃ v0_ : Value, e = .returned (v0_) ∧ Kd.R k52 52 w' w.heap.size (fun _ => True) v0_ r ∧ Below w.heap.size w w' := by
  have hu43 := Tryz.underlying43; have hu52 := Tryz.underlying52; have HR0 := am_ hr0; have HC0 := am_ hc0; clear hr0 hc0; have HB := am_ (Below.refl w.heap.size w); revert H; unfold laws_toKnwBoxS.f; refine il_ fun c2b0 c2b1 => ?_
  refine il_ fun c3b0 c3b1 => ?_
  generalize hy323 : (List.replicate ((l0.length : Int) : Int).toNat z52) = y323; have Ny323 := am_ hy323.symm; clear hy323; refine ai_ fun H' => ?_; go_enter Tryz.func57, Tryz.ntmps57; go_wp2_with (first | ((with_reducible refine gate_dst (N := 7) rfl ?_); refine Kd.R_make k52 _ 52 rfl (N := 7) rfl 51 _ _ rfl (l0.length : Int) rfl rfl Tryz.underlying51 (.agg #[(.string ⟨#[]⟩), (.string ⟨#[]⟩)]) 32 info52 rfl (by decide) (by omega) z52 (ok := fun _ => True) (okp := fun _ => True) (k52_mkM _ _ _ z52 ) (fun _ hk => hk) trivial (of_decide_eq_true y3_) (Nat.le_trans (Nat.mul_le_mul_right _ (of_decide_eq_true y3_ : (l0.length : Int).toNat ≤ 8796093022208)) (by omega)) (Below.refl _ _) (Nat.le_refl _) ?_; intro v324 w4 ho5 hb hg_ hnew_; clear hg_ hnew_; (first | rw [← Ny323.out] at ho5 | (simp only [Int.reduceToNat] at ho5; rw [← Ny323.out] at ho5)); have HO325 := am_ (Kd.R_lower ho5 (below_size (y7_ HB.out))); replace HB := st_ (y7_ HB.out) hb; clear hb ho5))
  go_loopg [4] k (fun kq v4 w' => ∃ (x3_1 : List (S52)) (x4_1 : Int), v4 = .int .i64 x4_1 ∧ Aside0 (laws_toKnwBoxS.l0 kq l0 x3_1 x4_1 = some r) ∧ Aside0 (kq ≤ k) ∧ Aside0 (Kd.R k52 52 w' w.heap.size (fun _ => True) v324 x3_1) ∧ Aside0 (Below w.heap.size w w'))
  case atStart => exact ⟨(y323), (0), y4_, H', ⟨Nat.le_refl _⟩, ⟨y11_ HO325.out⟩, ⟨y7_ HB.out⟩⟩
  case round =>
    clear H'; (try clear c2b0); (try clear c2b1); (try clear c3b0); (try clear c3b1); obtain ⟨x3_1, x4_1, rfl, HA, HK1, HO_3, HB⟩ := hrel
    cases gk with
    | zero => exact absurd HA.out (by simp [laws_toKnwBoxS.l0])
    | succ k1 =>
      have H := HA.out; clear HA; simp only [laws_toKnwBoxS.l0] at H; revert H; refine it_ ?_ ?_
      · intro c6b0
        refine in_ fun c7b0 => ?_
        refine oc_ ?_; rintro ⟨t327, t328⟩ A8 H; dsimp only at H; revert H; refine in_ fun c9b0 => ?_
        generalize hy329 : (x3_1.set (x4_1 : Int).toNat (⟨t327, t328⟩ : S52)) = y329; have Ny329 := am_ hy329.symm; clear hy329; refine ai_ fun H' => ?_; have p326 : 0 ≤ (x4_1 : Int) := of_decide_eq_true y3_; have q326 : x4_1 < (l0.length : Int) := of_decide_eq_true y3_; obtain ⟨ad326, e326, hx326_0, hx326_1⟩ := at_T43 HR0.out x4_1 p326 q326
        cases e326
        replace hx326_0 := (HB.out.cell (World.block_lt_of_cell? w _ hx326_0)).trans hx326_0; replace hx326_1 := (HB.out.cell (World.block_lt_of_cell? w _ hx326_1)).trans hx326_1; replace p326 := eq_true p326; replace q326 := eq_true q326; go_wp2_with (first | ((with_reducible refine gate_store (t := 52) (p := 21) rfl ?_); refine store_event (t := 52) (p := 21) (v := ?vo_w13) (w1 := ((w11.setCell ⟨go10, (x4_1 : Int).toNat * 2, none⟩ (.string t327)).setCell ⟨go10, (x4_1 : Int).toNat * 2 + 1, none⟩ (.string t328))) ?hg ?ho ?hn ?hr ?_; (case ho => rfl); (case hg => rfl); (case hn => rfl); (case hr => go_simp; try rfl); intro w13 hw; have hg : w11.grownBy w13 (some go10) := (by rw [hw]; exact HP12.2); have hp_ : Kd.R k52 52 w13 w.heap.size (fun _ => True) (.slice (some ⟨go10, 0, none⟩) x3_1.length co10) y329 := (by rw [hw, Ny329.out]; exact HP12.1); clear HP12; replace HO_3 := am_ hp_; replace HB := am_ ((by rw [hw]; exact below_set (below_set (HB.out) GB10.out) GB10.out : Below w.heap.size w w13)); clear hg hw hp_) | ((with_reducible refine gl_ ?_); first | ((with_reducible refine gf_ 95 20 rfl rfl ?_); refine gb_ (laws_toKnwBox.calls A8.out) ?_; intro w11 hb; replace HO_3 := rb_ (y11_ HO_3.out) hb; replace HB := st_ (y7_ HB.out) hb; clear hb; have p10 : 0 ≤ (x4_1 : Int) := of_decide_eq_true y3_; have q10 : (x4_1 : Int) < ((x3_1.length : Int) : Int) := of_decide_eq_true y3_; obtain ⟨go10, co10, eo10, gb10, gl10, cl10, HG10⟩ := Kd.R_form HO_3.out (by omega); (first | cases eo10 | (injection eo10 with ea_ en_ ec_; (first | subst ea_ | (injection ea_ with ea_; subst ea_)); subst ec_; clear en_)); have GB10 := am_ gb10; have GG10 := am_ HG10; clear gb10 gl10 HG10; obtain ⟨ce10, hcl10, hM10, hcc10, hfr10⟩ := Kd.R_elem HO_3.out z52 (x4_1 : Int) p10 q10; obtain rfl := k52_openM hM10; have hx10_0 : w11.cell? ⟨go10, (x4_1 : Int).toNat * 2, none⟩ = some (.string ((rd_T52 x3_1 x4_1).f0)) := hcc10 0 _ rfl; have hx10_1 : w11.cell? ⟨go10, (x4_1 : Int).toNat * 2 + 1, none⟩ = some (.string ((rd_T52 x3_1 x4_1).f1)) := hcc10 1 _ rfl; have hf10_0 : w11.frozen? ⟨go10, (x4_1 : Int).toNat * 2, none⟩ = false := hfr10 0; have hf10_1 : w11.frozen? ⟨go10, (x4_1 : Int).toNat * 2 + 1, none⟩ = false := hfr10 1; clear hcl10 hcc10 hfr10 hM10; replace p10 := eq_true p10; replace q10 := eq_true q10; have HX12 := am_ (show Kd.R k52 52 w11 w.heap.size (fun _ => True) (.slice (some ⟨go10, 0, none⟩) x3_1.length co10) x3_1 from (y11_ HO_3.out)); obtain ⟨ce12, hcl12, hM12, hcc12, hfr12⟩ := Kd.R_elem HX12.out z52 (x4_1 : Int) (of_decide_eq_true y3_) (by have h_ : (x4_1 : Int) < ((x3_1.length : Int) : Int) := of_decide_eq_true y3_; first | exact h_ | (have e_ := (Kd.R_reads' HO_3.out).1; omega) | simpa using h_); obtain rfl := k52_openM hM12; have HP12 := Kd.R_seg HX12.out (x4_1 : Int) (of_decide_eq_true y3_) (by have h_ : (x4_1 : Int) < ((x3_1.length : Int) : Int) := of_decide_eq_true y3_; first | exact h_ | (have e_ := (Kd.R_reads' HO_3.out).1; omega) | simpa using h_) (seg := [.string t327, .string t328]) (j := 0) hcl12 hcc12 (show 2 ≤ 2 from by decide) (x' := (⟨t327, t328⟩ : S52)) (k52_mkM _ _ _ (⟨t327, t328⟩ : S52) ) (fun _ hk => hk); have hx12_0 := hcc12 0 _ rfl; (try simp only [show (k52).sz = 2 from rfl, Nat.mul_one, Nat.add_zero] at hx12_0); have hf12_0 := hfr12 0; (try simp only [show (k52).sz = 2 from rfl, Nat.mul_one, Nat.add_zero] at hf12_0); have hx12_1 := hcc12 1 _ rfl; (try simp only [show (k52).sz = 2 from rfl, Nat.mul_one, Nat.add_zero] at hx12_1); have hf12_1 := hfr12 1; (try simp only [show (k52).sz = 2 from rfl, Nat.mul_one, Nat.add_zero] at hf12_1); clear hcl12 hcc12 hfr12 hM12)))
        go_roundg k1
        case measure => have := HK1.out; omega
        case rel => exact ⟨(y329), (wrap64 (x4_1 + 1)), y4_, H', ⟨by have := HK1.out; omega⟩, ⟨y11_ HO_3.out⟩, ⟨y7_ HB.out⟩⟩
      intro c6b0; refine oj_ ?_; rintro rfl; go_wp2; go_ret; exact ⟨_, y6_, y11_ HO_3.out, y7_ HB.out⟩

/-! ### laws_toCmtWelcome: function 58 -/
def laws_toCmtWelcome.f (a0_0 : ByteArray) (a0_1 : ByteArray) (a0_2 : ByteArray) (a0_3 : ByteArray) (a0_4 : ByteArray) : Option (ByteArray × ByteArray × ByteArray × ByteArray × ByteArray) := (laws_toKnwBox.f a0_1 a0_2).bind fun bt333 => ((laws_toKnwBox.f a0_3 a0_4).bind fun bt335 => (some (a0_0, bt333.1, bt333.2, bt335.1, bt335.2)))
set_option maxHeartbeats 8000000 in
set_option maxRecDepth 100000 in
theorem laws_toCmtWelcome.calls {a0_0 : ByteArray} {a0_1 : ByteArray} {a0_2 : ByteArray} {a0_3 : ByteArray} {a0_4 : ByteArray} {r1 : ByteArray} {r2 : ByteArray} {r3 : ByteArray} {r4 : ByteArray} {r5 : ByteArray} {w : World} (H : laws_toCmtWelcome.f a0_0 a0_1 a0_2 a0_3 a0_4 = some (r1, r2, r3, r4, r5)) :
    Calls Tryz.prog 58 #[.agg #[.string a0_0, .string a0_1, .string a0_2, .string a0_3, .string a0_4]] w fun e w' => e = .returned (.agg #[.string r1, .string r2, .string r3, .string r4, .string r5]) ∧ Below w.heap.size w w' := by
  have hu45 := Tryz.underlying45; have hu54 := Tryz.underlying54; have hu43 := Tryz.underlying43; have hu52 := Tryz.underlying52; have HB := am_ (Below.refl w.heap.size w); revert H; unfold laws_toCmtWelcome.f; refine oc_ ?_; rintro ⟨t333, t334⟩ A2 H; dsimp only at H; revert H; refine oc_ ?_; rintro ⟨t335, t336⟩ A3 H; dsimp only at H; revert H; intro H; replace H := op5_ H; obtain ⟨rfl, rfl, rfl, rfl, rfl⟩ := H; go_enter Tryz.func58, Tryz.ntmps58; go_wp2_with ((with_reducible refine gl_ ?_); first | ((with_reducible refine gx_ 1 rfl ?_); refine bx_ 1 45 #[.string a0_0, .string a0_1, .string a0_2, .string a0_3, .string a0_4] ?_; intro gb330 hg w4 BK330 hb; have GW330 := ge_ (w0 := w) hg (y7_ HB.out); have GE330 := ge_ (w0 := w) hg (y7_ HB.out); replace HB := st_ (y7_ HB.out) hb; clear hb hg) | ((with_reducible refine gx_ 2 rfl ?_); refine bx_ 2 54 #[.string (⟨#[]⟩ : ByteArray), .string (⟨#[]⟩ : ByteArray), .string (⟨#[]⟩ : ByteArray), .string (⟨#[]⟩ : ByteArray), .string (⟨#[]⟩ : ByteArray)] ?_; intro gb331 hg w5 BK331 hb; have GW331 := ge_ (w0 := w) hg (yb_ HB.out); have GE331 := ge_ (w0 := w) hg (yb_ HB.out); replace HB := st_ (yb_ HB.out) hb; have NB330_331 := nb_ hg BK330; have NB331_330 := nc_ hg BK330; replace BK330 := bk_ BK330 hb; clear hb hg) | ((with_reducible refine gx_ 3 rfl ?_); refine bx_ 3 54 #[.string (⟨#[]⟩ : ByteArray), .string (⟨#[]⟩ : ByteArray), .string (⟨#[]⟩ : ByteArray), .string (⟨#[]⟩ : ByteArray), .string (⟨#[]⟩ : ByteArray)] ?_; intro gb332 hg w6 BK332 hb; have GW332 := ge_ (w0 := w) hg (yb_ HB.out); have GE332 := ge_ (w0 := w) hg (yb_ HB.out); replace HB := st_ (yb_ HB.out) hb; have NB330_332 := nb_ hg BK330; have NB332_330 := nc_ hg BK330; replace BK330 := bk_ BK330 hb; have NB331_332 := nb_ hg BK331; have NB332_331 := nc_ hg BK331; replace BK331 := bk_ BK331 hb; clear hb hg; have hnb7 := NB330_331.out; have hnc7 := NB331_330.out; have hnb8 := NB330_332.out; have hnc8 := NB332_330.out; have hcz9 := cc5_ BK330.out; have hfz9 := cf5_ BK330.out; have hnb10 := NB332_331.out; have hnc10 := NB331_332.out; have hcz11 := cc5_ BK332.out; have hfz11 := cf5_ BK332.out) | ((with_reducible refine gf_ 95 9 rfl rfl ?_); refine gb_ (laws_toKnwBox.calls A2.out) ?_; intro w12 hb; replace BK330 := bp_ BK330 hb; replace BK331 := bp_ BK331 hb; replace BK332 := bp_ BK332 hb; replace HB := st_ (yb_ HB.out) hb; clear hb; have hcz13 := cc5_ BK332.out; have hfz13 := cf5_ BK332.out; have hcz14 := cc5_ BK330.out; have hfz14 := cf5_ BK330.out) | ((with_reducible refine gf_ 95 13 rfl rfl ?_); refine gb_ (laws_toKnwBox.calls A3.out) ?_; intro w15 hb; replace BK330 := bp_ BK330 hb; replace BK331 := bp_ BK331 hb; replace BK332 := bp_ BK332 hb; replace HB := st_ (yb_ HB.out) hb; clear hb; have hcz16 := cc5_ BK332.out; have hfz16 := cf5_ BK332.out; have hcz17 := cc5_ BK331.out; have hfz17 := cf5_ BK331.out)); refine bodyPost_ret (results_cell_row rfl _ _ gb331 54 #[.string a0_0, .string t333, .string t334, .string t335, .string t336] (0, 0) _ rfl (pw_ BK331.out) Tryz.underlying54 rfl (by kernel_rfl)) rfl ?_; exact ⟨y6_, yb_ HB.out⟩

/-! ### laws_toCmtCommit: function 19 -/
def laws_toCmtCommit.f (k : Nat) (a0_0 : Int) (a0_1 : ByteArray) (a0_2 : ByteArray) (a0_3 : Int) (a0_4 : Int) (a0_5 : ByteArray) (l0_6 : List ByteArray) (l0_7 : List (S43)) (a0_8 : ByteArray) (a0_9 : ByteArray) (a0_10 : ByteArray) (a0_11 : ByteArray) (a0_12 : ByteArray) : Option (Int × ByteArray × ByteArray × Int × Int × ByteArray × List ByteArray × (List (S52)) × ByteArray × ByteArray × ByteArray × ByteArray × ByteArray) := (laws_toStringS.f k l0_6).bind fun t340 => ((laws_toKnwBoxS.f k l0_7).bind fun t343 => ((laws_toCmtWelcome.f a0_8 a0_9 a0_10 a0_11 a0_12).bind fun bt346 => (some (a0_0, a0_1, a0_2, a0_3, a0_4, a0_5, t340, t343, bt346.1, bt346.2.1, bt346.2.2.1, bt346.2.2.2.1, bt346.2.2.2.2))))
set_option maxHeartbeats 8000000 in
set_option maxRecDepth 100000 in
theorem laws_toCmtCommit.calls {k : Nat} {a0_0 : Int} {a0_1 : ByteArray} {a0_2 : ByteArray} {a0_3 : Int} {a0_4 : Int} {a0_5 : ByteArray} {A0_6 : Option Addr} {c0_6 : Nat} {l0_6 : List ByteArray} {A0_7 : Option Addr} {c0_7 : Nat} {l0_7 : List (S43)} {a0_8 : ByteArray} {a0_9 : ByteArray} {a0_10 : ByteArray} {a0_11 : ByteArray} {a0_12 : ByteArray} {r1 : Int} {r2 : ByteArray} {r3 : ByteArray} {r4 : Int} {r5 : Int} {r6 : ByteArray} {r7 : List ByteArray} {r8 : List (S52)} {r9 : ByteArray} {r10 : ByteArray} {r11 : ByteArray} {r12 : ByteArray} {r13 : ByteArray} {w : World} (hr0_6 : Kd.C Kd.string w A0_6 l0_6.length l0_6) (hc0_6 : l0_6.length ≤ c0_6) (hr0_7 : Kd.C k43 w A0_7 l0_7.length l0_7) (hc0_7 : l0_7.length ≤ c0_7) (H : laws_toCmtCommit.f k a0_0 a0_1 a0_2 a0_3 a0_4 a0_5 l0_6 l0_7 a0_8 a0_9 a0_10 a0_11 a0_12 = some (r1, r2, r3, r4, r5, r6, r7, r8, r9, r10, r11, r12, r13)) :
    Calls Tryz.prog 19 #[.agg #[.int .i64 a0_0, .string a0_1, .string a0_2, .int .i64 a0_3, .int .i64 a0_4, .string a0_5, .slice A0_6 l0_6.length c0_6, .slice A0_7 l0_7.length c0_7, .string a0_8, .string a0_9, .string a0_10, .string a0_11, .string a0_12]] w fun e w' => ∃ v6_ v7_ : Value, e = .returned (.agg #[.int .i64 r1, .string r2, .string r3, .int .i64 r4, .int .i64 r5, .string r6, v6_, v7_, .string r9, .string r10, .string r11, .string r12, .string r13]) ∧ Kd.R Kd.string 9 w' w.heap.size (fun _ => True) v6_ r7 ∧ Kd.R k52 52 w' w.heap.size (fun _ => True) v7_ r8 ∧ Below w.heap.size w w' := by
  have hu47 := Tryz.underlying47; have hu56 := Tryz.underlying56; have hu45 := Tryz.underlying45; have hu54 := Tryz.underlying54; have HR0_6 := am_ hr0_6; have HC0_6 := am_ hc0_6; clear hr0_6 hc0_6; have HR0_7 := am_ hr0_7; have HC0_7 := am_ hc0_7; clear hr0_7 hc0_7; have HB := am_ (Below.refl w.heap.size w); revert H; unfold laws_toCmtCommit.f; refine oc_ fun t340 A2 => ?_; refine oc_ fun t343 A3 => ?_; refine oc_ ?_; rintro ⟨t346, t347, t348, t349, t350⟩ A4 H; dsimp only at H; revert H; intro H; replace H := op13_ H; obtain ⟨rfl, rfl, rfl, rfl, rfl, rfl, rfl, rfl, rfl, rfl, rfl, rfl, rfl⟩ := H; go_enter Tryz.func19, Tryz.ntmps19; go_wp2_with ((with_reducible refine gl_ ?_); first | ((with_reducible refine gx_ 1 rfl ?_); refine bx_ 1 47 #[.int .i64 a0_0, .string a0_1, .string a0_2, .int .i64 a0_3, .int .i64 a0_4, .string a0_5, .slice A0_6 l0_6.length c0_6, .slice A0_7 l0_7.length c0_7, .string a0_8, .string a0_9, .string a0_10, .string a0_11, .string a0_12] ?_; intro gb337 hg w5 BK337 hb; have GW337 := ge_ (w0 := w) hg (y7_ HB.out); have GE337 := ge_ (w0 := w) hg (y7_ HB.out); replace HB := st_ (y7_ HB.out) hb; clear hb hg) | ((with_reducible refine gx_ 2 rfl ?_); refine bx_ 2 56 #[.int .i64 0, .string (⟨#[]⟩ : ByteArray), .string (⟨#[]⟩ : ByteArray), .int .i64 0, .int .i64 0, .string (⟨#[]⟩ : ByteArray), .slice none 0 0, .slice none 0 0, .string (⟨#[]⟩ : ByteArray), .string (⟨#[]⟩ : ByteArray), .string (⟨#[]⟩ : ByteArray), .string (⟨#[]⟩ : ByteArray), .string (⟨#[]⟩ : ByteArray)] ?_; intro gb338 hg w6 BK338 hb; have GW338 := ge_ (w0 := w) hg (yb_ HB.out); have GE338 := ge_ (w0 := w) hg (yb_ HB.out); replace HB := st_ (yb_ HB.out) hb; have NB337_338 := nb_ hg BK337; have NB338_337 := nc_ hg BK337; replace BK337 := bk_ BK337 hb; clear hb hg) | ((with_reducible refine gx_ 3 rfl ?_); refine bx_ 3 56 #[.int .i64 0, .string (⟨#[]⟩ : ByteArray), .string (⟨#[]⟩ : ByteArray), .int .i64 0, .int .i64 0, .string (⟨#[]⟩ : ByteArray), .slice none 0 0, .slice none 0 0, .string (⟨#[]⟩ : ByteArray), .string (⟨#[]⟩ : ByteArray), .string (⟨#[]⟩ : ByteArray), .string (⟨#[]⟩ : ByteArray), .string (⟨#[]⟩ : ByteArray)] ?_; intro gb339 hg w7 BK339 hb; have GW339 := ge_ (w0 := w) hg (yb_ HB.out); have GE339 := ge_ (w0 := w) hg (yb_ HB.out); replace HB := st_ (yb_ HB.out) hb; have NB337_339 := nb_ hg BK337; have NB339_337 := nc_ hg BK337; replace BK337 := bk_ BK337 hb; have NB338_339 := nb_ hg BK338; have NB339_338 := nc_ hg BK338; replace BK338 := bk_ BK338 hb; clear hb hg; have hnb8 := NB337_338.out; have hnc8 := NB338_337.out; have hnb9 := NB337_339.out; have hnc9 := NB339_337.out; have hcz10 := cc13_ BK337.out; have hfz10 := cf13_ BK337.out; have hnb11 := NB339_338.out; have hnc11 := NB338_339.out; have hcz12 := cc13_ BK339.out; have hfz12 := cf13_ BK339.out) | ((with_reducible refine gf_ 56 24 rfl rfl ?_); refine gc_ (laws_toStringS.calls (Kd.C_below HR0_6.out (yb_ HB.out)) HC0_6.out A2.out) ?_; rintro e w13 ⟨v341, rfl, ho0, hb⟩; refine ⟨_, rfl, ?_⟩; have HO342 := am_ (Kd.R_lower ho0 (below_size (yb_ HB.out))); replace BK337 := bp_ BK337 hb; replace BK338 := bp_ BK338 hb; replace BK339 := bp_ BK339 hb; replace HB := st_ (yb_ HB.out) hb; (try clear hb); (try clear hk); (try clear ho0); obtain ⟨Ao14, co14, eo14⟩ := Kd.R_slice HO342.out; subst eo14; have hcz15 := cc13_ BK339.out; have hfz15 := cf13_ BK339.out; have hcz16 := cc13_ BK337.out; have hfz16 := cf13_ BK337.out) | ((with_reducible refine gf_ 57 28 rfl rfl ?_); refine gc_ (laws_toKnwBoxS.calls (Kd.C_below HR0_7.out (yb_ HB.out)) HC0_7.out A3.out) ?_; rintro e w17 ⟨v344, rfl, ho0, hb⟩; refine ⟨_, rfl, ?_⟩; replace HO342 := am_ (Kd.R_below (rf_ HO342.out BK339.out) hb); have HO345 := am_ (Kd.R_lower ho0 (below_size (yb_ HB.out))); replace BK337 := bp_ BK337 hb; replace BK338 := bp_ BK338 hb; replace BK339 := bp_ BK339 hb; replace HB := st_ (yb_ HB.out) hb; (try clear hb); (try clear hk); (try clear ho0); obtain ⟨Ao18, co18, eo18⟩ := Kd.R_slice HO345.out; subst eo18; have hcz19 := cc13_ BK339.out; have hfz19 := cf13_ BK339.out; have hcz20 := cc13_ BK337.out; have hfz20 := cf13_ BK337.out) | ((with_reducible refine gf_ 58 32 rfl rfl ?_); refine gb_ (laws_toCmtWelcome.calls A4.out) ?_; intro w21 hb; replace HO342 := am_ (Kd.R_below (rf_ HO342.out BK339.out) hb); replace HO345 := am_ (Kd.R_below (rf_ HO345.out BK339.out) hb); replace BK337 := bp_ BK337 hb; replace BK338 := bp_ BK338 hb; replace BK339 := bp_ BK339 hb; replace HB := st_ (yb_ HB.out) hb; clear hb; have hcz22 := cc13_ BK339.out; have hfz22 := cf13_ BK339.out; have hcz23 := cc13_ BK338.out; have hfz23 := cf13_ BK338.out)); refine bodyPost_ret (results_cell_row rfl _ _ gb338 56 #[.int .i64 a0_0, .string a0_1, .string a0_2, .int .i64 a0_3, .int .i64 a0_4, .string a0_5, .slice Ao14 t340.length co14, .slice Ao18 t343.length co18, .string t346, .string t347, .string t348, .string t349, .string t350] (0, 0) _ rfl (pw_ BK338.out) Tryz.underlying56 rfl (by kernel_rfl)) rfl ?_; exact ⟨_, _, y6_, by (with_reducible repeat (first | apply Kd.R_alloc | apply Kd.R_drewN | apply Kd.R_drew)); exact Kd.R_mono (Kd.R_far (p := ⟨gb338, 12, none⟩) (Kd.R_far (p := ⟨gb338, 11, none⟩) (Kd.R_far (p := ⟨gb338, 10, none⟩) (Kd.R_far (p := ⟨gb338, 9, none⟩) (Kd.R_far (p := ⟨gb338, 8, none⟩) (Kd.R_far (p := ⟨gb338, 7, none⟩) (Kd.R_far (p := ⟨gb338, 6, none⟩) (Kd.R_far (p := ⟨gb338, 5, none⟩) (Kd.R_far (p := ⟨gb338, 4, none⟩) (Kd.R_far (p := ⟨gb338, 3, none⟩) (Kd.R_far (p := ⟨gb338, 2, none⟩) (Kd.R_far (p := ⟨gb338, 1, none⟩) (Kd.R_far (p := ⟨gb338, 0, none⟩) (Kd.R_far (p := ⟨gb339, 12, none⟩) (Kd.R_far (p := ⟨gb339, 11, none⟩) (Kd.R_far (p := ⟨gb339, 10, none⟩) (Kd.R_far (p := ⟨gb339, 9, none⟩) (Kd.R_far (p := ⟨gb339, 8, none⟩) (Kd.R_types (Kd.R_types HO342.out BK339.out (by decide)) BK338.out (by decide)) (fun _ hk => hk.1.2) (.string t346)) (fun _ hk => hk.1.2) (.string t347)) (fun _ hk => hk.1.2) (.string t348)) (fun _ hk => hk.1.2) (.string t349)) (fun _ hk => hk.1.2) (.string t350)) (fun _ hk => hk.2) (.int .i64 a0_0)) (fun _ hk => hk.2) (.string a0_1)) (fun _ hk => hk.2) (.string a0_2)) (fun _ hk => hk.2) (.int .i64 a0_3)) (fun _ hk => hk.2) (.int .i64 a0_4)) (fun _ hk => hk.2) (.string a0_5)) (fun _ hk => hk.2) (.slice Ao14 t340.length co14)) (fun _ hk => hk.2) (.slice Ao18 t343.length co18)) (fun _ hk => hk.2) (.string t346)) (fun _ hk => hk.2) (.string t347)) (fun _ hk => hk.2) (.string t348)) (fun _ hk => hk.2) (.string t349)) (fun _ hk => hk.2) (.string t350)) (fun _ hk => trivial), by (with_reducible repeat (first | apply Kd.R_alloc | apply Kd.R_drewN | apply Kd.R_drew)); exact Kd.R_mono (Kd.R_far (p := ⟨gb338, 12, none⟩) (Kd.R_far (p := ⟨gb338, 11, none⟩) (Kd.R_far (p := ⟨gb338, 10, none⟩) (Kd.R_far (p := ⟨gb338, 9, none⟩) (Kd.R_far (p := ⟨gb338, 8, none⟩) (Kd.R_far (p := ⟨gb338, 7, none⟩) (Kd.R_far (p := ⟨gb338, 6, none⟩) (Kd.R_far (p := ⟨gb338, 5, none⟩) (Kd.R_far (p := ⟨gb338, 4, none⟩) (Kd.R_far (p := ⟨gb338, 3, none⟩) (Kd.R_far (p := ⟨gb338, 2, none⟩) (Kd.R_far (p := ⟨gb338, 1, none⟩) (Kd.R_far (p := ⟨gb338, 0, none⟩) (Kd.R_far (p := ⟨gb339, 12, none⟩) (Kd.R_far (p := ⟨gb339, 11, none⟩) (Kd.R_far (p := ⟨gb339, 10, none⟩) (Kd.R_far (p := ⟨gb339, 9, none⟩) (Kd.R_far (p := ⟨gb339, 8, none⟩) (Kd.R_types (Kd.R_types HO345.out BK339.out (by decide)) BK338.out (by decide)) (fun _ hk => hk.1.2) (.string t346)) (fun _ hk => hk.1.2) (.string t347)) (fun _ hk => hk.1.2) (.string t348)) (fun _ hk => hk.1.2) (.string t349)) (fun _ hk => hk.1.2) (.string t350)) (fun _ hk => hk.2) (.int .i64 a0_0)) (fun _ hk => hk.2) (.string a0_1)) (fun _ hk => hk.2) (.string a0_2)) (fun _ hk => hk.2) (.int .i64 a0_3)) (fun _ hk => hk.2) (.int .i64 a0_4)) (fun _ hk => hk.2) (.string a0_5)) (fun _ hk => hk.2) (.slice Ao14 t340.length co14)) (fun _ hk => hk.2) (.slice Ao18 t343.length co18)) (fun _ hk => hk.2) (.string t346)) (fun _ hk => hk.2) (.string t347)) (fun _ hk => hk.2) (.string t348)) (fun _ hk => hk.2) (.string t349)) (fun _ hk => hk.2) (.string t350)) (fun _ hk => trivial), yb_ HB.out⟩

/-! ### impl_in: function 35 -/
def impl_in.f (a0 : Int) (a1 : Int) (a2 : Int) : Option (Bool) := if a0 ≥ a1 then (some (decide (a0 ≤ a2))) else (some false)
theorem impl_in.W {P : Prop} (h : P := by
  go_enter Tryz.func35, Tryz.ntmps35
  go_wp2
  go_ret
  exact ⟨by first | rfl | (simp; done) | (simp [*]; done), by repeat (first | exact Drawn0.refl _ | apply Drawn0.step)⟩) : P := h
set_option maxHeartbeats 8000000 in
set_option maxRecDepth 100000 in
theorem impl_in.calls {a0 : Int} {a1 : Int} {a2 : Int} {r : Bool} {w : World} (H : impl_in.f a0 a1 a2 = some r) :
    Calls Tryz.prog 35 #[.int .i64 a0, .int .i64 a1, .int .i64 a2] w fun e w' => e = .returned (.bool r) ∧ Drawn0 w w' := by
  revert H; unfold impl_in.f; refine ith_ ?_ ?_
  · intro c4b0; refine oj_ ?_; rintro rfl; exact impl_in.W
  intro c4b0; refine oj_ ?_; rintro rfl; exact impl_in.W

/-! ### impl_isOne: function 33 -/
def impl_isOne.f (a0 : Int) : Option (Bool) := (impl_in.f a0 0 7).bind fun t351 => (some t351)
set_option maxHeartbeats 8000000 in
set_option maxRecDepth 100000 in
theorem impl_isOne.calls {a0 : Int} {r : Bool} {w : World} (H : impl_isOne.f a0 = some r) :
    Calls Tryz.prog 33 #[.int .i64 a0] w fun e w' => e = .returned (.bool r) ∧ Drawn0 w w' := by
  revert H; unfold impl_isOne.f; refine oc_ fun t351 A2 => ?_; refine oj_ ?_; rintro rfl; go_enter Tryz.func33, Tryz.ntmps33; go_wp2_with ((with_reducible refine gl_ ?_); first | ((with_reducible refine gf_ 35 4 rfl rfl ?_); refine gd_ (impl_in.calls A2.out) ?_; intro nd)); go_ret; exact ⟨by first | rfl | (simp; done) | (simp [*]; done), by repeat (first | exact Drawn0.refl _ | apply Drawn0.step)⟩

-- GIVEN: function 34 (impl_TreOk)

-- GIVEN: function 36 (impl_SecOk)

/-! ### impl_leaf: function 63 -/
def impl_leaf.f (a0 : Int) : Option (Int) := some (wrap64 (7 + a0))
set_option maxHeartbeats 8000000 in
set_option maxRecDepth 100000 in
theorem impl_leaf.calls {a0 : Int} {r : Int} {w : World} (H : impl_leaf.f a0 = some r) :
    Calls Tryz.prog 63 #[.int .i64 a0] w fun e w' => e = .returned (.int .i64 r) ∧ Drawn0 w w' := by
  revert H; unfold impl_leaf.f; refine oj_ ?_; rintro rfl; go_enter Tryz.func63, Tryz.ntmps63; go_wp2; go_ret; exact ⟨by first | rfl | (simp; done) | (simp [*]; done), by repeat (first | exact Drawn0.refl _ | apply Drawn0.step)⟩

/-! ### impl_TreTree_has: function 37 -/
def impl_TreTree_has.f (l0_0 : List ByteArray) (a1 : Int) : Option (Bool) := (impl_isOne.f a1).bind fun t353 => (if t353 = true then ((impl_leaf.f a1).bind fun t354 => (if 0 ≤ t354 then (if t354 < (l0_0.length : Int) then (some ((rdOf ByteArray.empty l0_0 t354).toList != ([] : List UInt8))) else (none)) else (none))) else (some false))
set_option maxHeartbeats 8000000 in
set_option maxRecDepth 100000 in
theorem impl_TreTree_has.calls {A0_0 : Option Addr} {c0_0 : Nat} {l0_0 : List ByteArray} {a1 : Int} {r : Bool} {w : World} (hr0_0 : Kd.C Kd.string w A0_0 l0_0.length l0_0) (hc0_0 : l0_0.length ≤ c0_0) (H : impl_TreTree_has.f l0_0 a1 = some r) :
    Calls Tryz.prog 37 #[.agg #[.slice A0_0 l0_0.length c0_0], .int .i64 a1] w fun e w' => e = .returned (.bool r) ∧ Below w.heap.size w w' := by
  have hu30 := Tryz.underlying30; have HR0_0 := am_ hr0_0; have HC0_0 := am_ hc0_0; clear hr0_0 hc0_0; have HB := am_ (Below.refl w.heap.size w); revert H; unfold impl_TreTree_has.f; refine oc_ fun t353 A3 => ?_; refine ib_ ?_ ?_
  · rintro rfl
    refine oc_ fun t354 A5 => ?_; refine in_ fun c6b0 => ?_
    refine in_ fun c7b0 => ?_
    refine oj_ ?_; rintro rfl; go_enter Tryz.func37, Tryz.ntmps37; go_wp2_with (first | (go_at_call 33; (with_reducible refine (impl_isOne.calls A3.out).mono ?_); rintro e w' ⟨rfl, ⟨nd, rfl⟩⟩; (try first | exact ⟨rfl, _, World.drewN_drewN _ _ _⟩ | exact ⟨rfl, _, Eq.trans (World.drewN_drewN _ _ _) (congrArg (World.drewN _) (Nat.add_assoc _ _ _))⟩); have hcz9 := blk_c0 BK352.out; have hfz9_0 := blk_frozen BK352.out 0) | (go_at_call 63; (with_reducible refine (impl_leaf.calls A5.out).mono ?_); rintro e w' ⟨rfl, ⟨nd, rfl⟩⟩; (try first | exact ⟨rfl, _, World.drewN_drewN _ _ _⟩ | exact ⟨rfl, _, Eq.trans (World.drewN_drewN _ _ _) (congrArg (World.drewN _) (Nat.add_assoc _ _ _))⟩); have p355 : 0 ≤ (t354 : Int) := of_decide_eq_true y3_; have q355 : t354 < (l0_0.length : Int) := of_decide_eq_true y3_; obtain ⟨ad355, e355, hx355_0⟩ := Kd.at_string HR0_0.out t354 p355 q355; cases e355; replace hx355_0 := (HB.out.cell (World.block_lt_of_cell? w _ hx355_0)).trans hx355_0; replace p355 := eq_true p355; replace q355 := eq_true q355) | ((with_reducible refine gl_ ?_); first | ((with_reducible refine gx_ 2 rfl ?_); refine bx_ 2 30 #[.slice A0_0 l0_0.length c0_0] ?_; intro gb352 hg w8 BK352 hb; have GW352 := ge_ (w0 := w) hg (y7_ HB.out); have GE352 := ge_ (w0 := w) hg (y7_ HB.out); replace HB := st_ (y7_ HB.out) hb; clear hb hg)))
    repeat (go_quiet (first | ((with_reducible refine gx_ 2 rfl ?_); refine bx_ 2 30 #[.slice A0_0 l0_0.length c0_0] ?_; intro gb352 hg w8 BK352 hb; have GW352 := ge_ (w0 := w) hg (y7_ HB.out); have GE352 := ge_ (w0 := w) hg (y7_ HB.out); replace HB := st_ (y7_ HB.out) hb; clear hb hg) | (go_at_call 33; (with_reducible refine (impl_isOne.calls A3.out).mono ?_); rintro e w' ⟨rfl, ⟨nd, rfl⟩⟩; (try first | exact ⟨rfl, _, World.drewN_drewN _ _ _⟩ | exact ⟨rfl, _, Eq.trans (World.drewN_drewN _ _ _) (congrArg (World.drewN _) (Nat.add_assoc _ _ _))⟩); have hcz9 := blk_c0 BK352.out; have hfz9_0 := blk_frozen BK352.out 0) | (go_at_call 63; (with_reducible refine (impl_leaf.calls A5.out).mono ?_); rintro e w' ⟨rfl, ⟨nd, rfl⟩⟩; (try first | exact ⟨rfl, _, World.drewN_drewN _ _ _⟩ | exact ⟨rfl, _, Eq.trans (World.drewN_drewN _ _ _) (congrArg (World.drewN _) (Nat.add_assoc _ _ _))⟩); have p355 : 0 ≤ (t354 : Int) := of_decide_eq_true y3_; have q355 : t354 < (l0_0.length : Int) := of_decide_eq_true y3_; obtain ⟨ad355, e355, hx355_0⟩ := Kd.at_string HR0_0.out t354 p355 q355; cases e355; replace hx355_0 := (HB.out.cell (World.block_lt_of_cell? w _ hx355_0)).trans hx355_0; replace p355 := eq_true p355; replace q355 := eq_true q355)); try go_wp2_with (first | (go_at_call 33; (with_reducible refine (impl_isOne.calls A3.out).mono ?_); rintro e w' ⟨rfl, ⟨nd, rfl⟩⟩; (try first | exact ⟨rfl, _, World.drewN_drewN _ _ _⟩ | exact ⟨rfl, _, Eq.trans (World.drewN_drewN _ _ _) (congrArg (World.drewN _) (Nat.add_assoc _ _ _))⟩); have hcz9 := blk_c0 BK352.out; have hfz9_0 := blk_frozen BK352.out 0) | (go_at_call 63; (with_reducible refine (impl_leaf.calls A5.out).mono ?_); rintro e w' ⟨rfl, ⟨nd, rfl⟩⟩; (try first | exact ⟨rfl, _, World.drewN_drewN _ _ _⟩ | exact ⟨rfl, _, Eq.trans (World.drewN_drewN _ _ _) (congrArg (World.drewN _) (Nat.add_assoc _ _ _))⟩); have p355 : 0 ≤ (t354 : Int) := of_decide_eq_true y3_; have q355 : t354 < (l0_0.length : Int) := of_decide_eq_true y3_; obtain ⟨ad355, e355, hx355_0⟩ := Kd.at_string HR0_0.out t354 p355 q355; cases e355; replace hx355_0 := (HB.out.cell (World.block_lt_of_cell? w _ hx355_0)).trans hx355_0; replace p355 := eq_true p355; replace q355 := eq_true q355) | ((with_reducible refine gl_ ?_); first | ((with_reducible refine gx_ 2 rfl ?_); refine bx_ 2 30 #[.slice A0_0 l0_0.length c0_0] ?_; intro gb352 hg w8 BK352 hb; have GW352 := ge_ (w0 := w) hg (y7_ HB.out); have GE352 := ge_ (w0 := w) hg (y7_ HB.out); replace HB := st_ (y7_ HB.out) hb; clear hb hg))))
    go_ret; exact ⟨by first | rfl | (simp [errW_none, errW_some] <;> rfl) | (simp [*, errW_none, errW_some] <;> rfl) | (simp [*]; exact (fun (l : List UInt8) => (by cases l <;> rfl : l.isEmpty = !(l != []))) _), yb_ HB.out⟩
  rintro rfl; refine oj_ ?_; rintro rfl; go_enter Tryz.func37, Tryz.ntmps37; go_wp2_with (first | (go_at_call 33; (with_reducible refine (impl_isOne.calls A3.out).mono ?_); rintro e w' ⟨rfl, ⟨nd, rfl⟩⟩; (try first | exact ⟨rfl, _, World.drewN_drewN _ _ _⟩ | exact ⟨rfl, _, Eq.trans (World.drewN_drewN _ _ _) (congrArg (World.drewN _) (Nat.add_assoc _ _ _))⟩)) | ((with_reducible refine gl_ ?_); first | ((with_reducible refine gx_ 2 rfl ?_); refine bx_ 2 30 #[.slice A0_0 l0_0.length c0_0] ?_; intro gb352 hg w10 BK352 hb; have GW352 := ge_ (w0 := w) hg (y7_ HB.out); have GE352 := ge_ (w0 := w) hg (y7_ HB.out); replace HB := st_ (y7_ HB.out) hb; clear hb hg)))
  repeat (go_quiet (first | ((with_reducible refine gx_ 2 rfl ?_); refine bx_ 2 30 #[.slice A0_0 l0_0.length c0_0] ?_; intro gb352 hg w10 BK352 hb; have GW352 := ge_ (w0 := w) hg (y7_ HB.out); have GE352 := ge_ (w0 := w) hg (y7_ HB.out); replace HB := st_ (y7_ HB.out) hb; clear hb hg) | (go_at_call 33; (with_reducible refine (impl_isOne.calls A3.out).mono ?_); rintro e w' ⟨rfl, ⟨nd, rfl⟩⟩; (try first | exact ⟨rfl, _, World.drewN_drewN _ _ _⟩ | exact ⟨rfl, _, Eq.trans (World.drewN_drewN _ _ _) (congrArg (World.drewN _) (Nat.add_assoc _ _ _))⟩))); try go_wp2_with (first | (go_at_call 33; (with_reducible refine (impl_isOne.calls A3.out).mono ?_); rintro e w' ⟨rfl, ⟨nd, rfl⟩⟩; (try first | exact ⟨rfl, _, World.drewN_drewN _ _ _⟩ | exact ⟨rfl, _, Eq.trans (World.drewN_drewN _ _ _) (congrArg (World.drewN _) (Nat.add_assoc _ _ _))⟩)) | ((with_reducible refine gl_ ?_); first | ((with_reducible refine gx_ 2 rfl ?_); refine bx_ 2 30 #[.slice A0_0 l0_0.length c0_0] ?_; intro gb352 hg w10 BK352 hb; have GW352 := ge_ (w0 := w) hg (y7_ HB.out); have GE352 := ge_ (w0 := w) hg (y7_ HB.out); replace HB := st_ (y7_ HB.out) hb; clear hb hg))))
  go_ret; exact ⟨by first | rfl | (simp [errW_none, errW_some] <;> rfl) | (simp [*, errW_none, errW_some] <;> rfl) | (simp [*]; exact (fun (l : List UInt8) => (by cases l <;> rfl : l.isEmpty = !(l != []))) _), yb_ HB.out⟩

/-! ### impl_isNode: function 105 -/
def impl_isNode.f (a0 : Int) : Option (Bool) := (impl_in.f a0 0 14).bind fun t356 => (some t356)
set_option maxHeartbeats 8000000 in
set_option maxRecDepth 100000 in
theorem impl_isNode.calls {a0 : Int} {r : Bool} {w : World} (H : impl_isNode.f a0 = some r) :
    Calls Tryz.prog 105 #[.int .i64 a0] w fun e w' => e = .returned (.bool r) ∧ Drawn0 w w' := by
  revert H; unfold impl_isNode.f; refine oc_ fun t356 A2 => ?_; refine oj_ ?_; rintro rfl; go_enter Tryz.func105, Tryz.ntmps105; go_wp2_with ((with_reducible refine gl_ ?_); first | ((with_reducible refine gf_ 35 4 rfl rfl ?_); refine gd_ (impl_in.calls A2.out) ?_; intro nd)); go_ret; exact ⟨by first | rfl | (simp; done) | (simp [*]; done), by repeat (first | exact Drawn0.refl _ | apply Drawn0.step)⟩

-- GIVEN: function 111 (slices_Clip_int_int)

/-! ### impl_TreUp: function 83 -/
def impl_TreUp.l0 : Nat → Int → List Int → Option (List Int)
  | 0, _, _ => none
  | k + 1, x0, x3 => if x0 > 0 then (if x3.length < 17592186044416 then (impl_TreUp.l0 k (wrap64 (Int.tdiv (wrap64 (x0 - 1)) 2)) (x3 ++ [wrap64 (Int.tdiv (wrap64 (x0 - 1)) 2)])) else (none)) else (some x3)
def impl_TreUp.f (k : Nat) (a0 : Int) : Option (List Int) := (impl_isNode.f a0).bind fun t357 => (if t357 = true then (impl_TreUp.l0 k a0 ([] : List Int)) else (some ([] : List Int)))
theorem impl_TreUp.mono_l : ∀ k, (∀ y0 y1, LeO (impl_TreUp.l0 k y0 y1) (impl_TreUp.l0 (k + 1) y0 y1))
  | 0 => fun _ _ r h => by simp [impl_TreUp.l0] at h
  | k + 1 => by
    have ih0 := impl_TreUp.mono_l k
    · intro y0 y1
      unfold impl_TreUp.l0
      repeat' first
      | (with_reducible exact ih0 _ _)
      | (with_reducible first | exact LeO.refl _ | exact LeO.none _ | refine LeO.ite ?_ ?_ | refine LeO.bind ?_ (fun _ => ?_)) | exact LeO.none _ | refine LeO.ite ?_ ?_ | refine LeO.bind ?_ (fun _ => ?_)
theorem impl_TreUp.mono : ∀ a0 k, LeO (impl_TreUp.f k a0) (impl_TreUp.f (k + 1) a0) := by
  intro a0 k; have ih0 := impl_TreUp.mono_l k; unfold impl_TreUp.f
  repeat' first
      | (with_reducible exact ih0 _ _)
      | (with_reducible first | exact LeO.refl _ | exact LeO.none _ | refine LeO.ite ?_ ?_ | refine LeO.bind ?_ (fun _ => ?_)) | exact LeO.none _ | refine LeO.ite ?_ ?_ | refine LeO.bind ?_ (fun _ => ?_)
set_option maxHeartbeats 8000000 in
set_option maxRecDepth 100000 in
theorem impl_TreUp.calls {k : Nat} {a0 : Int} {r : List Int} {w : World} (H : impl_TreUp.f k a0 = some r) :
    Calls Tryz.prog 83 #[.int .i64 a0] w fun e w' => ∃ v0_ : Value, e = .returned (v0_) ∧ Kd.Q (Kd.int .i64) 3 w' w.heap.size (fun _ => True) v0_ r ∧ Below w.heap.size w w' := by
  have HB := am_ (Below.refl w.heap.size w); revert H; unfold impl_TreUp.f; refine oc_ fun t357 A2 => ?_; refine ib_ ?_ ?_
  · rintro rfl; refine ai_ fun H' => ?_; go_enter Tryz.func83, Tryz.ntmps83; go_wp2_with ((with_reducible refine gl_ ?_); first | ((with_reducible refine gf_ 105 5 rfl rfl ?_); refine gd_ (impl_isNode.calls A2.out) ?_; intro nd))
    go_loopg [0, 3] k (fun kq v0 v3 w' => ∃ (x0_1 : Int) (x3_1 : List Int), v0 = .int .i64 x0_1 ∧ Aside0 (impl_TreUp.l0 kq x0_1 x3_1 = some r) ∧ Aside0 (kq ≤ k) ∧ Aside0 (Kd.R (Kd.int .i64) 3 w' w.heap.size (fun _ => True) v3 x3_1) ∧ Aside0 (Below w.heap.size w w'))
    case atStart => exact ⟨(a0), (([] : List Int)), y4_, H', ⟨Nat.le_refl _⟩, ⟨by first | exact Kd.R_nil _ _ _ _ _ | exact Kd.N_nil _ _ _ _ _ | exact Kd.V_nil _ _ _ _ _ | exact Kd.Q_nil _ _ _ _ _ | exact Kd.S_nil _ _ _ _ _⟩, ⟨y7_ HB.out⟩⟩
    case round =>
      clear H'; obtain ⟨x0_1, x3_1, rfl, HA, HK1, HO_3, HB⟩ := hrel
      cases gk with
      | zero => exact absurd HA.out (by simp [impl_TreUp.l0])
      | succ k1 =>
        have H := HA.out; clear HA; simp only [impl_TreUp.l0] at H; revert H; refine itg_ ?_ ?_
        · intro c4b0
          refine ia_ fun LMc5 => ?_
          generalize hy358 : (x3_1 ++ [wrap64 (Int.tdiv (wrap64 (x0_1 - 1)) 2)]) = y358; have Ny358 := am_ hy358.symm; clear hy358; refine ai_ fun H' => ?_; go_wp2_with (first | ((with_reducible refine gate_builtin (b := .append) (xs := #[.tmp 12, .tmp 14]) rfl ?_); at_builtin; refine Kd.R_append (Kd.int .i64) (w0 := w) w.heap.size rfl (.tmp 12) (.tmp 14) 69 3 (.int .i64 0) 8 rfl Tryz.underlying69 info3 rfl (by decide) (by omega) u3 x3_1 (wrap64 (Int.tdiv (wrap64 (x0_1 - 1)) 2)) [.int .i64 (wrap64 (Int.tdiv (wrap64 (x0_1 - 1)) 2))] (fun _ => True) (fun _ => False) rfl rfl ?aP (fun _ hk => hk.elim) ?aF ?aO ?aB ?aS ?aL ?_; (case aP => exact rfl); (case aB => exact (y7_ HB.out)); (case aF => exact (fun _ _ => trivial)); (case aO => exact (y11_ HO_3.out)); (case aS => exact (below_size (y7_ HB.out))); (case aL => have := LMc5.out; omega); intro v359 w6 ho hb hg hat; rw [← Ny358.out] at ho; replace HB := am_ hb; have HO360 := am_ ho; clear HO_3; clear ho hb hg hat))
          go_roundg k1
          case measure => have := HK1.out; omega
          case rel => exact ⟨(wrap64 (Int.tdiv (wrap64 (x0_1 - 1)) 2)), (y358), y4_, H', ⟨by have := HK1.out; omega⟩, ⟨y11_ HO360.out⟩, ⟨y7_ HB.out⟩⟩
        intro c4b0; refine oj_ ?_; rintro rfl; obtain ⟨Ac_, cc_, ec_⟩ := Kd.R_slice HO_3.out; subst ec_; have hcl_ := am_ (clip_le HO_3.out); go_wp2_with (go_at_call 111; (with_reducible refine (clip_int _ _ _ _ hcl_.out.1 hcl_.out.2).mono ?_); rintro e_ w_ ⟨rfl, rfl⟩); go_ret; exact ⟨_, y6_, Kd.Q_clip (Kd.Q_of_R (y11_ HO_3.out)), y7_ HB.out⟩
  rintro rfl; refine oj_ ?_; rintro rfl; go_enter Tryz.func83, Tryz.ntmps83; go_wp2_with ((with_reducible refine gl_ ?_); first | ((with_reducible refine gf_ 105 5 rfl rfl ?_); refine gd_ (impl_isNode.calls A2.out) ?_; intro nd)); go_ret; exact ⟨_, y6_, Kd.Q_of_R (by first | exact Kd.R_nil _ _ _ _ _ | exact Kd.N_nil _ _ _ _ _ | exact Kd.V_nil _ _ _ _ _ | exact Kd.Q_nil _ _ _ _ _ | exact Kd.S_nil _ _ _ _ _), y7_ HB.out⟩

/-! ### impl_path: function 38 -/
def impl_path.f (k : Nat) (a0 : Int) : Option (List Int) := (impl_leaf.f a0).bind fun t361 => ((some (([t361] : List Int) : List Int)).bind fun y362 => ((impl_leaf.f a0).bind fun t365 => ((impl_TreUp.f k t365).bind fun t366 => (if y362.length + t366.length < 17592186044416 then (some (y362 ++ t366)) else (none)))))
theorem impl_path.mono : ∀ a0 k, LeO (impl_path.f k a0) (impl_path.f (k + 1) a0) := by
  intro a0 k; unfold impl_path.f
  repeat' first
      | (with_reducible exact impl_TreUp.mono _ _)
      | (with_reducible first | exact LeO.refl _ | exact LeO.none _ | refine LeO.ite ?_ ?_ | refine LeO.bind ?_ (fun _ => ?_)) | exact LeO.none _ | refine LeO.ite ?_ ?_ | refine LeO.bind ?_ (fun _ => ?_)
set_option maxHeartbeats 8000000 in
set_option maxRecDepth 100000 in
theorem impl_path.calls {k : Nat} {a0 : Int} {r : List Int} {w : World} (H : impl_path.f k a0 = some r) :
    Calls Tryz.prog 38 #[.int .i64 a0] w fun e w' => ∃ v0_ : Value, e = .returned (v0_) ∧ Kd.R (Kd.int .i64) 3 w' w.heap.size (fun _ => True) v0_ r ∧ Below w.heap.size w w' := by
  have HB := am_ (Below.refl w.heap.size w); revert H; unfold impl_path.f; refine oc_ fun t361 A2 => ?_
  refine on_ fun y362 Ny362 => ?_; refine oc_ fun t365 A3 => ?_; refine oc_ fun t366 A4 => ?_; refine ia_ fun LMc5 => ?_
  generalize hy369 : (y362 ++ t366) = y369; have Ny369 := am_ hy369.symm; clear hy369; refine oj_ ?_; rintro rfl; go_enter Tryz.func38, Tryz.ntmps38; go_wp2_with (first | ((with_reducible refine gate_dst (N := 5) rfl ?_); refine Kd.R_lit (Kd.int .i64) _ 3 ?hg (N := 5) ?hd (xs := ([t361] : List Int)) (inner := [.int .i64 t361]) (ok := fun _ => True) (okp := fun _ => True) ?hr ?hp (fun _ hk => hk) trivial (Below.refl _ _) (Nat.le_refl _) (by simp) ?_; (case hd => rfl); (case hg => rfl); (case hr => go_simp; try rfl); (case hp => exact (Reps.one (show Kd.M (Kd.int .i64) _ _ _ t361 [.int .i64 t361] from rfl) (Reps.none _ _))); intro v363 w6 ho7 hb hg_ hnew_; clear hg_ hnew_; (first | rw [← Ny362.out] at ho7 | (simp only [Int.reduceToNat] at ho7; rw [← Ny362.out] at ho7)); have HO364 := am_ (Kd.R_lower ho7 (below_size (y7_ HB.out))); replace HB := st_ (y7_ HB.out) hb; clear hb ho7) | ((with_reducible refine gate_builtin (b := .append) (xs := #[.tmp 5, .tmp 8]) rfl ?_); at_builtin; refine Kd.R_append_rows (Kd.int .i64) (w0 := w) w.heap.size rfl (.tmp 5) (.tmp 8) 69 3 (.int .i64 0) 8 rfl Tryz.underlying69 info3 rfl (by decide) (by omega) v363 y362 t366 _ _ _ (fun k_ => some k_ ≠ (.slice Ao10 t366.length co10 : Value).ownBlock) (fun _ => False) rfl rfl ?aO ?aR (fun _ _ h => h) (fun _ h => h.elim) ?aF ?aB ?aS ?aL ?_; (case aR => exact y17_ ((Kd.Q_reads' HO368.out).2.2)); (case aB => exact (y7_ HB.out)); (case aF => exact (fun k_ hk => Kd.fresh' (Kd.Q_lt (y13_ HO368.out)) k_ hk)); (case aO => exact (by (with_reducible repeat (first | apply Kd.R_alloc | apply Kd.R_drewN | apply Kd.R_drew)); exact Kd.R_mono HO364.out (fun _ hk => hk.2))); (case aS => exact (below_size (y7_ HB.out))); (case aL => have := LMc5.out; omega); intro v370 w9 ho hb hg hat; rw [← Ny369.out] at ho; replace HO368 := am_ (Kd.Q_after (ok := (fun _ => True)) (y13_ HO368.out) hg hat); replace HB := am_ hb; have HO371 := am_ ho; clear HO364; clear ho hb hg hat) | ((with_reducible refine gl_ ?_); first | ((with_reducible refine gf_ 63 4 rfl rfl ?_); refine gd_ (impl_leaf.calls A2.out) ?_; intro nd) | ((with_reducible refine gf_ 63 7 rfl rfl ?_); refine gd_ (impl_leaf.calls A3.out) ?_; intro nd) | ((with_reducible refine gf_ 83 8 rfl rfl ?_); refine gc_ (impl_TreUp.calls A4.out) ?_; rintro e w8 ⟨v367, rfl, ho0, hb⟩; refine ⟨_, rfl, ?_⟩; have HO368 := am_ (Kd.Q_lower (Kd.Q_new' ho0 (Kd.R_lt (y11_ HO364.out))) (below_size (y7_ HB.out))); replace HO364 := am_ (Kd.R_elder' (y11_ HO364.out) (Kd.Q_base ho0) hb); replace HB := st_ (y7_ HB.out) hb; (try clear hb); (try clear hk); (try clear ho0); obtain ⟨Ao10, co10, eo10, _⟩ := Kd.Q_slice HO368.out; subst eo10))); go_ret; exact ⟨_, y6_, y11_ (Kd.R_mono HO371.out (fun _ hk => trivial)), y7_ HB.out⟩

-- GIVEN: function 39 (impl_ownAt)

-- GIVEN: function 112 (strings_Join)

/-! ### impl_made: function 86 -/
def impl_made.l0 : Nat → ByteArray → List ByteArray → List ByteArray → Int → Int → Option (ByteArray)
  | 0, _, _, _, _, _ => none
  | k + 1, x0, x1, x8, x9, x10 => if x10 < x9 then (if 0 ≤ x10 then (if x10 < (x8.length : Int) then ((impl_SecOk.f (rdOf ByteArray.empty x8 x10)).bind fun t373 => (if t373 = true then (impl_made.l0 k x0 x1 x8 x9 (wrap64 (x10 + 1))) else (some (⟨#[]⟩ : ByteArray)))) else (none)) else (none)) else ((strings_Join.f x1 (⟨#[]⟩ : ByteArray)).bind fun t374 => (if x0.size + t374.size ≤ 9223372036854775807 then (if ((x0 ++ t374).size : Int) ≤ 300 then (some (x0 ++ t374)) else (some (⟨#[]⟩ : ByteArray))) else (none)))
def impl_made.f (k : Nat) (a0 : ByteArray) (l1 : List ByteArray) : Option (ByteArray) := impl_made.l0 k a0 l1 l1 (l1.length : Int) 0
theorem impl_made.mono_l : ∀ k, (∀ y0 y1 y2 y3 y4, LeO (impl_made.l0 k y0 y1 y2 y3 y4) (impl_made.l0 (k + 1) y0 y1 y2 y3 y4))
  | 0 => fun _ _ _ _ _ r h => by simp [impl_made.l0] at h
  | k + 1 => by
    have ih0 := impl_made.mono_l k
    · intro y0 y1 y2 y3 y4
      unfold impl_made.l0
      repeat' first
      | (with_reducible exact ih0 _ _ _ _ _)
      | (with_reducible first | exact LeO.refl _ | exact LeO.none _ | refine LeO.ite ?_ ?_ | refine LeO.bind ?_ (fun _ => ?_)) | exact LeO.none _ | refine LeO.ite ?_ ?_ | refine LeO.bind ?_ (fun _ => ?_)
theorem impl_made.mono : ∀ a0 a1 k, LeO (impl_made.f k a0 a1) (impl_made.f (k + 1) a0 a1) := by
  intro a0 a1 k; have ih0 := impl_made.mono_l k; unfold impl_made.f
  repeat' first
      | (with_reducible exact ih0 _ _ _ _ _)
      | (with_reducible first | exact LeO.refl _ | exact LeO.none _ | refine LeO.ite ?_ ?_ | refine LeO.bind ?_ (fun _ => ?_)) | exact LeO.none _ | refine LeO.ite ?_ ?_ | refine LeO.bind ?_ (fun _ => ?_)
theorem impl_made.W {P : Prop} (h : P := by
  go_wp2_with ((with_reducible refine gl_ ?_); first | ((with_reducible refine gf_ 36 15 rfl rfl ?_); refine gb_ (impl_SecOk.calls (rdOf ByteArray.empty l1 x10_1) false _ (GlobOk.below HGL.out (y7_ HB.out)) A6.out) ?_; intro w_ hb; replace HB := st_ (y7_ HB.out) hb; clear hb) | ((with_reducible refine gf_ 112 20 rfl rfl ?_); refine gb_ (strings_Join.calls _ _ l1 (⟨#[]⟩ : ByteArray) t374 _ (y17_ (Kd.C_below HR1.out HB.out)) HC1.out ?side3 A10.out) ?_; (case side3 => first | assumption | exact Flat.of_R (by assumption) | exact Flat.none_); intro w_ hb; replace HB := st_ (y7_ HB.out) hb; clear hb))
  go_ret
  exact ⟨y6_, y7_ HB.out⟩) : P := h
set_option maxHeartbeats 8000000 in
set_option maxRecDepth 100000 in
theorem impl_made.calls {k : Nat} {a0 : ByteArray} {A1 : Option Addr} {c1 : Nat} {l1 : List ByteArray} {r : ByteArray} {w : World} (hr1 : Kd.C Kd.string w A1 l1.length l1) (hc1 : l1.length ≤ c1) (hsp1 : Flat A1) (hG : GlobOk w) (H : impl_made.f k a0 l1 = some r) :
    Calls Tryz.prog 86 #[.string a0, .slice A1 l1.length c1] w fun e w' => e = .returned (.string r) ∧ Below w.heap.size w w' := by
  have HR1 := am_ hr1; have HC1 := am_ hc1; clear hr1 hc1; have HB := am_ (Below.refl w.heap.size w); have HGL := am_ hG; clear hG; revert H; unfold impl_made.f; refine ai_ fun H' => ?_; go_enter Tryz.func86, Tryz.ntmps86; go_wp2
  go_loopg [10] k (fun kq v10 w' => ∃ (x10_1 : Int), v10 = .int .i64 x10_1 ∧ Aside0 (impl_made.l0 kq a0 l1 l1 (l1.length : Int) x10_1 = some r) ∧ Aside0 (kq ≤ k) ∧ Aside0 (Below w.heap.size w w'))
  case atStart => exact ⟨(0), y4_, H', ⟨Nat.le_refl _⟩, ⟨y7_ HB.out⟩⟩
  case round =>
    clear H'; (try clear c1); obtain ⟨x10_1, rfl, HA, HK1, HB⟩ := hrel
    cases gk with
    | zero => exact absurd HA.out (by simp [impl_made.l0])
    | succ k1 =>
      have H := HA.out; clear HA; simp only [impl_made.l0] at H; revert H; refine it_ ?_ ?_
      · intro c3b0
        refine in_ fun c4b0 => ?_
        refine in_ fun c5b0 => ?_
        refine oc_ fun t373 A6 => ?_; refine ai_ fun HH => ?_
        have p372 : 0 ≤ (x10_1 : Int) := of_decide_eq_true y3_; have q372 : x10_1 < (l1.length : Int) := of_decide_eq_true y3_; obtain ⟨ad372, e372, hx372_0⟩ := Kd.at_string HR1.out x10_1 p372 q372
        cases e372
        replace hx372_0 := (HB.out.cell (World.block_lt_of_cell? w _ hx372_0)).trans hx372_0; replace p372 := eq_true p372; replace q372 := eq_true q372
        obtain ⟨H⟩ := HH; revert H; refine ib_ ?_ ?_
        · rintro rfl
          refine ai_ fun H' => ?_
          go_wp2_with ((with_reducible refine gl_ ?_); first | ((with_reducible refine gf_ 36 15 rfl rfl ?_); refine gb_ (impl_SecOk.calls (rdOf ByteArray.empty l1 x10_1) true _ (GlobOk.below HGL.out (y7_ HB.out)) A6.out) ?_; intro w8 hb; replace HB := st_ (y7_ HB.out) hb; clear hb))
          go_roundg k1
          case measure => have := HK1.out; omega
          case rel => exact ⟨(wrap64 (x10_1 + 1)), y4_, H', ⟨by have := HK1.out; omega⟩, ⟨y7_ HB.out⟩⟩
        rintro rfl
        refine oj_ ?_; rintro rfl
        exact impl_made.W
      intro c3b0
      refine oc_ fun t374 A10 => ?_; refine il1_ fun c11 c11b0 c11b1 => ?_
      try have c11b2 : (9223372036854775807 < a0.size + t374.size) = False := eq_false (Nat.not_lt.2 c11)
      refine it3_ ?_ ?_
      · intro c12 c12b0; have c12z : decide (((a0.size : Int) + (t374.size : Int)) ≤ 300) = true := decide_eq_true (by have z_ := c12; rw [ByteArray.size_append] at z_; omega); have c12b1 : decide ((a0 ++ t374).size ≤ 300) = true := decide_eq_true (by omega); clear c12; refine oj_ ?_; rintro rfl; exact impl_made.W
      intro c12 c12b0; have c12z : decide (((a0.size : Int) + (t374.size : Int)) ≤ 300) = false := decide_eq_false (by have z_ := c12; rw [ByteArray.size_append] at z_; omega); have c12b1 : decide ((a0 ++ t374).size ≤ 300) = false := decide_eq_false (by omega); clear c12; refine oj_ ?_; rintro rfl; exact impl_made.W

/-! ### impl_MakKey: function 40 -/
def impl_MakKey.f (k : Nat) (a0 : ByteArray) : Option (ByteArray) := (impl_made.f k (⟨#[107]⟩ : ByteArray) (([a0] : List ByteArray))).bind fun t378 => (some t378)
theorem impl_MakKey.mono : ∀ a0 k, LeO (impl_MakKey.f k a0) (impl_MakKey.f (k + 1) a0) := by
  intro a0 k; unfold impl_MakKey.f
  repeat' first
      | (with_reducible exact impl_made.mono _ _ _)
      | (with_reducible first | exact LeO.refl _ | exact LeO.none _ | refine LeO.ite ?_ ?_ | refine LeO.bind ?_ (fun _ => ?_)) | exact LeO.none _ | refine LeO.ite ?_ ?_ | refine LeO.bind ?_ (fun _ => ?_)
set_option maxHeartbeats 8000000 in
set_option maxRecDepth 100000 in
theorem impl_MakKey.calls {k : Nat} {a0 : ByteArray} {r : ByteArray} {w : World} (hG : GlobOk w) (H : impl_MakKey.f k a0 = some r) :
    Calls Tryz.prog 40 #[.string a0] w fun e w' => e = .returned (.string r) ∧ Below w.heap.size w w' := by
  have HB := am_ (Below.refl w.heap.size w); have HGL := am_ hG; clear hG; revert H; unfold impl_MakKey.f
  generalize hy375 : (([a0] : List ByteArray)) = y375; have Ny375 := am_ hy375.symm; clear hy375; refine oc_ fun t378 A2 => ?_; refine oj_ ?_; rintro rfl; go_enter Tryz.func40, Tryz.ntmps40; go_wp2_with (first | ((with_reducible refine gate_dst (N := 4) rfl ?_); refine Kd.R_lit Kd.string _ 9 ?hg (N := 4) ?hd (xs := ([a0] : List ByteArray)) (inner := [.string a0]) (ok := fun _ => True) (okp := fun _ => True) ?hr ?hp (fun _ hk => hk) trivial (Below.refl _ _) (Nat.le_refl _) (by simp) ?_; (case hd => rfl); (case hg => rfl); (case hr => go_simp; try rfl); (case hp => exact (Reps.one (show Kd.M Kd.string _ _ _ a0 [.string a0] from rfl) (Reps.none _ _))); intro v376 w3 ho4 hb hg_ hnew_; clear hg_ hnew_; (first | rw [← Ny375.out] at ho4 | (simp only [Int.reduceToNat] at ho4; rw [← Ny375.out] at ho4)); have HO377 := am_ (Kd.R_lower ho4 (below_size (y7_ HB.out))); replace HB := st_ (y7_ HB.out) hb; clear hb ho4; obtain ⟨Ao5, co5, eo5⟩ := Kd.R_slice HO377.out; subst eo5) | ((with_reducible refine gl_ ?_); first | ((with_reducible refine gf_ 86 5 rfl rfl ?_); refine gb_ (impl_made.calls (y17_ ((Kd.R_reads' HO377.out).2.2)) ((Kd.R_reads' HO377.out).2.1) ?side3 (GlobOk.below HGL.out (y7_ HB.out)) A2.out) ?_; (case side3 => first | assumption | exact Flat.of_R (by assumption) | exact Flat.none_); intro w6 hb; replace HO377 := rb_ (y11_ HO377.out) hb; replace HB := st_ (y7_ HB.out) hb; clear hb))); go_ret; exact ⟨y6_, y7_ HB.out⟩

end Go.Proofs.YtnemchmiplbopaaGreatDoor.Zj
