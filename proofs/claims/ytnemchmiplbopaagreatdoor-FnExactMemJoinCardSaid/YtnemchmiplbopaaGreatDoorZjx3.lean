-- Written by this session's own program (wip/tools/pp.py) out of the translation, over functions given by hand. Lean checks it.
import Derived.Test.YtnemchmiplbopaaGreatDoorZjx0
import Derived.Test.YtnemchmiplbopaaGreatDoorZjx2
namespace Go.Proofs.YtnemchmiplbopaaGreatDoor.Zj
open Go.RowKit Go.Proofs.YtnemchmiplbopaaGreatDoorW.PrintWords Go.Proofs.YtnemchmiplbopaaGreatDoorW.PrintLast Go.Proofs.YtnemchmiplbopaaGreatDoorW.PrintMore
attribute [local go_sem] max2_int min2_int max_two min_two max_three min_three max_four min_four   -- for this text's walks alone
set_option linter.unusedVariables false
set_option linter.unusedSimpArgs false

/-! ### laws_markStringS: function 15 -/
def laws_markStringS.l0 : Nat → List ByteArray → Int → Int → Option (Int × List ByteArray)
  | 0, _, _, _ => none
  | k + 1, x0, x1, x5 => if x5 < (x0.length : Int) then ((laws_markText.f k x1).bind fun t118 => (if 0 ≤ x5 then (laws_markStringS.l0 k (x0.set (x5 : Int).toNat t118) (wrap64 (x1 + 1)) (wrap64 (x5 + 1))) else (none))) else (some (x1, x0))
def laws_markStringS.f (k : Nat) (l0 : List ByteArray) (a1 : Int) : Option (Int × List ByteArray) := laws_markStringS.l0 k l0 a1 0
set_option maxHeartbeats 8000000 in
set_option maxRecDepth 100000 in
theorem laws_markStringS.calls {k : Nat} {P0_ : Nat → Prop} {u9000_ : Value} {l0 : List ByteArray} {a1 : Int} {r1 : Int} {r2 : List ByteArray} {w0 w : World} (hB : Below w0.heap.size w0 w) (ho0 : Kd.Q Kd.string 9 w w0.heap.size P0_ u9000_ l0) (H : laws_markStringS.f k l0 a1 = some (r1, r2)) :
    Calls Tryz.prog 15 #[u9000_, .int .i64 a1] w fun e w' => e = .returned (.int .i64 r1) ∧ Kd.Q Kd.string 9 w' w0.heap.size (fun k_ => (P0_ k_ ∨ w.heap.size ≤ k_)) u9000_ r2 ∧ Below w0.heap.size w0 w' ∧ Kept w w' (fun k_ => P0_ k_) := by
  have HO0 := am_ (show Kd.Q Kd.string 9 w w0.heap.size (fun k_ => (P0_ k_ ∨ w.heap.size ≤ k_)) u9000_ l0 from Kd.Q_mono ho0 (fun k_ hk => (.inl hk))); have HK := am_ (Kept.refl w (fun k_ => P0_ k_)); have HW0 := am_ hB.size; have HB := am_ hB; clear hB; revert H; unfold laws_markStringS.f; refine ai_ fun H' => ?_; go_enter Tryz.func15, Tryz.ntmps15; go_wp2
  go_loopg [1, 5] k (fun kq v1 v5 w' => ∃ (x0_1 : List ByteArray) (x1_1 : Int) (x5_1 : Int), v1 = .int .i64 x1_1 ∧ v5 = .int .i64 x5_1 ∧ Aside0 (laws_markStringS.l0 kq x0_1 x1_1 x5_1 = some (r1, r2)) ∧ Aside0 (kq ≤ k) ∧ Aside0 (Kd.Q Kd.string 9 w' w0.heap.size (fun k_ => (P0_ k_ ∨ w.heap.size ≤ k_)) u9000_ x0_1) ∧ Aside0 (Kept w w' (fun k_ => P0_ k_)) ∧ Aside0 (Below w0.heap.size w0 w'))
  case atStart => exact ⟨(l0), (a1), (0), y4_, y4_, H', ⟨Nat.le_refl _⟩, ⟨y13_ HO0.out⟩, ⟨y16_ HK.out⟩, ⟨y7_ HB.out⟩⟩
  case round =>
    clear H'; obtain ⟨x0_1, x1_1, x5_1, rfl, rfl, HA, HK1, HO_0, HK, HB⟩ := hrel
    cases gk with
    | zero => exact absurd HA.out (by simp [laws_markStringS.l0])
    | succ k1 =>
      have H := HA.out; clear HA; simp only [laws_markStringS.l0] at H; revert H; refine it_ ?_ ?_
      · intro c3b0
        refine oc_ fun t118 A4 => ?_; refine in_ fun c5b0 => ?_
        generalize hy119 : (x0_1.set (x5_1 : Int).toNat t118) = y119; have Ny119 := am_ hy119.symm; clear hy119; refine ai_ fun H' => ?_; obtain ⟨Ao7, co7, eo7, _⟩ := Kd.Q_slice HO_0.out; subst eo7; go_wp2_with (first | ((with_reducible refine gate_store (t := 9) (p := 16) rfl ?_); refine store_event (t := 9) (p := 16) (v := ?vo_w10) (w1 := (w8.setCell ⟨go6, oo6 + (x5_1 : Int).toNat, none⟩ (.string t118))) ?hg ?ho ?hn ?hr ?_; (case ho => rfl); (case hg => rfl); (case hn => rfl); (case hr => go_simp; try rfl); intro w10 hw; have hg : w8.grownBy w10 (some go6) := (by rw [hw]; exact HP9.2); have hp_ : Kd.Q Kd.string 9 w10 w0.heap.size (fun k_ => (P0_ k_ ∨ w.heap.size ≤ k_)) (.slice (some ⟨go6, oo6, none⟩) x0_1.length co7) y119 := (by rw [hw, Ny119.out]; exact HP9.1); clear HP9; replace HB := am_ ((by rw [hw]; exact below_set (HB.out) GB6.out : Below w0.heap.size w0 w10)); replace HK := am_ (Kept.of_grown (S := (fun k_ => P0_ k_)) hg (y16_ HK.out) (fun k_ e_ => (HO_0.out.1 k_ e_))); replace HO_0 := am_ hp_; clear hg hw hp_) | ((with_reducible refine gl_ ?_); first | ((with_reducible refine gf_ 46 15 rfl rfl ?_); refine gb_ (laws_markText.calls A4.out) ?_; intro w8 hb; replace HO_0 := am_ (Kd.Q_below (y13_ HO_0.out) hb); replace HK := am_ (Kept.below (S := (fun k_ => P0_ k_)) (y16_ HK.out) hb); replace HB := st_ (y7_ HB.out) hb; clear hb; have p6 : 0 ≤ (x5_1 : Int) := of_decide_eq_true y3_; have q6 : (x5_1 : Int) < ((x0_1.length : Int) : Int) := of_decide_eq_true y3_; obtain ⟨go6, oo6, co6, eo6, gb6, gl6, cl6, HG6⟩ := Kd.Q_form HO_0.out (by omega); (first | cases eo6 | (injection eo6 with ea_ en_ ec_; (first | subst ea_ | (injection ea_ with ea_; subst ea_)); subst ec_; clear en_)); have GB6 := am_ gb6; have GG6 := am_ HG6; clear gb6 gl6 HG6; have HMgo6 := am_ (show (P0_ go6 ∨ w.heap.size ≤ go6) from (HO_0.out.1 _ rfl)); obtain ⟨hx6_0, hf6_0⟩ := Kd.Q_cell (⟨#[]⟩ : ByteArray) HO_0.out (x5_1 : Int) p6 q6; replace p6 := eq_true p6; replace q6 := eq_true q6; obtain ⟨hy9_, hz9_⟩ := Kd.Q_cell (⟨#[]⟩ : ByteArray) HO_0.out (x5_1 : Int) (of_decide_eq_true y3_) (of_decide_eq_true y3_); have HP9 := Kd.Q_putg HO_0.out (x5_1 : Int) (of_decide_eq_true y3_) (by have h_ : (x5_1 : Int) < ((x0_1.length : Int) : Int) := of_decide_eq_true y3_; first | exact h_ | (have e_ := (Kd.Q_reads' HO_0.out).1; omega) | simpa using h_) t118)))
        go_roundg k1
        case measure => have := HK1.out; omega
        case rel => exact ⟨(y119), (wrap64 (x1_1 + 1)), (wrap64 (x5_1 + 1)), y4_, y4_, H', ⟨by have := HK1.out; omega⟩, ⟨y13_ HO_0.out⟩, ⟨y16_ HK.out⟩, ⟨y7_ HB.out⟩⟩
      intro c3b0; intro H; replace H := op2_ H; obtain ⟨rfl, rfl⟩ := H; obtain ⟨Ao11, co11, eo11, _⟩ := Kd.Q_slice HO_0.out; subst eo11; go_wp2; go_ret; exact ⟨y6_, y13_ HO_0.out, y7_ HB.out, y16_ HK.out⟩

set_option maxHeartbeats 8000000 in
set_option maxRecDepth 100000 in
theorem laws_markStringS.callsR (k : Nat) (P0_ : Nat → Prop) (u9000_ : Value) (l0 : List ByteArray) (a1 : Int) (r1 : Int) (r2 : List ByteArray) (w0 w : World) (hB : Below w0.heap.size w0 w) (ho0 : Kd.R Kd.string 9 w w0.heap.size P0_ u9000_ l0) (H : laws_markStringS.f k l0 a1 = some (r1, r2)) :
    Calls Tryz.prog 15 #[u9000_, .int .i64 a1] w fun e w' => e = .returned (.int .i64 r1) ∧ Kd.R Kd.string 9 w' w0.heap.size (fun k_ => (P0_ k_ ∨ w.heap.size ≤ k_)) u9000_ r2 ∧ Below w0.heap.size w0 w' ∧ Kept w w' (fun k_ => P0_ k_) := by
  have HO0 := am_ (show Kd.R Kd.string 9 w w0.heap.size (fun k_ => (P0_ k_ ∨ w.heap.size ≤ k_)) u9000_ l0 from Kd.R_mono ho0 (fun k_ hk => (.inl hk))); have HK := am_ (Kept.refl w (fun k_ => P0_ k_)); have HW0 := am_ hB.size; have HB := am_ hB; clear hB; revert H; unfold laws_markStringS.f; refine ai_ fun H' => ?_; go_enter Tryz.func15, Tryz.ntmps15; go_wp2
  go_loopg [1, 5] k (fun kq v1 v5 w' => ∃ (x0_1 : List ByteArray) (x1_1 : Int) (x5_1 : Int), v1 = .int .i64 x1_1 ∧ v5 = .int .i64 x5_1 ∧ Aside0 (laws_markStringS.l0 kq x0_1 x1_1 x5_1 = some (r1, r2)) ∧ Aside0 (kq ≤ k) ∧ Aside0 (Kd.R Kd.string 9 w' w0.heap.size (fun k_ => (P0_ k_ ∨ w.heap.size ≤ k_)) u9000_ x0_1) ∧ Aside0 (Kept w w' (fun k_ => P0_ k_)) ∧ Aside0 (Below w0.heap.size w0 w'))
  case atStart => exact ⟨(l0), (a1), (0), y4_, y4_, H', ⟨Nat.le_refl _⟩, ⟨y11_ HO0.out⟩, ⟨y16_ HK.out⟩, ⟨y7_ HB.out⟩⟩
  case round =>
    clear H'; obtain ⟨x0_1, x1_1, x5_1, rfl, rfl, HA, HK1, HO_0, HK, HB⟩ := hrel
    cases gk with
    | zero => exact absurd HA.out (by simp [laws_markStringS.l0])
    | succ k1 =>
      have H := HA.out; clear HA; simp only [laws_markStringS.l0] at H; revert H; refine it_ ?_ ?_
      · intro c3b0
        refine oc_ fun t118 A4 => ?_; refine in_ fun c5b0 => ?_
        generalize hy119 : (x0_1.set (x5_1 : Int).toNat t118) = y119; have Ny119 := am_ hy119.symm; clear hy119; refine ai_ fun H' => ?_; obtain ⟨Ao7, co7, eo7⟩ := Kd.R_slice HO_0.out; subst eo7; go_wp2_with (first | ((with_reducible refine gate_store (t := 9) (p := 16) rfl ?_); refine store_event (t := 9) (p := 16) (v := ?vo_w10) (w1 := (w8.setCell ⟨go6, (x5_1 : Int).toNat, none⟩ (.string t118))) ?hg ?ho ?hn ?hr ?_; (case ho => rfl); (case hg => rfl); (case hn => rfl); (case hr => go_simp; try rfl); intro w10 hw; have hg : w8.grownBy w10 (some go6) := (by rw [hw]; exact HP9.2); have hp_ : Kd.R Kd.string 9 w10 w0.heap.size (fun k_ => (P0_ k_ ∨ w.heap.size ≤ k_)) (.slice (some ⟨go6, 0, none⟩) x0_1.length co7) y119 := (by rw [hw, Ny119.out]; exact HP9.1); clear HP9; replace HB := am_ ((by rw [hw]; exact below_set (HB.out) GB6.out : Below w0.heap.size w0 w10)); replace HK := am_ (Kept.of_grown (S := (fun k_ => P0_ k_)) hg (y16_ HK.out) (fun k_ e_ => (HO_0.out.1 k_ e_))); replace HO_0 := am_ hp_; clear hg hw hp_) | ((with_reducible refine gl_ ?_); first | ((with_reducible refine gf_ 46 15 rfl rfl ?_); refine gb_ (laws_markText.calls A4.out) ?_; intro w8 hb; replace HO_0 := rb_ (y11_ HO_0.out) hb; replace HK := am_ (Kept.below (S := (fun k_ => P0_ k_)) (y16_ HK.out) hb); replace HB := st_ (y7_ HB.out) hb; clear hb; have p6 : 0 ≤ (x5_1 : Int) := of_decide_eq_true y3_; have q6 : (x5_1 : Int) < ((x0_1.length : Int) : Int) := of_decide_eq_true y3_; obtain ⟨go6, co6, eo6, gb6, gl6, cl6, HG6⟩ := Kd.R_form HO_0.out (by omega); (first | cases eo6 | (injection eo6 with ea_ en_ ec_; (first | subst ea_ | (injection ea_ with ea_; subst ea_)); subst ec_; clear en_)); have GB6 := am_ gb6; have GG6 := am_ HG6; clear gb6 gl6 HG6; have HMgo6 := am_ (show (P0_ go6 ∨ w.heap.size ≤ go6) from (HO_0.out.1 _ rfl)); obtain ⟨hx6_0, hf6_0⟩ := Kd.R_celln (⟨#[]⟩ : ByteArray) HO_0.out (x5_1 : Int) p6 q6; replace p6 := eq_true p6; replace q6 := eq_true q6; obtain ⟨hy9_, hz9_⟩ := Kd.R_celln (⟨#[]⟩ : ByteArray) HO_0.out (x5_1 : Int) (of_decide_eq_true y3_) (of_decide_eq_true y3_); have HP9 := Kd.R_putg HO_0.out (x5_1 : Int) t118)))
        go_roundg k1
        case measure => have := HK1.out; omega
        case rel => exact ⟨(y119), (wrap64 (x1_1 + 1)), (wrap64 (x5_1 + 1)), y4_, y4_, H', ⟨by have := HK1.out; omega⟩, ⟨y11_ HO_0.out⟩, ⟨y16_ HK.out⟩, ⟨y7_ HB.out⟩⟩
      intro c3b0; intro H; replace H := op2_ H; obtain ⟨rfl, rfl⟩ := H; obtain ⟨Ao11, co11, eo11⟩ := Kd.R_slice HO_0.out; subst eo11; go_wp2; go_ret; exact ⟨y6_, y11_ HO_0.out, y7_ HB.out, y16_ HK.out⟩

/-! ### laws_markTreTree: function 44 -/
def laws_markTreTree.f (k : Nat) (l0_0 : List ByteArray) (a1 : Int) : Option (Int × List ByteArray) := (laws_markStringS.f k l0_0 a1).bind fun bt121 => (some (bt121.1, bt121.2))
set_option maxHeartbeats 8000000 in
set_option maxRecDepth 100000 in
theorem laws_markTreTree.calls {k : Nat} {P0_0_ : Nat → Prop} {u9000_ : Value} {l0_0 : List ByteArray} {a1 : Int} {r1 : Int} {r2 : List ByteArray} {w0 w : World} (hB : Below w0.heap.size w0 w) (ho0_0 : Kd.Q Kd.string 9 w w0.heap.size P0_0_ u9000_ l0_0) (H : laws_markTreTree.f k l0_0 a1 = some (r1, r2)) :
    Calls Tryz.prog 44 #[.agg #[u9000_], .int .i64 a1] w fun e w' => e = .returned (.int .i64 r1) ∧ Kd.Q Kd.string 9 w' w0.heap.size (fun k_ => (P0_0_ k_ ∨ w.heap.size ≤ k_)) u9000_ r2 ∧ Below w0.heap.size w0 w' ∧ Kept w w' (fun k_ => P0_0_ k_) := by
  have hu30 := Tryz.underlying30; have HO0_0 := am_ (show Kd.Q Kd.string 9 w w0.heap.size (fun k_ => (P0_0_ k_ ∨ w.heap.size ≤ k_)) u9000_ l0_0 from Kd.Q_mono ho0_0 (fun k_ hk => (.inl hk))); have HK := am_ (Kept.refl w (fun k_ => P0_0_ k_)); have HW0 := am_ hB.size; have HB := am_ hB; clear hB; revert H; unfold laws_markTreTree.f; refine oc_ ?_; rintro ⟨t121, t122⟩ A3 H; dsimp only at H; revert H; intro H; replace H := op2_ H; obtain ⟨rfl, rfl⟩ := H; obtain ⟨Ao4, co4, eo4, _⟩ := Kd.Q_slice HO0_0.out; subst eo4; go_enter Tryz.func44, Tryz.ntmps44; go_wp2_with (first | ((with_reducible refine gate_dst (N := 2) rfl ?_); refine box_event ?hg (N := 2) ?hd (cs := #[.slice Ao4 l0_0.length co4]) (t := 30) ?hr ?_; (case hd => rfl); (case hg => rfl); (case hr => go_simp; try rfl); intro gb120 hg w5 hbox hb; replace HO0_0 := am_ (Kd.Q_below (y13_ HO0_0.out) hb); have BK120 := am_ hbox; have GW120 := am_ ((by rw [hg]; exact (by first | exact HK.out.1 | exact (show Kept w _ (fun k_ => P0_0_ k_) from y16_ HK.out).1) : w.heap.size ≤ gb120)); replace HK := am_ (Kept.below (S := (fun k_ => P0_0_ k_)) (y16_ HK.out) hb); have GE120 := ge_ (w0 := w0) hg (y7_ HB.out); replace HB := st_ (y7_ HB.out) hb; clear hb hbox hg; have hcz6 := blk_c0 BK120.out; have hfz6_0 := blk_frozen BK120.out 0) | ((with_reducible refine gl_ ?_); first | ((with_reducible refine gf_ 15 8 rfl rfl ?_); refine gc_ (laws_markStringS.calls (yb_ HB.out) (Kd.Q_tight rfl HO0_0.out) A3.out) ?_; rintro e w7 ⟨rfl, hy0, hb, hkp⟩; refine ⟨_, rfl, ?_⟩; replace BK120 := am_ (blk_kept (y12_ BK120.out) hkp (rn_ HO0_0.out BK120.out)); replace HK := am_ (Kept.then_ (S := (fun k_ => P0_0_ k_)) (by repeat (first | (with_reducible first | exact HK.out | apply Kept.alloc | apply Kept.drewN | apply Kept.drew | refine Kept.setCell ?_ (.inr GW120.out) _) | exact HK.out)) hkp (fun k_ hs_ => (fun e_ => (HO0_0.out.1 k_ e_.symm)) hs_)); replace HO0_0 := am_ (Kd.Q_reok rfl hy0 (fun k_ e_ => HO0_0.out.1 k_ e_)); replace HB := am_ hb; (try clear hb); (try clear hkp); (try clear hy0)))); go_ret; exact ⟨y6_, y13_ HO0_0.out, yb_ HB.out, by repeat (first | (with_reducible first | exact HK.out | apply Kept.alloc | apply Kept.drewN | apply Kept.drew | refine Kept.setCell ?_ (.inr GW120.out) _) | exact HK.out)⟩

/-! ### laws_markMemOwnS: function 45 -/
def laws_markMemOwnS.l0 : Nat → List (S74) → Int → Int → Option (Int × (List (S74)))
  | 0, _, _, _ => none
  | k + 1, x0, x1, x5 => if x5 < (x0.length : Int) then (if 0 ≤ x5 then ((some (x0.set (x5 : Int).toNat (⟨x1, (rd_T74 x0 x5).f1⟩ : S74) : List (S74))).bind fun y123 => ((laws_markText.f k (wrap64 (x1 + 1))).bind fun t124 => (laws_markMemOwnS.l0 k (y123.set (x5 : Int).toNat (⟨(rd_T74 y123 x5).f0, t124⟩ : S74)) (wrap64 ((wrap64 (x1 + 1)) + 1)) (wrap64 (x5 + 1))))) else (none)) else (some (x1, x0))
def laws_markMemOwnS.f (k : Nat) (l0 : List (S74)) (a1 : Int) : Option (Int × (List (S74))) := laws_markMemOwnS.l0 k l0 a1 0
set_option maxHeartbeats 8000000 in
set_option maxRecDepth 100000 in
theorem laws_markMemOwnS.calls {k : Nat} {P0_ : Nat → Prop} {u9000_ : Value} {l0 : List (S74)} {a1 : Int} {r1 : Int} {r2 : List (S74)} {w0 w : World} (hB : Below w0.heap.size w0 w) (ho0 : Kd.Q k74 74 w w0.heap.size P0_ u9000_ l0) (H : laws_markMemOwnS.f k l0 a1 = some (r1, r2)) :
    Calls Tryz.prog 45 #[u9000_, .int .i64 a1] w fun e w' => e = .returned (.int .i64 r1) ∧ Kd.Q k74 74 w' w0.heap.size (fun k_ => (P0_ k_ ∨ w.heap.size ≤ k_)) u9000_ r2 ∧ Below w0.heap.size w0 w' ∧ Kept w w' (fun k_ => P0_ k_) := by
  have HO0 := am_ (show Kd.Q k74 74 w w0.heap.size (fun k_ => (P0_ k_ ∨ w.heap.size ≤ k_)) u9000_ l0 from Kd.Q_mono ho0 (fun k_ hk => (.inl hk))); have HK := am_ (Kept.refl w (fun k_ => P0_ k_)); have HW0 := am_ hB.size; have HB := am_ hB; clear hB; revert H; unfold laws_markMemOwnS.f; refine ai_ fun H' => ?_; go_enter Tryz.func45, Tryz.ntmps45; go_wp2
  go_loopg [1, 5] k (fun kq v1 v5 w' => ∃ (x0_1 : List (S74)) (x1_1 : Int) (x5_1 : Int), v1 = .int .i64 x1_1 ∧ v5 = .int .i64 x5_1 ∧ Aside0 (laws_markMemOwnS.l0 kq x0_1 x1_1 x5_1 = some (r1, r2)) ∧ Aside0 (kq ≤ k) ∧ Aside0 (Kd.Q k74 74 w' w0.heap.size (fun k_ => (P0_ k_ ∨ w.heap.size ≤ k_)) u9000_ x0_1) ∧ Aside0 (Kept w w' (fun k_ => P0_ k_)) ∧ Aside0 (Below w0.heap.size w0 w'))
  case atStart => exact ⟨(l0), (a1), (0), y4_, y4_, H', ⟨Nat.le_refl _⟩, ⟨y13_ HO0.out⟩, ⟨y16_ HK.out⟩, ⟨y7_ HB.out⟩⟩
  case round =>
    clear H'; obtain ⟨x0_1, x1_1, x5_1, rfl, rfl, HA, HK1, HO_0, HK, HB⟩ := hrel
    cases gk with
    | zero => exact absurd HA.out (by simp [laws_markMemOwnS.l0])
    | succ k1 =>
      have H := HA.out; clear HA; simp only [laws_markMemOwnS.l0] at H; revert H; refine it_ ?_ ?_
      · intro c3b0
        refine in_ fun c4b0 => ?_
        refine on_ fun y123 Ny123 => ?_; refine oc_ fun t124 A6 => ?_
        generalize hy125 : (y123.set (x5_1 : Int).toNat (⟨(rd_T74 y123 x5_1).f0, t124⟩ : S74)) = y125; have Ny125 := am_ hy125.symm; clear hy125; refine ai_ fun H' => ?_; obtain ⟨Ao8, co8, eo8, _⟩ := Kd.Q_slice HO_0.out; subst eo8; have p5 : 0 ≤ (x5_1 : Int) := of_decide_eq_true y3_; have q5 : (x5_1 : Int) < ((x0_1.length : Int) : Int) := of_decide_eq_true y3_; obtain ⟨go5, oo5, co5, eo5, gb5, gl5, cl5, HG5⟩ := Kd.Q_form HO_0.out (by omega); (first | cases eo5 | (injection eo5 with ea_ en_ ec_; (first | subst ea_ | (injection ea_ with ea_; subst ea_)); subst ec_; clear en_)); have GB5 := am_ gb5; have GG5 := am_ HG5; clear gb5 gl5 HG5; have HMgo5 := am_ (show (P0_ go5 ∨ w.heap.size ≤ go5) from (HO_0.out.1 _ rfl)); obtain ⟨ce5, hcl5, hM5, hcc5, hfr5⟩ := Kd.Q_elem HO_0.out z74 (x5_1 : Int) p5 q5; obtain rfl := k74_openM hM5; have hx5_0 : wr.cell? ⟨go5, oo5 + (x5_1 : Int).toNat * 2, none⟩ = some (.int .i64 ((rd_T74 x0_1 x5_1).f0)) := hcc5 0 _ rfl; have hx5_1 : wr.cell? ⟨go5, oo5 + (x5_1 : Int).toNat * 2 + 1, none⟩ = some (.string ((rd_T74 x0_1 x5_1).f1)) := hcc5 1 _ rfl; have hf5_0 : wr.frozen? ⟨go5, oo5 + (x5_1 : Int).toNat * 2, none⟩ = false := hfr5 0; have hf5_1 : wr.frozen? ⟨go5, oo5 + (x5_1 : Int).toNat * 2 + 1, none⟩ = false := hfr5 1; clear hcl5 hcc5 hfr5 hM5; replace p5 := eq_true p5; replace q5 := eq_true q5; have HX9 := am_ (show Kd.Q k74 74 wr w0.heap.size (fun k_ => (P0_ k_ ∨ w.heap.size ≤ k_)) (.slice (some ⟨go5, oo5, none⟩) x0_1.length co8) x0_1 from (y13_ HO_0.out)); obtain ⟨ce9, hcl9, hM9, hcc9, hfr9⟩ := Kd.Q_elem HX9.out z74 (x5_1 : Int) (of_decide_eq_true y3_) (by have h_ : (x5_1 : Int) < ((x0_1.length : Int) : Int) := of_decide_eq_true y3_; first | exact h_ | (have e_ := (Kd.Q_reads' HO_0.out).1; omega) | simpa using h_); obtain rfl := k74_openM hM9; have HP9 := Kd.Q_seg HX9.out (x5_1 : Int) (of_decide_eq_true y3_) (by have h_ : (x5_1 : Int) < ((x0_1.length : Int) : Int) := of_decide_eq_true y3_; first | exact h_ | (have e_ := (Kd.Q_reads' HO_0.out).1; omega) | simpa using h_) (seg := [.int .i64 x1_1]) (j := 0) hcl9 hcc9 (show 1 ≤ 2 from by decide) (x' := (⟨x1_1, (rd_T74 x0_1 x5_1).f1⟩ : S74)) (k74_mkM _ _ _ (⟨x1_1, (rd_T74 x0_1 x5_1).f1⟩ : S74) ) (fun _ hk => hk); have hx9_0 := hcc9 0 _ rfl; (try simp only [show (k74).sz = 2 from rfl, Nat.mul_one, Nat.add_zero] at hx9_0); have hf9_0 := hfr9 0; (try simp only [show (k74).sz = 2 from rfl, Nat.mul_one, Nat.add_zero] at hf9_0); clear hcl9 hcc9 hfr9 hM9; go_wp2_with (first | ((with_reducible refine gate_store (t := 3) (p := 16) rfl ?_); refine store_event (t := 3) (p := 16) (v := ?vo_w10) (w1 := (wr.setCell ⟨go5, oo5 + (x5_1 : Int).toNat * 2, none⟩ (.int .i64 x1_1))) ?hg ?ho ?hn ?hr ?_; (case ho => rfl); (case hg => rfl); (case hn => rfl); (case hr => go_simp; try rfl); intro w10 hw; have hg : wr.grownBy w10 (some go5) := (by rw [hw]; exact HP9.2); have hp_ : Kd.Q k74 74 w10 w0.heap.size (fun k_ => (P0_ k_ ∨ w.heap.size ≤ k_)) (.slice (some ⟨go5, oo5, none⟩) x0_1.length co8) y123 := (by rw [hw, Ny123.out]; exact HP9.1); clear HP9; replace HB := am_ ((by rw [hw]; exact below_set (HB.out) GB5.out : Below w0.heap.size w0 w10)); replace HK := am_ (Kept.of_grown (S := (fun k_ => P0_ k_)) hg (y16_ HK.out) (fun k_ e_ => (HO_0.out.1 k_ e_))); replace HO_0 := am_ hp_; clear hg hw hp_) | ((with_reducible refine gate_store (t := 9) (p := 24) rfl ?_); refine store_event (t := 9) (p := 24) (v := ?vo_w13) (w1 := (w11.setCell ⟨go5, oo5 + (x5_1 : Int).toNat * 2 + 1, none⟩ (.string t124))) ?hg ?ho ?hn ?hr ?_; (case ho => rfl); (case hg => rfl); (case hn => rfl); (case hr => go_simp; try rfl); intro w13 hw; have hg : w11.grownBy w13 (some go5) := (by rw [hw]; exact HP12.2); have hp_ : Kd.Q k74 74 w13 w0.heap.size (fun k_ => (P0_ k_ ∨ w.heap.size ≤ k_)) (.slice (some ⟨go5, oo5, none⟩) x0_1.length co8) y125 := (by rw [hw, Ny125.out]; exact HP12.1); clear HP12; replace HB := am_ ((by rw [hw]; exact below_set (HB.out) GB5.out : Below w0.heap.size w0 w13)); replace HK := am_ (Kept.of_grown (S := (fun k_ => P0_ k_)) hg (y16_ HK.out) (fun k_ e_ => (HO_0.out.1 k_ e_))); replace HO_0 := am_ hp_; clear hg hw hp_) | ((with_reducible refine gl_ ?_); first | ((with_reducible refine gf_ 46 22 rfl rfl ?_); refine gb_ (laws_markText.calls A6.out) ?_; intro w11 hb; replace HO_0 := am_ (Kd.Q_below (y13_ HO_0.out) hb); replace HK := am_ (Kept.below (S := (fun k_ => P0_ k_)) (y16_ HK.out) hb); replace HB := st_ (y7_ HB.out) hb; clear hb; have p7 : 0 ≤ (x5_1 : Int) := of_decide_eq_true y3_; have q7 : (x5_1 : Int) < ((x0_1.length : Int) : Int) := of_decide_eq_true y3_; obtain ⟨ce7, hcl7, hM7, hcc7, hfr7⟩ := Kd.Q_elem HO_0.out z74 (x5_1 : Int) p7 q7; obtain rfl := k74_openM hM7; have hx7_0 : w11.cell? ⟨go5, oo5 + (x5_1 : Int).toNat * 2, none⟩ = some (.int .i64 ((rd_T74 y123 x5_1).f0)) := hcc7 0 _ rfl; have hx7_1 : w11.cell? ⟨go5, oo5 + (x5_1 : Int).toNat * 2 + 1, none⟩ = some (.string ((rd_T74 y123 x5_1).f1)) := hcc7 1 _ rfl; have hf7_0 : w11.frozen? ⟨go5, oo5 + (x5_1 : Int).toNat * 2, none⟩ = false := hfr7 0; have hf7_1 : w11.frozen? ⟨go5, oo5 + (x5_1 : Int).toNat * 2 + 1, none⟩ = false := hfr7 1; clear hcl7 hcc7 hfr7 hM7; replace p7 := eq_true p7; replace q7 := eq_true q7; have HX12 := am_ (show Kd.Q k74 74 w11 w0.heap.size (fun k_ => (P0_ k_ ∨ w.heap.size ≤ k_)) (.slice (some ⟨go5, oo5, none⟩) x0_1.length co8) y123 from (y13_ HO_0.out)); obtain ⟨ce12, hcl12, hM12, hcc12, hfr12⟩ := Kd.Q_elem HX12.out z74 (x5_1 : Int) (of_decide_eq_true y3_) (by have h_ : (x5_1 : Int) < ((x0_1.length : Int) : Int) := of_decide_eq_true y3_; first | exact h_ | (have e_ := (Kd.Q_reads' HO_0.out).1; omega) | simpa using h_); obtain rfl := k74_openM hM12; have HP12 := Kd.Q_seg HX12.out (x5_1 : Int) (of_decide_eq_true y3_) (by have h_ : (x5_1 : Int) < ((x0_1.length : Int) : Int) := of_decide_eq_true y3_; first | exact h_ | (have e_ := (Kd.Q_reads' HO_0.out).1; omega) | simpa using h_) (seg := [.string t124]) (j := 1) hcl12 hcc12 (show 2 ≤ 2 from by decide) (x' := (⟨(rd_T74 y123 x5_1).f0, t124⟩ : S74)) (k74_mkM _ _ _ (⟨(rd_T74 y123 x5_1).f0, t124⟩ : S74) ) (fun _ hk => hk); have hx12_1 := hcc12 1 _ rfl; (try simp only [show (k74).sz = 2 from rfl, Nat.mul_one, Nat.add_zero] at hx12_1); have hf12_1 := hfr12 1; (try simp only [show (k74).sz = 2 from rfl, Nat.mul_one, Nat.add_zero] at hf12_1); clear hcl12 hcc12 hfr12 hM12)))
        go_roundg k1
        case measure => have := HK1.out; omega
        case rel => exact ⟨(y125), (wrap64 ((wrap64 (x1_1 + 1)) + 1)), (wrap64 (x5_1 + 1)), y4_, y4_, H', ⟨by have := HK1.out; omega⟩, ⟨y13_ HO_0.out⟩, ⟨y16_ HK.out⟩, ⟨y7_ HB.out⟩⟩
      intro c3b0; intro H; replace H := op2_ H; obtain ⟨rfl, rfl⟩ := H; obtain ⟨Ao14, co14, eo14, _⟩ := Kd.Q_slice HO_0.out; subst eo14; go_wp2; go_ret; exact ⟨y6_, y13_ HO_0.out, y7_ HB.out, y16_ HK.out⟩

/-! ### laws_markMemMember: function 14 -/
def laws_markMemMember.f (k : Nat) (a0_0 : Bool) (a0_1 : Int) (l0_2 : List ByteArray) (l0_3 : List (S74)) (a0_4 : Int) (a0_5 : ByteArray) (a0_6 : ByteArray) (a1 : Int) : Option (Int × List ByteArray × (List (S74))) := (laws_markTreTree.f k l0_2 a1).bind fun bt127 => ((laws_markMemOwnS.f k l0_3 bt127.1).bind fun bt129 => (some (bt129.1, bt127.2, bt129.2)))
set_option maxHeartbeats 8000000 in
set_option maxRecDepth 100000 in
theorem laws_markMemMember.calls {k : Nat} {a0_0 : Bool} {a0_1 : Int} {P0_2_ : Nat → Prop} {u9000_ : Value} {l0_2 : List ByteArray} {P0_3_ : Nat → Prop} {u9001_ : Value} {l0_3 : List (S74)} {a0_4 : Int} {a0_5 : ByteArray} {a0_6 : ByteArray} {a1 : Int} {r1 : Int} {r2 : List ByteArray} {r3 : List (S74)} {w0 w : World} (hB : Below w0.heap.size w0 w) (ho0_2 : Kd.Q Kd.string 9 w w0.heap.size P0_2_ u9000_ l0_2) (ho0_3 : Kd.Q k74 74 w w0.heap.size P0_3_ u9001_ l0_3) (H : laws_markMemMember.f k a0_0 a0_1 l0_2 l0_3 a0_4 a0_5 a0_6 a1 = some (r1, r2, r3)) :
    Calls Tryz.prog 14 #[.agg #[.bool a0_0, .int .i64 a0_1, u9000_, u9001_, .int .i64 a0_4, .string a0_5, .string a0_6], .int .i64 a1] w fun e w' => e = .returned (.int .i64 r1) ∧ Kd.Q Kd.string 9 w' w0.heap.size (fun k_ => ((P0_2_ k_ ∨ P0_3_ k_) ∨ w.heap.size ≤ k_)) u9000_ r2 ∧ Kd.Q k74 74 w' w0.heap.size (fun k_ => ((P0_2_ k_ ∨ P0_3_ k_) ∨ w.heap.size ≤ k_)) u9001_ r3 ∧ Below w0.heap.size w0 w' ∧ Kept w w' (fun k_ => P0_2_ k_ ∨ P0_3_ k_) := by
  have hu33 := Tryz.underlying33; have hu30 := Tryz.underlying30; have HO0_2 := am_ (show Kd.Q Kd.string 9 w w0.heap.size (fun k_ => ((P0_2_ k_ ∨ P0_3_ k_) ∨ w.heap.size ≤ k_)) u9000_ l0_2 from Kd.Q_mono ho0_2 (fun k_ hk => (.inl (.inl hk)))); have HO0_3 := am_ (show Kd.Q k74 74 w w0.heap.size (fun k_ => ((P0_2_ k_ ∨ P0_3_ k_) ∨ w.heap.size ≤ k_)) u9001_ l0_3 from Kd.Q_mono ho0_3 (fun k_ hk => (.inl (.inr hk)))); have HK := am_ (Kept.refl w (fun k_ => P0_2_ k_ ∨ P0_3_ k_)); have HW0 := am_ hB.size; have HB := am_ hB; clear hB; revert H; unfold laws_markMemMember.f; refine oc_ ?_; rintro ⟨t127, t128⟩ A3 H; dsimp only at H; revert H; refine oc_ ?_; rintro ⟨t129, t130⟩ A4 H; dsimp only at H; revert H; intro H; replace H := op3_ H; obtain ⟨rfl, rfl, rfl⟩ := H; obtain ⟨Ao5, co5, eo5, _⟩ := Kd.Q_slice HO0_2.out; subst eo5; obtain ⟨Ao6, co6, eo6, _⟩ := Kd.Q_slice HO0_3.out; subst eo6; go_enter Tryz.func14, Tryz.ntmps14; go_wp2_with (first | ((with_reducible refine gate_dst (N := 2) rfl ?_); refine box_event ?hg (N := 2) ?hd (cs := #[.bool a0_0, .int .i64 a0_1, .slice Ao5 l0_2.length co5, .slice Ao6 l0_3.length co6, .int .i64 a0_4, .string a0_5, .string a0_6]) (t := 33) ?hr ?_; (case hd => rfl); (case hg => rfl); (case hr => go_simp; try rfl); intro gb126 hg w7 hbox hb; replace HO0_2 := am_ (Kd.Q_below (y13_ HO0_2.out) hb); replace HO0_3 := am_ (Kd.Q_below (y13_ HO0_3.out) hb); have BK126 := am_ hbox; have GW126 := am_ ((by rw [hg]; exact (by first | exact HK.out.1 | exact (show Kept w _ (fun k_ => P0_2_ k_ ∨ P0_3_ k_) from y16_ HK.out).1) : w.heap.size ≤ gb126)); replace HK := am_ (Kept.below (S := (fun k_ => P0_2_ k_ ∨ P0_3_ k_)) (y16_ HK.out) hb); have GE126 := ge_ (w0 := w0) hg (y7_ HB.out); replace HB := st_ (y7_ HB.out) hb; clear hb hbox hg; have hcz8 := cc7_ BK126.out; have hfz8 := cf7_ BK126.out) | ((with_reducible refine gl_ ?_); first | ((with_reducible refine gf_ 44 8 rfl rfl ?_); refine gc_ (laws_markTreTree.calls (yb_ HB.out) (Kd.Q_tight rfl HO0_2.out) A3.out) ?_; rintro e w9 ⟨rfl, hy0, hb, hkp⟩; refine ⟨_, rfl, ?_⟩; replace HO0_3 := am_ (Kd.Q_mono (ok' := fun k_ => ((P0_2_ k_ ∨ P0_3_ k_) ∨ w.heap.size ≤ k_)) (Kd.Q_keptB ((Kd.Q_apart' HO0_3.out (Kd.Q_typed HO0_2.out) (by decide))) hkp (fun k_ hk_ hs_ => (hk_.2) hs_)) (fun k_ hk_ => hk_.1.1)); replace BK126 := am_ (blk_kept (y12_ BK126.out) hkp (rn_ HO0_2.out BK126.out)); replace HK := am_ (Kept.then_ (S := (fun k_ => P0_2_ k_ ∨ P0_3_ k_)) (by repeat (first | (with_reducible first | exact HK.out | apply Kept.alloc | apply Kept.drewN | apply Kept.drew | refine Kept.setCell ?_ (.inr GW126.out) _) | exact HK.out)) hkp (fun k_ hs_ => (fun e_ => (HO0_2.out.1 k_ e_.symm)) hs_)); replace HO0_2 := am_ (Kd.Q_reok rfl hy0 (fun k_ e_ => HO0_2.out.1 k_ e_)); replace HB := am_ hb; (try clear hb); (try clear hkp); (try clear hy0); have hcz10 := cc7_ BK126.out; have hfz10 := cf7_ BK126.out) | ((with_reducible refine gf_ 45 12 rfl rfl ?_); refine gc_ (laws_markMemOwnS.calls (yb_ HB.out) (Kd.Q_tight rfl HO0_3.out) A4.out) ?_; rintro e w11 ⟨rfl, hy0, hb, hkp⟩; refine ⟨_, rfl, ?_⟩; replace HO0_2 := am_ (Kd.Q_mono (ok' := fun k_ => ((P0_2_ k_ ∨ P0_3_ k_) ∨ w.heap.size ≤ k_)) (Kd.Q_keptB ((Kd.Q_apart' HO0_2.out (Kd.Q_typed HO0_3.out) (by decide))) hkp (fun k_ hk_ hs_ => (hk_.2) hs_)) (fun k_ hk_ => hk_.1.1)); replace BK126 := am_ (blk_kept (y12_ BK126.out) hkp (rn_ HO0_3.out BK126.out)); replace HK := am_ (Kept.then_ (S := (fun k_ => P0_2_ k_ ∨ P0_3_ k_)) (by repeat (first | (with_reducible first | exact HK.out | apply Kept.alloc | apply Kept.drewN | apply Kept.drew | refine Kept.setCell ?_ (.inr GW126.out) _) | exact HK.out)) hkp (fun k_ hs_ => (fun e_ => (HO0_3.out.1 k_ e_.symm)) hs_)); replace HO0_3 := am_ (Kd.Q_reok rfl hy0 (fun k_ e_ => HO0_3.out.1 k_ e_)); replace HB := am_ hb; (try clear hb); (try clear hkp); (try clear hy0)))); go_ret; exact ⟨y6_, y13_ HO0_2.out, y13_ HO0_3.out, yb_ HB.out, by repeat (first | (with_reducible first | exact HK.out | apply Kept.alloc | apply Kept.drewN | apply Kept.drew | refine Kept.setCell ?_ (.inr GW126.out) _) | exact HK.out)⟩

/-! ### laws_szStringS: function 47 -/
def laws_szStringS.l0 : Nat → List ByteArray → Int → Int → Option (Int)
  | 0, _, _, _ => none
  | k + 1, x0, x1, x5 => if x5 < (x0.length : Int) then (if 0 ≤ x5 then (if (wrap64 (x1 - ((rdOf ByteArray.empty x0 x5).size : Int))) < 0 then (some (-1)) else (laws_szStringS.l0 k x0 (wrap64 (x1 - ((rdOf ByteArray.empty x0 x5).size : Int))) (wrap64 (x5 + 1)))) else (none)) else (some x1)
def laws_szStringS.f (k : Nat) (l0 : List ByteArray) (a1 : Int) : Option (Int) := if (wrap64 (a1 - (l0.length : Int))) < 0 then (some (-1)) else (laws_szStringS.l0 k l0 (wrap64 (a1 - (l0.length : Int))) 0)
set_option maxHeartbeats 8000000 in
set_option maxRecDepth 100000 in
theorem laws_szStringS.calls {k : Nat} {A0 : Option Addr} {c0 : Nat} {l0 : List ByteArray} {a1 : Int} {r : Int} {w : World} (hr0 : Kd.C Kd.string w A0 l0.length l0) (hc0 : l0.length ≤ c0) (H : laws_szStringS.f k l0 a1 = some r) :
    Calls Tryz.prog 47 #[.slice A0 l0.length c0, .int .i64 a1] w fun e w' => e = .returned (.int .i64 r) ∧ Drawn0 w w' := by
  have HR0 := am_ hr0; have HC0 := am_ hc0; clear hr0 hc0; revert H; unfold laws_szStringS.f; refine it_ ?_ ?_
  · intro c3b0; refine oj_ ?_; rintro rfl; go_enter Tryz.func47, Tryz.ntmps47; go_wp2; go_ret; exact ⟨by first | rfl | (simp; done) | (simp [*]; done), by repeat (first | exact Drawn0.refl _ | apply Drawn0.step)⟩
  intro c3b0; refine ai_ fun H' => ?_; go_enter Tryz.func47, Tryz.ntmps47; go_wp2
  go_loopg [1, 5] k (fun kq v1 v5 w' => ∃ (x1_1 : Int) (x5_1 : Int), v1 = .int .i64 x1_1 ∧ v5 = .int .i64 x5_1 ∧ Aside0 (laws_szStringS.l0 kq l0 x1_1 x5_1 = some r) ∧ Aside0 (kq ≤ k) ∧ Drawn0 w w')
  case atStart => exact ⟨(wrap64 (a1 - (l0.length : Int))), (0), y4_, y4_, H', ⟨Nat.le_refl _⟩, by repeat (first | exact Drawn0.refl _ | apply Drawn0.step)⟩
  case round =>
    clear H'; (try clear c3b0); obtain ⟨x1_1, x5_1, rfl, rfl, HA, HK1, ⟨m1, rfl⟩⟩ := hrel
    cases gk with
    | zero => exact absurd HA.out (by simp [laws_szStringS.l0])
    | succ k1 =>
      have H := HA.out; clear HA; simp only [laws_szStringS.l0] at H; revert H; refine it_ ?_ ?_
      · intro c4b0
        refine in_ fun c5b0 => ?_
        refine it_ ?_ ?_
        · intro c6b0; refine oj_ ?_; rintro rfl; obtain ⟨ad131, e131, p131, q131, hx131_0⟩ := as_ (Kd.at_string HR0.out x5_1); cases e131; go_wp2; go_ret; exact ⟨by first | rfl | (simp; done) | (simp [*]; done), by repeat (first | exact Drawn0.refl _ | apply Drawn0.step)⟩
        intro c6b0; refine ai_ fun H' => ?_; obtain ⟨ad131, e131, p131, q131, hx131_0⟩ := as_ (Kd.at_string HR0.out x5_1); cases e131; go_wp2
        go_roundg k1
        case measure => have := HK1.out; omega
        case rel => exact ⟨(wrap64 (x1_1 - ((rdOf ByteArray.empty l0 x5_1).size : Int))), (wrap64 (x5_1 + 1)), y4_, y4_, H', ⟨by have := HK1.out; omega⟩, by repeat (first | exact Drawn0.refl _ | apply Drawn0.step)⟩
      intro c4b0; refine oj_ ?_; rintro rfl; go_wp2; go_ret; exact ⟨by first | rfl | (simp; done) | (simp [*]; done), by repeat (first | exact Drawn0.refl _ | apply Drawn0.step)⟩

/-! ### laws_szKnwBox: function 90 -/
def laws_szKnwBox.f (a0_0 : ByteArray) (a0_1 : ByteArray) (a1 : Int) : Option (Int) := if (wrap64 (a1 - (a0_0.size : Int))) < 0 then (some (-1)) else (if (wrap64 ((wrap64 (a1 - (a0_0.size : Int))) - (a0_1.size : Int))) < 0 then (some (-1)) else (some (wrap64 ((wrap64 (a1 - (a0_0.size : Int))) - (a0_1.size : Int)))))
theorem laws_szKnwBox.W {P : Prop} (h : P := by
  go_enter Tryz.func90, Tryz.ntmps90
  go_wp2_with ((with_reducible refine gl_ ?_); first | ((with_reducible refine gx_ 2 rfl ?_); refine bx_ 2 43 #[.string a0_0, .string a0_1] ?_; intro gb132 hg w_ BK132 hb; have GW132 := ge_ (w0 := w) hg (y7_ HB.out); have GE132 := ge_ (w0 := w) hg (y7_ HB.out); replace HB := st_ (y7_ HB.out) hb; clear hb hg; have hz_ := cc2_ BK132.out; have hz_ := cf2_ BK132.out))
  go_ret
  exact ⟨y6_, yb_ HB.out⟩) : P := h
set_option maxHeartbeats 8000000 in
set_option maxRecDepth 100000 in
theorem laws_szKnwBox.calls {a0_0 : ByteArray} {a0_1 : ByteArray} {a1 : Int} {r : Int} {w : World} (H : laws_szKnwBox.f a0_0 a0_1 a1 = some r) :
    Calls Tryz.prog 90 #[.agg #[.string a0_0, .string a0_1], .int .i64 a1] w fun e w' => e = .returned (.int .i64 r) ∧ Below w.heap.size w w' := by
  have hu43 := Tryz.underlying43; have HB := am_ (Below.refl w.heap.size w); revert H; unfold laws_szKnwBox.f; refine it_ ?_ ?_
  · intro c3b0; refine oj_ ?_; rintro rfl; exact laws_szKnwBox.W
  intro c3b0
  refine it_ ?_ ?_
  · intro c6b0; refine oj_ ?_; rintro rfl; exact laws_szKnwBox.W
  intro c6b0; refine oj_ ?_; rintro rfl; exact laws_szKnwBox.W

/-! ### laws_szKnwBoxS: function 48 -/
def laws_szKnwBoxS.l0 : Nat → List (S43) → Int → Int → Option (Int)
  | 0, _, _, _ => none
  | k + 1, x0, x1, x5 => if x5 < (x0.length : Int) then (if 0 ≤ x5 then ((laws_szKnwBox.f ((rd_T43 x0 x5).f0) ((rd_T43 x0 x5).f1) x1).bind fun t134 => (if t134 < 0 then (some (-1)) else (laws_szKnwBoxS.l0 k x0 t134 (wrap64 (x5 + 1))))) else (none)) else (some x1)
def laws_szKnwBoxS.f (k : Nat) (l0 : List (S43)) (a1 : Int) : Option (Int) := if (wrap64 (a1 - (l0.length : Int))) < 0 then (some (-1)) else (laws_szKnwBoxS.l0 k l0 (wrap64 (a1 - (l0.length : Int))) 0)
set_option maxHeartbeats 8000000 in
set_option maxRecDepth 100000 in
theorem laws_szKnwBoxS.calls {k : Nat} {A0 : Option Addr} {c0 : Nat} {l0 : List (S43)} {a1 : Int} {r : Int} {w : World} (hr0 : Kd.C k43 w A0 l0.length l0) (hc0 : l0.length ≤ c0) (H : laws_szKnwBoxS.f k l0 a1 = some r) :
    Calls Tryz.prog 48 #[.slice A0 l0.length c0, .int .i64 a1] w fun e w' => e = .returned (.int .i64 r) ∧ Below w.heap.size w w' := by
  have hu43 := Tryz.underlying43; have HR0 := am_ hr0; have HC0 := am_ hc0; clear hr0 hc0; have HB := am_ (Below.refl w.heap.size w); revert H; unfold laws_szKnwBoxS.f; refine it_ ?_ ?_
  · intro c3b0; refine oj_ ?_; rintro rfl; go_enter Tryz.func48, Tryz.ntmps48; go_wp2; go_ret; exact ⟨y6_, y7_ HB.out⟩
  intro c3b0; refine ai_ fun H' => ?_; go_enter Tryz.func48, Tryz.ntmps48; go_wp2
  go_loopg [1, 5] k (fun kq v1 v5 w' => ∃ (x1_1 : Int) (x5_1 : Int), v1 = .int .i64 x1_1 ∧ v5 = .int .i64 x5_1 ∧ Aside0 (laws_szKnwBoxS.l0 kq l0 x1_1 x5_1 = some r) ∧ Aside0 (kq ≤ k) ∧ Aside0 (Below w.heap.size w w'))
  case atStart => exact ⟨(wrap64 (a1 - (l0.length : Int))), (0), y4_, y4_, H', ⟨Nat.le_refl _⟩, ⟨y7_ HB.out⟩⟩
  case round =>
    clear H'; (try clear c3b0); obtain ⟨x1_1, x5_1, rfl, rfl, HA, HK1, HB⟩ := hrel
    cases gk with
    | zero => exact absurd HA.out (by simp [laws_szKnwBoxS.l0])
    | succ k1 =>
      have H := HA.out; clear HA; simp only [laws_szKnwBoxS.l0] at H; revert H; refine it_ ?_ ?_
      · intro c4b0
        refine in_ fun c5b0 => ?_
        refine oc_ fun t134 A6 => ?_; refine ai_ fun HH => ?_
        have p133 : 0 ≤ (x5_1 : Int) := of_decide_eq_true y3_; have q133 : x5_1 < (l0.length : Int) := of_decide_eq_true y3_; obtain ⟨ad133, e133, hx133_0, hx133_1⟩ := at_T43 HR0.out x5_1 p133 q133
        cases e133
        replace hx133_0 := (HB.out.cell (World.block_lt_of_cell? w _ hx133_0)).trans hx133_0; replace hx133_1 := (HB.out.cell (World.block_lt_of_cell? w _ hx133_1)).trans hx133_1; replace p133 := eq_true p133; replace q133 := eq_true q133
        obtain ⟨H⟩ := HH; revert H; refine it_ ?_ ?_
        · intro c7b0; (try simp only [em_, bne, c7b0, Bool.not_true, Bool.not_false])
          refine oj_ ?_; rintro rfl
          go_wp2_with ((with_reducible refine gl_ ?_); first | ((with_reducible refine gf_ 90 23 rfl rfl ?_); refine gb_ (laws_szKnwBox.calls A6.out) ?_; intro w8 hb; replace HB := st_ (y7_ HB.out) hb; clear hb)); go_ret; exact ⟨y6_, y7_ HB.out⟩
        intro c7b0; (try simp only [em_, bne, c7b0, Bool.not_true, Bool.not_false])
        refine ai_ fun H' => ?_
        go_wp2_with ((with_reducible refine gl_ ?_); first | ((with_reducible refine gf_ 90 23 rfl rfl ?_); refine gb_ (laws_szKnwBox.calls A6.out) ?_; intro w9 hb; replace HB := st_ (y7_ HB.out) hb; clear hb))
        go_roundg k1
        case measure => have := HK1.out; omega
        case rel => exact ⟨(t134), (wrap64 (x5_1 + 1)), y4_, y4_, H', ⟨by have := HK1.out; omega⟩, ⟨y7_ HB.out⟩⟩
      intro c4b0; refine oj_ ?_; rintro rfl; go_wp2; go_ret; exact ⟨y6_, y7_ HB.out⟩

/-! ### laws_szCmtWelcome: function 49 -/
def laws_szCmtWelcome.f (a0_0 : ByteArray) (a0_1 : ByteArray) (a0_2 : ByteArray) (a0_3 : ByteArray) (a0_4 : ByteArray) (a1 : Int) : Option (Int) := if (wrap64 (a1 - (a0_0.size : Int))) < 0 then (some (-1)) else ((laws_szKnwBox.f a0_1 a0_2 (wrap64 (a1 - (a0_0.size : Int)))).bind fun t136 => (if t136 < 0 then (some (-1)) else ((laws_szKnwBox.f a0_3 a0_4 t136).bind fun t137 => (if t137 < 0 then (some (-1)) else (some t137)))))
theorem laws_szCmtWelcome.W {P : Prop} (h : P := by
  go_enter Tryz.func49, Tryz.ntmps49
  go_wp2_with ((with_reducible refine gl_ ?_); first | ((with_reducible refine gx_ 2 rfl ?_); refine bx_ 2 45 #[.string a0_0, .string a0_1, .string a0_2, .string a0_3, .string a0_4] ?_; intro gb135 hg w_ BK135 hb; have GW135 := ge_ (w0 := w) hg (y7_ HB.out); have GE135 := ge_ (w0 := w) hg (y7_ HB.out); replace HB := st_ (y7_ HB.out) hb; clear hb hg; have hz_ := cc5_ BK135.out; have hz_ := cf5_ BK135.out) | ((with_reducible refine gf_ 90 15 rfl rfl ?_); refine gb_ (laws_szKnwBox.calls A6.out) ?_; intro w_ hb; replace BK135 := bk_ BK135 hb; replace HB := st_ (yb_ HB.out) hb; clear hb; have hz_ := cc5_ BK135.out; have hz_ := cf5_ BK135.out) | ((with_reducible refine gf_ 90 21 rfl rfl ?_); refine gb_ (laws_szKnwBox.calls A11.out) ?_; intro w_ hb; replace BK135 := bk_ BK135 hb; replace HB := st_ (yb_ HB.out) hb; clear hb))
  go_ret
  exact ⟨y6_, yb_ HB.out⟩) : P := h
set_option maxHeartbeats 8000000 in
set_option maxRecDepth 100000 in
theorem laws_szCmtWelcome.calls {a0_0 : ByteArray} {a0_1 : ByteArray} {a0_2 : ByteArray} {a0_3 : ByteArray} {a0_4 : ByteArray} {a1 : Int} {r : Int} {w : World} (H : laws_szCmtWelcome.f a0_0 a0_1 a0_2 a0_3 a0_4 a1 = some r) :
    Calls Tryz.prog 49 #[.agg #[.string a0_0, .string a0_1, .string a0_2, .string a0_3, .string a0_4], .int .i64 a1] w fun e w' => e = .returned (.int .i64 r) ∧ Below w.heap.size w w' := by
  have hu45 := Tryz.underlying45; have hu43 := Tryz.underlying43; have HB := am_ (Below.refl w.heap.size w); revert H; unfold laws_szCmtWelcome.f; refine it_ ?_ ?_
  · intro c3b0; refine oj_ ?_; rintro rfl; exact laws_szCmtWelcome.W
  intro c3b0
  refine oc_ fun t136 A6 => ?_; refine it_ ?_ ?_
  · intro c7b0; refine oj_ ?_; rintro rfl; exact laws_szCmtWelcome.W
  intro c7b0
  refine oc_ fun t137 A11 => ?_; refine it_ ?_ ?_
  · intro c12b0; refine oj_ ?_; rintro rfl; exact laws_szCmtWelcome.W
  intro c12b0; refine oj_ ?_; rintro rfl; exact laws_szCmtWelcome.W

/-! ### laws_szCmtCommit: function 17 -/
def laws_szCmtCommit.f (k : Nat) (a0_0 : Int) (a0_1 : ByteArray) (a0_2 : ByteArray) (a0_3 : Int) (a0_4 : Int) (a0_5 : ByteArray) (l0_6 : List ByteArray) (l0_7 : List (S43)) (a0_8 : ByteArray) (a0_9 : ByteArray) (a0_10 : ByteArray) (a0_11 : ByteArray) (a0_12 : ByteArray) (a1 : Int) : Option (Int) := if (wrap64 (a1 - (a0_1.size : Int))) < 0 then (some (-1)) else (if (wrap64 ((wrap64 (a1 - (a0_1.size : Int))) - (a0_2.size : Int))) < 0 then (some (-1)) else (if (wrap64 ((wrap64 ((wrap64 (a1 - (a0_1.size : Int))) - (a0_2.size : Int))) - (a0_5.size : Int))) < 0 then (some (-1)) else ((laws_szStringS.f k l0_6 (wrap64 ((wrap64 ((wrap64 (a1 - (a0_1.size : Int))) - (a0_2.size : Int))) - (a0_5.size : Int)))).bind fun t139 => (if t139 < 0 then (some (-1)) else ((laws_szKnwBoxS.f k l0_7 t139).bind fun t140 => (if t140 < 0 then (some (-1)) else ((laws_szCmtWelcome.f a0_8 a0_9 a0_10 a0_11 a0_12 t140).bind fun t141 => (if t141 < 0 then (some (-1)) else (some t141)))))))))
theorem laws_szCmtCommit.W {P : Prop} (h : P := by
  go_enter Tryz.func17, Tryz.ntmps17
  go_wp2_with ((with_reducible refine gl_ ?_); first | ((with_reducible refine gx_ 2 rfl ?_); refine bx_ 2 47 #[.int .i64 a0_0, .string a0_1, .string a0_2, .int .i64 a0_3, .int .i64 a0_4, .string a0_5, .slice A0_6 l0_6.length c0_6, .slice A0_7 l0_7.length c0_7, .string a0_8, .string a0_9, .string a0_10, .string a0_11, .string a0_12] ?_; intro gb138 hg w_ BK138 hb; have GW138 := ge_ (w0 := w) hg (y7_ HB.out); have GE138 := ge_ (w0 := w) hg (y7_ HB.out); replace HB := st_ (y7_ HB.out) hb; clear hb hg; have hz_ := cc13_ BK138.out; have hz_ := cf13_ BK138.out) | ((with_reducible refine gf_ 47 29 rfl rfl ?_); refine gd_ (laws_szStringS.calls (y17_ (Kd.C_below HR0_6.out HB.out)) HC0_6.out A12.out) ?_; intro nd) | ((with_reducible refine gf_ 48 35 rfl rfl ?_); refine gb_ (laws_szKnwBoxS.calls ?side1 HC0_7.out A16.out) ?_; (case side1 => repeat (first | exact (Kd.C_below HR0_7.out (yb_ HB.out)) | (with_reducible refine Kd.C_alloc ?_ _) | (with_reducible refine Kd.C_drewN ?_ _) | (with_reducible refine Kd.C_drew ?_))); intro w_ hb; replace BK138 := bk_ BK138 hb; replace HB := st_ (yb_ HB.out) hb; clear hb; have hz_ := cc13_ BK138.out; have hz_ := cf13_ BK138.out) | ((with_reducible refine gf_ 49 41 rfl rfl ?_); refine gb_ (laws_szCmtWelcome.calls A21.out) ?_; intro w_ hb; replace BK138 := bk_ BK138 hb; replace HB := st_ (yb_ HB.out) hb; clear hb))
  go_ret
  exact ⟨y6_, yb_ HB.out⟩) : P := h
set_option maxHeartbeats 8000000 in
set_option maxRecDepth 100000 in
theorem laws_szCmtCommit.calls {k : Nat} {a0_0 : Int} {a0_1 : ByteArray} {a0_2 : ByteArray} {a0_3 : Int} {a0_4 : Int} {a0_5 : ByteArray} {A0_6 : Option Addr} {c0_6 : Nat} {l0_6 : List ByteArray} {A0_7 : Option Addr} {c0_7 : Nat} {l0_7 : List (S43)} {a0_8 : ByteArray} {a0_9 : ByteArray} {a0_10 : ByteArray} {a0_11 : ByteArray} {a0_12 : ByteArray} {a1 : Int} {r : Int} {w : World} (hr0_6 : Kd.C Kd.string w A0_6 l0_6.length l0_6) (hc0_6 : l0_6.length ≤ c0_6) (hr0_7 : Kd.C k43 w A0_7 l0_7.length l0_7) (hc0_7 : l0_7.length ≤ c0_7) (H : laws_szCmtCommit.f k a0_0 a0_1 a0_2 a0_3 a0_4 a0_5 l0_6 l0_7 a0_8 a0_9 a0_10 a0_11 a0_12 a1 = some r) :
    Calls Tryz.prog 17 #[.agg #[.int .i64 a0_0, .string a0_1, .string a0_2, .int .i64 a0_3, .int .i64 a0_4, .string a0_5, .slice A0_6 l0_6.length c0_6, .slice A0_7 l0_7.length c0_7, .string a0_8, .string a0_9, .string a0_10, .string a0_11, .string a0_12], .int .i64 a1] w fun e w' => e = .returned (.int .i64 r) ∧ Below w.heap.size w w' := by
  have hu47 := Tryz.underlying47; have hu45 := Tryz.underlying45; have HR0_6 := am_ hr0_6; have HC0_6 := am_ hc0_6; clear hr0_6 hc0_6; have HR0_7 := am_ hr0_7; have HC0_7 := am_ hc0_7; clear hr0_7 hc0_7; have HB := am_ (Below.refl w.heap.size w); revert H; unfold laws_szCmtCommit.f; refine it_ ?_ ?_
  · intro c3b0; refine oj_ ?_; rintro rfl; exact laws_szCmtCommit.W
  intro c3b0
  refine it_ ?_ ?_
  · intro c6b0; refine oj_ ?_; rintro rfl; exact laws_szCmtCommit.W
  intro c6b0
  refine it_ ?_ ?_
  · intro c9b0; refine oj_ ?_; rintro rfl; exact laws_szCmtCommit.W
  intro c9b0
  refine oc_ fun t139 A12 => ?_; refine it_ ?_ ?_
  · intro c13b0; refine oj_ ?_; rintro rfl; exact laws_szCmtCommit.W
  intro c13b0
  refine oc_ fun t140 A16 => ?_; refine it_ ?_ ?_
  · intro c17b0; refine oj_ ?_; rintro rfl; exact laws_szCmtCommit.W
  intro c17b0
  refine oc_ fun t141 A21 => ?_; refine it_ ?_ ?_
  · intro c22b0; refine oj_ ?_; rintro rfl; exact laws_szCmtCommit.W
  intro c22b0; refine oj_ ?_; rintro rfl; exact laws_szCmtCommit.W

/-! ### spec_l1In: function 26 -/
def spec_l1In.f (a0 : Int) (a1 : Int) (a2 : Int) : Option (Bool) := if a0 ≥ a1 then (some (decide (a0 ≤ a2))) else (some false)
theorem spec_l1In.W {P : Prop} (h : P := by
  go_enter Tryz.func26, Tryz.ntmps26
  go_wp2
  go_ret
  exact ⟨by first | rfl | (simp; done) | (simp [*]; done), by repeat (first | exact Drawn0.refl _ | apply Drawn0.step)⟩) : P := h
set_option maxHeartbeats 8000000 in
set_option maxRecDepth 100000 in
theorem spec_l1In.calls {a0 : Int} {a1 : Int} {a2 : Int} {r : Bool} {w : World} (H : spec_l1In.f a0 a1 a2 = some r) :
    Calls Tryz.prog 26 #[.int .i64 a0, .int .i64 a1, .int .i64 a2] w fun e w' => e = .returned (.bool r) ∧ Drawn0 w w' := by
  revert H; unfold spec_l1In.f; refine ith_ ?_ ?_
  · intro c4b0; refine oj_ ?_; rintro rfl; exact spec_l1In.W
  intro c4b0; refine oj_ ?_; rintro rfl; exact spec_l1In.W

/-! ### spec_l1More: function 107 -/
def spec_l1More.f (a0 : Int) (a1 : Int) : Option (Int) := if a1 = 0 then (some 0) else (some (wrap64 (a0 + a1)))
theorem spec_l1More.W {P : Prop} (h : P := by
  go_enter Tryz.func107, Tryz.ntmps107
  go_wp2
  go_ret
  exact ⟨by first | rfl | (simp; done) | (simp [*]; done), by repeat (first | exact Drawn0.refl _ | apply Drawn0.step)⟩) : P := h
set_option maxHeartbeats 8000000 in
set_option maxRecDepth 100000 in
theorem spec_l1More.calls {a0 : Int} {a1 : Int} {r : Int} {w : World} (H : spec_l1More.f a0 a1 = some r) :
    Calls Tryz.prog 107 #[.int .i64 a0, .int .i64 a1] w fun e w' => e = .returned (.int .i64 r) ∧ Drawn0 w w' := by
  revert H; unfold spec_l1More.f; refine ie2_ ?_ ?_
  · intro c3b0 c3b1; refine oj_ ?_; rintro rfl; exact spec_l1More.W
  intro c3 c3b0 c3b1; refine oj_ ?_; rintro rfl; exact spec_l1More.W

/-! ### spec_l1Who: function 130 -/
def spec_l1Who.f (a0 : Int) : Option (ByteArray) := some (strOfNums (([(wrap64 (65 + a0)) % 256] : List Int)))
set_option maxHeartbeats 8000000 in
set_option maxRecDepth 100000 in
theorem spec_l1Who.calls {a0 : Int} {r : ByteArray} {w : World} (H : spec_l1Who.f a0 = some r) :
    Calls Tryz.prog 130 #[.int .i64 a0] w fun e w' => e = .returned (.string r) ∧ Below w.heap.size w w' := by
  have HB := am_ (Below.refl w.heap.size w); revert H; unfold spec_l1Who.f
  generalize hy142 : (([(wrap64 (65 + a0)) % 256] : List Int)) = y142; have Ny142 := am_ hy142.symm; clear hy142; refine oj_ ?_; rintro rfl; go_enter Tryz.func130, Tryz.ntmps130; go_wp2_with (first | ((with_reducible refine gate_dst (N := 6) rfl ?_); refine Kd.R_lit (Kd.int .u8) _ 5 ?hg (N := 6) ?hd (xs := ([(wrap64 (65 + a0)) % 256] : List Int)) (inner := [.int .u8 ((wrap64 (65 + a0)) % 256)]) (ok := fun _ => True) (okp := fun _ => True) ?hr ?hp (fun _ hk => hk) trivial (Below.refl _ _) (Nat.le_refl _) (by simp) ?_; (case hd => rfl); (case hg => rfl); (case hr => go_simp; try rfl); (case hp => exact (Reps.one (show Kd.M (Kd.int .u8) _ _ _ ((wrap64 (65 + a0)) % 256) [.int .u8 ((wrap64 (65 + a0)) % 256)] from rfl) (Reps.none _ _))); intro v143 w2 ho3 hb hg_ hnew_; clear hg_ hnew_; (first | rw [← Ny142.out] at ho3 | (simp only [Int.reduceToNat] at ho3; rw [← Ny142.out] at ho3)); have HO144 := am_ (Kd.R_lower ho3 (below_size (y7_ HB.out))); replace HB := st_ (y7_ HB.out) hb; clear hb ho3; have hcv4 := own_string (P := Tryz.prog) Tryz.underlying109 Tryz.underlying5 Tryz.underlying9 (Kd.own_of_R HO144.out))); go_ret; exact ⟨y6_, y7_ HB.out⟩

end Go.Proofs.YtnemchmiplbopaaGreatDoor.Zj
