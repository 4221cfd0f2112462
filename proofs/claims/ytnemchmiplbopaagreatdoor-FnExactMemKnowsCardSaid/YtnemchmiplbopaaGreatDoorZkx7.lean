-- Written by this session's own program (wip/tools/pp.py) out of the translation, over functions given by hand. Lean checks it.
import Derived.Test.YtnemchmiplbopaaGreatDoorZkx0
import Derived.Test.YtnemchmiplbopaaGreatDoorZkx2
import Derived.Test.YtnemchmiplbopaaGreatDoorZkx5
import Derived.Test.YtnemchmiplbopaaGreatDoorZkx6
namespace Go.Proofs.YtnemchmiplbopaaGreatDoor.Zk
open Go.RowKit Go.Proofs.YtnemchmiplbopaaGreatDoorW.PrintWords Go.Proofs.YtnemchmiplbopaaGreatDoorW.PrintLast Go.Proofs.YtnemchmiplbopaaGreatDoorW.PrintMore
attribute [local go_sem] max2_int min2_int max_two min_two max_three min_three max_four min_four   -- for this text's walks alone
set_option linter.unusedVariables false
set_option linter.unusedSimpArgs false

/-! ### spec_TreOk: function 27 -/
mutual
def spec_TreOk.l0 : Nat → Int → List ByteArray → Option (Bool)
  | 0, _, _ => none
  | k + 1, x3, x182000 => if x3 < 15 then (if 0 ≤ x3 then (if x3 < (x182000.length : Int) then (if (rdOf ByteArray.empty x182000 x3).toList = ([] : List UInt8) then (spec_TreOk.j1 k x3 false x182000) else ((spec_SecOk.f k (rdOf ByteArray.empty x182000 x3)).bind fun t184 => (if t184 = true then ((spec_l1How.f k (rdOf ByteArray.empty x182000 x3)).bind fun bt186 => (spec_TreOk.j1 k x3 (bt186.1 != 3) x182000)) else (spec_TreOk.j1 k x3 true x182000)))) else (none)) else (none)) else (some true)
def spec_TreOk.j1 : Nat → Int → Bool → List ByteArray → Option (Bool)
  | 0, _, _, _ => none
  | k + 1, x3, x36, x182000 => if x36 = true then (some false) else (spec_TreOk.l0 k (wrap64 (x3 + 1)) x182000)
end
def spec_TreOk.f (k : Nat) (l0_0 : List ByteArray) : Option (Bool) := if (l0_0.length : Int) = 15 then (spec_TreOk.l0 k 0 l0_0) else (some false)
set_option maxHeartbeats 8000000 in
set_option maxRecDepth 100000 in
theorem spec_TreOk.calls (k : Nat) (A0_0 : Option Addr) (c0_0 : Nat) (l0_0 : List ByteArray) (r : Bool) (w : World) (hr0_0 : Kd.C Kd.string w A0_0 l0_0.length l0_0) (hc0_0 : l0_0.length ≤ c0_0) (h : spec_TreOk.f k l0_0 = some r) :
    Calls Tryz.prog 27 #[.agg #[.slice A0_0 l0_0.length c0_0]] w fun e w' => e = .returned (.bool r) ∧ Below w.heap.size w w' := by
  have hu30 := Tryz.underlying30
  have hfl98_0 : ∀ (fv0 fv1 fv2 fv3 fv4 : Value) (W : World), (Instr.field 98 (.agg #[fv0, fv1, fv2, fv3, fv4]) 0).run Tryz.prog W = .ok fv0 W := fun _ _ _ _ _ _ => by kernel_rfl
  have HR0_0 := am_ hr0_0; have HC0_0 := am_ hc0_0; clear hr0_0 hc0_0; have HB := am_ (Below.refl w.heap.size w); have H : (if (l0_0.length : Int) = 15 then (spec_TreOk.l0 k 0 l0_0) else (some false)) = some r := h; clear h; by_cases c2 : (l0_0.length : Int) = 15
  · rw [if_pos c2] at H
    have c2b0 : ((l0_0.length : Int) == 15) = true := beq_iff_eq.mpr c2; have c2b1 : ((l0_0.length : Int) != 15) = false := bne_eq_false_iff_eq.mpr c2; clear c2; have H' := am_ H; clear H; go_enter Tryz.func27, Tryz.ntmps27; go_wp2_with (first | ((with_reducible refine gate_dst (N := 1) rfl ?_); refine box_event ?hg (N := 1) ?hd (cs := #[.slice A0_0 l0_0.length c0_0]) (t := 30) ?hr ?_; (case hd => rfl); (case hg => rfl); (case hr => go_simp; try rfl); intro gb181 hg w3 hbox hb; have BK181 := am_ hbox; have GW181 := ge_ (w0 := w) hg (y7_ HB.out); have GE181 := ge_ (w0 := w) hg (y7_ HB.out); replace HB := st_ (y7_ HB.out) hb; clear hb hbox hg; have hcz4_0 : w3.cell? ⟨gb181, 0, none⟩ = some (.slice A0_0 l0_0.length c0_0) := (blk_cell BK181.out 0).trans rfl; have hfz4_0 := blk_frozen BK181.out 0))
    go_loopg [3] k (fun kq v3 w' => ∃ (x3_1 : Int), v3 = .int .i64 x3_1 ∧ Aside0 (spec_TreOk.l0 kq x3_1 l0_0 = some r) ∧ Aside0 (kq ≤ k) ∧ Aside0 (w'.heap[gb181]? = some (.cells #[(.slice A0_0 l0_0.length c0_0)] 30 (0, 0))) ∧ Aside0 (Below w.heap.size w w'))
    case atStart => exact ⟨(0), y4_, H', ⟨Nat.le_refl _⟩, ⟨y12_ BK181.out⟩, ⟨y8_ HB.out GE181.out⟩⟩
    case round =>
      clear H'; (try clear c2); (try clear c2b0); (try clear c2b1); (try clear p2); (try clear hcz4_0); (try clear hfz4_0); obtain ⟨x3_1, rfl, HA, HK1, BK181, HB⟩ := hrel
      cases gk with
      | zero => exact absurd HA.out (by simp [spec_TreOk.l0])
      | succ k1 =>
        have H := HA.out; clear HA; simp only [spec_TreOk.l0] at H; by_cases c5 : x3_1 < 15
        · rw [if_pos c5] at H
          have c5b0 : decide (x3_1 < 15) = true := decide_eq_true c5; clear c5; have HC6 := am_ H; clear H
          go_upto_region 6 with (fail)
          go_cut [36] (fun v36 wc => ∃ (kq : Nat) (x36_5 : Bool), v36 = .bool x36_5 ∧ Aside0 (spec_TreOk.j1 kq x3_1 x36_5 l0_0 = some r) ∧ Aside0 (kq ≤ k1) ∧ Aside0 (wc.heap[gb181]? = some (.cells #[(.slice A0_0 l0_0.length c0_0)] 30 (0, 0))) ∧ Aside0 (Below w.heap.size w wc))
          case first =>
            have H := HC6.out; clear HC6; by_cases c7 : 0 ≤ x3_1
            · rw [if_pos c7] at H
              have c7b0 : decide (0 ≤ x3_1) = true := decide_eq_true c7; clear c7; (first | rw [c7b0] | (simp only [i64_w, i32_w]; rw [c7b0]) | skip); by_cases c8 : x3_1 < (l0_0.length : Int)
              · rw [if_pos c8] at H
                have c8b0 : decide (x3_1 < (l0_0.length : Int)) = true := decide_eq_true c8; clear c8; by_cases c9 : (rdOf ByteArray.empty l0_0 x3_1).toList = ([] : List UInt8)
                · rw [if_pos c9] at H
                  have c9b0 : ((rdOf ByteArray.empty l0_0 x3_1).toList == ([] : List UInt8)) = true := beq_iff_eq.mpr c9; have c9b1 : ((rdOf ByteArray.empty l0_0 x3_1).toList != ([] : List UInt8)) = false := bne_eq_false_iff_eq.mpr c9; clear c9; have H' := am_ H; clear H; have hcz10_0 : wr.cell? ⟨gb181, 0, none⟩ = some (.slice A0_0 l0_0.length c0_0) := (blk_cell BK181.out 0).trans rfl; have hfz10_0 := blk_frozen BK181.out 0; have p182 : 0 ≤ (x3_1 : Int) := of_decide_eq_true y3_; have q182 : x3_1 < (l0_0.length : Int) := of_decide_eq_true y3_; obtain ⟨ad182, e182, hx182_0⟩ := Kd.at_string HR0_0.out x3_1 p182 q182
                  cases e182
                  replace hx182_0 := (HB.out.cell (World.block_lt_of_cell? w _ hx182_0)).trans hx182_0; replace p182 := eq_true p182; replace q182 := eq_true q182; go_wp2; go_meet
                  case rel => exact ⟨_, (false), y4_, H', ⟨by have := HK1.out; first | omega | exact Nat.le_refl _⟩, ⟨y12_ BK181.out⟩, ⟨y8_ HB.out GE181.out⟩⟩
                rw [if_neg c9] at H; have c9b0 : ((rdOf ByteArray.empty l0_0 x3_1).toList == ([] : List UInt8)) = false := beq_eq_false_iff_ne.mpr c9; have c9b1 : ((rdOf ByteArray.empty l0_0 x3_1).toList != ([] : List UInt8)) = true := bne_iff_ne.mpr c9; replace H := ob_ H; obtain ⟨t184, A110, H⟩ := H; replace H : (if t184 = true then ((spec_l1How.f k1 (rdOf ByteArray.empty l0_0 x3_1)).bind fun bt186 => (spec_TreOk.j1 k1 x3_1 (bt186.1 != 3) l0_0)) else (spec_TreOk.j1 k1 x3_1 true l0_0)) = some r := H; have A11 := am_ A110; clear A110; by_cases c12 : t184 = true
                · subst c12
                  have H1 : ((spec_l1How.f k1 (rdOf ByteArray.empty l0_0 x3_1)).bind fun bt186 => (spec_TreOk.j1 k1 x3_1 (bt186.1 != 3) l0_0)) = some r := by rw [if_pos rfl] at H; exact H
                  clear H; have H := H1; clear H1; replace H := ob_ H; obtain ⟨⟨t186, t187, t188, t189, t190⟩, A130, H⟩ := H; replace H : (spec_TreOk.j1 k1 x3_1 (t186 != 3) l0_0) = some r := H; have A13 := am_ A130; clear A130; have H' := am_ H; clear H; have hcz14_0 : wr.cell? ⟨gb181, 0, none⟩ = some (.slice A0_0 l0_0.length c0_0) := (blk_cell BK181.out 0).trans rfl; have hfz14_0 := blk_frozen BK181.out 0; have p182 : 0 ≤ (x3_1 : Int) := of_decide_eq_true y3_; have q182 : x3_1 < (l0_0.length : Int) := of_decide_eq_true y3_; obtain ⟨ad182, e182, hx182_0⟩ := Kd.at_string HR0_0.out x3_1 p182 q182
                  cases e182
                  replace hx182_0 := (HB.out.cell (World.block_lt_of_cell? w _ hx182_0)).trans hx182_0; replace p182 := eq_true p182; replace q182 := eq_true q182; have p183 : 0 ≤ (x3_1 : Int) := of_decide_eq_true y3_; have q183 : x3_1 < (l0_0.length : Int) := of_decide_eq_true y3_; obtain ⟨ad183, e183, hx183_0⟩ := Kd.at_string HR0_0.out x3_1 p183 q183
                  obtain rfl : ad182 = ad183 := (by injection e183)
                  replace hx183_0 := (HB.out.cell (World.block_lt_of_cell? w _ hx183_0)).trans hx183_0; replace p183 := eq_true p183; replace q183 := eq_true q183; go_wp2_with (first | (go_at_call 30; (with_reducible refine (spec_SecOk.calls k1 (rdOf ByteArray.empty l0_0 x3_1) true _ A11.out).mono ?_); rintro e w15 ⟨rfl, hb⟩; replace BK181 := bk_ BK181 hb; replace HB := st_ (y8_ HB.out GE181.out) hb; clear hb; have hcz16_0 : w15.cell? ⟨gb181, 0, none⟩ = some (.slice (some ad182) l0_0.length c0_0) := (blk_cell BK181.out 0).trans rfl; have hfz16_0 := blk_frozen BK181.out 0; have p185 : 0 ≤ (x3_1 : Int) := of_decide_eq_true y3_; have q185 : x3_1 < (l0_0.length : Int) := of_decide_eq_true y3_; obtain ⟨ad185, e185, hx185_0⟩ := Kd.at_string HR0_0.out x3_1 p185 q185; obtain rfl : ad182 = ad185 := (by injection e185); replace hx185_0 := (HB.out.cell (World.block_lt_of_cell? w _ hx185_0)).trans hx185_0; replace p185 := eq_true p185; replace q185 := eq_true q185) | (go_at_call 73; (with_reducible refine (spec_l1How.calls k1 (rdOf ByteArray.empty l0_0 x3_1) t186 t187 t188 t189 t190 _ A13.out).mono ?_); rintro e w17 ⟨rfl, hb⟩; replace BK181 := bk_ BK181 hb; replace HB := st_ (y8_ HB.out GE181.out) hb; clear hb)); go_meet
                  case rel => exact ⟨_, ((t186 != 3)), y4_, H', ⟨by have := HK1.out; first | omega | exact Nat.le_refl _⟩, ⟨y12_ BK181.out⟩, ⟨y8_ HB.out GE181.out⟩⟩
                replace c12 := Bool.eq_false_iff.mpr c12; subst c12
                have H1 : (spec_TreOk.j1 k1 x3_1 true l0_0) = some r := by rw [if_neg (show ¬ (false = true) by decide)] at H; exact H
                clear H; have H := H1; clear H1; have H' := am_ H; clear H; have hcz18_0 : wr.cell? ⟨gb181, 0, none⟩ = some (.slice A0_0 l0_0.length c0_0) := (blk_cell BK181.out 0).trans rfl; have hfz18_0 := blk_frozen BK181.out 0; have p182 : 0 ≤ (x3_1 : Int) := of_decide_eq_true y3_; have q182 : x3_1 < (l0_0.length : Int) := of_decide_eq_true y3_; obtain ⟨ad182, e182, hx182_0⟩ := Kd.at_string HR0_0.out x3_1 p182 q182
                cases e182
                replace hx182_0 := (HB.out.cell (World.block_lt_of_cell? w _ hx182_0)).trans hx182_0; replace p182 := eq_true p182; replace q182 := eq_true q182; have p183 : 0 ≤ (x3_1 : Int) := of_decide_eq_true y3_; have q183 : x3_1 < (l0_0.length : Int) := of_decide_eq_true y3_; obtain ⟨ad183, e183, hx183_0⟩ := Kd.at_string HR0_0.out x3_1 p183 q183
                obtain rfl : ad182 = ad183 := (by injection e183)
                replace hx183_0 := (HB.out.cell (World.block_lt_of_cell? w _ hx183_0)).trans hx183_0; replace p183 := eq_true p183; replace q183 := eq_true q183; go_wp2_with (first | (go_at_call 30; (with_reducible refine (spec_SecOk.calls k1 (rdOf ByteArray.empty l0_0 x3_1) false _ A11.out).mono ?_); rintro e w19 ⟨rfl, hb⟩; replace BK181 := bk_ BK181 hb; replace HB := st_ (y8_ HB.out GE181.out) hb; clear hb)); go_meet
                case rel => exact ⟨_, (true), y4_, H', ⟨by have := HK1.out; first | omega | exact Nat.le_refl _⟩, ⟨y12_ BK181.out⟩, ⟨y8_ HB.out GE181.out⟩⟩
              rw [if_neg c8] at H; exact absurd H (by simp)
            rw [if_neg c7] at H; exact absurd H (by simp)
          case rest =>
            clear HC6; (try clear c1); (try clear p1); (try clear q1); (try clear hx1); (try clear c2); (try clear c2b0); (try clear c2b1); (try clear p2); (try clear c5); (try clear c5b0); (try clear c7); (try clear c7b0); (try clear c8); (try clear c8b0); (try clear c9); (try clear c9b0); (try clear c9b1); (try clear c12); (try clear p18); (try clear q18); (try clear hx18); (try clear hcz10_0); (try clear hcz14_0); (try clear hcz16_0); (try clear hcz18_0); (try clear hcz4_0); (try clear hfz10_0); (try clear hfz14_0); (try clear hfz16_0); (try clear hfz18_0); (try clear hfz4_0); (try clear hx182_0); (try clear hx183_0); (try clear hx185_0); (try clear p182); (try clear p183); (try clear p185); (try clear p2); (try clear q182); (try clear q183); (try clear q185); obtain ⟨kq, x36_5, rfl, HA, HJ5, BK181, HB⟩ := hcut
            cases kq with
            | zero => exact absurd HA.out (by simp [spec_TreOk.j1])
            | succ kj5 =>
              have H := HA.out; clear HA; simp only [spec_TreOk.j1] at H; by_cases c20 : x36_5 = true
              · subst c20
                have H1 : (some false) = some r := by rw [if_pos rfl] at H; exact H
                clear H; have H := H1; clear H1; obtain rfl := oi_ H; go_wp2; go_ret; exact ⟨y6_, y8_ HB.out GE181.out⟩
              replace c20 := Bool.eq_false_iff.mpr c20; subst c20
              have H1 : (spec_TreOk.l0 kj5 (wrap64 (x3_1 + 1)) l0_0) = some r := by rw [if_neg (show ¬ (false = true) by decide)] at H; exact H
              clear H; have H := H1; clear H1; have H' := am_ H; clear H; go_wp2
              go_roundg kj5
              case measure => have := HK1.out; have := HJ5.out; omega
              case rel => exact ⟨(wrap64 (x3_1 + 1)), y4_, H', ⟨by have := HK1.out; have := HJ5.out; omega⟩, ⟨y12_ BK181.out⟩, ⟨y8_ HB.out GE181.out⟩⟩
        rw [if_neg c5] at H; have c5b0 : decide (x3_1 < 15) = false := decide_eq_false c5; clear c5; obtain rfl := oi_ H; go_wp2; go_ret; exact ⟨y6_, y8_ HB.out GE181.out⟩
  rw [if_neg c2] at H; have c2b0 : ((l0_0.length : Int) == 15) = false := beq_eq_false_iff_ne.mpr c2; have c2b1 : ((l0_0.length : Int) != 15) = true := bne_iff_ne.mpr c2; obtain rfl := oi_ H; go_enter Tryz.func27, Tryz.ntmps27; go_wp2_with (first | ((with_reducible refine gate_dst (N := 1) rfl ?_); refine box_event ?hg (N := 1) ?hd (cs := #[.slice A0_0 l0_0.length c0_0]) (t := 30) ?hr ?_; (case hd => rfl); (case hg => rfl); (case hr => go_simp; try rfl); intro gb181 hg w21 hbox hb; have BK181 := am_ hbox; have GW181 := ge_ (w0 := w) hg (y7_ HB.out); have GE181 := ge_ (w0 := w) hg (y7_ HB.out); replace HB := st_ (y7_ HB.out) hb; clear hb hbox hg; have hcz22_0 : w21.cell? ⟨gb181, 0, none⟩ = some (.slice A0_0 l0_0.length c0_0) := (blk_cell BK181.out 0).trans rfl; have hfz22_0 := blk_frozen BK181.out 0)); go_ret; exact ⟨y6_, y8_ HB.out GE181.out⟩

/-! ### spec_l1Ok: function 93 -/
def spec_l1Ok.f (k : Nat) (a0 : ByteArray) : Option (ByteArray) := (spec_SecOk.f k a0).bind fun t191 => (if t191 = true then (some a0) else (some (⟨#[]⟩ : ByteArray)))
set_option maxHeartbeats 8000000 in
set_option maxRecDepth 100000 in
theorem spec_l1Ok.calls (k : Nat) (a0 : ByteArray) (r : ByteArray) (w : World) (h : spec_l1Ok.f k a0 = some r) :
    Calls Tryz.prog 93 #[.string a0] w fun e w' => e = .returned (.string r) ∧ Below w.heap.size w w' := by
  have HB := am_ (Below.refl w.heap.size w); have H : ((spec_SecOk.f k a0).bind fun t191 => (if t191 = true then (some a0) else (some (⟨#[]⟩ : ByteArray)))) = some r := h; clear h; replace H := ob_ H; obtain ⟨t191, A20, H⟩ := H; replace H : (if t191 = true then (some a0) else (some (⟨#[]⟩ : ByteArray))) = some r := H; have A2 := am_ A20; clear A20; by_cases c3 : t191 = true
  · subst c3
    have H1 : (some a0) = some r := by rw [if_pos rfl] at H; exact H
    clear H; have H := H1; clear H1; obtain rfl := oi_ H; go_enter Tryz.func93, Tryz.ntmps93; go_wp2_with (first | ((with_reducible refine gate_callee (f := 30) rfl ?_); refine goesL_ (some 4) rfl rfl Tryz.func30 (by kernel_rfl) rfl #[.string a0] rfl y1_ ?_; (with_reducible refine (spec_SecOk.calls k a0 true _ A2.out).mono ?_); rintro e w4 ⟨rfl, hb⟩; refine ⟨_, rfl, ?_⟩; replace HB := st_ (y7_ HB.out) hb; clear hb)); go_ret; exact ⟨y6_, y7_ HB.out⟩
  replace c3 := Bool.eq_false_iff.mpr c3; subst c3
  have H1 : (some (⟨#[]⟩ : ByteArray)) = some r := by rw [if_neg (show ¬ (false = true) by decide)] at H; exact H
  clear H; have H := H1; clear H1; obtain rfl := oi_ H; go_enter Tryz.func93, Tryz.ntmps93; go_wp2_with (first | ((with_reducible refine gate_callee (f := 30) rfl ?_); refine goesL_ (some 4) rfl rfl Tryz.func30 (by kernel_rfl) rfl #[.string a0] rfl y1_ ?_; (with_reducible refine (spec_SecOk.calls k a0 false _ A2.out).mono ?_); rintro e w5 ⟨rfl, hb⟩; refine ⟨_, rfl, ?_⟩; replace HB := st_ (y7_ HB.out) hb; clear hb)); go_ret; exact ⟨y6_, y7_ HB.out⟩

/-! ### spec_MakKey: function 51 -/
def spec_MakKey.f (k : Nat) (a0 : ByteArray) : Option (ByteArray) := (spec_SecOk.f k a0).bind fun t192 => (if t192 = true then (if 1 + a0.size ≤ 9223372036854775807 then ((spec_l1Ok.f k ((⟨#[107]⟩ : ByteArray) ++ a0)).bind fun t193 => (some t193)) else (none)) else (some (⟨#[]⟩ : ByteArray)))
set_option maxHeartbeats 8000000 in
set_option maxRecDepth 100000 in
theorem spec_MakKey.calls (k : Nat) (a0 : ByteArray) (r : ByteArray) (w : World) (h : spec_MakKey.f k a0 = some r) :
    Calls Tryz.prog 51 #[.string a0] w fun e w' => e = .returned (.string r) ∧ Below w.heap.size w w' := by
  have HB := am_ (Below.refl w.heap.size w); have H : ((spec_SecOk.f k a0).bind fun t192 => (if t192 = true then (if 1 + a0.size ≤ 9223372036854775807 then ((spec_l1Ok.f k ((⟨#[107]⟩ : ByteArray) ++ a0)).bind fun t193 => (some t193)) else (none)) else (some (⟨#[]⟩ : ByteArray)))) = some r := h; clear h; replace H := ob_ H; obtain ⟨t192, A20, H⟩ := H; replace H : (if t192 = true then (if 1 + a0.size ≤ 9223372036854775807 then ((spec_l1Ok.f k ((⟨#[107]⟩ : ByteArray) ++ a0)).bind fun t193 => (some t193)) else (none)) else (some (⟨#[]⟩ : ByteArray))) = some r := H; have A2 := am_ A20; clear A20; by_cases c3 : t192 = true
  · subst c3
    have H1 : (if 1 + a0.size ≤ 9223372036854775807 then ((spec_l1Ok.f k ((⟨#[107]⟩ : ByteArray) ++ a0)).bind fun t193 => (some t193)) else (none)) = some r := by rw [if_pos rfl] at H; exact H
    clear H; have H := H1; clear H1; by_cases c4 : 1 + a0.size ≤ 9223372036854775807
    · rw [if_pos c4] at H
      have c4b0 := eq_true c4; have c4b1 : decide (1 + a0.size ≤ 9223372036854775807) = true := decide_eq_true c4
      try have c4b2 : (9223372036854775807 < 1 + a0.size) = False := eq_false (Nat.not_lt.2 c4)
      replace H := ob_ H; obtain ⟨t193, A50, H⟩ := H; replace H : (some t193) = some r := H; have A5 := am_ A50; clear A50; obtain rfl := oi_ H; go_enter Tryz.func51, Tryz.ntmps51; go_wp2_with (first | ((with_reducible refine gate_callee (f := 30) rfl ?_); refine goesL_ (some 4) rfl rfl Tryz.func30 (by kernel_rfl) rfl #[.string a0] rfl y1_ ?_; (with_reducible refine (spec_SecOk.calls k a0 true _ A2.out).mono ?_); rintro e w6 ⟨rfl, hb⟩; refine ⟨_, rfl, ?_⟩; replace HB := st_ (y7_ HB.out) hb; clear hb) | ((with_reducible refine gate_callee (f := 93) rfl ?_); refine goesL_ (some 8) rfl rfl Tryz.func93 (by kernel_rfl) rfl #[.string ((⟨#[107]⟩ : ByteArray) ++ a0)] rfl y1_ ?_; (with_reducible refine (spec_l1Ok.calls k ((⟨#[107]⟩ : ByteArray) ++ a0) t193 _ A5.out).mono ?_); rintro e w7 ⟨rfl, hb⟩; refine ⟨_, rfl, ?_⟩; replace HB := st_ (y7_ HB.out) hb; clear hb)); go_ret; exact ⟨y6_, y7_ HB.out⟩
    rw [if_neg c4] at H; exact absurd H (by simp)
  replace c3 := Bool.eq_false_iff.mpr c3; subst c3
  have H1 : (some (⟨#[]⟩ : ByteArray)) = some r := by rw [if_neg (show ¬ (false = true) by decide)] at H; exact H
  clear H; have H := H1; clear H1; obtain rfl := oi_ H; go_enter Tryz.func51, Tryz.ntmps51; go_wp2_with (first | ((with_reducible refine gate_callee (f := 30) rfl ?_); refine goesL_ (some 4) rfl rfl Tryz.func30 (by kernel_rfl) rfl #[.string a0] rfl y1_ ?_; (with_reducible refine (spec_SecOk.calls k a0 false _ A2.out).mono ?_); rintro e w8 ⟨rfl, hb⟩; refine ⟨_, rfl, ?_⟩; replace HB := st_ (y7_ HB.out) hb; clear hb)); go_ret; exact ⟨y6_, y7_ HB.out⟩

/-! ### spec_TreLeaf: function 54 -/
def spec_TreLeaf.f (a0 : Int) : Option (Int) := (spec_l1In.f a0 0 7).bind fun t194 => (if t194 = true then (some (wrap64 (7 + a0))) else (some (-1)))
set_option maxHeartbeats 8000000 in
set_option maxRecDepth 100000 in
theorem spec_TreLeaf.calls (a0 : Int) (r : Int) (w : World) (h : spec_TreLeaf.f a0 = some r) :
    Calls Tryz.prog 54 #[.int .i64 a0] w fun e w' => e = .returned (.int .i64 r) ∧ Drawn0 w w' := by
  have H : ((spec_l1In.f a0 0 7).bind fun t194 => (if t194 = true then (some (wrap64 (7 + a0))) else (some (-1)))) = some r := h; clear h; replace H := ob_ H; obtain ⟨t194, A20, H⟩ := H; replace H : (if t194 = true then (some (wrap64 (7 + a0))) else (some (-1))) = some r := H; have A2 := am_ A20; clear A20; by_cases c3 : t194 = true
  · subst c3
    have H1 : (some (wrap64 (7 + a0))) = some r := by rw [if_pos rfl] at H; exact H
    clear H; have H := H1; clear H1; obtain rfl := oi_ H; go_enter Tryz.func54, Tryz.ntmps54; go_wp2_with (first | ((with_reducible refine gate_callee (f := 26) rfl ?_); refine goesL_ (some 4) rfl rfl Tryz.func26 (by kernel_rfl) rfl #[.int .i64 a0, .int .i64 0, .int .i64 7] rfl y1_ ?_; (with_reducible refine (spec_l1In.calls a0 0 7 true _ A2.out).mono ?_); rintro e w' ⟨rfl, ⟨nd, rfl⟩⟩; refine ⟨_, rfl, ?_⟩)); go_ret; exact ⟨by first | rfl | (simp; done) | (simp [*]; done), by repeat (first | exact Drawn0.refl _ | apply Drawn0.step)⟩
  replace c3 := Bool.eq_false_iff.mpr c3; subst c3
  have H1 : (some (-1)) = some r := by rw [if_neg (show ¬ (false = true) by decide)] at H; exact H
  clear H; have H := H1; clear H1; obtain rfl := oi_ H; go_enter Tryz.func54, Tryz.ntmps54; go_wp2_with (first | ((with_reducible refine gate_callee (f := 26) rfl ?_); refine goesL_ (some 4) rfl rfl Tryz.func26 (by kernel_rfl) rfl #[.int .i64 a0, .int .i64 0, .int .i64 7] rfl y1_ ?_; (with_reducible refine (spec_l1In.calls a0 0 7 false _ A2.out).mono ?_); rintro e w' ⟨rfl, ⟨nd, rfl⟩⟩; refine ⟨_, rfl, ?_⟩)); go_ret; exact ⟨by first | rfl | (simp; done) | (simp [*]; done), by repeat (first | exact Drawn0.refl _ | apply Drawn0.step)⟩

/-! ### spec_l4In: function 74 -/
def spec_l4In.l0 : Nat → List Int → Int → Int → Option (Bool)
  | 0, _, _, _ => none
  | k + 1, x0, x1, x5 => if x5 < (x0.length : Int) then (if 0 ≤ x5 then (if (rd x0 x5) = x1 then (some true) else (spec_l4In.l0 k x0 x1 (wrap64 (x5 + 1)))) else (none)) else (some false)
def spec_l4In.f (k : Nat) (l0 : List Int) (a1 : Int) : Option (Bool) := spec_l4In.l0 k l0 a1 0
set_option maxHeartbeats 8000000 in
set_option maxRecDepth 100000 in
theorem spec_l4In.calls (k : Nat) (A0 : Option Addr) (c0 : Nat) (l0 : List Int) (a1 : Int) (r : Bool) (w : World) (hr0 : Kd.C (Kd.int .i64) w A0 l0.length l0) (hc0 : l0.length ≤ c0) (h : spec_l4In.f k l0 a1 = some r) :
    Calls Tryz.prog 74 #[.slice A0 l0.length c0, .int .i64 a1] w fun e w' => e = .returned (.bool r) ∧ Drawn0 w w' := by
  have HR0 := am_ hr0; have HC0 := am_ hc0; clear hr0 hc0; have H : (spec_l4In.l0 k l0 a1 0) = some r := h; clear h; have H' := am_ H; clear H; go_enter Tryz.func74, Tryz.ntmps74; go_wp2
  go_loopg [5] k (fun kq v5 w' => ∃ (x5_1 : Int), v5 = .int .i64 x5_1 ∧ Aside0 (spec_l4In.l0 kq l0 a1 x5_1 = some r) ∧ Aside0 (kq ≤ k) ∧ Drawn0 w w')
  case atStart => exact ⟨(0), y4_, H', ⟨Nat.le_refl _⟩, by repeat (first | exact Drawn0.refl _ | apply Drawn0.step)⟩
  case round =>
    clear H'; (try clear p2); obtain ⟨x5_1, rfl, HA, HK1, ⟨m1, rfl⟩⟩ := hrel
    cases gk with
    | zero => exact absurd HA.out (by simp [spec_l4In.l0])
    | succ k1 =>
      have H := HA.out; clear HA; simp only [spec_l4In.l0] at H; by_cases c3 : x5_1 < (l0.length : Int)
      · rw [if_pos c3] at H
        have c3b0 : decide (x5_1 < (l0.length : Int)) = true := decide_eq_true c3; clear c3; by_cases c4 : 0 ≤ x5_1
        · rw [if_pos c4] at H
          have c4b0 : decide (0 ≤ x5_1) = true := decide_eq_true c4; clear c4; by_cases c5 : (rd l0 x5_1) = a1
          · rw [if_pos c5] at H
            have c5b0 : ((rd l0 x5_1) == a1) = true := beq_iff_eq.mpr c5; have c5b1 : ((rd l0 x5_1) != a1) = false := bne_eq_false_iff_eq.mpr c5; clear c5; obtain rfl := oi_ H; have p195 : 0 ≤ (x5_1 : Int) := of_decide_eq_true y3_; have q195 : x5_1 < (l0.length : Int) := of_decide_eq_true y3_; obtain ⟨ad195, e195, hx195_0⟩ := Kd.at_int HR0.out x5_1 p195 q195
            cases e195
            replace p195 := eq_true p195; replace q195 := eq_true q195; go_wp2; go_ret; exact ⟨by first | rfl | (simp; done) | (simp [*]; done), by repeat (first | exact Drawn0.refl _ | apply Drawn0.step)⟩
          rw [if_neg c5] at H; have c5b0 : ((rd l0 x5_1) == a1) = false := beq_eq_false_iff_ne.mpr c5; have c5b1 : ((rd l0 x5_1) != a1) = true := bne_iff_ne.mpr c5; have H' := am_ H; clear H; have p195 : 0 ≤ (x5_1 : Int) := of_decide_eq_true y3_; have q195 : x5_1 < (l0.length : Int) := of_decide_eq_true y3_; obtain ⟨ad195, e195, hx195_0⟩ := Kd.at_int HR0.out x5_1 p195 q195
          cases e195
          replace p195 := eq_true p195; replace q195 := eq_true q195; go_wp2
          go_roundg k1
          case measure => have := HK1.out; omega
          case rel => exact ⟨(wrap64 (x5_1 + 1)), y4_, H', ⟨by have := HK1.out; omega⟩, by repeat (first | exact Drawn0.refl _ | apply Drawn0.step)⟩
        rw [if_neg c4] at H; exact absurd H (by simp)
      rw [if_neg c3] at H; have c3b0 : decide (x5_1 < (l0.length : Int)) = false := decide_eq_false c3; clear c3; obtain rfl := oi_ H; go_wp2; go_ret; exact ⟨by first | rfl | (simp; done) | (simp [*]; done), by repeat (first | exact Drawn0.refl _ | apply Drawn0.step)⟩

/-! ### spec_TreUp: function 75 -/
def spec_TreUp.l0 : Nat → List Int → Int → Option (List Int)
  | 0, _, _ => none
  | k + 1, x3, x4 => if x4 > 0 then (if x3.length < 17592186044416 then (spec_TreUp.l0 k (x3 ++ [wrap64 (Int.tdiv (wrap64 (x4 - 1)) 2)]) (wrap64 (Int.tdiv (wrap64 (x4 - 1)) 2))) else (none)) else (some x3)
def spec_TreUp.f (k : Nat) (a0 : Int) : Option (List Int) := (some (([] : List Int) : List Int)).bind fun y196 => ((spec_l1In.f a0 0 14).bind fun t199 => (if t199 = true then (spec_TreUp.l0 k y196 a0) else (some y196)))
theorem spec_TreUp.mono_l : ∀ k, (∀ y0 y1, LeO (spec_TreUp.l0 k y0 y1) (spec_TreUp.l0 (k + 1) y0 y1))
  | 0 => fun _ _ r h => by simp [spec_TreUp.l0] at h
  | k + 1 => by
    have ih0 := spec_TreUp.mono_l k
    · intro y0 y1
      unfold spec_TreUp.l0
      repeat' first
      | (with_reducible exact ih0 _ _)
      | (with_reducible first | exact LeO.refl _ | exact LeO.none _ | refine LeO.ite ?_ ?_ | refine LeO.bind ?_ (fun _ => ?_)) | exact LeO.none _ | refine LeO.ite ?_ ?_ | refine LeO.bind ?_ (fun _ => ?_)
theorem spec_TreUp.mono : ∀ a0 k, LeO (spec_TreUp.f k a0) (spec_TreUp.f (k + 1) a0) := by
  intro a0 k; have ih0 := spec_TreUp.mono_l k; unfold spec_TreUp.f
  repeat' first
      | (with_reducible exact ih0 _ _)
      | (with_reducible first | exact LeO.refl _ | exact LeO.none _ | refine LeO.ite ?_ ?_ | refine LeO.bind ?_ (fun _ => ?_)) | exact LeO.none _ | refine LeO.ite ?_ ?_ | refine LeO.bind ?_ (fun _ => ?_)
set_option maxHeartbeats 8000000 in
set_option maxRecDepth 100000 in
theorem spec_TreUp.calls (k : Nat) (a0 : Int) (r : List Int) (w : World) (h : spec_TreUp.f k a0 = some r) :
    Calls Tryz.prog 75 #[.int .i64 a0] w fun e w' => ∃ v0_ : Value, e = .returned (v0_) ∧ Kd.R (Kd.int .i64) 3 w' w.heap.size (fun _ => True) v0_ r ∧ Below w.heap.size w w' := by
  have HB := am_ (Below.refl w.heap.size w); have H : ((some (([] : List Int) : List Int)).bind fun y196 => ((spec_l1In.f a0 0 14).bind fun t199 => (if t199 = true then (spec_TreUp.l0 k y196 a0) else (some y196)))) = some r := h; clear h
  obtain ⟨y196, hy196⟩ : ∃ y_ : List Int, y_ = (([] : List Int)) := ⟨_, rfl⟩
  replace H : ((spec_l1In.f a0 0 14).bind fun t199 => (if t199 = true then (spec_TreUp.l0 k y196 a0) else (some y196))) = some r := by first | (rw [hy196]; with_reducible exact H) | (have H2_ := (Option.bind_some _ _).symm.trans H; rw [hy196]; with_reducible exact H2_) | (have H2_ := (Option.bind_some _ _).symm.trans H; with_reducible exact H2_) | with_reducible exact H | (rw [hy196]; exact H) | exact H
  have Ny196 := am_ hy196; clear hy196; replace H := ob_ H; obtain ⟨t199, A20, H⟩ := H; replace H : (if t199 = true then (spec_TreUp.l0 k y196 a0) else (some y196)) = some r := H; have A2 := am_ A20; clear A20; by_cases c3 : t199 = true
  · subst c3
    have H1 : (spec_TreUp.l0 k y196 a0) = some r := by rw [if_pos rfl] at H; exact H
    clear H; have H := H1; clear H1; have H' := am_ H; clear H; go_enter Tryz.func75, Tryz.ntmps75; go_wp2_with (first | ((with_reducible refine gate_dst (N := 5) rfl ?_); refine Kd.R_lit (Kd.int .i64) _ 3 ?hg (N := 5) ?hd (xs := ([] : List Int)) (inner := []) (ok := fun _ => True) (okp := fun _ => True) ?hr ?hp (fun _ hk => hk) trivial (Below.refl _ _) (Nat.le_refl _) (by simp) ?_; (case hd => rfl); (case hg => rfl); (case hr => go_simp; try rfl); (case hp => exact (Reps.none _ _)); intro v197 w4 ho5 hb hg_ hnew_; clear hg_ hnew_; (first | rw [← Ny196.out] at ho5 | (simp only [Int.reduceToNat] at ho5; rw [← Ny196.out] at ho5)); have HO198 := am_ (Kd.R_lower ho5 (below_size (y7_ HB.out))); replace HB := st_ (y7_ HB.out) hb; clear hb ho5) | ((with_reducible refine gate_callee (f := 26) rfl ?_); refine goesL_ (some 7) rfl rfl Tryz.func26 (by kernel_rfl) rfl #[.int .i64 a0, .int .i64 0, .int .i64 14] rfl y1_ ?_; (with_reducible refine (spec_l1In.calls a0 0 14 true _ A2.out).mono ?_); rintro e w' ⟨rfl, ⟨nd, rfl⟩⟩; refine ⟨_, rfl, ?_⟩))
    go_loopg [3, 4] k (fun kq v3 v4 w' => ∃ (x3_1 : List Int) (x4_1 : Int), v4 = .int .i64 x4_1 ∧ Aside0 (spec_TreUp.l0 kq x3_1 x4_1 = some r) ∧ Aside0 (kq ≤ k) ∧ Aside0 (Kd.R (Kd.int .i64) 3 w' w.heap.size (fun _ => True) v3 x3_1) ∧ Aside0 (Below w.heap.size w w'))
    case atStart => exact ⟨(y196), (a0), y4_, H', ⟨Nat.le_refl _⟩, ⟨y11_ HO198.out⟩, ⟨y7_ HB.out⟩⟩
    case round =>
      clear H'; (try clear c2); (try clear p2); (try clear c3); obtain ⟨x3_1, x4_1, rfl, HA, HK1, HO_3, HB⟩ := hrel
      cases gk with
      | zero => exact absurd HA.out (by simp [spec_TreUp.l0])
      | succ k1 =>
        have H := HA.out; clear HA; simp only [spec_TreUp.l0] at H; by_cases c6 : x4_1 > 0
        · rw [if_pos c6] at H
          have c6b0 : decide (0 < x4_1) = true := decide_eq_true c6; clear c6; by_cases c7 : x3_1.length < 17592186044416
          · rw [if_pos c7] at H
            have LMc7 := am_ c7; clear c7
            obtain ⟨y200, hy200⟩ : ∃ y_ : List Int, y_ = (x3_1 ++ [wrap64 (Int.tdiv (wrap64 (x4_1 - 1)) 2)]) := ⟨_, rfl⟩
            replace H : (spec_TreUp.l0 k1 y200 (wrap64 (Int.tdiv (wrap64 (x4_1 - 1)) 2))) = some r := by first | (rw [hy200]; with_reducible exact H) | (have H2_ := (Option.bind_some _ _).symm.trans H; rw [hy200]; with_reducible exact H2_) | (have H2_ := (Option.bind_some _ _).symm.trans H; with_reducible exact H2_) | with_reducible exact H | (rw [hy200]; exact H) | exact H
            have Ny200 := am_ hy200; clear hy200; have H' := am_ H; clear H; go_wp2_with (first | ((with_reducible refine gate_builtin (b := .append) (xs := #[.tmp 16, .tmp 18]) rfl ?_); at_builtin; refine Kd.R_append (Kd.int .i64) (w0 := w) w.heap.size rfl (.tmp 16) (.tmp 18) 69 3 (.int .i64 0) 8 rfl Tryz.underlying69 info3 rfl (by decide) (by omega) u3 x3_1 (wrap64 (Int.tdiv (wrap64 (x4_1 - 1)) 2)) [.int .i64 (wrap64 (Int.tdiv (wrap64 (x4_1 - 1)) 2))] (fun _ => True) (fun _ => False) rfl rfl ?aP (fun _ hk => hk.elim) ?aF ?aO ?aB ?aS ?aL ?_; (case aP => exact rfl); (case aB => exact (y7_ HB.out)); (case aF => exact (fun _ _ => trivial)); (case aO => exact (y11_ HO_3.out)); (case aS => exact (below_size (y7_ HB.out))); (case aL => have := LMc7.out; omega); intro v201 w8 ho hb hg hat; rw [← Ny200.out] at ho; replace HB := am_ hb; have HO202 := am_ ho; clear HO_3; clear ho hb hg hat))
            go_roundg k1
            case measure => have := HK1.out; omega
            case rel => exact ⟨(y200), (wrap64 (Int.tdiv (wrap64 (x4_1 - 1)) 2)), y4_, H', ⟨by have := HK1.out; omega⟩, ⟨y11_ HO202.out⟩, ⟨y7_ HB.out⟩⟩
          rw [if_neg c7] at H; exact absurd H (by simp)
        rw [if_neg c6] at H; have c6b0 : decide (0 < x4_1) = false := decide_eq_false c6; clear c6; obtain rfl := oi_ H; go_wp2; go_ret; exact ⟨_, y6_, y11_ HO_3.out, y7_ HB.out⟩
  replace c3 := Bool.eq_false_iff.mpr c3; subst c3
  have H1 : (some y196) = some r := by rw [if_neg (show ¬ (false = true) by decide)] at H; exact H
  clear H; have H := H1; clear H1; obtain rfl := oi_ H; go_enter Tryz.func75, Tryz.ntmps75; go_wp2_with (first | ((with_reducible refine gate_dst (N := 5) rfl ?_); refine Kd.R_lit (Kd.int .i64) _ 3 ?hg (N := 5) ?hd (xs := ([] : List Int)) (inner := []) (ok := fun _ => True) (okp := fun _ => True) ?hr ?hp (fun _ hk => hk) trivial (Below.refl _ _) (Nat.le_refl _) (by simp) ?_; (case hd => rfl); (case hg => rfl); (case hr => go_simp; try rfl); (case hp => exact (Reps.none _ _)); intro v197 w9 ho10 hb hg_ hnew_; clear hg_ hnew_; (first | rw [← Ny196.out] at ho10 | (simp only [Int.reduceToNat] at ho10; rw [← Ny196.out] at ho10)); have HO198 := am_ (Kd.R_lower ho10 (below_size (y7_ HB.out))); replace HB := st_ (y7_ HB.out) hb; clear hb ho10) | ((with_reducible refine gate_callee (f := 26) rfl ?_); refine goesL_ (some 7) rfl rfl Tryz.func26 (by kernel_rfl) rfl #[.int .i64 a0, .int .i64 0, .int .i64 14] rfl y1_ ?_; (with_reducible refine (spec_l1In.calls a0 0 14 false _ A2.out).mono ?_); rintro e w' ⟨rfl, ⟨nd, rfl⟩⟩; refine ⟨_, rfl, ?_⟩)); go_ret; exact ⟨_, y6_, y11_ HO198.out, y7_ HB.out⟩

/-! ### spec_l4Own: function 76 -/
def spec_l4Own.l0 : Nat → Int → Int → Bool → Int → List ByteArray → List (S74) → Int → ByteArray → ByteArray → Option (ByteArray)
  | 0, _, _, _, _, _, _, _, _, _ => none
  | k + 1, x1, x5, x204000, x204001, x204002, x204003, x204004, x204005, x204006 => if x5 < (x204003.length : Int) then (if 0 ≤ x5 then (if ((rd_T74 x204003 x5).f0) = x1 then (some ((rd_T74 x204003 x5).f1)) else (spec_l4Own.l0 k x1 (wrap64 (x5 + 1)) x204000 x204001 x204002 x204003 x204004 x204005 x204006)) else (none)) else (some (⟨#[]⟩ : ByteArray))
def spec_l4Own.f (k : Nat) (a0_0 : Bool) (a0_1 : Int) (l0_2 : List ByteArray) (l0_3 : List (S74)) (a0_4 : Int) (a0_5 : ByteArray) (a0_6 : ByteArray) (a1 : Int) : Option (ByteArray) := spec_l4Own.l0 k a1 0 a0_0 a0_1 l0_2 l0_3 a0_4 a0_5 a0_6
set_option maxHeartbeats 8000000 in
set_option maxRecDepth 100000 in
theorem spec_l4Own.calls (k : Nat) (a0_0 : Bool) (a0_1 : Int) (A0_2 : Option Addr) (c0_2 : Nat) (l0_2 : List ByteArray) (A0_3 : Option Addr) (c0_3 : Nat) (l0_3 : List (S74)) (a0_4 : Int) (a0_5 : ByteArray) (a0_6 : ByteArray) (a1 : Int) (r : ByteArray) (w : World) (hr0_2 : Kd.C Kd.string w A0_2 l0_2.length l0_2) (hc0_2 : l0_2.length ≤ c0_2) (hr0_3 : Kd.C k74 w A0_3 l0_3.length l0_3) (hc0_3 : l0_3.length ≤ c0_3) (h : spec_l4Own.f k a0_0 a0_1 l0_2 l0_3 a0_4 a0_5 a0_6 a1 = some r) :
    Calls Tryz.prog 76 #[.agg #[.bool a0_0, .int .i64 a0_1, .slice A0_2 l0_2.length c0_2, .slice A0_3 l0_3.length c0_3, .int .i64 a0_4, .string a0_5, .string a0_6], .int .i64 a1] w fun e w' => e = .returned (.string r) ∧ Below w.heap.size w w' := by
  have hu33 := Tryz.underlying33; have HR0_2 := am_ hr0_2; have HC0_2 := am_ hc0_2; clear hr0_2 hc0_2; have HR0_3 := am_ hr0_3; have HC0_3 := am_ hc0_3; clear hr0_3 hc0_3; have HB := am_ (Below.refl w.heap.size w); have H : (spec_l4Own.l0 k a1 0 a0_0 a0_1 l0_2 l0_3 a0_4 a0_5 a0_6) = some r := h; clear h; have H' := am_ H; clear H; go_enter Tryz.func76, Tryz.ntmps76; go_wp2_with (first | ((with_reducible refine gate_dst (N := 2) rfl ?_); refine box_event ?hg (N := 2) ?hd (cs := #[.bool a0_0, .int .i64 a0_1, .slice A0_2 l0_2.length c0_2, .slice A0_3 l0_3.length c0_3, .int .i64 a0_4, .string a0_5, .string a0_6]) (t := 33) ?hr ?_; (case hd => rfl); (case hg => rfl); (case hr => go_simp; try rfl); intro gb203 hg w3 hbox hb; have BK203 := am_ hbox; have GW203 := ge_ (w0 := w) hg (y7_ HB.out); have GE203 := ge_ (w0 := w) hg (y7_ HB.out); replace HB := st_ (y7_ HB.out) hb; clear hb hbox hg))
  go_loopg [5] k (fun kq v5 w' => ∃ (x5_1 : Int), v5 = .int .i64 x5_1 ∧ Aside0 (spec_l4Own.l0 kq a1 x5_1 a0_0 a0_1 l0_2 l0_3 a0_4 a0_5 a0_6 = some r) ∧ Aside0 (kq ≤ k) ∧ Aside0 (w'.heap[gb203]? = some (.cells #[.bool a0_0, .int .i64 a0_1, (.slice A0_2 l0_2.length c0_2), (.slice A0_3 l0_3.length c0_3), .int .i64 a0_4, .string a0_5, .string a0_6] 33 (0, 0))) ∧ Aside0 (Below w.heap.size w w'))
  case atStart => exact ⟨(0), y4_, H', ⟨Nat.le_refl _⟩, ⟨y12_ BK203.out⟩, ⟨y8_ HB.out GE203.out⟩⟩
  case round =>
    clear H'; (try clear p2); obtain ⟨x5_1, rfl, HA, HK1, BK203, HB⟩ := hrel
    cases gk with
    | zero => exact absurd HA.out (by simp [spec_l4Own.l0])
    | succ k1 =>
      have H := HA.out; clear HA; simp only [spec_l4Own.l0] at H; by_cases c4 : x5_1 < (l0_3.length : Int)
      · rw [if_pos c4] at H
        have c4b0 : decide (x5_1 < (l0_3.length : Int)) = true := decide_eq_true c4; clear c4; by_cases c5 : 0 ≤ x5_1
        · rw [if_pos c5] at H
          have c5b0 : decide (0 ≤ x5_1) = true := decide_eq_true c5; clear c5; by_cases c6 : ((rd_T74 l0_3 x5_1).f0) = a1
          · rw [if_pos c6] at H
            have c6b0 : (((rd_T74 l0_3 x5_1).f0) == a1) = true := beq_iff_eq.mpr c6; have c6b1 : (((rd_T74 l0_3 x5_1).f0) != a1) = false := bne_eq_false_iff_eq.mpr c6; clear c6; obtain rfl := oi_ H; obtain ⟨hcz7_0, hcz7_1, hcz7_2, hcz7_3, hcz7_4, hcz7_5, hcz7_6⟩ := cc7_ BK203.out; obtain ⟨hfz7_0, hfz7_1, hfz7_2, hfz7_3, hfz7_4, hfz7_5, hfz7_6⟩ := cf7_ BK203.out; have p204 : 0 ≤ (x5_1 : Int) := of_decide_eq_true y3_; have q204 : x5_1 < (l0_3.length : Int) := of_decide_eq_true y3_; obtain ⟨ad204, e204, hx204_0, hx204_1⟩ := at_T74 HR0_3.out x5_1 p204 q204
            cases e204
            replace hx204_0 := (HB.out.cell (World.block_lt_of_cell? w _ hx204_0)).trans hx204_0; replace hx204_1 := (HB.out.cell (World.block_lt_of_cell? w _ hx204_1)).trans hx204_1; replace p204 := eq_true p204; replace q204 := eq_true q204; have p205 : 0 ≤ (x5_1 : Int) := of_decide_eq_true y3_; have q205 : x5_1 < (l0_3.length : Int) := of_decide_eq_true y3_; obtain ⟨ad205, e205, hx205_0, hx205_1⟩ := at_T74 HR0_3.out x5_1 p205 q205
            obtain rfl : ad204 = ad205 := (by injection e205)
            replace hx205_0 := (HB.out.cell (World.block_lt_of_cell? w _ hx205_0)).trans hx205_0; replace hx205_1 := (HB.out.cell (World.block_lt_of_cell? w _ hx205_1)).trans hx205_1; replace p205 := eq_true p205; replace q205 := eq_true q205; go_wp2; go_ret; exact ⟨y6_, y8_ HB.out GE203.out⟩
          rw [if_neg c6] at H; have c6b0 : (((rd_T74 l0_3 x5_1).f0) == a1) = false := beq_eq_false_iff_ne.mpr c6; have c6b1 : (((rd_T74 l0_3 x5_1).f0) != a1) = true := bne_iff_ne.mpr c6; have H' := am_ H; clear H; obtain ⟨hcz8_0, hcz8_1, hcz8_2, hcz8_3, hcz8_4, hcz8_5, hcz8_6⟩ := cc7_ BK203.out; obtain ⟨hfz8_0, hfz8_1, hfz8_2, hfz8_3, hfz8_4, hfz8_5, hfz8_6⟩ := cf7_ BK203.out; have p204 : 0 ≤ (x5_1 : Int) := of_decide_eq_true y3_; have q204 : x5_1 < (l0_3.length : Int) := of_decide_eq_true y3_; obtain ⟨ad204, e204, hx204_0, hx204_1⟩ := at_T74 HR0_3.out x5_1 p204 q204
          cases e204
          replace hx204_0 := (HB.out.cell (World.block_lt_of_cell? w _ hx204_0)).trans hx204_0; replace hx204_1 := (HB.out.cell (World.block_lt_of_cell? w _ hx204_1)).trans hx204_1; replace p204 := eq_true p204; replace q204 := eq_true q204; go_wp2
          go_roundg k1
          case measure => have := HK1.out; omega
          case rel => exact ⟨(wrap64 (x5_1 + 1)), y4_, H', ⟨by have := HK1.out; omega⟩, ⟨y12_ BK203.out⟩, ⟨y8_ HB.out GE203.out⟩⟩
        rw [if_neg c5] at H; exact absurd H (by simp)
      rw [if_neg c4] at H; have c4b0 : decide (x5_1 < (l0_3.length : Int)) = false := decide_eq_false c4; clear c4; obtain rfl := oi_ H; obtain ⟨hcz9_0, hcz9_1, hcz9_2, hcz9_3, hcz9_4, hcz9_5, hcz9_6⟩ := cc7_ BK203.out; obtain ⟨hfz9_0, hfz9_1, hfz9_2, hfz9_3, hfz9_4, hfz9_5, hfz9_6⟩ := cf7_ BK203.out; go_wp2; go_ret; exact ⟨y6_, y8_ HB.out GE203.out⟩

end Go.Proofs.YtnemchmiplbopaaGreatDoor.Zk
