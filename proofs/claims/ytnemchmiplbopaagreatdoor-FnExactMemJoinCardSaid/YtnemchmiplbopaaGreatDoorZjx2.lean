-- Written by this session's own program (wip/tools/pp.py) out of the translation, over functions given by hand. Lean checks it.
import Derived.Test.YtnemchmiplbopaaGreatDoorZjx0
namespace Go.Proofs.YtnemchmiplbopaaGreatDoor.Zj
open Go.RowKit Go.Proofs.YtnemchmiplbopaaGreatDoorW.PrintWords Go.Proofs.YtnemchmiplbopaaGreatDoorW.PrintLast Go.Proofs.YtnemchmiplbopaaGreatDoorW.PrintMore
attribute [local go_sem] max2_int min2_int max_two min_two max_three min_three max_four min_four   -- for this text's walks alone
set_option linter.unusedVariables false
set_option linter.unusedSimpArgs false

/-! ### laws_eqStringS: function 13 -/
def laws_eqStringS.l0 : Nat → List ByteArray → List ByteArray → Int → Option (Bool)
  | 0, _, _, _ => none
  | k + 1, x0, x1, x5 => if x5 < (x0.length : Int) then (if 0 ≤ x5 then (if x5 < (x1.length : Int) then (if (rdOf ByteArray.empty x0 x5).toList = (rdOf ByteArray.empty x1 x5).toList then (laws_eqStringS.l0 k x0 x1 (wrap64 (x5 + 1))) else (some false)) else (none)) else (none)) else (some true)
def laws_eqStringS.f (k : Nat) (l0 : List ByteArray) (l1 : List ByteArray) : Option (Bool) := if (l0.length : Int) = (l1.length : Int) then (laws_eqStringS.l0 k l0 l1 0) else (some false)
set_option maxHeartbeats 8000000 in
set_option maxRecDepth 100000 in
theorem laws_eqStringS.calls {k : Nat} {A0 : Option Addr} {c0 : Nat} {l0 : List ByteArray} {A1 : Option Addr} {c1 : Nat} {l1 : List ByteArray} {r : Bool} {w : World} (hr0 : Kd.C Kd.string w A0 l0.length l0) (hc0 : l0.length ≤ c0) (hr1 : Kd.C Kd.string w A1 l1.length l1) (hc1 : l1.length ≤ c1) (H : laws_eqStringS.f k l0 l1 = some r) :
    Calls Tryz.prog 13 #[.slice A0 l0.length c0, .slice A1 l1.length c1] w fun e w' => e = .returned (.bool r) ∧ Drawn0 w w' := by
  have HR0 := am_ hr0; have HC0 := am_ hc0; clear hr0 hc0; have HR1 := am_ hr1; have HC1 := am_ hc1; clear hr1 hc1; revert H; unfold laws_eqStringS.f; refine ie3_ ?_ ?_
  · intro c3 c3b0 c3b1; have c3b2 : (l0.length == l1.length) = true := by first | simpa using c3 | (simp at c3 ⊢; omega)
    clear c3; refine ai_ fun H' => ?_; go_enter Tryz.func13, Tryz.ntmps13; go_wp2
    repeat (go_quiet (fail); try go_wp2)
    go_loopg [5] k (fun kq v5 w' => ∃ (x5_1 : Int), v5 = .int .i64 x5_1 ∧ Aside0 (laws_eqStringS.l0 kq l0 l1 x5_1 = some r) ∧ Aside0 (kq ≤ k) ∧ Drawn0 w w')
    case atStart => exact ⟨(0), y4_, H', ⟨Nat.le_refl _⟩, by repeat (first | exact Drawn0.refl _ | apply Drawn0.step)⟩
    case round =>
      clear H'; (try clear c1); (try clear c3); (try clear c3b0); (try clear c3b1); (try clear c3b2); obtain ⟨x5_1, rfl, HA, HK1, ⟨m1, rfl⟩⟩ := hrel
      cases gk with
      | zero => exact absurd HA.out (by simp [laws_eqStringS.l0])
      | succ k1 =>
        have H := HA.out; clear HA; simp only [laws_eqStringS.l0] at H; revert H; refine it_ ?_ ?_
        · intro c4b0
          refine in_ fun c5b0 => ?_
          refine in_ fun c6b0 => ?_
          refine ie2_ ?_ ?_
          · intro c7b0 c7b1; refine ai_ fun H' => ?_; obtain ⟨ad101, e101, p101, q101, hx101_0⟩ := as_ (Kd.at_string HR0.out x5_1); cases e101; obtain ⟨ad102, e102, p102, q102, hx102_0⟩ := as_ (Kd.at_string HR1.out x5_1); cases e102; go_wp2
            repeat (go_quiet (fail); try go_wp2)
            go_roundg k1
            case measure => have := HK1.out; omega
            case rel => exact ⟨(wrap64 (x5_1 + 1)), y4_, H', ⟨by have := HK1.out; omega⟩, by repeat (first | exact Drawn0.refl _ | apply Drawn0.step)⟩
          intro c7 c7b0 c7b1; refine oj_ ?_; rintro rfl; obtain ⟨ad101, e101, p101, q101, hx101_0⟩ := as_ (Kd.at_string HR0.out x5_1); cases e101; obtain ⟨ad102, e102, p102, q102, hx102_0⟩ := as_ (Kd.at_string HR1.out x5_1); cases e102; go_wp2
          repeat (go_quiet (fail); try go_wp2)
          go_ret; exact ⟨by first | rfl | (simp; done) | (simp [*]; done), by repeat (first | exact Drawn0.refl _ | apply Drawn0.step)⟩
        intro c4b0; refine oj_ ?_; rintro rfl; go_wp2
        repeat (go_quiet (fail); try go_wp2)
        go_ret; exact ⟨by first | rfl | (simp; done) | (simp [*]; done), by repeat (first | exact Drawn0.refl _ | apply Drawn0.step)⟩
  intro c3 c3b0 c3b1; have c3b2 : (l0.length == l1.length) = false := by first | simpa using c3 | (simp at c3 ⊢; omega)
  refine oj_ ?_; rintro rfl; go_enter Tryz.func13, Tryz.ntmps13; go_wp2
  repeat (go_quiet (fail); try go_wp2)
  go_ret; exact ⟨by first | rfl | (simp; done) | (simp [*]; done), by repeat (first | exact Drawn0.refl _ | apply Drawn0.step)⟩

/-! ### laws_eqTreTree: function 41 -/
def laws_eqTreTree.f (k : Nat) (l0_0 : List ByteArray) (l1_0 : List ByteArray) : Option (Bool) := (laws_eqStringS.f k l0_0 l1_0).bind fun t105 => (if t105 = true then (some true) else (some false))
theorem laws_eqTreTree.W {P : Prop} (h : P := by
  go_enter Tryz.func41, Tryz.ntmps41
  go_wp2_with ((with_reducible refine gl_ ?_); first | ((with_reducible refine gx_ 2 rfl ?_); refine bx_ 2 30 #[.slice A0_0 l0_0.length c0_0] ?_; intro gb103 hg w_ BK103 hb; have GW103 := ge_ (w0 := w) hg (y7_ HB.out); have GE103 := ge_ (w0 := w) hg (y7_ HB.out); replace HB := st_ (y7_ HB.out) hb; clear hb hg) | ((with_reducible refine gx_ 3 rfl ?_); refine bx_ 3 30 #[.slice A1_0 l1_0.length c1_0] ?_; intro gb104 hg w_ BK104 hb; have GW104 := ge_ (w0 := w) hg (yb_ HB.out); have GE104 := ge_ (w0 := w) hg (yb_ HB.out); replace HB := st_ (yb_ HB.out) hb; have NB103_104 := nb_ hg BK103; have NB104_103 := nc_ hg BK103; replace BK103 := bk_ BK103 hb; clear hb hg; have hz_ := NB103_104.out; have hz_ := NB104_103.out; have hz_ := blk_c0 BK103.out; have hz_ := blk_frozen BK103.out 0; have hz_ := blk_c0 BK104.out; have hz_ := blk_frozen BK104.out 0) | ((with_reducible refine gf_ 13 9 rfl rfl ?_); refine gd_ (laws_eqStringS.calls (y17_ (Kd.C_below HR0_0.out HB.out)) HC0_0.out (y17_ (Kd.C_below HR1_0.out HB.out)) HC1_0.out A3.out) ?_; intro nd))
  go_ret
  exact ⟨y6_, yb_ HB.out⟩) : P := h
set_option maxHeartbeats 8000000 in
set_option maxRecDepth 100000 in
theorem laws_eqTreTree.calls {k : Nat} {A0_0 : Option Addr} {c0_0 : Nat} {l0_0 : List ByteArray} {A1_0 : Option Addr} {c1_0 : Nat} {l1_0 : List ByteArray} {r : Bool} {w : World} (hr0_0 : Kd.C Kd.string w A0_0 l0_0.length l0_0) (hc0_0 : l0_0.length ≤ c0_0) (hr1_0 : Kd.C Kd.string w A1_0 l1_0.length l1_0) (hc1_0 : l1_0.length ≤ c1_0) (H : laws_eqTreTree.f k l0_0 l1_0 = some r) :
    Calls Tryz.prog 41 #[.agg #[.slice A0_0 l0_0.length c0_0], .agg #[.slice A1_0 l1_0.length c1_0]] w fun e w' => e = .returned (.bool r) ∧ Below w.heap.size w w' := by
  have hu30 := Tryz.underlying30; have HR0_0 := am_ hr0_0; have HC0_0 := am_ hc0_0; clear hr0_0 hc0_0; have HR1_0 := am_ hr1_0; have HC1_0 := am_ hc1_0; clear hr1_0 hc1_0; have HB := am_ (Below.refl w.heap.size w); revert H; unfold laws_eqTreTree.f; refine oc_ fun t105 A3 => ?_; refine ib_ ?_ ?_
  · rintro rfl; refine oj_ ?_; rintro rfl; exact laws_eqTreTree.W
  rintro rfl; refine oj_ ?_; rintro rfl; exact laws_eqTreTree.W

/-! ### laws_eqMemOwn: function 87 -/
def laws_eqMemOwn.f (a0_0 : Int) (a0_1 : ByteArray) (a1_0 : Int) (a1_1 : ByteArray) : Option (Bool) := if a0_0 = a1_0 then (if a0_1.toList = a1_1.toList then (some true) else (some false)) else (some false)
theorem laws_eqMemOwn.W {P : Prop} (h : P := by
  go_enter Tryz.func87, Tryz.ntmps87
  go_wp2_with ((with_reducible refine gl_ ?_); first | ((with_reducible refine gx_ 2 rfl ?_); refine bx_ 2 74 #[.int .i64 a0_0, .string a0_1] ?_; intro gb106 hg w_ BK106 hb; have GW106 := ge_ (w0 := w) hg (y7_ HB.out); have GE106 := ge_ (w0 := w) hg (y7_ HB.out); replace HB := st_ (y7_ HB.out) hb; clear hb hg) | ((with_reducible refine gx_ 3 rfl ?_); refine bx_ 3 74 #[.int .i64 a1_0, .string a1_1] ?_; intro gb107 hg w_ BK107 hb; have GW107 := ge_ (w0 := w) hg (yb_ HB.out); have GE107 := ge_ (w0 := w) hg (yb_ HB.out); replace HB := st_ (yb_ HB.out) hb; have NB106_107 := nb_ hg BK106; have NB107_106 := nc_ hg BK106; replace BK106 := bk_ BK106 hb; clear hb hg; have hz_ := NB106_107.out; have hz_ := NB107_106.out; have hz_ := cc2_ BK106.out; have hz_ := cf2_ BK106.out; have hz_ := cc2_ BK107.out; have hz_ := cf2_ BK107.out))
  go_ret
  exact ⟨y6_, yb_ HB.out⟩) : P := h
set_option maxHeartbeats 8000000 in
set_option maxRecDepth 100000 in
theorem laws_eqMemOwn.calls {a0_0 : Int} {a0_1 : ByteArray} {a1_0 : Int} {a1_1 : ByteArray} {r : Bool} {w : World} (H : laws_eqMemOwn.f a0_0 a0_1 a1_0 a1_1 = some r) :
    Calls Tryz.prog 87 #[.agg #[.int .i64 a0_0, .string a0_1], .agg #[.int .i64 a1_0, .string a1_1]] w fun e w' => e = .returned (.bool r) ∧ Below w.heap.size w w' := by
  have hu74 := Tryz.underlying74; have HB := am_ (Below.refl w.heap.size w); revert H; unfold laws_eqMemOwn.f; refine ie2_ ?_ ?_
  · intro c3b0 c3b1
    refine ie2_ ?_ ?_
    · intro c4b0 c4b1; refine oj_ ?_; rintro rfl; exact laws_eqMemOwn.W
    intro c4 c4b0 c4b1; refine oj_ ?_; rintro rfl; exact laws_eqMemOwn.W
  intro c3 c3b0 c3b1; refine oj_ ?_; rintro rfl; exact laws_eqMemOwn.W

/-! ### laws_eqMemOwnS: function 42 -/
def laws_eqMemOwnS.l0 : Nat → List (S74) → List (S74) → Int → Option (Bool)
  | 0, _, _, _ => none
  | k + 1, x0, x1, x5 => if x5 < (x0.length : Int) then (if 0 ≤ x5 then (if x5 < (x1.length : Int) then ((laws_eqMemOwn.f ((rd_T74 x0 x5).f0) ((rd_T74 x0 x5).f1) ((rd_T74 x1 x5).f0) ((rd_T74 x1 x5).f1)).bind fun t110 => (if t110 = true then (laws_eqMemOwnS.l0 k x0 x1 (wrap64 (x5 + 1))) else (some false))) else (none)) else (none)) else (some true)
def laws_eqMemOwnS.f (k : Nat) (l0 : List (S74)) (l1 : List (S74)) : Option (Bool) := if (l0.length : Int) = (l1.length : Int) then (laws_eqMemOwnS.l0 k l0 l1 0) else (some false)
def laws_eqMemOwnS.T6 : Bool × List (List Nat × List Nat) := (true, [([], []), ([], []), ([0, 1], [0, 1]), ([2], [2]), ([], []), ([], []), ([4, 5], [4, 5]), ([6], [6]), ([3, 7], [3, 7]), ([8], [8])])
def laws_eqMemOwnS.B6 : List Nat := [0, 0, 3, 7, 0, 0, 48, 112, 255, 511]
theorem laws_eqMemOwnS.tab6 : rtab .any (opsOf Tryz.f42 6) = laws_eqMemOwnS.T6 := by kernel_rfl
theorem laws_eqMemOwnS.bits6 : waitsOk laws_eqMemOwnS.T6.2 laws_eqMemOwnS.B6 = true := by kernel_rfl
set_option maxHeartbeats 8000000 in
set_option maxRecDepth 100000 in
theorem laws_eqMemOwnS.calls {k : Nat} {A0 : Option Addr} {c0 : Nat} {l0 : List (S74)} {A1 : Option Addr} {c1 : Nat} {l1 : List (S74)} {r : Bool} {w : World} (hr0 : Kd.C k74 w A0 l0.length l0) (hc0 : l0.length ≤ c0) (hr1 : Kd.C k74 w A1 l1.length l1) (hc1 : l1.length ≤ c1) (H : laws_eqMemOwnS.f k l0 l1 = some r) :
    Calls Tryz.prog 42 #[.slice A0 l0.length c0, .slice A1 l1.length c1] w fun e w' => e = .returned (.bool r) ∧ Below w.heap.size w w' := by
  have hu74 := Tryz.underlying74; have HR0 := am_ hr0; have HC0 := am_ hc0; clear hr0 hc0; have HR1 := am_ hr1; have HC1 := am_ hc1; clear hr1 hc1; have HB := am_ (Below.refl w.heap.size w); revert H; unfold laws_eqMemOwnS.f; refine ie3_ ?_ ?_
  · intro c3 c3b0 c3b1; have c3b2 : (l0.length == l1.length) = true := by first | simpa using c3 | (simp at c3 ⊢; omega)
    clear c3; refine ai_ fun H' => ?_; go_enter Tryz.func42, Tryz.ntmps42; go_wp2
    go_loopg [5] k (fun kq v5 w' => ∃ (x5_1 : Int), v5 = .int .i64 x5_1 ∧ Aside0 (laws_eqMemOwnS.l0 kq l0 l1 x5_1 = some r) ∧ Aside0 (kq ≤ k) ∧ Aside0 (Below w.heap.size w w'))
    case atStart => exact ⟨(0), y4_, H', ⟨Nat.le_refl _⟩, ⟨y7_ HB.out⟩⟩
    case round =>
      clear H'; (try clear c1); (try clear c3); (try clear c3b0); (try clear c3b1); (try clear c3b2); obtain ⟨x5_1, rfl, HA, HK1, HB⟩ := hrel
      cases gk with
      | zero => exact absurd HA.out (by simp [laws_eqMemOwnS.l0])
      | succ k1 =>
        have H := HA.out; clear HA; simp only [laws_eqMemOwnS.l0] at H; revert H; refine it_ ?_ ?_
        · intro c4b0
          refine in_ fun c5b0 => ?_
          refine in_ fun c6b0 => ?_
          refine oc_ fun t110 A7 => ?_; refine ai_ fun HH => ?_
          try go_wp2
          replace HB := am_ (below_drew1 HB.out); have p108 : 0 ≤ (x5_1 : Int) := of_decide_eq_true y3_; have q108 : x5_1 < (l0.length : Int) := of_decide_eq_true y3_; obtain ⟨ad108, e108, hx108_0, hx108_1⟩ := at_T74 HR0.out x5_1 p108 q108; have hw108_1 := hx108_1; have hw108_0 := hx108_0
          cases e108
          replace hx108_0 := (HB.out.cell (World.block_lt_of_cell? w _ hx108_0)).trans hx108_0; replace hx108_1 := (HB.out.cell (World.block_lt_of_cell? w _ hx108_1)).trans hx108_1; replace p108 := eq_true p108; replace q108 := eq_true q108; have p109 : 0 ≤ (x5_1 : Int) := of_decide_eq_true y3_; have q109 : x5_1 < (l1.length : Int) := of_decide_eq_true y3_; obtain ⟨ad109, e109, hx109_0, hx109_1⟩ := at_T74 HR1.out x5_1 p109 q109; have hw109_1 := hx109_1; have hw109_0 := hx109_0
          cases e109
          replace hx109_0 := (HB.out.cell (World.block_lt_of_cell? w _ hx109_0)).trans hx109_0; replace hx109_1 := (HB.out.cell (World.block_lt_of_cell? w _ hx109_1)).trans hx109_1; replace p109 := eq_true p109; replace q109 := eq_true q109; refine start_ (n := 10) (S := fun w' => w'.cell? (ad108.add ((x5_1).toNat * 2)) = some (.int .i64 ((rd_T74 l0 x5_1).f0)) ∧ w'.cell? ⟨(ad108.add ((x5_1).toNat * 2)).block, (ad108.add ((x5_1).toNat * 2)).off + 1, none⟩ = some (.string ((rd_T74 l0 x5_1).f1)) ∧ w'.cell? (ad109.add ((x5_1).toNat * 2)) = some (.int .i64 ((rd_T74 l1 x5_1).f0)) ∧ w'.cell? ⟨(ad109.add ((x5_1).toNat * 2)).block, (ad109.add ((x5_1).toNat * 2)).off + 1, none⟩ = some (.string ((rd_T74 l1 x5_1).f1))) (ds := []) #[false, false, false, false, false, false, false, false, false, false] (by kernel_rfl) rfl rfl ⟨((HB.out.cell (World.block_lt_of_cell? w _ hw108_0)).trans hw108_0), ((HB.out.cell (World.block_lt_of_cell? w _ hw108_1)).trans hw108_1), ((HB.out.cell (World.block_lt_of_cell? w _ hw109_0)).trans hw109_0), ((HB.out.cell (World.block_lt_of_cell? w _ hw109_1)).trans hw109_1)⟩ (fun hHeld => ?_); refine with_tabW laws_eqMemOwnS.tab6 laws_eqMemOwnS.bits6 (fun HT_ HW_ => ?_); generalize wr.drew = w9 at HB hx108_0 hx108_1 hx109_0 hx109_1 hHeld ⊢; refine pI_ 0 17 (bs_ 10 1) ?_; refine pI_ 1 18 (bs_ 10 3) ?_; refine pI_ 2 19 (bs_ 10 7) ?_; refine pI_ 4 21 (bs_ 10 23) ?_; refine pI_ 5 22 (bs_ 10 55) ?_; refine pI_ 6 23 (bs_ 10 119) ?_; refine pT_ 3 20 (bs_ 10 127) ?_; refine pT_ 7 24 (bs_ 10 255) ?_; refine oN_ 8 25 (bs_ 10 511) (fun K hK => ?_); refine gs_ (laws_eqMemOwn.calls A7.out) ?_
          rintro e w10 ⟨rfl, hb⟩; refine ⟨_, rfl, ?_⟩; replace HB := st_ (y7_ HB.out) hb; clear hb; refine hK.out _ _ ⟨((HB.out.cell (World.block_lt_of_cell? w _ hw108_0)).trans hw108_0), ((HB.out.cell (World.block_lt_of_cell? w _ hw108_1)).trans hw108_1), ((HB.out.cell (World.block_lt_of_cell? w _ hw109_0)).trans hw109_0), ((HB.out.cell (World.block_lt_of_cell? w _ hw109_1)).trans hw109_1)⟩ (fun hHeld => ?_); clear hK K; refine nm_ ?_
          refine pI_ 9 26 (bs_ 10 1023) ?_; refine done_ (done_of HT_.out (by kernel_rfl)) ?_
          obtain ⟨H⟩ := HH; revert H; refine ib_ ?_ ?_
          · rintro rfl
            refine ai_ fun H' => ?_
            try go_wp2
            go_roundg k1
            case measure => have := HK1.out; omega
            case rel => exact ⟨(wrap64 (x5_1 + 1)), y4_, H', ⟨by have := HK1.out; omega⟩, ⟨y7_ HB.out⟩⟩
          rintro rfl
          refine oj_ ?_; rintro rfl
          try go_wp2
          go_ret; exact ⟨y6_, y7_ HB.out⟩
        intro c4b0; refine oj_ ?_; rintro rfl; go_wp2; go_ret; exact ⟨y6_, y7_ HB.out⟩
  intro c3 c3b0 c3b1; have c3b2 : (l0.length == l1.length) = false := by first | simpa using c3 | (simp at c3 ⊢; omega)
  refine oj_ ?_; rintro rfl; go_enter Tryz.func42, Tryz.ntmps42; go_wp2; go_ret; exact ⟨y6_, y7_ HB.out⟩

/-! ### laws_eqMemMember: function 10 -/
def laws_eqMemMember.f (k : Nat) (a0_0 : Bool) (a0_1 : Int) (l0_2 : List ByteArray) (l0_3 : List (S74)) (a0_4 : Int) (a0_5 : ByteArray) (a0_6 : ByteArray) (a1_0 : Bool) (a1_1 : Int) (l1_2 : List ByteArray) (l1_3 : List (S74)) (a1_4 : Int) (a1_5 : ByteArray) (a1_6 : ByteArray) : Option (Bool) := if (a0_0 != a1_0) = true then (some false) else (if a0_1 = a1_1 then ((laws_eqTreTree.f k l0_2 l1_2).bind fun t113 => (if t113 = true then ((laws_eqMemOwnS.f k l0_3 l1_3).bind fun t114 => (if t114 = true then (if a0_4 = a1_4 then (if a0_5.toList = a1_5.toList then (if a0_6.toList = a1_6.toList then (some true) else (some false)) else (some false)) else (some false)) else (some false))) else (some false))) else (some false))
theorem laws_eqMemMember.W {P : Prop} (h : P := by
  go_enter Tryz.func10, Tryz.ntmps10
  go_wp2_with ((with_reducible refine gl_ ?_); first | ((with_reducible refine gx_ 2 rfl ?_); refine bx_ 2 33 #[.bool a0_0, .int .i64 a0_1, .slice A0_2 l0_2.length c0_2, .slice A0_3 l0_3.length c0_3, .int .i64 a0_4, .string a0_5, .string a0_6] ?_; intro gb111 hg w_ BK111 hb; have GW111 := ge_ (w0 := w) hg (y7_ HB.out); have GE111 := ge_ (w0 := w) hg (y7_ HB.out); replace HB := st_ (y7_ HB.out) hb; clear hb hg) | ((with_reducible refine gx_ 3 rfl ?_); refine bx_ 3 33 #[.bool a1_0, .int .i64 a1_1, .slice A1_2 l1_2.length c1_2, .slice A1_3 l1_3.length c1_3, .int .i64 a1_4, .string a1_5, .string a1_6] ?_; intro gb112 hg w_ BK112 hb; have GW112 := ge_ (w0 := w) hg (yb_ HB.out); have GE112 := ge_ (w0 := w) hg (yb_ HB.out); replace HB := st_ (yb_ HB.out) hb; have NB111_112 := nb_ hg BK111; have NB112_111 := nc_ hg BK111; replace BK111 := bk_ BK111 hb; clear hb hg; have hz_ := NB111_112.out; have hz_ := NB112_111.out; have hz_ := cc7_ BK111.out; have hz_ := cf7_ BK111.out; have hz_ := cc7_ BK112.out; have hz_ := cf7_ BK112.out) | ((with_reducible refine gf_ 41 19 rfl rfl ?_); refine gb_ (laws_eqTreTree.calls (y17_ (Kd.C_below HR0_2.out HB.out)) HC0_2.out (y17_ (Kd.C_below HR1_2.out HB.out)) HC1_2.out A10.out) ?_; intro w_ hb; replace BK111 := bk_ BK111 hb; replace BK112 := bk_ BK112 hb; replace HB := st_ (yb_ HB.out) hb; clear hb; have hz_ := cc7_ BK111.out; have hz_ := cf7_ BK111.out; have hz_ := cc7_ BK112.out; have hz_ := cf7_ BK112.out) | ((with_reducible refine gf_ 42 25 rfl rfl ?_); refine gb_ (laws_eqMemOwnS.calls (y17_ (Kd.C_below HR0_3.out HB.out)) HC0_3.out (y17_ (Kd.C_below HR1_3.out HB.out)) HC1_3.out A12.out) ?_; intro w_ hb; replace BK111 := bk_ BK111 hb; replace BK112 := bk_ BK112 hb; replace HB := st_ (yb_ HB.out) hb; clear hb; have hz_ := cc7_ BK111.out; have hz_ := cf7_ BK111.out; have hz_ := cc7_ BK112.out; have hz_ := cf7_ BK112.out))
  go_ret
  exact ⟨y6_, yb_ HB.out⟩) : P := h
set_option maxHeartbeats 8000000 in
set_option maxRecDepth 100000 in
theorem laws_eqMemMember.calls {k : Nat} {a0_0 : Bool} {a0_1 : Int} {A0_2 : Option Addr} {c0_2 : Nat} {l0_2 : List ByteArray} {A0_3 : Option Addr} {c0_3 : Nat} {l0_3 : List (S74)} {a0_4 : Int} {a0_5 : ByteArray} {a0_6 : ByteArray} {a1_0 : Bool} {a1_1 : Int} {A1_2 : Option Addr} {c1_2 : Nat} {l1_2 : List ByteArray} {A1_3 : Option Addr} {c1_3 : Nat} {l1_3 : List (S74)} {a1_4 : Int} {a1_5 : ByteArray} {a1_6 : ByteArray} {r : Bool} {w : World} (hr0_2 : Kd.C Kd.string w A0_2 l0_2.length l0_2) (hc0_2 : l0_2.length ≤ c0_2) (hr0_3 : Kd.C k74 w A0_3 l0_3.length l0_3) (hc0_3 : l0_3.length ≤ c0_3) (hr1_2 : Kd.C Kd.string w A1_2 l1_2.length l1_2) (hc1_2 : l1_2.length ≤ c1_2) (hr1_3 : Kd.C k74 w A1_3 l1_3.length l1_3) (hc1_3 : l1_3.length ≤ c1_3) (H : laws_eqMemMember.f k a0_0 a0_1 l0_2 l0_3 a0_4 a0_5 a0_6 a1_0 a1_1 l1_2 l1_3 a1_4 a1_5 a1_6 = some r) :
    Calls Tryz.prog 10 #[.agg #[.bool a0_0, .int .i64 a0_1, .slice A0_2 l0_2.length c0_2, .slice A0_3 l0_3.length c0_3, .int .i64 a0_4, .string a0_5, .string a0_6], .agg #[.bool a1_0, .int .i64 a1_1, .slice A1_2 l1_2.length c1_2, .slice A1_3 l1_3.length c1_3, .int .i64 a1_4, .string a1_5, .string a1_6]] w fun e w' => e = .returned (.bool r) ∧ Below w.heap.size w w' := by
  have hu33 := Tryz.underlying33; have hu30 := Tryz.underlying30; have HR0_2 := am_ hr0_2; have HC0_2 := am_ hc0_2; clear hr0_2 hc0_2; have HR0_3 := am_ hr0_3; have HC0_3 := am_ hc0_3; clear hr0_3 hc0_3; have HR1_2 := am_ hr1_2; have HC1_2 := am_ hc1_2; clear hr1_2 hc1_2; have HR1_3 := am_ hr1_3; have HC1_3 := am_ hc1_3; clear hr1_3 hc1_3; have HB := am_ (Below.refl w.heap.size w); revert H; unfold laws_eqMemMember.f; refine io_ ?_ ?_
  · intro c3; have c3b0 : (a0_0 != a1_0) = true := c3; (try (have c3b1 : decide (a0_0 = a1_0) = false := by simpa using c3)); (try (have c3b2 : (a0_0 == a1_0) = false := by simpa using c3)); (try (have c3b3 : ¬ (a0_0 = a1_0) := by simpa using c3)); clear c3; refine oj_ ?_; rintro rfl; exact laws_eqMemMember.W
  intro c3; have c3b0 : (a0_0 != a1_0) = false := by simpa using c3
  (try (have c3b1 : decide (a0_0 = a1_0) = true := by simpa using c3)); (try (have c3b2 : (a0_0 == a1_0) = true := by simpa using c3)); clear c3; refine ie2_ ?_ ?_
  · intro c9b0 c9b1
    refine oc_ fun t113 A10 => ?_; refine ib_ ?_ ?_
    · rintro rfl
      refine oc_ fun t114 A12 => ?_; refine ib_ ?_ ?_
      · rintro rfl
        refine ie2_ ?_ ?_
        · intro c14b0 c14b1
          refine ie2_ ?_ ?_
          · intro c15b0 c15b1
            refine ie2_ ?_ ?_
            · intro c16b0 c16b1; refine oj_ ?_; rintro rfl; exact laws_eqMemMember.W
            intro c16 c16b0 c16b1; refine oj_ ?_; rintro rfl; exact laws_eqMemMember.W
          intro c15 c15b0 c15b1; refine oj_ ?_; rintro rfl; exact laws_eqMemMember.W
        intro c14 c14b0 c14b1; refine oj_ ?_; rintro rfl; exact laws_eqMemMember.W
      rintro rfl; refine oj_ ?_; rintro rfl; exact laws_eqMemMember.W
    rintro rfl; refine oj_ ?_; rintro rfl; exact laws_eqMemMember.W
  intro c9 c9b0 c9b1; refine oj_ ?_; rintro rfl; exact laws_eqMemMember.W

/-! ### laws_markText: function 46 -/
def laws_markText.l0 : Nat → Int → ByteArray → Option (ByteArray)
  | 0, _, _ => none
  | k + 1, x0, x3 => if x0 > 0 then ((some (([(wrap64 (48 + (Int.tmod x0 10))) % 256] : List Int) : List Int)).bind fun y115 => (if (strOfNums y115).size + x3.size ≤ 9223372036854775807 then (laws_markText.l0 k (wrap64 (Int.tdiv x0 10)) ((strOfNums y115) ++ x3)) else (none))) else (if 1 + x3.size ≤ 9223372036854775807 then (some ((⟨#[109]⟩ : ByteArray) ++ x3)) else (none))
def laws_markText.f (k : Nat) (a0 : Int) : Option (ByteArray) := if a0 ≤ 0 then (some (⟨#[109, 48]⟩ : ByteArray)) else (laws_markText.l0 k a0 (⟨#[]⟩ : ByteArray))
set_option maxHeartbeats 8000000 in
set_option maxRecDepth 100000 in
theorem laws_markText.calls {k : Nat} {a0 : Int} {r : ByteArray} {w : World} (H : laws_markText.f k a0 = some r) :
    Calls Tryz.prog 46 #[.int .i64 a0] w fun e w' => e = .returned (.string r) ∧ Below w.heap.size w w' := by
  have HB := am_ (Below.refl w.heap.size w); revert H; unfold laws_markText.f; refine it_ ?_ ?_
  · intro c2b0; refine oj_ ?_; rintro rfl; go_enter Tryz.func46, Tryz.ntmps46; go_wp2; go_ret; exact ⟨y6_, y7_ HB.out⟩
  intro c2b0; refine ai_ fun H' => ?_; go_enter Tryz.func46, Tryz.ntmps46; go_wp2
  go_loopg [0, 3] k (fun kq v0 v3 w' => ∃ (x0_1 : Int) (x3_1 : ByteArray), v0 = .int .i64 x0_1 ∧ v3 = .string x3_1 ∧ Aside0 (laws_markText.l0 kq x0_1 x3_1 = some r) ∧ Aside0 (kq ≤ k) ∧ Aside0 (Below w.heap.size w w'))
  case atStart => exact ⟨(a0), ((⟨#[]⟩ : ByteArray)), y4_, y4_, H', ⟨Nat.le_refl _⟩, ⟨y7_ HB.out⟩⟩
  case round =>
    clear H'; (try clear c2b0); obtain ⟨x0_1, x3_1, rfl, rfl, HA, HK1, HB⟩ := hrel
    cases gk with
    | zero => exact absurd HA.out (by simp [laws_markText.l0])
    | succ k1 =>
      have H := HA.out; clear HA; simp only [laws_markText.l0] at H; revert H; refine itg_ ?_ ?_
      · intro c3b0
        refine on_ fun y115 Ny115 => ?_; refine il1_ fun c4 c4b0 c4b1 => ?_
        try have c4b2 : (9223372036854775807 < (strOfNums y115).size + x3_1.size) = False := eq_false (Nat.not_lt.2 c4)
        refine ai_ fun H' => ?_; go_wp2_with (first | ((with_reducible refine gate_dst (N := 12) rfl ?_); refine Kd.R_lit (Kd.int .u8) _ 5 ?hg (N := 12) ?hd (xs := ([(wrap64 (48 + (Int.tmod x0_1 10))) % 256] : List Int)) (inner := [.int .u8 ((wrap64 (48 + (Int.tmod x0_1 10))) % 256)]) (ok := fun _ => True) (okp := fun _ => True) ?hr ?hp (fun _ hk => hk) trivial (Below.refl _ _) (Nat.le_refl _) (by simp) ?_; (case hd => rfl); (case hg => rfl); (case hr => go_simp; try rfl); (case hp => exact (Reps.one (show Kd.M (Kd.int .u8) _ _ _ ((wrap64 (48 + (Int.tmod x0_1 10))) % 256) [.int .u8 ((wrap64 (48 + (Int.tmod x0_1 10))) % 256)] from rfl) (Reps.none _ _))); intro v116 w5 ho6 hb hg_ hnew_; clear hg_ hnew_; (first | rw [← Ny115.out] at ho6 | (simp only [Int.reduceToNat] at ho6; rw [← Ny115.out] at ho6)); have HO117 := am_ (Kd.R_lower ho6 (below_size (y7_ HB.out))); replace HB := st_ (y7_ HB.out) hb; clear hb ho6; have hcv7 := own_string (P := Tryz.prog) Tryz.underlying109 Tryz.underlying5 Tryz.underlying9 (Kd.own_of_R HO117.out)))
        go_roundg k1
        case measure => have := HK1.out; omega
        case rel => exact ⟨(wrap64 (Int.tdiv x0_1 10)), ((strOfNums y115) ++ x3_1), y4_, y4_, H', ⟨by have := HK1.out; omega⟩, ⟨y7_ HB.out⟩⟩
      intro c3b0
      refine il1_ fun c8 c8b0 c8b1 => ?_
      try have c8b2 : (9223372036854775807 < 1 + x3_1.size) = False := eq_false (Nat.not_lt.2 c8)
      refine oj_ ?_; rintro rfl; go_wp2; go_ret; exact ⟨y6_, y7_ HB.out⟩

end Go.Proofs.YtnemchmiplbopaaGreatDoor.Zj
