-- Written by this session's own program (wip/tools/pp.py) out of the translation, over functions given by hand. Lean checks it.
import Derived.Test.YtnemchmiplbopaaGreatDoorZjx0
import Derived.Test.YtnemchmiplbopaaGreatDoorZjx15
import Derived.Test.YtnemchmiplbopaaGreatDoorZjGivK
import Derived.Test.YtnemchmiplbopaaGreatDoorZjx1
namespace Go.Proofs.YtnemchmiplbopaaGreatDoor.Zj
open Go.RowKit Go.Proofs.YtnemchmiplbopaaGreatDoorW.PrintWords Go.Proofs.YtnemchmiplbopaaGreatDoorW.PrintLast Go.Proofs.YtnemchmiplbopaaGreatDoorW.PrintMore
attribute [local go_sem] max2_int min2_int max_two min_two max_three min_three max_four min_four   -- for this text's walks alone
set_option linter.unusedVariables false
set_option linter.unusedSimpArgs false

/-! ### impl_MemOk: function 9 -/
mutual
def impl_MemOk.j0 : Nat → Bool → Bool → Int → List ByteArray → List (S74) → Int → ByteArray → ByteArray → Option (Bool)
  | 0, _, _, _, _, _, _, _, _ => none
  | k + 1, x76, x380000, x380001, x380002, x380003, x380004, x380005, x380006 => if x76 = true then (some false) else ((impl_path.f k x380001).bind fun t385 => (impl_MemOk.l0 k 0 t385 (t385.length : Int) 0 x380000 x380001 x380002 x380003 x380004 x380005 x380006))
def impl_MemOk.l0 : Nat → Int → List Int → Int → Int → Bool → Int → List ByteArray → List (S74) → Int → ByteArray → ByteArray → Option (Bool)
  | 0, _, _, _, _, _, _, _, _, _, _, _ => none
  | k + 1, x3, x79, x80, x81, x380000, x380001, x380002, x380003, x380004, x380005, x380006 => if x81 < x80 then (if 0 ≤ x81 then (if x81 < (x79.length : Int) then (if 0 ≤ (rd x79 x81) then (if (rd x79 x81) < (x380002.length : Int) then (if (rdOf ByteArray.empty x380002 (rd x79 x81)).toList = ([] : List UInt8) then (impl_MemOk.l0 k x3 x79 x80 (wrap64 (x81 + 1)) x380000 x380001 x380002 x380003 x380004 x380005 x380006) else ((impl_ownAt.f x380003 (rd x79 x81)).bind fun t390 => (if t390 < 0 then (some false) else (if 0 ≤ t390 then (if t390 < (x380003.length : Int) then ((impl_MakKey.f k ((rd_T74 x380003 t390).f1)).bind fun t392 => (if t392.toList = (rdOf ByteArray.empty x380002 (rd x79 x81)).toList then (impl_MemOk.l0 k (wrap64 (x3 + 1)) x79 x80 (wrap64 (x81 + 1)) x380000 x380001 x380002 x380003 x380004 x380005 x380006) else (some false))) else (none)) else (none))))) else (none)) else (none)) else (none)) else (none)) else (some (x3 == (x380003.length : Int)))
end
def impl_MemOk.f (k : Nat) (a0_0 : Bool) (a0_1 : Int) (l0_2 : List ByteArray) (l0_3 : List (S74)) (a0_4 : Int) (a0_5 : ByteArray) (a0_6 : ByteArray) : Option (Bool) := if a0_0 = true then ((impl_isOne.f a0_1).bind fun t380 => (if t380 = true then ((impl_TreOk.f l0_2).bind fun t381 => (if t381 = true then ((impl_in.f a0_4 0 12).bind fun t382 => (if t382 = true then ((impl_SecOk.f a0_5).bind fun t383 => (if t383 = true then (if (a0_6.size : Int) > 300 then (impl_MemOk.j0 k true a0_0 a0_1 l0_2 l0_3 a0_4 a0_5 a0_6) else ((impl_TreTree_has.f l0_2 a0_1).bind fun t384 => (impl_MemOk.j0 k (!t384) a0_0 a0_1 l0_2 l0_3 a0_4 a0_5 a0_6))) else (impl_MemOk.j0 k true a0_0 a0_1 l0_2 l0_3 a0_4 a0_5 a0_6))) else (impl_MemOk.j0 k true a0_0 a0_1 l0_2 l0_3 a0_4 a0_5 a0_6))) else (impl_MemOk.j0 k true a0_0 a0_1 l0_2 l0_3 a0_4 a0_5 a0_6))) else (impl_MemOk.j0 k true a0_0 a0_1 l0_2 l0_3 a0_4 a0_5 a0_6))) else (if a0_1 = 0 then (if (l0_2.length : Int) = 0 then (if (l0_3.length : Int) = 0 then (if a0_4 = 0 then (if a0_5.toList = ([] : List UInt8) then (some (a0_6.toList == ([] : List UInt8))) else (some false)) else (some false)) else (some false)) else (some false)) else (some false))
def impl_MemOk.T12 : Bool × List (List Nat × List Nat) := (true, [([], []), ([0], [0]), ([1], [1]), ([2], [2]), ([3, 2], [2, 3]), ([2], [2]), ([4, 5, 2], [2, 4, 5]), ([6, 2], [2, 6]), ([7, 2], [2, 7]), ([8, 2, 2], [2, 8]), ([2], [2]), ([10, 2], [2, 10]), ([11, 2], [2, 11]), ([2], [2]), ([12, 13, 2], [2, 12, 13]), ([14, 2], [2, 14]), ([9, 15, 2], [2, 9, 15]), ([2, 16], [2, 16])])
def impl_MemOk.B12 : List Nat := [0, 1, 3, 7, 15, 7, 63, 127, 255, 511, 7, 1031, 3079, 7, 15367, 31751, 65535, 131071]
theorem impl_MemOk.tab12 : rtab .any (opsOf Tryz.f9 12) = impl_MemOk.T12 := by kernel_rfl
theorem impl_MemOk.bits12 : waitsOk impl_MemOk.T12.2 impl_MemOk.B12 = true := by kernel_rfl
theorem impl_MemOk.W {P : Prop} (h : P := by
  go_enter Tryz.func9, Tryz.ntmps9
  go_wp2_with ((with_reducible refine gl_ ?_); first | ((with_reducible refine gx_ 1 rfl ?_); (try (refine gate_guard (by rfl) ?_; dsimp only)); refine bx_ 1 33 #[.bool false, .int .i64 a0_1, .slice A0_2 l0_2.length c0_2, .slice A0_3 l0_3.length c0_3, .int .i64 a0_4, .string a0_5, .string a0_6] ?_; intro gb379 hg w_ BK379 hb; have GW379 := ge_ (w0 := w) hg (y7_ HB.out); have GE379 := ge_ (w0 := w) hg (y7_ HB.out); replace HB := st_ (y7_ HB.out) hb; clear hb hg; have hz_ := cc7_ BK379.out; have hz_ := cf7_ BK379.out))
  go_ret
  exact ⟨y6_, yb_ HB.out⟩) : P := h
theorem impl_MemOk.W1 {P : Prop} (h : P := by
  have hz_ := cc7_ BK379.out
  have hz_ := cf7_ BK379.out
  go_wp2_with (first | (go_at_call 34; (with_reducible refine (impl_TreOk.calls _ _ l0_2 false _ ?side1 ?side2 ?side3 A8.out).mono ?_); (case side1 => repeat (first | exact (Kd.C_below HR0_2.out (yb_ HB.out)) | (with_reducible refine Kd.C_alloc ?_ _) | (with_reducible refine Kd.C_drewN ?_ _) | (with_reducible refine Kd.C_drew ?_))); (case side2 => exact HC0_2.out); (case side3 => exact GlobOk.below HGL.out (yb_ HB.out)); rintro e w_ ⟨rfl, hb⟩; replace BK379 := bk_ BK379 hb; replace HB := st_ (yb_ HB.out) hb; clear hb) | (go_at_call 34; (with_reducible refine (impl_TreOk.calls _ _ l0_2 true _ ?side1 ?side2 ?side3 A8.out).mono ?_); (case side1 => repeat (first | exact (Kd.C_below HR0_2.out (yb_ HB.out)) | (with_reducible refine Kd.C_alloc ?_ _) | (with_reducible refine Kd.C_drewN ?_ _) | (with_reducible refine Kd.C_drew ?_))); (case side2 => exact HC0_2.out); (case side3 => exact GlobOk.below HGL.out (yb_ HB.out)); rintro e w_ ⟨rfl, hb⟩; replace BK379 := bk_ BK379 hb; replace HB := st_ (yb_ HB.out) hb; clear hb; have hz_ := cc7_ BK379.out; have hz_ := cf7_ BK379.out) | (go_at_call 35; (with_reducible refine (impl_in.calls A10.out).mono ?_); rintro e w' ⟨rfl, ⟨nd, rfl⟩⟩) | (go_at_call 36; (with_reducible refine (impl_SecOk.calls a0_5 false _ ?side1 A12.out).mono ?_); (case side1 => exact GlobOk.below HGL.out (yb_ HB.out)); rintro e w_ ⟨rfl, hb⟩; replace BK379 := bk_ BK379 hb; replace HB := st_ (yb_ HB.out) hb; clear hb) | (go_at_call 36; (with_reducible refine (impl_SecOk.calls a0_5 true _ ?side1 A12.out).mono ?_); (case side1 => exact GlobOk.below HGL.out (yb_ HB.out)); rintro e w_ ⟨rfl, hb⟩; replace BK379 := bk_ BK379 hb; replace HB := st_ (yb_ HB.out) hb; clear hb; have hz_ := cc7_ BK379.out; have hz_ := cf7_ BK379.out) | (go_at_call 37; (with_reducible refine (impl_TreTree_has.calls ?side1 ?side2 A20.out).mono ?_); (case side1 => exact y17_ (Kd.C_below HR0_2.out HB.out)); (case side2 => exact HC0_2.out); rintro e w_ ⟨rfl, hb⟩; replace BK379 := bk_ BK379 hb; replace HB := st_ (yb_ HB.out) hb; clear hb) | ((with_reducible refine gl_ ?_); first | ((with_reducible refine gf_ 33 43 rfl rfl ?_); refine gd_ (impl_isOne.calls A6.out) ?_; intro nd)))
  go_meet
  case rel => first | exact ⟨_, (!t384), y4_, H', ⟨by first | omega | exact Nat.le_refl _⟩, ⟨y12_ BK379.out⟩, ⟨yb_ HB.out⟩⟩ | exact ⟨_, (true), y4_, H', ⟨by first | omega | exact Nat.le_refl _⟩, ⟨y12_ BK379.out⟩, ⟨yb_ HB.out⟩⟩) : P := h
set_option maxHeartbeats 8000000 in
set_option maxRecDepth 100000 in
theorem impl_MemOk.calls {k : Nat} {a0_0 : Bool} {a0_1 : Int} {A0_2 : Option Addr} {c0_2 : Nat} {l0_2 : List ByteArray} {A0_3 : Option Addr} {c0_3 : Nat} {l0_3 : List (S74)} {a0_4 : Int} {a0_5 : ByteArray} {a0_6 : ByteArray} {r : Bool} {w : World} (hr0_2 : Kd.C Kd.string w A0_2 l0_2.length l0_2) (hc0_2 : l0_2.length ≤ c0_2) (hr0_3 : Kd.C k74 w A0_3 l0_3.length l0_3) (hc0_3 : l0_3.length ≤ c0_3) (hG : GlobOk w) (H : impl_MemOk.f k a0_0 a0_1 l0_2 l0_3 a0_4 a0_5 a0_6 = some r) :
    Calls Tryz.prog 9 #[.agg #[.bool a0_0, .int .i64 a0_1, .slice A0_2 l0_2.length c0_2, .slice A0_3 l0_3.length c0_3, .int .i64 a0_4, .string a0_5, .string a0_6]] w fun e w' => e = .returned (.bool r) ∧ Below w.heap.size w w' := by
  have hu33 := Tryz.underlying33; have hu30 := Tryz.underlying30; have HR0_2 := am_ hr0_2; have HC0_2 := am_ hc0_2; clear hr0_2 hc0_2; have HR0_3 := am_ hr0_3; have HC0_3 := am_ hc0_3; clear hr0_3 hc0_3; have HB := am_ (Below.refl w.heap.size w); have HGL := am_ hG; clear hG; revert H; unfold impl_MemOk.f; refine ib_ ?_ ?_
  · rintro rfl; refine ai_ fun HC3 => ?_; go_enter Tryz.func9, Tryz.ntmps9
    go_upto_region 3 with (first | ((with_reducible refine gx_ 1 rfl ?_); (try (refine gate_guard (by rfl) ?_; dsimp only)); refine bx_ 1 33 #[.bool true, .int .i64 a0_1, .slice A0_2 l0_2.length c0_2, .slice A0_3 l0_3.length c0_3, .int .i64 a0_4, .string a0_5, .string a0_6] ?_; intro gb379 hg w4 BK379 hb; have GW379 := ge_ (w0 := w) hg (y7_ HB.out); have GE379 := ge_ (w0 := w) hg (y7_ HB.out); replace HB := st_ (y7_ HB.out) hb; clear hb hg; have hcz5 := cc7_ BK379.out; have hfz5 := cf7_ BK379.out))
    (try simp only [Act.put, List.setIfInBounds_toArray, List.set_cons_zero, List.set_cons_succ]); go_cut [76] (fun v76 wc => ∃ (kq : Nat) (x76_2 : Bool), v76 = .bool x76_2 ∧ Aside0 (impl_MemOk.j0 kq x76_2 true a0_1 l0_2 l0_3 a0_4 a0_5 a0_6 = some r) ∧ Aside0 (kq ≤ k) ∧ Aside0 (wc.heap[gb379]? = some (.cells #[.bool true, .int .i64 a0_1, (.slice A0_2 l0_2.length c0_2), (.slice A0_3 l0_3.length c0_3), .int .i64 a0_4, .string a0_5, .string a0_6] 33 (0, 0))) ∧ Aside0 (Below w.heap.size w wc))
    case first =>
      have H := HC3.out; clear HC3; revert H; refine oc_ fun t380 A6 => ?_; refine ib_ ?_ ?_
      · rintro rfl
        refine oc_ fun t381 A8 => ?_; refine ib_ ?_ ?_
        · rintro rfl
          refine oc_ fun t382 A10 => ?_; refine ib_ ?_ ?_
          · rintro rfl
            refine oc_ fun t383 A12 => ?_; refine ib_ ?_ ?_
            · rintro rfl
              refine itg3_ ?_ ?_
              · intro c14 c14b0; have c14b1 : decide (300 < a0_6.size) = true := decide_eq_true (by omega); clear c14; (first | rw [c14b0] | (simp only [i64_w, i32_w]; rw [c14b0]) | skip); refine ai_ fun H' => ?_; exact impl_MemOk.W1
              intro c14 c14b0; have c14b1 : decide (300 < a0_6.size) = false := decide_eq_false (by omega); clear c14; (first | rw [c14b0] | (simp only [i64_w, i32_w]; rw [c14b0]) | skip); refine oc_ fun t384 A20 => ?_; refine ai_ fun H' => ?_; exact impl_MemOk.W1
            rintro rfl; refine ai_ fun H' => ?_; exact impl_MemOk.W1
          rintro rfl; refine ai_ fun H' => ?_; exact impl_MemOk.W1
        rintro rfl; refine ai_ fun H' => ?_; exact impl_MemOk.W1
      rintro rfl; refine ai_ fun H' => ?_; exact impl_MemOk.W1
    case rest =>
      clear HC3; (try clear c14); (try clear c14b0); (try clear c14b1); (try clear hcz5); (try clear hfz5); obtain ⟨kq, x76_2, rfl, HA, HJ2, BK379, HB⟩ := hcut
      cases kq with
      | zero => exact absurd HA.out (by simp [impl_MemOk.j0])
      | succ kj2 =>
        have H := HA.out; clear HA; simp only [impl_MemOk.j0] at H; revert H; refine ib_ ?_ ?_
        · rintro rfl; refine oj_ ?_; rintro rfl; go_wp2; go_ret; exact ⟨y6_, yb_ HB.out⟩
        rintro rfl; refine oc_ fun t385 A38 => ?_; refine ai_ fun H' => ?_; have hcz39 := cc7_ BK379.out; have hfz39 := cf7_ BK379.out; go_wp2_with ((with_reducible refine gl_ ?_); first | ((with_reducible refine gf_ 38 79 rfl rfl ?_); refine gc_ (impl_path.calls A38.out) ?_; rintro e w40 ⟨v386, rfl, ho0, hb⟩; refine ⟨_, rfl, ?_⟩; have HO387 := am_ (Kd.R_lower ho0 (below_size (yb_ HB.out))); replace BK379 := bk_ BK379 hb; replace HB := st_ (yb_ HB.out) hb; (try clear hb); (try clear ho0); obtain ⟨Ao41, co41, eo41⟩ := Kd.R_slice HO387.out; subst eo41))
        go_loopg [3, 81] kj2 (fun kq v3 v81 w' => ∃ (x3_2 : Int) (x81_2 : Int), v3 = .int .i64 x3_2 ∧ v81 = .int .i64 x81_2 ∧ Aside0 (impl_MemOk.l0 kq x3_2 t385 (t385.length : Int) x81_2 true a0_1 l0_2 l0_3 a0_4 a0_5 a0_6 = some r) ∧ Aside0 (kq ≤ kj2) ∧ Aside0 (Kd.R (Kd.int .i64) 3 w' w.heap.size (fun _ => True) (.slice Ao41 t385.length co41) t385) ∧ Aside0 (w'.heap[gb379]? = some (.cells #[.bool true, .int .i64 a0_1, (.slice A0_2 l0_2.length c0_2), (.slice A0_3 l0_3.length c0_3), .int .i64 a0_4, .string a0_5, .string a0_6] 33 (0, 0))) ∧ Aside0 (Below w.heap.size w w'))
        case atStart => exact ⟨(0), (0), y4_, y4_, H', ⟨Nat.le_refl _⟩, ⟨y11_ HO387.out⟩, ⟨y12_ BK379.out⟩, ⟨yb_ HB.out⟩⟩
        case round =>
          clear H'; (try clear c14); (try clear c14b0); (try clear c14b1); (try clear hcz39); (try clear hcz5); (try clear hfz39); (try clear hfz5); obtain ⟨x3_2, x81_2, rfl, rfl, HA, HK2, HO_79, BK379, HB⟩ := hrel
          cases gk with
          | zero => exact absurd HA.out (by simp [impl_MemOk.l0])
          | succ k2 =>
            have H := HA.out; clear HA; simp only [impl_MemOk.l0] at H; revert H; refine it_ ?_ ?_
            · intro c42b0
              refine in_ fun c43b0 => ?_
              refine in_ fun c44b0 => ?_
              refine in_ fun c45b0 => ?_
              refine in_ fun c46b0 => ?_
              refine ai_ fun HH => ?_
              obtain ⟨ad388, e388, p388, q388, hx388_0⟩ := as_ (Kd.at_int (Kd.R_reads' HO_79.out).2.2 x81_2); cases e388; have hcz48 := cc7_ BK379.out; have hfz48 := cf7_ BK379.out; have p389 : 0 ≤ ((rd t385 x81_2) : Int) := of_decide_eq_true y3_; have q389 : (rd t385 x81_2) < (l0_2.length : Int) := of_decide_eq_true y3_; obtain ⟨ad389, e389, hx389_0⟩ := Kd.at_string HR0_2.out (rd t385 x81_2) p389 q389
              cases e389
              replace hx389_0 := (HB.out.cell (World.block_lt_of_cell? w _ hx389_0)).trans hx389_0; replace p389 := eq_true p389; replace q389 := eq_true q389
              obtain ⟨H⟩ := HH; revert H; refine ie2_ ?_ ?_
              · intro c47b0 c47b1; (try simp only [em_, bne, c47b0, c47b1, Bool.not_true, Bool.not_false])
                refine ai_ fun H' => ?_
                go_wp2
                go_roundg k2
                case measure => have := HJ2.out; have := HK2.out; omega
                case rel => exact ⟨(x3_2), (wrap64 (x81_2 + 1)), y4_, y4_, H', ⟨by have := HJ2.out; have := HK2.out; omega⟩, ⟨y11_ HO_79.out⟩, ⟨y12_ BK379.out⟩, ⟨yb_ HB.out⟩⟩
              intro c47 c47b0 c47b1; (try simp only [em_, bne, c47b0, c47b1, Bool.not_true, Bool.not_false])
              refine oc_ fun t390 A49 => ?_; refine ai_ fun HH => ?_
              obtain ⟨H⟩ := HH; revert H; refine it_ ?_ ?_
              · intro c50b0; (try simp only [em_, bne, c50b0, Bool.not_true, Bool.not_false])
                refine oj_ ?_; rintro rfl
                try go_wp2_with ((with_reducible refine gl_ ?_); first | ((with_reducible refine gf_ 39 97 rfl rfl ?_); refine gb_ (impl_ownAt.calls _ _ l0_3 (rd t385 x81_2) t390 _ (y17_ (Kd.C_below HR0_3.out HB.out)) HC0_3.out A49.out) ?_; intro w52 hb; replace HO_79 := rb_ (y11_ HO_79.out) hb; replace BK379 := bk_ BK379 hb; replace HB := st_ (yb_ HB.out) hb; clear hb))
                replace HO_79 := am_ (Kd.R_drew HO_79.out); replace BK379 := am_ (blk_drew BK379.out); replace HB := am_ (below_drew1 HB.out); refine start_ (n := 18) (S := fun w' => True) (ds := []) #[false, false, false, false, false, false, false, false, false, false, false, false, false, false, false, false, false, false] (by kernel_rfl) rfl rfl trivial (fun hHeld => ?_); refine with_tabW impl_MemOk.tab12 impl_MemOk.bits12 (fun HT_ HW_ => ?_); generalize w52.drew = w53 at HO_79 BK379 HB hHeld ⊢; refine pI_ 0 98 (bs_ 18 1) ?_; refine pI_ 1 99 (bs_ 18 3) ?_; refine pI_ 2 100 (bs_ 18 7) ?_; refine pZ_ 3 101 (bs_ 18 15) ?_; refine pZ_ 4 102 (bs_ 18 31) ?_; refine pZ_ 5 103 (bs_ 18 63) ?_; refine pZ_ 6 104 (bs_ 18 127) ?_; refine pZ_ 7 105 (bs_ 18 255) ?_; refine pZ_ 8 106 (bs_ 18 511) ?_; refine pZ_ 9 107 (bs_ 18 1023) ?_; refine pZ_ 10 108 (bs_ 18 2047) ?_; refine pZ_ 11 109 (bs_ 18 4095) ?_; refine pZ_ 12 110 (bs_ 18 8191) ?_; refine pZ_ 13 111 (bs_ 18 16383) ?_; refine pZ_ 14 112 (bs_ 18 32767) ?_; refine pZ_ 15 113 (bs_ 18 65535) ?_; refine pZ_ 16 114 (bs_ 18 131071) ?_; refine pI_ 17 115 (bs_ 18 262143) ?_; refine done_ (done_of HT_.out (by kernel_rfl)) ?_
                try go_wp2
                go_ret; exact ⟨y6_, yb_ HB.out⟩
              intro c50b0; (try simp only [em_, bne, c50b0, Bool.not_true, Bool.not_false])
              refine in_ fun c54b0 => ?_
              refine in_ fun c55b0 => ?_
              refine oc_ fun t392 A56 => ?_; refine ai_ fun HH => ?_
              try go_wp2_with ((with_reducible refine gl_ ?_); first | ((with_reducible refine gf_ 39 97 rfl rfl ?_); refine gb_ (impl_ownAt.calls _ _ l0_3 (rd t385 x81_2) t390 _ (y17_ (Kd.C_below HR0_3.out HB.out)) HC0_3.out A49.out) ?_; intro w59 hb; replace HO_79 := rb_ (y11_ HO_79.out) hb; replace BK379 := bk_ BK379 hb; replace HB := st_ (yb_ HB.out) hb; clear hb))
              replace HO_79 := am_ (Kd.R_drew HO_79.out); replace BK379 := am_ (blk_drew BK379.out); replace HB := am_ (below_drew1 HB.out); have p391 : 0 ≤ (t390 : Int) := of_decide_eq_true y3_; have q391 : t390 < (l0_3.length : Int) := of_decide_eq_true y3_; obtain ⟨ad391, e391, hx391_0, hx391_1⟩ := at_T74 HR0_3.out t390 p391 q391; have hw391_1 := hx391_1; have hw391_0 := hx391_0
              cases e391
              replace hx391_0 := (HB.out.cell (World.block_lt_of_cell? w _ hx391_0)).trans hx391_0; replace hx391_1 := (HB.out.cell (World.block_lt_of_cell? w _ hx391_1)).trans hx391_1; replace p391 := eq_true p391; replace q391 := eq_true q391; have p393 : 0 ≤ ((rd t385 x81_2) : Int) := of_decide_eq_true y3_; have q393 : (rd t385 x81_2) < (l0_2.length : Int) := of_decide_eq_true y3_; obtain ⟨ad393, e393, hx393_0⟩ := Kd.at_string HR0_2.out (rd t385 x81_2) p393 q393; have hw393_0 := hx393_0
              obtain rfl : ad389 = ad393 := (by injection e393)
              replace hx393_0 := (HB.out.cell (World.block_lt_of_cell? w _ hx393_0)).trans hx393_0; replace p393 := eq_true p393; replace q393 := eq_true q393; refine start_ (n := 18) (S := fun w' => Cl7 w' gb379 (.bool true) (.int .i64 a0_1) (.slice (some ad389) l0_2.length c0_2) (.slice (some ad391) l0_3.length c0_3) (.int .i64 a0_4) (.string a0_5) (.string a0_6) ∧ w'.cell? (ad391.add ((t390).toNat * 2)) = some (.int .i64 ((rd_T74 l0_3 t390).f0)) ∧ w'.cell? ⟨(ad391.add ((t390).toNat * 2)).block, (ad391.add ((t390).toNat * 2)).off + 1, none⟩ = some (.string ((rd_T74 l0_3 t390).f1)) ∧ w'.cell? (ad389.add ((rd t385 x81_2)).toNat) = some (.string (rdOf ByteArray.empty l0_2 (rd t385 x81_2)))) (ds := []) #[false, false, false, false, false, false, false, false, false, false, false, false, false, false, false, false, false, false] (by kernel_rfl) rfl rfl ⟨cc7_ BK379.out, ((HB.out.cell (World.block_lt_of_cell? w _ hw391_0)).trans hw391_0), ((HB.out.cell (World.block_lt_of_cell? w _ hw391_1)).trans hw391_1), ((HB.out.cell (World.block_lt_of_cell? w _ hw393_0)).trans hw393_0)⟩ (fun hHeld => ?_); refine with_tabW impl_MemOk.tab12 impl_MemOk.bits12 (fun HT_ HW_ => ?_); generalize w59.drew = w60 at HO_79 BK379 HB hx391_0 hx391_1 hx393_0 hHeld ⊢; refine pI_ 0 98 (bs_ 18 1) ?_; refine pI_ 1 99 (bs_ 18 3) ?_; refine pI_ 2 100 (bs_ 18 7) ?_; refine pI_ 3 101 (bs_ 18 15) ?_; refine pI_ 5 103 (bs_ 18 47) ?_; refine pI_ 10 108 (bs_ 18 1071) ?_; refine pI_ 11 109 (bs_ 18 3119) ?_; refine pI_ 13 111 (bs_ 18 11311) ?_; refine pT_ 4 102 (bs_ 18 11327) ?_; refine pI_ 6 104 (bs_ 18 11391) ?_; refine pI_ 7 105 (bs_ 18 11519) ?_; refine pT_ 8 106 (bs_ 18 11775) ?_; refine pT_ 12 110 (bs_ 18 15871) ?_; refine pI_ 14 112 (bs_ 18 32255) ?_; refine pT_ 15 113 (bs_ 18 65023) ?_; refine oN_ 9 107 (bs_ 18 65535) (fun K hK => ?_); refine gs_ (impl_MakKey.calls ?side1 A56.out) ?_
              (case side1 => exact GlobOk.below HGL.out (yb_ HB.out))
              rintro e w61 ⟨rfl, hb⟩; refine ⟨_, rfl, ?_⟩; replace HO_79 := rb_ (y11_ HO_79.out) hb; replace BK379 := bk_ BK379 hb; replace HB := st_ (yb_ HB.out) hb; clear hb; refine hK.out _ _ ⟨cc7_ (pw_ BK379.out), ((HB.out.cell (World.block_lt_of_cell? w _ hw391_0)).trans hw391_0), ((HB.out.cell (World.block_lt_of_cell? w _ hw391_1)).trans hw391_1), ((HB.out.cell (World.block_lt_of_cell? w _ hw393_0)).trans hw393_0)⟩ (fun hHeld => ?_); clear hK K; refine nm_ ?_
              refine pI_ 16 114 (bs_ 18 131071) ?_; refine pI_ 17 115 (bs_ 18 262143) ?_; refine done_ (done_of HT_.out (by kernel_rfl)) ?_
              obtain ⟨H⟩ := HH; revert H; refine ie2_ ?_ ?_
              · intro c57b0 c57b1; (try simp only [em_, bne, c57b0, c57b1, Bool.not_true, Bool.not_false])
                refine ai_ fun H' => ?_
                try go_wp2
                go_roundg k2
                case measure => have := HJ2.out; have := HK2.out; omega
                case rel => exact ⟨(wrap64 (x3_2 + 1)), (wrap64 (x81_2 + 1)), y4_, y4_, H', ⟨by have := HJ2.out; have := HK2.out; omega⟩, ⟨y11_ HO_79.out⟩, ⟨y12_ BK379.out⟩, ⟨yb_ HB.out⟩⟩
              intro c57 c57b0 c57b1; (try simp only [em_, bne, c57b0, c57b1, Bool.not_true, Bool.not_false])
              refine oj_ ?_; rintro rfl
              try go_wp2
              go_ret; exact ⟨y6_, yb_ HB.out⟩
            intro c42b0; refine oj_ ?_; rintro rfl; have hcz66 := cc7_ BK379.out; have hfz66 := cf7_ BK379.out; go_wp2; go_ret; exact ⟨y6_, yb_ HB.out⟩
  rintro rfl
  refine ie2_ ?_ ?_
  · intro c67b0 c67b1
    refine ie2_ ?_ ?_
    · intro c68b0 c68b1
      refine ie2_ ?_ ?_
      · intro c69b0 c69b1
        refine ie2_ ?_ ?_
        · intro c70b0 c70b1
          refine ie2_ ?_ ?_
          · intro c71b0 c71b1; refine oj_ ?_; rintro rfl; exact impl_MemOk.W
          intro c71 c71b0 c71b1; refine oj_ ?_; rintro rfl; exact impl_MemOk.W
        intro c70 c70b0 c70b1; refine oj_ ?_; rintro rfl; exact impl_MemOk.W
      intro c69 c69b0 c69b1; have c69b2 : ¬ (l0_3 = []) := fun h_ => c69 (by rw [h_]; rfl)
      refine oj_ ?_; rintro rfl; exact impl_MemOk.W
    intro c68 c68b0 c68b1; have c68b2 : ¬ (l0_2 = []) := fun h_ => c68 (by rw [h_]; rfl)
    refine oj_ ?_; rintro rfl; exact impl_MemOk.W
  intro c67 c67b0 c67b1; refine oj_ ?_; rintro rfl; exact impl_MemOk.W

end Go.Proofs.YtnemchmiplbopaaGreatDoor.Zj

namespace Go.Proofs.YtnemchmiplbopaaGreatDoor.Zj
open Go.RowKit Go.Proofs.YtnemchmiplbopaaGreatDoorW.PrintWords Go.Proofs.YtnemchmiplbopaaGreatDoorW.PrintLast Go.Proofs.YtnemchmiplbopaaGreatDoorW.PrintMore
attribute [local go_sem] max2_int min2_int max_two min_two max_three min_three max_four min_four   -- for this text's walks alone
set_option linter.unusedVariables false
set_option linter.unusedSimpArgs false

-- GIVEN: function 88 (slices_Clip_string_string)

-- GIVEN: function 89 (slices_Clone_string_string)

/-! ### impl_clone_string: function 43 -/
def impl_clone_string.f (l0 : List ByteArray) : Option (List ByteArray) := (slices_Clone_string_string.f l0).bind fun t394 => (some t394)
set_option maxHeartbeats 8000000 in
set_option maxRecDepth 100000 in
theorem impl_clone_string.calls {A0 : Option Addr} {c0 : Nat} {l0 : List ByteArray} {r : List ByteArray} {w : World} (hr0 : Kd.C Kd.string w A0 l0.length l0) (hc0 : l0.length ≤ c0) (H : impl_clone_string.f l0 = some r) :
    Calls Tryz.prog 43 #[.slice A0 l0.length c0] w fun e w' => ∃ v0_ : Value, e = .returned (v0_) ∧ Kd.Q Kd.string 9 w' w.heap.size (fun _ => True) v0_ r ∧ Below w.heap.size w w' := by
  have HR0 := am_ hr0; have HC0 := am_ hc0; clear hr0 hc0; have HB := am_ (Below.refl w.heap.size w); revert H; unfold impl_clone_string.f; refine oc_ fun t394 A2 => ?_; refine oj_ ?_; rintro rfl; go_enter Tryz.func43, Tryz.ntmps43; go_wp2_with (first | (go_at_call 88; obtain ⟨Ac_, cc_, ec_⟩ := Kd.R_slice HO396.out; subst ec_; (with_reducible refine (clip_str _ _ _ _ (clip_le HO396.out).1 (clip_le HO396.out).2).mono ?_); rintro e_ w_ ⟨rfl, rfl⟩) | ((with_reducible refine gl_ ?_); first | ((with_reducible refine gf_ 89 4 rfl rfl ?_); refine gc_ (slices_Clone_string_string.calls _ _ l0 t394 _ ?side1 HC0.out A2.out) ?_; (case side1 => repeat (first | exact HR0.out | (with_reducible refine Kd.C_alloc ?_ _) | (with_reducible refine Kd.C_drewN ?_ _) | (with_reducible refine Kd.C_drew ?_))); rintro e w3 ⟨v395, rfl, ho0, hb⟩; refine ⟨_, rfl, ?_⟩; have HO396 := am_ (Kd.R_lower ho0 (below_size (y7_ HB.out))); replace HB := st_ (y7_ HB.out) hb; (try clear hb); (try clear ho0)))); go_ret; exact ⟨_, y6_, Kd.Q_clip (Kd.Q_of_R (y11_ HO396.out)), y7_ HB.out⟩

-- GIVEN: function 82 (impl_SecMade)

/-! ### impl_someone: function 96 -/
def impl_someone.f (a0 : Int) (a1 : Int) : Option (Bool) := if a0 = (-1) then (some true) else ((impl_isOne.f a0).bind fun t397 => (if t397 = true then (some (a0 != a1)) else (some false)))
theorem impl_someone.W {P : Prop} (h : P := by
  go_enter Tryz.func96, Tryz.ntmps96
  go_wp2_with (first | (go_at_call 33; (with_reducible refine (impl_isOne.calls A4.out).mono ?_); rintro e w' ⟨rfl, ⟨nd, rfl⟩⟩))
  go_ret
  exact ⟨by first | rfl | (simp; done) | (simp [*]; done), by repeat (first | exact Drawn0.refl _ | apply Drawn0.step)⟩) : P := h
set_option maxHeartbeats 8000000 in
set_option maxRecDepth 100000 in
theorem impl_someone.calls {a0 : Int} {a1 : Int} {r : Bool} {w : World} (H : impl_someone.f a0 a1 = some r) :
    Calls Tryz.prog 96 #[.int .i64 a0, .int .i64 a1] w fun e w' => e = .returned (.bool r) ∧ Drawn0 w w' := by
  revert H; unfold impl_someone.f; refine ie2_ ?_ ?_
  · intro c3b0 c3b1; refine oj_ ?_; rintro rfl; go_enter Tryz.func96, Tryz.ntmps96; go_wp2; go_ret; exact ⟨by first | rfl | (simp; done) | (simp [*]; done), by repeat (first | exact Drawn0.refl _ | apply Drawn0.step)⟩
  intro c3 c3b0 c3b1
  refine oc_ fun t397 A4 => ?_; refine ib_ ?_ ?_
  · rintro rfl; refine oj_ ?_; rintro rfl; exact impl_someone.W
  rintro rfl; refine oj_ ?_; rintro rfl; exact impl_someone.W

-- GIVEN: function 97 (impl_named)

/-! ### impl_isKey: function 81 -/
def impl_isKey.f (a0 : ByteArray) : Option (Bool) := (impl_SecMade.f a0).bind fun bt398 => (some (bt398.1 == 3))
set_option maxHeartbeats 8000000 in
set_option maxRecDepth 100000 in
theorem impl_isKey.calls {a0 : ByteArray} {r : Bool} {w : World} (hG : GlobOk w) (H : impl_isKey.f a0 = some r) :
    Calls Tryz.prog 81 #[.string a0] w fun e w' => e = .returned (.bool r) ∧ Below w.heap.size w w' := by
  have hfl98_0 : ∀ (fv0 fv1 fv2 fv3 fv4 : Value) (W : World), (Instr.field 98 (.agg #[fv0, fv1, fv2, fv3, fv4]) 0).run Tryz.prog W = .ok fv0 W := fun _ _ _ _ _ _ => by kernel_rfl
  have HB := am_ (Below.refl w.heap.size w); have HGL := am_ hG; clear hG; revert H; unfold impl_isKey.f; refine oc_ ?_; rintro ⟨t398, t399, t400, t401, t402⟩ A2 H; dsimp only at H; revert H; refine oj_ ?_; rintro rfl; go_enter Tryz.func81, Tryz.ntmps81; go_wp2_with ((with_reducible refine gl_ ?_); first | ((with_reducible refine gf_ 82 4 rfl rfl ?_); refine gb_ (impl_SecMade.calls a0 t398 t399 t400 t401 t402 _ (GlobOk.below HGL.out (y7_ HB.out)) A2.out) ?_; intro w3 hb; replace HB := st_ (y7_ HB.out) hb; clear hb)); go_ret; exact ⟨y6_, y7_ HB.out⟩

/-! ### impl_twoKeys: function 98 -/
def impl_twoKeys.f (a0 : Int) (a1 : ByteArray) (a2 : ByteArray) : Option (Bool) := if a0 < 0 then (if a1.toList = ([] : List UInt8) then (some (a2.toList == ([] : List UInt8))) else (some false)) else ((impl_isKey.f a1).bind fun t403 => (if t403 = true then ((impl_isKey.f a2).bind fun t404 => (if t404 = true then (some (a1.toList != a2.toList)) else (some false))) else (some false)))
theorem impl_twoKeys.W {P : Prop} (h : P := by
  go_enter Tryz.func98, Tryz.ntmps98
  go_wp2_with (first | (go_at_call 81; (with_reducible refine (impl_isKey.calls ?side1 A8.out).mono ?_); (case side1 => exact GlobOk.below HGL.out (y7_ HB.out)); rintro e w_ ⟨rfl, hb⟩; replace HB := st_ (y7_ HB.out) hb; clear hb) | ((with_reducible refine gl_ ?_); first | ((with_reducible refine gf_ 81 16 rfl rfl ?_); refine gb_ (impl_isKey.calls (GlobOk.below HGL.out (y7_ HB.out)) A6.out) ?_; intro w_ hb; replace HB := st_ (y7_ HB.out) hb; clear hb)))
  go_ret
  exact ⟨y6_, y7_ HB.out⟩) : P := h
set_option maxHeartbeats 8000000 in
set_option maxRecDepth 100000 in
theorem impl_twoKeys.calls {a0 : Int} {a1 : ByteArray} {a2 : ByteArray} {r : Bool} {w : World} (hG : GlobOk w) (H : impl_twoKeys.f a0 a1 a2 = some r) :
    Calls Tryz.prog 98 #[.int .i64 a0, .string a1, .string a2] w fun e w' => e = .returned (.bool r) ∧ Below w.heap.size w w' := by
  have HB := am_ (Below.refl w.heap.size w); have HGL := am_ hG; clear hG; revert H; unfold impl_twoKeys.f; refine it_ ?_ ?_
  · intro c4b0
    refine ie2_ ?_ ?_
    · intro c5b0 c5b1; refine oj_ ?_; rintro rfl; go_enter Tryz.func98, Tryz.ntmps98; go_wp2; go_ret; exact ⟨y6_, y7_ HB.out⟩
    intro c5 c5b0 c5b1; refine oj_ ?_; rintro rfl; go_enter Tryz.func98, Tryz.ntmps98; go_wp2; go_ret; exact ⟨y6_, y7_ HB.out⟩
  intro c4b0
  refine oc_ fun t403 A6 => ?_; refine ib_ ?_ ?_
  · rintro rfl
    refine oc_ fun t404 A8 => ?_; refine ib_ ?_ ?_
    · rintro rfl; refine oj_ ?_; rintro rfl; exact impl_twoKeys.W
    rintro rfl; refine oj_ ?_; rintro rfl; exact impl_twoKeys.W
  rintro rfl; refine oj_ ?_; rintro rfl; exact impl_twoKeys.W

end Go.Proofs.YtnemchmiplbopaaGreatDoor.Zj

namespace Go.Proofs.YtnemchmiplbopaaGreatDoor.Zj
open Go.RowKit Go.Proofs.YtnemchmiplbopaaGreatDoorW.PrintWords Go.Proofs.YtnemchmiplbopaaGreatDoorW.PrintLast Go.Proofs.YtnemchmiplbopaaGreatDoorW.PrintMore
attribute [local go_sem] max2_int min2_int max_two min_two max_three min_three max_four min_four   -- for this text's walks alone
set_option linter.unusedVariables false
set_option linter.unusedSimpArgs false

attribute [local go_sem high] eqA54
/-! ### impl_CmtOk: function 59 -/
def impl_CmtOk.j0 : Nat → Bool → Int → ByteArray → ByteArray → Int → Int → ByteArray → List ByteArray → List (S52) → ByteArray → ByteArray → ByteArray → ByteArray → ByteArray → ByteArray → ByteArray → ByteArray → ByteArray → ByteArray → Option (Bool)
  | 0, _, _, _, _, _, _, _, _, _, _, _, _, _, _, _, _, _, _, _ => none
  | k + 1, x71, x406000, x406001, x406002, x406003, x406004, x406005, x406006, x406007, x406008, x406009, x406010, x406011, x406012, x407000, x407001, x407002, x407003, x407004 => if x71 = true then (some false) else (if x406003 < 0 then (some (x407000.toList == ([] : List UInt8) && ((x407001.toList == ([] : List UInt8) && (x407002.toList == ([] : List UInt8))) && ((x407003.toList == ([] : List UInt8) && (x407004.toList == ([] : List UInt8))))))) else (if x407001.toList = x407000.toList then (if x407003.toList = x407000.toList then ((impl_SecOk.f x407002).bind fun t418 => (if t418 = true then ((impl_SecOk.f x407004).bind fun t419 => (some t419)) else (some false))) else (some false)) else (some false)))
def impl_CmtOk.f (k : Nat) (a0_0 : Int) (a0_1 : ByteArray) (a0_2 : ByteArray) (a0_3 : Int) (a0_4 : Int) (a0_5 : ByteArray) (l0_6 : List ByteArray) (l0_7 : List (S52)) (a0_8 : ByteArray) (a0_9 : ByteArray) (a0_10 : ByteArray) (a0_11 : ByteArray) (a0_12 : ByteArray) : Option (Bool) := (impl_isOne.f a0_0).bind fun t407 => (if t407 = true then ((impl_SecMade.f a0_2).bind fun bt408 => (if bt408.1 = 1 then (if (wrap64 ((a0_1.size : Int) + (a0_2.size : Int))) > 300 then (impl_CmtOk.j0 k true a0_0 a0_1 a0_2 a0_3 a0_4 a0_5 l0_6 l0_7 a0_8 a0_9 a0_10 a0_11 a0_12 a0_8 a0_9 a0_10 a0_11 a0_12) else ((impl_someone.f a0_3 a0_0).bind fun t413 => (if t413 = true then ((impl_someone.f a0_4 a0_0).bind fun t414 => (if t414 = true then ((impl_TreOk.f l0_6).bind fun t415 => (if t415 = true then (if (l0_7.length : Int) > 20 then (impl_CmtOk.j0 k true a0_0 a0_1 a0_2 a0_3 a0_4 a0_5 l0_6 l0_7 a0_8 a0_9 a0_10 a0_11 a0_12 a0_8 a0_9 a0_10 a0_11 a0_12) else ((impl_named.f ([] : List ByteArray) l0_7).bind fun t416 => (if t416 = true then ((impl_twoKeys.f a0_3 a0_5 a0_8).bind fun t417 => (impl_CmtOk.j0 k (!t417) a0_0 a0_1 a0_2 a0_3 a0_4 a0_5 l0_6 l0_7 a0_8 a0_9 a0_10 a0_11 a0_12 a0_8 a0_9 a0_10 a0_11 a0_12)) else (impl_CmtOk.j0 k true a0_0 a0_1 a0_2 a0_3 a0_4 a0_5 l0_6 l0_7 a0_8 a0_9 a0_10 a0_11 a0_12 a0_8 a0_9 a0_10 a0_11 a0_12)))) else (impl_CmtOk.j0 k true a0_0 a0_1 a0_2 a0_3 a0_4 a0_5 l0_6 l0_7 a0_8 a0_9 a0_10 a0_11 a0_12 a0_8 a0_9 a0_10 a0_11 a0_12))) else (impl_CmtOk.j0 k true a0_0 a0_1 a0_2 a0_3 a0_4 a0_5 l0_6 l0_7 a0_8 a0_9 a0_10 a0_11 a0_12 a0_8 a0_9 a0_10 a0_11 a0_12))) else (impl_CmtOk.j0 k true a0_0 a0_1 a0_2 a0_3 a0_4 a0_5 l0_6 l0_7 a0_8 a0_9 a0_10 a0_11 a0_12 a0_8 a0_9 a0_10 a0_11 a0_12)))) else (impl_CmtOk.j0 k true a0_0 a0_1 a0_2 a0_3 a0_4 a0_5 l0_6 l0_7 a0_8 a0_9 a0_10 a0_11 a0_12 a0_8 a0_9 a0_10 a0_11 a0_12))) else (impl_CmtOk.j0 k true a0_0 a0_1 a0_2 a0_3 a0_4 a0_5 l0_6 l0_7 a0_8 a0_9 a0_10 a0_11 a0_12 a0_8 a0_9 a0_10 a0_11 a0_12))
theorem impl_CmtOk.W {P : Prop} (h : P := by
  have hz_ := NB405_406.out
  have hz_ := NB406_405.out
  have hz_ := cc13_ BK405.out
  have hz_ := cf13_ BK405.out
  go_wp2_with (first | (go_at_call 82; (with_reducible refine (impl_SecMade.calls a0_2 t408 t409 t410 t411 t412 _ ?side1 A10.out).mono ?_); (case side1 => exact GlobOk.below HGL.out (yb_ HB.out)); rintro e w_ ⟨rfl, hb⟩; replace BK405 := bp_ BK405 hb; replace BK406 := bp_ BK406 hb; replace HB := st_ (yb_ HB.out) hb; clear hb; have hz_ := cc13_ BK405.out; have hz_ := cf13_ BK405.out) | (go_at_call 96; (with_reducible refine (impl_someone.calls A17.out).mono ?_); rintro e w' ⟨rfl, ⟨nd, rfl⟩⟩) | (go_at_call 96; (with_reducible refine (impl_someone.calls A19.out).mono ?_); rintro e w' ⟨rfl, ⟨nd, rfl⟩⟩) | (go_at_call 34; (with_reducible refine (impl_TreOk.calls _ _ l0_6 false _ ?side1 ?side2 ?side3 A21.out).mono ?_); (case side1 => repeat (first | exact (Kd.C_below HR0_6.out (yb_ HB.out)) | (with_reducible refine Kd.C_alloc ?_ _) | (with_reducible refine Kd.C_drewN ?_ _) | (with_reducible refine Kd.C_drew ?_))); (case side2 => exact HC0_6.out); (case side3 => exact GlobOk.below HGL.out (yb_ HB.out)); rintro e w_ ⟨rfl, hb⟩; replace BK405 := bk_ BK405 hb; replace BK406 := bk_ BK406 hb; replace HB := st_ (yb_ HB.out) hb; clear hb) | (go_at_call 34; (with_reducible refine (impl_TreOk.calls _ _ l0_6 true _ ?side1 ?side2 ?side3 A21.out).mono ?_); (case side1 => repeat (first | exact (Kd.C_below HR0_6.out (yb_ HB.out)) | (with_reducible refine Kd.C_alloc ?_ _) | (with_reducible refine Kd.C_drewN ?_ _) | (with_reducible refine Kd.C_drew ?_))); (case side2 => exact HC0_6.out); (case side3 => exact GlobOk.below HGL.out (yb_ HB.out)); rintro e w_ ⟨rfl, hb⟩; replace BK405 := bk_ BK405 hb; replace BK406 := bk_ BK406 hb; replace HB := st_ (yb_ HB.out) hb; clear hb; have hz_ := cc13_ BK405.out; have hz_ := cf13_ BK405.out) | (go_at_call 97; (refine (impl_named.calls _ _ ([] : List ByteArray) _ _ l0_7 false _ ?side1 ?side2 ?side3 ?side4 ?side5 A30.out).mono ?_); (case side1 => exact Kd.C_nil _ _); (case side2 => exact Nat.le_refl _); (case side3 => exact y17_ (Kd.C_below HR0_7.out HB.out)); (case side4 => exact HC0_7.out); (case side5 => exact GlobOk.below HGL.out (yb_ HB.out)); rintro e w_ ⟨rfl, hb⟩; replace BK405 := bk_ BK405 hb; replace BK406 := bk_ BK406 hb; replace HB := st_ (yb_ HB.out) hb; clear hb) | (go_at_call 97; (refine (impl_named.calls _ _ ([] : List ByteArray) _ _ l0_7 true _ ?side1 ?side2 ?side3 ?side4 ?side5 A30.out).mono ?_); (case side1 => exact Kd.C_nil _ _); (case side2 => exact Nat.le_refl _); (case side3 => exact y17_ (Kd.C_below HR0_7.out HB.out)); (case side4 => exact HC0_7.out); (case side5 => exact GlobOk.below HGL.out (yb_ HB.out)); rintro e w_ ⟨rfl, hb⟩; replace BK405 := bk_ BK405 hb; replace BK406 := bk_ BK406 hb; replace HB := st_ (yb_ HB.out) hb; clear hb; have hz_ := cc13_ BK405.out; have hz_ := cf13_ BK405.out; have hz_ := cc5_ BK406.out; have hz_ := cf5_ BK406.out) | (go_at_call 98; (with_reducible refine (impl_twoKeys.calls ?side1 A32.out).mono ?_); (case side1 => exact GlobOk.below HGL.out (yb_ HB.out)); rintro e w_ ⟨rfl, hb⟩; replace BK405 := bk_ BK405 hb; replace BK406 := bk_ BK406 hb; replace HB := st_ (yb_ HB.out) hb; clear hb) | (go_at_call 33; (with_reducible refine (impl_isOne.calls A8.out).mono ?_); rintro e w' ⟨rfl, ⟨nd, rfl⟩⟩))
  go_meet
  case rel => first | exact ⟨_, (true), y4_, H', ⟨by first | omega | exact Nat.le_refl _⟩, ⟨pw_ BK405.out⟩, ⟨pw_ BK406.out⟩, ⟨yb_ HB.out⟩⟩ | exact ⟨_, (!t417), y4_, H', ⟨by first | omega | exact Nat.le_refl _⟩, ⟨y12_ BK405.out⟩, ⟨y12_ BK406.out⟩, ⟨yb_ HB.out⟩⟩ | exact ⟨_, (true), y4_, H', ⟨by first | omega | exact Nat.le_refl _⟩, ⟨y12_ BK405.out⟩, ⟨y12_ BK406.out⟩, ⟨yb_ HB.out⟩⟩) : P := h
theorem impl_CmtOk.W1 {P : Prop} (h : P := by
  have hz_ := NB405_406.out
  have hz_ := NB406_405.out
  have hz_ := cc13_ BK405.out
  have hz_ := cf13_ BK405.out
  have hz_ := cc5_ BK406.out
  have hz_ := cf5_ BK406.out
  go_wp2
  go_ret
  exact ⟨y6_, yb_ HB.out⟩) : P := h
theorem impl_CmtOk.W2 {P : Prop} (h : P := by
  have hz_ := NB405_406.out
  have hz_ := NB406_405.out
  have hz_ := cc13_ BK405.out
  have hz_ := cf13_ BK405.out
  have hz_ := cc5_ BK406.out
  have hz_ := cf5_ BK406.out
  go_wp2_with (first | (go_at_call 36; (with_reducible refine (impl_SecOk.calls a0_10 false _ ?side1 A75.out).mono ?_); (case side1 => exact GlobOk.below HGL.out (yb_ HB.out)); rintro e w_ ⟨rfl, hb⟩; replace BK405 := bk_ BK405 hb; replace BK406 := bk_ BK406 hb; replace HB := st_ (yb_ HB.out) hb; clear hb) | (go_at_call 36; (with_reducible refine (impl_SecOk.calls a0_10 true _ ?side1 A75.out).mono ?_); (case side1 => exact GlobOk.below HGL.out (yb_ HB.out)); rintro e w_ ⟨rfl, hb⟩; replace BK405 := bk_ BK405 hb; replace BK406 := bk_ BK406 hb; replace HB := st_ (yb_ HB.out) hb; clear hb; have hz_ := cc5_ BK406.out; have hz_ := cf5_ BK406.out) | (go_at_call 36; (with_reducible refine (impl_SecOk.calls a0_12 t419 _ ?side1 A77.out).mono ?_); (case side1 => exact GlobOk.below HGL.out (yb_ HB.out)); rintro e w_ ⟨rfl, hb⟩; replace BK405 := bk_ BK405 hb; replace BK406 := bk_ BK406 hb; replace HB := st_ (yb_ HB.out) hb; clear hb))
  go_ret
  exact ⟨y6_, yb_ HB.out⟩) : P := h
set_option maxHeartbeats 80000000 in
set_option maxRecDepth 100000 in
theorem impl_CmtOk.calls {k : Nat} {a0_0 : Int} {a0_1 : ByteArray} {a0_2 : ByteArray} {a0_3 : Int} {a0_4 : Int} {a0_5 : ByteArray} {A0_6 : Option Addr} {c0_6 : Nat} {l0_6 : List ByteArray} {A0_7 : Option Addr} {c0_7 : Nat} {l0_7 : List (S52)} {a0_8 : ByteArray} {a0_9 : ByteArray} {a0_10 : ByteArray} {a0_11 : ByteArray} {a0_12 : ByteArray} {r : Bool} {w : World} (hr0_6 : Kd.C Kd.string w A0_6 l0_6.length l0_6) (hc0_6 : l0_6.length ≤ c0_6) (hr0_7 : Kd.C k52 w A0_7 l0_7.length l0_7) (hc0_7 : l0_7.length ≤ c0_7) (hG : GlobOk w) (H : impl_CmtOk.f k a0_0 a0_1 a0_2 a0_3 a0_4 a0_5 l0_6 l0_7 a0_8 a0_9 a0_10 a0_11 a0_12 = some r) :
    Calls Tryz.prog 59 #[.agg #[.int .i64 a0_0, .string a0_1, .string a0_2, .int .i64 a0_3, .int .i64 a0_4, .string a0_5, .slice A0_6 l0_6.length c0_6, .slice A0_7 l0_7.length c0_7, .string a0_8, .string a0_9, .string a0_10, .string a0_11, .string a0_12]] w fun e w' => e = .returned (.bool r) ∧ Below w.heap.size w w' := by
  have hu56 := Tryz.underlying56; have hu54 := Tryz.underlying54; have hu30 := Tryz.underlying30
  have hfl98_0 : ∀ (fv0 fv1 fv2 fv3 fv4 : Value) (W : World), (Instr.field 98 (.agg #[fv0, fv1, fv2, fv3, fv4]) 0).run Tryz.prog W = .ok fv0 W := fun _ _ _ _ _ _ => by kernel_rfl
  have HR0_6 := am_ hr0_6; have HC0_6 := am_ hc0_6; clear hr0_6 hc0_6; have HR0_7 := am_ hr0_7; have HC0_7 := am_ hc0_7; clear hr0_7 hc0_7; have HB := am_ (Below.refl w.heap.size w); have HGL := am_ hG; clear hG; revert H; unfold impl_CmtOk.f; refine ai_ fun HC2 => ?_; go_enter Tryz.func59, Tryz.ntmps59
  go_upto_region 2 with (first | ((with_reducible refine gx_ 1 rfl ?_); (try (refine gate_guard (by rfl) ?_; dsimp only)); refine bx_ 1 56 #[.int .i64 a0_0, .string a0_1, .string a0_2, .int .i64 a0_3, .int .i64 a0_4, .string a0_5, .slice A0_6 l0_6.length c0_6, .slice A0_7 l0_7.length c0_7, .string a0_8, .string a0_9, .string a0_10, .string a0_11, .string a0_12] ?_; intro gb405 hg w3 BK405 hb; have GW405 := ge_ (w0 := w) hg (y7_ HB.out); have GE405 := ge_ (w0 := w) hg (y7_ HB.out); replace HB := st_ (y7_ HB.out) hb; clear hb hg; have hcz4 := cc13_ BK405.out; have hfz4 := cf13_ BK405.out) | ((with_reducible refine gx_ 3 rfl ?_); (try (refine gate_guard (by rfl) ?_; dsimp only)); refine bx_ 3 54 #[.string (⟨#[]⟩ : ByteArray), .string (⟨#[]⟩ : ByteArray), .string (⟨#[]⟩ : ByteArray), .string (⟨#[]⟩ : ByteArray), .string (⟨#[]⟩ : ByteArray)] ?_; intro gb406 hg w5 BK406 hb; have GW406 := ge_ (w0 := w) hg (yb_ HB.out); have GE406 := ge_ (w0 := w) hg (yb_ HB.out); replace HB := st_ (yb_ HB.out) hb; have NB405_406 := nb_ hg BK405; have NB406_405 := nc_ hg BK405; replace BK405 := bk_ BK405 hb; clear hb hg; have hnb6 := NB406_405.out; have hnc6 := NB405_406.out; have hcz7 := cc5_ BK406.out; have hfz7 := cf5_ BK406.out))
  (try simp only [Act.put, List.setIfInBounds_toArray, List.set_cons_zero, List.set_cons_succ]); go_cut [71] (fun v71 wc => ∃ (kq : Nat) (x71_1 : Bool), v71 = .bool x71_1 ∧ Aside0 (impl_CmtOk.j0 kq x71_1 a0_0 a0_1 a0_2 a0_3 a0_4 a0_5 l0_6 l0_7 a0_8 a0_9 a0_10 a0_11 a0_12 a0_8 a0_9 a0_10 a0_11 a0_12 = some r) ∧ Aside0 (kq ≤ k) ∧ Aside0 (wc.heap[gb405]? = some (.cells #[.int .i64 a0_0, .string a0_1, .string a0_2, .int .i64 a0_3, .int .i64 a0_4, .string a0_5, (.slice A0_6 l0_6.length c0_6), (.slice A0_7 l0_7.length c0_7), .string a0_8, .string a0_9, .string a0_10, .string a0_11, .string a0_12] 56 (0, 0))) ∧ Aside0 (wc.heap[gb406]? = some (.cells #[.string a0_8, .string a0_9, .string a0_10, .string a0_11, .string a0_12] 54 (0, 0))) ∧ Aside0 (Below w.heap.size w wc))
  case first =>
    have H := HC2.out; clear HC2; revert H; refine oc_ fun t407 A8 => ?_; refine ib_ ?_ ?_
    · rintro rfl
      refine oc_ ?_; rintro ⟨t408, t409, t410, t411, t412⟩ A10 H; dsimp only at H; revert H; refine ie2_ ?_ ?_
      · intro c11b0 c11b1; (first | rw [c11b0] | (simp only [i64_w, i32_w]; rw [c11b0]) | skip); refine itg_ ?_ ?_
        · intro c12b0; refine ai_ fun H' => ?_; exact impl_CmtOk.W
        intro c12b0
        refine oc_ fun t413 A17 => ?_; refine ib_ ?_ ?_
        · rintro rfl
          refine oc_ fun t414 A19 => ?_; refine ib_ ?_ ?_
          · rintro rfl
            refine oc_ fun t415 A21 => ?_; refine ib_ ?_ ?_
            · rintro rfl
              refine itg3_ ?_ ?_
              · intro c23 c23b0; have c23b1 : decide (20 < l0_7.length) = true := decide_eq_true (by omega); clear c23; refine ai_ fun H' => ?_; exact impl_CmtOk.W
              intro c23 c23b0
              have c23b1 : decide (20 < l0_7.length) = false := decide_eq_false (by omega); clear c23; refine oc_ fun t416 A30 => ?_; refine ib_ ?_ ?_
              · rintro rfl; refine oc_ fun t417 A32 => ?_; refine ai_ fun H' => ?_; exact impl_CmtOk.W
              rintro rfl; refine ai_ fun H' => ?_; exact impl_CmtOk.W
            rintro rfl; refine ai_ fun H' => ?_; exact impl_CmtOk.W
          rintro rfl; refine ai_ fun H' => ?_; exact impl_CmtOk.W
        rintro rfl; refine ai_ fun H' => ?_; exact impl_CmtOk.W
      intro c11 c11b0 c11b1; (first | rw [c11b0] | (simp only [i64_w, i32_w]; rw [c11b0]) | skip); refine ai_ fun H' => ?_; exact impl_CmtOk.W
    rintro rfl; refine ai_ fun H' => ?_; exact impl_CmtOk.W
  case rest =>
    clear HC2; (try clear c11); (try clear c11b0); (try clear c11b1); (try clear c12b0); (try clear c23); (try clear c23b0); (try clear c23b1); (try clear hcz4); (try clear hcz7); (try clear hfz4); (try clear hfz7); obtain ⟨kq, x71_1, rfl, HA, HJ1, BK405, BK406, HB⟩ := hcut
    cases kq with
    | zero => exact absurd HA.out (by simp [impl_CmtOk.j0])
    | succ kj1 =>
      have H := HA.out; clear HA; simp only [impl_CmtOk.j0] at H; revert H; refine ib_ ?_ ?_
      · rintro rfl; refine oj_ ?_; rintro rfl; go_wp2; go_ret; exact ⟨y6_, yb_ HB.out⟩
      rintro rfl
      refine it_ ?_ ?_
      · intro c69b0; refine oj_ ?_; rintro rfl; exact impl_CmtOk.W1
      intro c69b0
      refine ie2_ ?_ ?_
      · intro c73b0 c73b1
        refine ie2_ ?_ ?_
        · intro c74b0 c74b1
          refine oc_ fun t418 A75 => ?_; refine ib_ ?_ ?_
          · rintro rfl; refine oc_ fun t419 A77 => ?_; refine oj_ ?_; rintro rfl; exact impl_CmtOk.W2
          rintro rfl; refine oj_ ?_; rintro rfl; exact impl_CmtOk.W2
        intro c74 c74b0 c74b1; refine oj_ ?_; rintro rfl; exact impl_CmtOk.W1
      intro c73 c73b0 c73b1; refine oj_ ?_; rintro rfl; exact impl_CmtOk.W1

end Go.Proofs.YtnemchmiplbopaaGreatDoor.Zj
