-- Written by this session's own program (wip/tools/pp.py) out of the translation, over functions given by hand. Lean checks it.
import Derived.Test.YtjbnfcljkmapeaaDoorYcx0
import Derived.Test.YtjbnfcljkmapeaaDoorYcx7
import Derived.Test.YtjbnfcljkmapeaaDoorYcx9
namespace Go.Proofs.YtjbnfcljkmapeaaDoor.Yc
open Go.RowKit Go.Proofs.YtjbnfcljkmapeaaDoorW.PrintWords Go.Proofs.YtjbnfcljkmapeaaDoorW.PrintLast Go.Proofs.YtjbnfcljkmapeaaDoorW.PrintMore
attribute [local go_sem] max2_int min2_int max_two min_two max_three min_three max_four min_four   -- for this text's walks alone
set_option linter.unusedVariables false
set_option linter.unusedSimpArgs false

/-! ### spec_l2Open: function 51 -/
mutual
def spec_l2Open.l0 : Nat → List ByteArray → List (S45) → List ByteArray → Int → Option (List ByteArray)
  | 0, _, _, _, _ => none
  | k + 1, x0, x1, x5, x6 => if x6 < (x0.length : Int) then (if 0 ≤ x6 then ((spec_l2Has.f k x5 (rdOf ByteArray.empty x0 x6)).bind fun t164 => (if t164 = true then (spec_l2Open.l0 k x0 x1 x5 (wrap64 (x6 + 1))) else (if x5.length < 8796093022208 then (spec_l2Open.l0 k x0 x1 (x5 ++ [rdOf ByteArray.empty x0 x6]) (wrap64 (x6 + 1))) else (none)))) else (none)) else (spec_l2Open.l1 k x1 x5 true)
def spec_l2Open.l1 : Nat → List (S45) → List ByteArray → Bool → Option (List ByteArray)
  | 0, _, _, _ => none
  | k + 1, x1, x5, x7 => if x7 = true then (spec_l2Open.l2 k x1 x5 false 0) else (some x5)
def spec_l2Open.l2 : Nat → List (S45) → List ByteArray → Bool → Int → Option (List ByteArray)
  | 0, _, _, _, _ => none
  | k + 1, x1, x5, x7, x8 => if x8 < (x1.length : Int) then (if 0 ≤ x8 then ((spec_l2Has.f k x5 ((rd_T45 x1 x8).f1)).bind fun t170 => (if t170 = true then (spec_l2Open.l2 k x1 x5 x7 (wrap64 (x8 + 1))) else ((spec_l2Make.f k x5 ((rd_T45 x1 x8).f0)).bind fun t172 => (if t172 = true then (if x5.length < 8796093022208 then (spec_l2Open.l2 k x1 (x5 ++ [(rd_T45 x1 x8).f1]) true (wrap64 (x8 + 1))) else (none)) else (spec_l2Open.l2 k x1 x5 x7 (wrap64 (x8 + 1))))))) else (none)) else (spec_l2Open.l1 k x1 x5 x7)
end
def spec_l2Open.f (k : Nat) (l0 : List ByteArray) (l1 : List (S45)) : Option (List ByteArray) := spec_l2Open.l0 k l0 l1 (([] : List ByteArray)) 0
theorem spec_l2Open.mono_l : ∀ k, (∀ y0 y1 y2 y3, LeO (spec_l2Open.l0 k y0 y1 y2 y3) (spec_l2Open.l0 (k + 1) y0 y1 y2 y3)) ∧ (∀ y0 y1 y2, LeO (spec_l2Open.l1 k y0 y1 y2) (spec_l2Open.l1 (k + 1) y0 y1 y2)) ∧ (∀ y0 y1 y2 y3, LeO (spec_l2Open.l2 k y0 y1 y2 y3) (spec_l2Open.l2 (k + 1) y0 y1 y2 y3))
  | 0 => ⟨fun _ _ _ _ r h => by simp [spec_l2Open.l0] at h, fun _ _ _ r h => by simp [spec_l2Open.l1] at h, fun _ _ _ _ r h => by simp [spec_l2Open.l2] at h⟩
  | k + 1 => by
    obtain ⟨ih0, ih1, ih2⟩ := spec_l2Open.mono_l k
    refine ⟨?_, ?_, ?_⟩
    · intro y0 y1 y2 y3
      unfold spec_l2Open.l0
      repeat' first
      | (with_reducible exact ih0 _ _ _ _)
      | (with_reducible exact ih1 _ _ _)
      | (with_reducible exact ih2 _ _ _ _)
      | (with_reducible exact spec_l2Has.mono _ _ _)
      | (with_reducible exact spec_l2Make.mono _ _ _)
      | (with_reducible exact LeO.refl _)
      | (with_reducible exact LeO.none _)
      | (with_reducible refine LeO.ite ?_ ?_)
      | (with_reducible refine LeO.bind ?_ (fun _ => ?_))
      | exact LeO.none _
      | refine LeO.ite ?_ ?_
      | refine LeO.bind ?_ (fun _ => ?_)
    · intro y0 y1 y2
      unfold spec_l2Open.l1
      repeat' first
      | (with_reducible exact ih0 _ _ _ _)
      | (with_reducible exact ih1 _ _ _)
      | (with_reducible exact ih2 _ _ _ _)
      | (with_reducible exact spec_l2Has.mono _ _ _)
      | (with_reducible exact spec_l2Make.mono _ _ _)
      | (with_reducible exact LeO.refl _)
      | (with_reducible exact LeO.none _)
      | (with_reducible refine LeO.ite ?_ ?_)
      | (with_reducible refine LeO.bind ?_ (fun _ => ?_))
      | exact LeO.none _
      | refine LeO.ite ?_ ?_
      | refine LeO.bind ?_ (fun _ => ?_)
    intro y0 y1 y2 y3
    unfold spec_l2Open.l2
    repeat' first
    | (with_reducible exact ih0 _ _ _ _)
    | (with_reducible exact ih1 _ _ _)
    | (with_reducible exact ih2 _ _ _ _)
    | (with_reducible exact spec_l2Has.mono _ _ _)
    | (with_reducible exact spec_l2Make.mono _ _ _)
    | (with_reducible exact LeO.refl _)
    | (with_reducible exact LeO.none _)
    | (with_reducible refine LeO.ite ?_ ?_)
    | (with_reducible refine LeO.bind ?_ (fun _ => ?_))
    | exact LeO.none _
    | refine LeO.ite ?_ ?_
    | refine LeO.bind ?_ (fun _ => ?_)
theorem spec_l2Open.mono : ∀ a0 a1 k, LeO (spec_l2Open.f k a0 a1) (spec_l2Open.f (k + 1) a0 a1) := by
  intro a0 a1 k
  obtain ⟨ih0, ih1, ih2⟩ := spec_l2Open.mono_l k
  unfold spec_l2Open.f
  repeat' first
      | (with_reducible exact ih0 _ _ _ _)
      | (with_reducible exact ih1 _ _ _)
      | (with_reducible exact ih2 _ _ _ _)
      | (with_reducible exact spec_l2Has.mono _ _ _)
      | (with_reducible exact spec_l2Make.mono _ _ _)
      | (with_reducible exact LeO.refl _)
      | (with_reducible exact LeO.none _)
      | (with_reducible refine LeO.ite ?_ ?_)
      | (with_reducible refine LeO.bind ?_ (fun _ => ?_))
      | exact LeO.none _
      | refine LeO.ite ?_ ?_
      | refine LeO.bind ?_ (fun _ => ?_)
set_option maxHeartbeats 8000000 in
set_option maxRecDepth 100000 in
theorem spec_l2Open.calls (k : Nat) (A0 : Option Addr) (c0 : Nat) (l0 : List ByteArray) (A1 : Option Addr) (c1 : Nat) (l1 : List (S45)) (r : List ByteArray) (w : World) (hr0 : Kd.C Kd.string w A0 l0.length l0) (hc0 : l0.length ≤ c0) (hr1 : Kd.C k45 w A1 l1.length l1) (hc1 : l1.length ≤ c1) (h : spec_l2Open.f k l0 l1 = some r) :
    Calls Tryd.prog 51 #[.slice A0 l0.length c0, .slice A1 l1.length c1] w fun e w' => ∃ v0_ : Value, e = .returned (v0_) ∧ Kd.R Kd.string 9 w' w.heap.size (fun _ => True) v0_ r ∧ Below w.heap.size w w' := by
  have HR0 := Aside0.mk hr0
  have HC0 := Aside0.mk hc0
  clear hr0 hc0
  have HR1 := Aside0.mk hr1
  have HC1 := Aside0.mk hc1
  clear hr1 hc1
  have HB := Aside0.mk (Below.refl w.heap.size w)
  have H : (spec_l2Open.l0 k l0 l1 (([] : List ByteArray)) 0) = some r := h
  clear h
  obtain ⟨y160, hy160⟩ : ∃ y_ : List ByteArray, y_ = (([] : List ByteArray)) := ⟨_, rfl⟩
  replace H : (spec_l2Open.l0 k l0 l1 y160 0) = some r := by first | (rw [hy160]; with_reducible exact H) | (have H2_ := (Option.bind_some _ _).symm.trans H; rw [hy160]; with_reducible exact H2_) | (have H2_ := (Option.bind_some _ _).symm.trans H; with_reducible exact H2_) | with_reducible exact H | (rw [hy160]; exact H) | exact H
  have Ny160 := Aside0.mk hy160
  clear hy160
  have H' := Aside0.mk H
  clear H
  go_enter Tryd.func51, Tryd.ntmps51
  go_wp2_with (first | ((with_reducible refine gate_dst (N := 9) rfl ?_); refine Kd.R_lit Kd.string _ 9 ?hg (N := 9) ?hd (xs := ([] : List ByteArray)) (inner := []) (ok := fun _ => True) (okp := fun _ => True) ?hr ?hp (fun _ hk => hk) trivial (Below.refl _ _) (Nat.le_refl _) (by simp) ?_; (case hd => rfl); (case hg => rfl); (case hr => first | (go_simp; done) | (go_simp; rfl)); (case hp => exact (Reps.none _ _)); intro v161 w3 ho4 hb hg_ hnew_; clear hg_ hnew_; (first | rw [← Ny160.out] at ho4 | (simp only [Int.reduceToNat] at ho4; rw [← Ny160.out] at ho4)); have HO162 := Aside0.mk (Kd.R_lower ho4 (below_size (y7_ HB.out))); replace HB := Aside0.mk (below_step (y7_ HB.out) hb); clear hb ho4))
  go_loopg [5, 6] k (fun kq v5 v6 w' => ∃ (x5_1 : List ByteArray) (x6_1 : Int), v6 = .int .i64 x6_1 ∧ Aside0 (spec_l2Open.l0 kq l0 l1 x5_1 x6_1 = some r) ∧ Aside0 (kq ≤ k) ∧ Aside0 (Kd.R Kd.string 9 w' w.heap.size (fun _ => True) v5 x5_1) ∧ Aside0 (Below w.heap.size w w'))
  case atStart => exact ⟨(y160), (0), y4_, H', ⟨Nat.le_refl _⟩, ⟨by (with_reducible repeat (first | apply Kd.R_alloc | apply Kd.R_drewN | apply Kd.R_drew)); exact HO162.out⟩, ⟨y7_ HB.out⟩⟩
  case round =>
    clear H'
    try clear c1
    try clear p2
    obtain ⟨x5_1, x6_1, rfl, HA, HK1, HO_5, HB⟩ := hrel
    cases gk with
    | zero => exact absurd HA.out (by simp [spec_l2Open.l0])
    | succ k1 =>
      have H := HA.out
      clear HA
      simp only [spec_l2Open.l0] at H
      by_cases c5 : x6_1 < (l0.length : Int)
      · rw [if_pos c5] at H
        have c5b0 : decide (x6_1 < (l0.length : Int)) = true := decide_eq_true c5
        clear c5
        by_cases c6 : 0 ≤ x6_1
        · rw [if_pos c6] at H
          have c6b0 : decide (0 ≤ x6_1) = true := decide_eq_true c6
          clear c6
          replace H := Option.bind_eq_some_iff.mp H
          obtain ⟨t164, A70, H⟩ := H
          replace H : (if t164 = true then (spec_l2Open.l0 k1 l0 l1 x5_1 (wrap64 (x6_1 + 1))) else (if x5_1.length < 8796093022208 then (spec_l2Open.l0 k1 l0 l1 (x5_1 ++ [rdOf ByteArray.empty l0 x6_1]) (wrap64 (x6_1 + 1))) else (none))) = some r := H
          have A7 := Aside0.mk A70
          clear A70
          by_cases c8 : t164 = true
          · subst c8
            have H1 : (spec_l2Open.l0 k1 l0 l1 x5_1 (wrap64 (x6_1 + 1))) = some r := by rw [if_pos rfl] at H; exact H
            clear H
            have H := H1
            clear H1
            have H' := Aside0.mk H
            clear H
            have p163 : 0 ≤ (x6_1 : Int) := of_decide_eq_true y3_
            have q163 : x6_1 < (l0.length : Int) := of_decide_eq_true y3_
            obtain ⟨ad163, e163, hx163_0⟩ := Kd.at_string HR0.out x6_1 p163 q163
            cases e163
            replace hx163_0 := (HB.out.cell (World.block_lt_of_cell? w _ hx163_0)).trans hx163_0
            replace p163 := eq_true p163
            replace q163 := eq_true q163
            obtain ⟨Ao9, co9, eo9⟩ := Kd.R_slice HO_5.out
            subst eo9
            go_wp2_with (first | ((with_reducible refine gate_callee (f := 62) rfl ?_); refine goesL_ (some 21) rfl rfl Tryd.func62 (by kernel_rfl) rfl #[.slice Ao9 x5_1.length co9, .string (rdOf ByteArray.empty l0 x6_1)] rfl y1_ ?_; (with_reducible refine (spec_l2Has.calls k1 _ _ x5_1 (rdOf ByteArray.empty l0 x6_1) true _ ?side1 ?side2 A7.out).mono ?_); (case side1 => repeat (first | exact (Kd.R_reads' HO_5.out).2.2 | (with_reducible refine Kd.C_alloc ?_ _) | (with_reducible refine Kd.C_drewN ?_ _) | (with_reducible refine Kd.C_drew ?_))); (case side2 => exact (Kd.R_reads' HO_5.out).2.1); rintro e w' ⟨rfl, ⟨nd, rfl⟩⟩; refine ⟨_, rfl, ?_⟩))
            go_roundg k1
            case measure => have := HK1.out; omega
            case rel => exact ⟨(x5_1), (wrap64 (x6_1 + 1)), y4_, H', ⟨by have := HK1.out; omega⟩, ⟨by (with_reducible repeat (first | apply Kd.R_alloc | apply Kd.R_drewN | apply Kd.R_drew)); exact HO_5.out⟩, ⟨y7_ HB.out⟩⟩
          replace c8 := Bool.eq_false_iff.mpr c8
          subst c8
          have H1 : (if x5_1.length < 8796093022208 then (spec_l2Open.l0 k1 l0 l1 (x5_1 ++ [rdOf ByteArray.empty l0 x6_1]) (wrap64 (x6_1 + 1))) else (none)) = some r := by rw [if_neg (show ¬ (false = true) by decide)] at H; exact H
          clear H
          have H := H1
          clear H1
          by_cases c10 : x5_1.length < 8796093022208
          · rw [if_pos c10] at H
            have LMc10 := Aside0.mk c10
            clear c10
            obtain ⟨y166, hy166⟩ : ∃ y_ : List ByteArray, y_ = (x5_1 ++ [rdOf ByteArray.empty l0 x6_1]) := ⟨_, rfl⟩
            replace H : (spec_l2Open.l0 k1 l0 l1 y166 (wrap64 (x6_1 + 1))) = some r := by first | (rw [hy166]; with_reducible exact H) | (have H2_ := (Option.bind_some _ _).symm.trans H; rw [hy166]; with_reducible exact H2_) | (have H2_ := (Option.bind_some _ _).symm.trans H; with_reducible exact H2_) | with_reducible exact H | (rw [hy166]; exact H) | exact H
            have Ny166 := Aside0.mk hy166
            clear hy166
            have H' := Aside0.mk H
            clear H
            have p163 : 0 ≤ (x6_1 : Int) := of_decide_eq_true y3_
            have q163 : x6_1 < (l0.length : Int) := of_decide_eq_true y3_
            obtain ⟨ad163, e163, hx163_0⟩ := Kd.at_string HR0.out x6_1 p163 q163
            cases e163
            replace hx163_0 := (HB.out.cell (World.block_lt_of_cell? w _ hx163_0)).trans hx163_0
            replace p163 := eq_true p163
            replace q163 := eq_true q163
            obtain ⟨Ao11, co11, eo11⟩ := Kd.R_slice HO_5.out
            subst eo11
            go_wp2_with (first | ((with_reducible refine gate_callee (f := 62) rfl ?_); refine goesL_ (some 21) rfl rfl Tryd.func62 (by kernel_rfl) rfl #[.slice Ao11 x5_1.length co11, .string (rdOf ByteArray.empty l0 x6_1)] rfl y1_ ?_; (with_reducible refine (spec_l2Has.calls k1 _ _ x5_1 (rdOf ByteArray.empty l0 x6_1) false _ ?side1 ?side2 A7.out).mono ?_); (case side1 => repeat (first | exact (Kd.R_reads' HO_5.out).2.2 | (with_reducible refine Kd.C_alloc ?_ _) | (with_reducible refine Kd.C_drewN ?_ _) | (with_reducible refine Kd.C_drew ?_))); (case side2 => exact (Kd.R_reads' HO_5.out).2.1); rintro e w' ⟨rfl, ⟨nd, rfl⟩⟩; refine ⟨_, rfl, ?_⟩; have p165 : 0 ≤ (x6_1 : Int) := of_decide_eq_true y3_; have q165 : x6_1 < (l0.length : Int) := of_decide_eq_true y3_; obtain ⟨ad165, e165, hx165_0⟩ := Kd.at_string HR0.out x6_1 p165 q165; obtain rfl : ad163 = ad165 := (by injection e165); replace hx165_0 := (HB.out.cell (World.block_lt_of_cell? w _ hx165_0)).trans hx165_0; replace p165 := eq_true p165; replace q165 := eq_true q165) | ((with_reducible refine gate_builtin (b := .append) (xs := #[.tmp 23, .tmp 28]) rfl ?_); at_builtin; refine Kd.R_append Kd.string (w0 := w) w.heap.size rfl (.tmp 23) (.tmp 28) 23 9 (.string ⟨#[]⟩) 16 rfl Tryd.underlying23 info9 rfl (by decide) (by omega) (.slice Ao11 x5_1.length co11) x5_1 (rdOf ByteArray.empty l0 x6_1) [.string (rdOf ByteArray.empty l0 x6_1)] (fun _ => True) (fun _ => False) rfl rfl ?aP (fun _ hk => hk.elim) ?aF ?aO ?aB ?aS ?aL ?_; (case aP => exact rfl); (case aB => exact (y7_ HB.out)); (case aF => exact (fun _ _ => trivial)); (case aO => exact (y11_ HO_5.out)); (case aS => exact (below_size (y7_ HB.out))); (case aL => have := LMc10.out; omega); intro v167 w12 ho hb hg hat; rw [← Ny166.out] at ho; replace HB := Aside0.mk (hb); have HO168 := Aside0.mk (ho); clear HO_5; clear ho hb hg hat))
            go_roundg k1
            case measure => have := HK1.out; omega
            case rel => exact ⟨(y166), (wrap64 (x6_1 + 1)), y4_, H', ⟨by have := HK1.out; omega⟩, ⟨by (with_reducible repeat (first | apply Kd.R_alloc | apply Kd.R_drewN | apply Kd.R_drew)); exact HO168.out⟩, ⟨y7_ HB.out⟩⟩
          rw [if_neg c10] at H
          exact absurd H (by simp)
        rw [if_neg c6] at H
        exact absurd H (by simp)
      rw [if_neg c5] at H
      have c5b0 : decide (x6_1 < (l0.length : Int)) = false := decide_eq_false c5
      clear c5
      have H' := Aside0.mk H
      clear H
      go_wp2
      go_loopg [5, 7] k1 (fun kq v5 v7 w' => ∃ (x5_2 : List ByteArray) (x7_2 : Bool), v7 = .bool x7_2 ∧ Aside0 (spec_l2Open.l1 kq l1 x5_2 x7_2 = some r) ∧ Aside0 (kq ≤ k1) ∧ Aside0 (Kd.R Kd.string 9 w' w.heap.size (fun _ => True) v5 x5_2) ∧ Aside0 (Below w.heap.size w w'))
      case atStart => exact ⟨(x5_1), (true), y4_, H', ⟨Nat.le_refl _⟩, ⟨by (with_reducible repeat (first | apply Kd.R_alloc | apply Kd.R_drewN | apply Kd.R_drew)); exact HO_5.out⟩, ⟨y7_ HB.out⟩⟩
      case round =>
        clear H'
        try clear c1
        try clear p1
        try clear q1
        try clear hx1
        try clear p2
        try clear c5
        try clear c5b0
        try clear c6
        try clear c6b0
        try clear p6
        try clear c8
        try clear c10
        try clear hx163_0
        try clear hx165_0
        try clear p163
        try clear p165
        try clear p2
        try clear q163
        try clear q165
        obtain ⟨x5_2, x7_2, rfl, HA, HK2, HO_5, HB⟩ := hrel
        cases gk with
        | zero => exact absurd HA.out (by simp [spec_l2Open.l1])
        | succ k2 =>
          have H := HA.out
          clear HA
          simp only [spec_l2Open.l1] at H
          by_cases c13 : x7_2 = true
          · subst c13
            have H1 : (spec_l2Open.l2 k2 l1 x5_2 false 0) = some r := by rw [if_pos rfl] at H; exact H
            clear H
            have H := H1
            clear H1
            have H' := Aside0.mk H
            clear H
            go_wp2
            go_loopg [5, 7, 8] k2 (fun kq v5 v7 v8 w' => ∃ (x5_3 : List ByteArray) (x7_3 : Bool) (x8_3 : Int), v7 = .bool x7_3 ∧ v8 = .int .i64 x8_3 ∧ Aside0 (spec_l2Open.l2 kq l1 x5_3 x7_3 x8_3 = some r) ∧ Aside0 (kq ≤ k2) ∧ Aside0 (Kd.R Kd.string 9 w' w.heap.size (fun _ => True) v5 x5_3) ∧ Aside0 (Below w.heap.size w w'))
            case atStart => exact ⟨(x5_2), (false), (0), y4_, y4_, H', ⟨Nat.le_refl _⟩, ⟨by (with_reducible repeat (first | apply Kd.R_alloc | apply Kd.R_drewN | apply Kd.R_drew)); exact HO_5.out⟩, ⟨y7_ HB.out⟩⟩
            case round =>
              clear H'
              try clear c1
              try clear p1
              try clear q1
              try clear hx1
              try clear p2
              try clear c5
              try clear c5b0
              try clear c6
              try clear c6b0
              try clear p6
              try clear c8
              try clear c10
              try clear c13
              try clear hx163_0
              try clear hx165_0
              try clear p1
              try clear p163
              try clear p165
              try clear p2
              try clear p6
              try clear q1
              try clear q163
              try clear q165
              obtain ⟨x5_3, x7_3, x8_3, rfl, rfl, HA, HK3, HO_5, HB⟩ := hrel
              cases gk with
              | zero => exact absurd HA.out (by simp [spec_l2Open.l2])
              | succ k3 =>
                have H := HA.out
                clear HA
                simp only [spec_l2Open.l2] at H
                by_cases c14 : x8_3 < (l1.length : Int)
                · rw [if_pos c14] at H
                  have c14b0 : decide (x8_3 < (l1.length : Int)) = true := decide_eq_true c14
                  clear c14
                  by_cases c15 : 0 ≤ x8_3
                  · rw [if_pos c15] at H
                    have c15b0 : decide (0 ≤ x8_3) = true := decide_eq_true c15
                    clear c15
                    replace H := Option.bind_eq_some_iff.mp H
                    obtain ⟨t170, A160, H⟩ := H
                    replace H : (if t170 = true then (spec_l2Open.l2 k3 l1 x5_3 x7_3 (wrap64 (x8_3 + 1))) else ((spec_l2Make.f k3 x5_3 ((rd_T45 l1 x8_3).f0)).bind fun t172 => (if t172 = true then (if x5_3.length < 8796093022208 then (spec_l2Open.l2 k3 l1 (x5_3 ++ [(rd_T45 l1 x8_3).f1]) true (wrap64 (x8_3 + 1))) else (none)) else (spec_l2Open.l2 k3 l1 x5_3 x7_3 (wrap64 (x8_3 + 1)))))) = some r := H
                    have A16 := Aside0.mk A160
                    clear A160
                    by_cases c17 : t170 = true
                    · subst c17
                      have H1 : (spec_l2Open.l2 k3 l1 x5_3 x7_3 (wrap64 (x8_3 + 1))) = some r := by rw [if_pos rfl] at H; exact H
                      clear H
                      have H := H1
                      clear H1
                      have H' := Aside0.mk H
                      clear H
                      have p169 : 0 ≤ (x8_3 : Int) := of_decide_eq_true y3_
                      have q169 : x8_3 < (l1.length : Int) := of_decide_eq_true y3_
                      obtain ⟨ad169, e169, hx169_0, hx169_1⟩ := at_T45 HR1.out x8_3 p169 q169
                      cases e169
                      replace hx169_0 := (HB.out.cell (World.block_lt_of_cell? w _ hx169_0)).trans hx169_0
                      replace hx169_1 := (HB.out.cell (World.block_lt_of_cell? w _ hx169_1)).trans hx169_1
                      replace p169 := eq_true p169
                      replace q169 := eq_true q169
                      obtain ⟨Ao18, co18, eo18⟩ := Kd.R_slice HO_5.out
                      subst eo18
                      go_wp2_with (first | ((with_reducible refine gate_callee (f := 62) rfl ?_); refine goesL_ (some 43) rfl rfl Tryd.func62 (by kernel_rfl) rfl #[.slice Ao18 x5_3.length co18, .string ((rd_T45 l1 x8_3).f1)] rfl y1_ ?_; (with_reducible refine (spec_l2Has.calls k3 _ _ x5_3 ((rd_T45 l1 x8_3).f1) true _ ?side1 ?side2 A16.out).mono ?_); (case side1 => repeat (first | exact (Kd.R_reads' HO_5.out).2.2 | (with_reducible refine Kd.C_alloc ?_ _) | (with_reducible refine Kd.C_drewN ?_ _) | (with_reducible refine Kd.C_drew ?_))); (case side2 => exact (Kd.R_reads' HO_5.out).2.1); rintro e w' ⟨rfl, ⟨nd, rfl⟩⟩; refine ⟨_, rfl, ?_⟩))
                      go_roundg k3
                      case measure => have := HK1.out; have := HK2.out; have := HK3.out; omega
                      case rel => exact ⟨(x5_3), (x7_3), (wrap64 (x8_3 + 1)), y4_, y4_, H', ⟨by have := HK1.out; have := HK2.out; have := HK3.out; omega⟩, ⟨by (with_reducible repeat (first | apply Kd.R_alloc | apply Kd.R_drewN | apply Kd.R_drew)); exact HO_5.out⟩, ⟨y7_ HB.out⟩⟩
                    replace c17 := Bool.eq_false_iff.mpr c17
                    subst c17
                    have H1 : ((spec_l2Make.f k3 x5_3 ((rd_T45 l1 x8_3).f0)).bind fun t172 => (if t172 = true then (if x5_3.length < 8796093022208 then (spec_l2Open.l2 k3 l1 (x5_3 ++ [(rd_T45 l1 x8_3).f1]) true (wrap64 (x8_3 + 1))) else (none)) else (spec_l2Open.l2 k3 l1 x5_3 x7_3 (wrap64 (x8_3 + 1))))) = some r := by rw [if_neg (show ¬ (false = true) by decide)] at H; exact H
                    clear H
                    have H := H1
                    clear H1
                    replace H := Option.bind_eq_some_iff.mp H
                    obtain ⟨t172, A190, H⟩ := H
                    replace H : (if t172 = true then (if x5_3.length < 8796093022208 then (spec_l2Open.l2 k3 l1 (x5_3 ++ [(rd_T45 l1 x8_3).f1]) true (wrap64 (x8_3 + 1))) else (none)) else (spec_l2Open.l2 k3 l1 x5_3 x7_3 (wrap64 (x8_3 + 1)))) = some r := H
                    have A19 := Aside0.mk A190
                    clear A190
                    by_cases c20 : t172 = true
                    · subst c20
                      have H1 : (if x5_3.length < 8796093022208 then (spec_l2Open.l2 k3 l1 (x5_3 ++ [(rd_T45 l1 x8_3).f1]) true (wrap64 (x8_3 + 1))) else (none)) = some r := by rw [if_pos rfl] at H; exact H
                      clear H
                      have H := H1
                      clear H1
                      by_cases c21 : x5_3.length < 8796093022208
                      · rw [if_pos c21] at H
                        have LMc21 := Aside0.mk c21
                        clear c21
                        obtain ⟨y174, hy174⟩ : ∃ y_ : List ByteArray, y_ = (x5_3 ++ [(rd_T45 l1 x8_3).f1]) := ⟨_, rfl⟩
                        replace H : (spec_l2Open.l2 k3 l1 y174 true (wrap64 (x8_3 + 1))) = some r := by first | (rw [hy174]; with_reducible exact H) | (have H2_ := (Option.bind_some _ _).symm.trans H; rw [hy174]; with_reducible exact H2_) | (have H2_ := (Option.bind_some _ _).symm.trans H; with_reducible exact H2_) | with_reducible exact H | (rw [hy174]; exact H) | exact H
                        have Ny174 := Aside0.mk hy174
                        clear hy174
                        have H' := Aside0.mk H
                        clear H
                        have p169 : 0 ≤ (x8_3 : Int) := of_decide_eq_true y3_
                        have q169 : x8_3 < (l1.length : Int) := of_decide_eq_true y3_
                        obtain ⟨ad169, e169, hx169_0, hx169_1⟩ := at_T45 HR1.out x8_3 p169 q169
                        cases e169
                        replace hx169_0 := (HB.out.cell (World.block_lt_of_cell? w _ hx169_0)).trans hx169_0
                        replace hx169_1 := (HB.out.cell (World.block_lt_of_cell? w _ hx169_1)).trans hx169_1
                        replace p169 := eq_true p169
                        replace q169 := eq_true q169
                        obtain ⟨Ao22, co22, eo22⟩ := Kd.R_slice HO_5.out
                        subst eo22
                        go_wp2_with (first | ((with_reducible refine gate_callee (f := 62) rfl ?_); refine goesL_ (some 43) rfl rfl Tryd.func62 (by kernel_rfl) rfl #[.slice Ao22 x5_3.length co22, .string ((rd_T45 l1 x8_3).f1)] rfl y1_ ?_; (with_reducible refine (spec_l2Has.calls k3 _ _ x5_3 ((rd_T45 l1 x8_3).f1) false _ ?side1 ?side2 A16.out).mono ?_); (case side1 => repeat (first | exact (Kd.R_reads' HO_5.out).2.2 | (with_reducible refine Kd.C_alloc ?_ _) | (with_reducible refine Kd.C_drewN ?_ _) | (with_reducible refine Kd.C_drew ?_))); (case side2 => exact (Kd.R_reads' HO_5.out).2.1); rintro e w' ⟨rfl, ⟨nd, rfl⟩⟩; refine ⟨_, rfl, ?_⟩; have p171 : 0 ≤ (x8_3 : Int) := of_decide_eq_true y3_; have q171 : x8_3 < (l1.length : Int) := of_decide_eq_true y3_; obtain ⟨ad171, e171, hx171_0, hx171_1⟩ := at_T45 HR1.out x8_3 p171 q171; obtain rfl : ad169 = ad171 := (by injection e171); replace hx171_0 := (HB.out.cell (World.block_lt_of_cell? w _ hx171_0)).trans hx171_0; replace hx171_1 := (HB.out.cell (World.block_lt_of_cell? w _ hx171_1)).trans hx171_1; replace p171 := eq_true p171; replace q171 := eq_true q171) | (go_at_call 42; (with_reducible refine (spec_l2Make.calls k3 _ _ x5_3 ((rd_T45 l1 x8_3).f0) true _ ?side1 ?side2 A19.out).mono ?_); (case side1 => repeat (first | exact (Kd.R_reads' HO_5.out).2.2 | (with_reducible refine Kd.C_alloc ?_ _) | (with_reducible refine Kd.C_drewN ?_ _) | (with_reducible refine Kd.C_drew ?_))); (case side2 => exact (Kd.R_reads' HO_5.out).2.1); rintro e w23 ⟨rfl, hb⟩; replace HO_5 := Aside0.mk (Kd.R_below (y11_ HO_5.out) hb); replace HB := Aside0.mk (below_step (y7_ HB.out) hb); clear hb; have p173 : 0 ≤ (x8_3 : Int) := of_decide_eq_true y3_; have q173 : x8_3 < (l1.length : Int) := of_decide_eq_true y3_; obtain ⟨ad173, e173, hx173_0, hx173_1⟩ := at_T45 HR1.out x8_3 p173 q173; obtain rfl : ad169 = ad173 := (by injection e173); replace hx173_0 := (HB.out.cell (World.block_lt_of_cell? w _ hx173_0)).trans hx173_0; replace hx173_1 := (HB.out.cell (World.block_lt_of_cell? w _ hx173_1)).trans hx173_1; replace p173 := eq_true p173; replace q173 := eq_true q173) | ((with_reducible refine gate_builtin (b := .append) (xs := #[.tmp 54, .tmp 60]) rfl ?_); at_builtin; refine Kd.R_append Kd.string (w0 := w) w.heap.size rfl (.tmp 54) (.tmp 60) 23 9 (.string ⟨#[]⟩) 16 rfl Tryd.underlying23 info9 rfl (by decide) (by omega) (.slice Ao22 x5_3.length co22) x5_3 ((rd_T45 l1 x8_3).f1) [.string ((rd_T45 l1 x8_3).f1)] (fun _ => True) (fun _ => False) rfl rfl ?aP (fun _ hk => hk.elim) ?aF ?aO ?aB ?aS ?aL ?_; (case aP => exact rfl); (case aB => exact (y7_ HB.out)); (case aF => exact (fun _ _ => trivial)); (case aO => exact (y11_ HO_5.out)); (case aS => exact (below_size (y7_ HB.out))); (case aL => have := LMc21.out; omega); intro v175 w24 ho hb hg hat; rw [← Ny174.out] at ho; replace HB := Aside0.mk (hb); have HO176 := Aside0.mk (ho); clear HO_5; clear ho hb hg hat))
                        go_roundg k3
                        case measure => have := HK1.out; have := HK2.out; have := HK3.out; omega
                        case rel => exact ⟨(y174), (true), (wrap64 (x8_3 + 1)), y4_, y4_, H', ⟨by have := HK1.out; have := HK2.out; have := HK3.out; omega⟩, ⟨by (with_reducible repeat (first | apply Kd.R_alloc | apply Kd.R_drewN | apply Kd.R_drew)); exact HO176.out⟩, ⟨y7_ HB.out⟩⟩
                      rw [if_neg c21] at H
                      exact absurd H (by simp)
                    replace c20 := Bool.eq_false_iff.mpr c20
                    subst c20
                    have H1 : (spec_l2Open.l2 k3 l1 x5_3 x7_3 (wrap64 (x8_3 + 1))) = some r := by rw [if_neg (show ¬ (false = true) by decide)] at H; exact H
                    clear H
                    have H := H1
                    clear H1
                    have H' := Aside0.mk H
                    clear H
                    have p169 : 0 ≤ (x8_3 : Int) := of_decide_eq_true y3_
                    have q169 : x8_3 < (l1.length : Int) := of_decide_eq_true y3_
                    obtain ⟨ad169, e169, hx169_0, hx169_1⟩ := at_T45 HR1.out x8_3 p169 q169
                    cases e169
                    replace hx169_0 := (HB.out.cell (World.block_lt_of_cell? w _ hx169_0)).trans hx169_0
                    replace hx169_1 := (HB.out.cell (World.block_lt_of_cell? w _ hx169_1)).trans hx169_1
                    replace p169 := eq_true p169
                    replace q169 := eq_true q169
                    obtain ⟨Ao25, co25, eo25⟩ := Kd.R_slice HO_5.out
                    subst eo25
                    go_wp2_with (first | ((with_reducible refine gate_callee (f := 62) rfl ?_); refine goesL_ (some 43) rfl rfl Tryd.func62 (by kernel_rfl) rfl #[.slice Ao25 x5_3.length co25, .string ((rd_T45 l1 x8_3).f1)] rfl y1_ ?_; (with_reducible refine (spec_l2Has.calls k3 _ _ x5_3 ((rd_T45 l1 x8_3).f1) false _ ?side1 ?side2 A16.out).mono ?_); (case side1 => repeat (first | exact (Kd.R_reads' HO_5.out).2.2 | (with_reducible refine Kd.C_alloc ?_ _) | (with_reducible refine Kd.C_drewN ?_ _) | (with_reducible refine Kd.C_drew ?_))); (case side2 => exact (Kd.R_reads' HO_5.out).2.1); rintro e w' ⟨rfl, ⟨nd, rfl⟩⟩; refine ⟨_, rfl, ?_⟩; have p171 : 0 ≤ (x8_3 : Int) := of_decide_eq_true y3_; have q171 : x8_3 < (l1.length : Int) := of_decide_eq_true y3_; obtain ⟨ad171, e171, hx171_0, hx171_1⟩ := at_T45 HR1.out x8_3 p171 q171; obtain rfl : ad169 = ad171 := (by injection e171); replace hx171_0 := (HB.out.cell (World.block_lt_of_cell? w _ hx171_0)).trans hx171_0; replace hx171_1 := (HB.out.cell (World.block_lt_of_cell? w _ hx171_1)).trans hx171_1; replace p171 := eq_true p171; replace q171 := eq_true q171) | (go_at_call 42; (with_reducible refine (spec_l2Make.calls k3 _ _ x5_3 ((rd_T45 l1 x8_3).f0) false _ ?side1 ?side2 A19.out).mono ?_); (case side1 => repeat (first | exact (Kd.R_reads' HO_5.out).2.2 | (with_reducible refine Kd.C_alloc ?_ _) | (with_reducible refine Kd.C_drewN ?_ _) | (with_reducible refine Kd.C_drew ?_))); (case side2 => exact (Kd.R_reads' HO_5.out).2.1); rintro e w26 ⟨rfl, hb⟩; replace HO_5 := Aside0.mk (Kd.R_below (y11_ HO_5.out) hb); replace HB := Aside0.mk (below_step (y7_ HB.out) hb); clear hb))
                    go_roundg k3
                    case measure => have := HK1.out; have := HK2.out; have := HK3.out; omega
                    case rel => exact ⟨(x5_3), (x7_3), (wrap64 (x8_3 + 1)), y4_, y4_, H', ⟨by have := HK1.out; have := HK2.out; have := HK3.out; omega⟩, ⟨by (with_reducible repeat (first | apply Kd.R_alloc | apply Kd.R_drewN | apply Kd.R_drew)); exact HO_5.out⟩, ⟨y7_ HB.out⟩⟩
                  rw [if_neg c15] at H
                  exact absurd H (by simp)
                rw [if_neg c14] at H
                have c14b0 : decide (x8_3 < (l1.length : Int)) = false := decide_eq_false c14
                clear c14
                have H' := Aside0.mk H
                clear H
                go_wp2
                go_roundg k3
                case measure => have := HK1.out; have := HK2.out; have := HK3.out; omega
                case rel => exact ⟨(x5_3), (x7_3), y4_, H', ⟨by have := HK1.out; have := HK2.out; have := HK3.out; omega⟩, ⟨by (with_reducible repeat (first | apply Kd.R_alloc | apply Kd.R_drewN | apply Kd.R_drew)); exact HO_5.out⟩, ⟨y7_ HB.out⟩⟩
          replace c13 := Bool.eq_false_iff.mpr c13
          subst c13
          have H1 : (some x5_2) = some r := by rw [if_neg (show ¬ (false = true) by decide)] at H; exact H
          clear H
          have H := H1
          clear H1
          obtain rfl := Option.some.inj H
          go_wp2
          go_ret
          exact ⟨_, y6_, by (with_reducible repeat (first | apply Kd.R_alloc | apply Kd.R_drewN | apply Kd.R_drew)); exact HO_5.out, y7_ HB.out⟩

end Go.Proofs.YtjbnfcljkmapeaaDoor.Yc
