-- Written by this session's own program (wip/tools/pp.py) out of the translation, over functions given by hand. Lean checks it.
import Derived.Test.YtnemchmiplbopaaGreatDoorZjx0
import Derived.Test.YtnemchmiplbopaaGreatDoorZjx15
import Derived.Test.YtnemchmiplbopaaGreatDoorZjGivK
namespace Go.Proofs.YtnemchmiplbopaaGreatDoor.Zj
open Go.RowKit Go.Proofs.YtnemchmiplbopaaGreatDoorW.PrintWords Go.Proofs.YtnemchmiplbopaaGreatDoorW.PrintLast Go.Proofs.YtnemchmiplbopaaGreatDoorW.PrintMore
attribute [local go_sem] max2_int min2_int max_two min_two max_three min_three max_four min_four   -- for this text's walks alone
set_option linter.unusedVariables false
set_option linter.unusedSimpArgs false

/-! ### impl_short: function 60 -/
def impl_short.f (a0 : ByteArray) : Option (Bool) := (impl_SecOk.f a0).bind fun t420 => (if t420 = true then (some (decide ((a0.size : Int) ≤ 292))) else (some false))
set_option maxHeartbeats 8000000 in
set_option maxRecDepth 100000 in
theorem impl_short.calls {a0 : ByteArray} {r : Bool} {w : World} (hG : GlobOk w) (H : impl_short.f a0 = some r) :
    Calls Tryz.prog 60 #[.string a0] w fun e w' => e = .returned (.bool r) ∧ Below w.heap.size w w' := by
  have HB := am_ (Below.refl w.heap.size w); have HGL := am_ hG; clear hG; revert H; unfold impl_short.f; refine oc_ fun t420 A2 => ?_; refine ib_ ?_ ?_
  · rintro rfl; refine oj_ ?_; rintro rfl; go_enter Tryz.func60, Tryz.ntmps60; go_wp2_with ((with_reducible refine gl_ ?_); first | ((with_reducible refine gf_ 36 4 rfl rfl ?_); refine gb_ (impl_SecOk.calls a0 true _ (GlobOk.below HGL.out (y7_ HB.out)) A2.out) ?_; intro w4 hb; replace HB := st_ (y7_ HB.out) hb; clear hb)); go_ret; exact ⟨y6_, y7_ HB.out⟩
  rintro rfl; refine oj_ ?_; rintro rfl; go_enter Tryz.func60, Tryz.ntmps60; go_wp2_with ((with_reducible refine gl_ ?_); first | ((with_reducible refine gf_ 36 4 rfl rfl ?_); refine gb_ (impl_SecOk.calls a0 false _ (GlobOk.below HGL.out (y7_ HB.out)) A2.out) ?_; intro w5 hb; replace HB := st_ (y7_ HB.out) hb; clear hb)); go_ret; exact ⟨y6_, y7_ HB.out⟩

-- GIVEN: function 61 (strings_Count)

-- GIVEN: function 102 (impl_MemOwn_102)

-- GIVEN: function 103 (impl_MemOwn_103)

/-! ### impl_MemOwn_62: function 62 -/
def impl_MemOwn_62.f (l0 : List (S74)) : Option ((List (S74))) := (impl_MemOwn_103.f l0).bind fun t421 => (some t421)
set_option maxHeartbeats 8000000 in
set_option maxRecDepth 100000 in
theorem impl_MemOwn_62.calls {A0 : Option Addr} {c0 : Nat} {l0 : List (S74)} {r : List (S74)} {w : World} (hr0 : Kd.C k74 w A0 l0.length l0) (hc0 : l0.length ≤ c0) (H : impl_MemOwn_62.f l0 = some r) :
    Calls Tryz.prog 62 #[.slice A0 l0.length c0] w fun e w' => ∃ v0_ : Value, e = .returned (v0_) ∧ Kd.Q k74 74 w' w.heap.size (fun _ => True) v0_ r ∧ Below w.heap.size w w' := by
  have HR0 := am_ hr0; have HC0 := am_ hc0; clear hr0 hc0; have HB := am_ (Below.refl w.heap.size w); revert H; unfold impl_MemOwn_62.f; refine oc_ fun t421 A2 => ?_; refine oj_ ?_; rintro rfl; go_enter Tryz.func62, Tryz.ntmps62; go_wp2_with (first | (go_at_call 102; obtain ⟨Ac_, cc_, ec_⟩ := Kd.R_slice HO423.out; subst ec_; (with_reducible refine (clip_own _ _ _ _ (clip_le HO423.out).1 (clip_le HO423.out).2).mono ?_); rintro e_ w_ ⟨rfl, rfl⟩) | ((with_reducible refine gl_ ?_); first | ((with_reducible refine gf_ 103 4 rfl rfl ?_); refine gc_ (impl_MemOwn_103.calls _ _ l0 t421 _ ?side1 HC0.out A2.out) ?_; (case side1 => repeat (first | exact HR0.out | (with_reducible refine Kd.C_alloc ?_ _) | (with_reducible refine Kd.C_drewN ?_ _) | (with_reducible refine Kd.C_drew ?_))); rintro e w3 ⟨v422, rfl, ho0, hb⟩; refine ⟨_, rfl, ?_⟩; have HO423 := am_ (Kd.R_lower ho0 (below_size (y7_ HB.out))); replace HB := st_ (y7_ HB.out) hb; (try clear hb); (try clear ho0)))); go_ret; exact ⟨_, y6_, Kd.Q_clip (Kd.Q_of_R (y11_ HO423.out)), y7_ HB.out⟩

/-! ### impl_MakNext: function 117 -/
def impl_MakNext.f (k : Nat) (a0 : ByteArray) : Option (ByteArray) := (impl_made.f k (⟨#[110]⟩ : ByteArray) (([a0] : List ByteArray))).bind fun t427 => (some t427)
set_option maxHeartbeats 8000000 in
set_option maxRecDepth 100000 in
theorem impl_MakNext.calls {k : Nat} {a0 : ByteArray} {r : ByteArray} {w : World} (hG : GlobOk w) (H : impl_MakNext.f k a0 = some r) :
    Calls Tryz.prog 117 #[.string a0] w fun e w' => e = .returned (.string r) ∧ Below w.heap.size w w' := by
  have HB := am_ (Below.refl w.heap.size w); have HGL := am_ hG; clear hG; revert H; unfold impl_MakNext.f
  generalize hy424 : (([a0] : List ByteArray)) = y424; have Ny424 := am_ hy424.symm; clear hy424; refine oc_ fun t427 A2 => ?_; refine oj_ ?_; rintro rfl; go_enter Tryz.func117, Tryz.ntmps117; go_wp2_with (first | ((with_reducible refine gate_dst (N := 4) rfl ?_); refine Kd.R_lit Kd.string _ 9 ?hg (N := 4) ?hd (xs := ([a0] : List ByteArray)) (inner := [.string a0]) (ok := fun _ => True) (okp := fun _ => True) ?hr ?hp (fun _ hk => hk) trivial (Below.refl _ _) (Nat.le_refl _) (by simp) ?_; (case hd => rfl); (case hg => rfl); (case hr => go_simp; try rfl); (case hp => exact (Reps.one (show Kd.M Kd.string _ _ _ a0 [.string a0] from rfl) (Reps.none _ _))); intro v425 w3 ho4 hb hg_ hnew_; clear hg_ hnew_; (first | rw [← Ny424.out] at ho4 | (simp only [Int.reduceToNat] at ho4; rw [← Ny424.out] at ho4)); have HO426 := am_ (Kd.R_lower ho4 (below_size (y7_ HB.out))); replace HB := st_ (y7_ HB.out) hb; clear hb ho4; obtain ⟨Ao5, co5, eo5⟩ := Kd.R_slice HO426.out; subst eo5) | ((with_reducible refine gl_ ?_); first | ((with_reducible refine gf_ 86 5 rfl rfl ?_); refine gb_ (impl_made.calls (y17_ ((Kd.R_reads' HO426.out).2.2)) ((Kd.R_reads' HO426.out).2.1) ?side3 (GlobOk.below HGL.out (y7_ HB.out)) A2.out) ?_; (case side3 => first | assumption | exact Flat.of_R (by assumption) | exact Flat.none_); intro w6 hb; replace HO426 := rb_ (y11_ HO426.out) hb; replace HB := st_ (y7_ HB.out) hb; clear hb))); go_ret; exact ⟨y6_, y7_ HB.out⟩

/-! ### impl_chain: function 104 -/
def impl_chain.l0 : Nat → Int → List ByteArray → Option (List ByteArray)
  | 0, _, _ => none
  | k + 1, x1, x5 => if (x5.length : Int) < x1 then (if 0 ≤ (wrap64 ((x5.length : Int) - 1)) then (if (wrap64 ((x5.length : Int) - 1)) < (x5.length : Int) then ((impl_MakNext.f k (rdOf ByteArray.empty x5 (wrap64 ((x5.length : Int) - 1)))).bind fun t432 => (if x5.length < 8796093022208 then (impl_chain.l0 k x1 (x5 ++ [t432])) else (none))) else (none)) else (none)) else (some x5)
def impl_chain.f (k : Nat) (a0 : ByteArray) (a1 : Int) : Option (List ByteArray) := impl_chain.l0 k a1 (([a0] : List ByteArray))
set_option maxHeartbeats 8000000 in
set_option maxRecDepth 100000 in
theorem impl_chain.calls {k : Nat} {a0 : ByteArray} {a1 : Int} {r : List ByteArray} {w : World} (hG : GlobOk w) (H : impl_chain.f k a0 a1 = some r) :
    Calls Tryz.prog 104 #[.string a0, .int .i64 a1] w fun e w' => ∃ v0_ : Value, e = .returned (v0_) ∧ Kd.R Kd.string 9 w' w.heap.size (fun _ => True) v0_ r ∧ Below w.heap.size w w' := by
  have HB := am_ (Below.refl w.heap.size w); have HGL := am_ hG; clear hG; revert H; unfold impl_chain.f
  generalize hy428 : (([a0] : List ByteArray)) = y428; have Ny428 := am_ hy428.symm; clear hy428; refine ai_ fun H' => ?_; go_enter Tryz.func104, Tryz.ntmps104; go_wp2_with (first | ((with_reducible refine gate_dst (N := 7) rfl ?_); refine Kd.R_lit Kd.string _ 9 ?hg (N := 7) ?hd (xs := ([a0] : List ByteArray)) (inner := [.string a0]) (ok := fun _ => True) (okp := fun _ => True) ?hr ?hp (fun _ hk => hk) trivial (Below.refl _ _) (Nat.le_refl _) (by simp) ?_; (case hd => rfl); (case hg => rfl); (case hr => go_simp; try rfl); (case hp => exact (Reps.one (show Kd.M Kd.string _ _ _ a0 [.string a0] from rfl) (Reps.none _ _))); intro v429 w3 ho4 hb hg_ hnew_; clear hg_ hnew_; (first | rw [← Ny428.out] at ho4 | (simp only [Int.reduceToNat] at ho4; rw [← Ny428.out] at ho4)); have HO430 := am_ (Kd.R_lower ho4 (below_size (y7_ HB.out))); replace HB := st_ (y7_ HB.out) hb; clear hb ho4))
  go_loopg [5] k (fun kq v5 w' => ∃ (x5_1 : List ByteArray), Aside0 (impl_chain.l0 kq a1 x5_1 = some r) ∧ Aside0 (kq ≤ k) ∧ Aside0 (Kd.R Kd.string 9 w' w.heap.size (fun _ => True) v5 x5_1) ∧ Aside0 (Below w.heap.size w w'))
  case atStart => exact ⟨(y428), H', ⟨Nat.le_refl _⟩, ⟨y11_ HO430.out⟩, ⟨y7_ HB.out⟩⟩
  case round =>
    clear H'; obtain ⟨x5_1, HA, HK1, HO_5, HB⟩ := hrel
    cases gk with
    | zero => exact absurd HA.out (by simp [impl_chain.l0])
    | succ k1 =>
      have H := HA.out; clear HA; simp only [impl_chain.l0] at H; revert H; refine it_ ?_ ?_
      · intro c5b0; obtain ⟨ji6, hji6⟩ : ∃ j_ : Int, (wrap64 ((x5_1.length : Int) - 1)) = j_ := ⟨_, rfl⟩
        intro H; rw [hji6] at H; revert H
        have hji6w : (IntKind.i64.wrap ((x5_1.length : Int) - 1)) = ji6 := (i64_w _).trans hji6; refine in_ fun c7b0 => ?_
        refine in_ fun c8b0 => ?_
        refine oc_ fun t432 A9 => ?_; refine ia_ fun LMc10 => ?_
        generalize hy433 : (x5_1 ++ [t432]) = y433; have Ny433 := am_ hy433.symm; clear hy433; refine ai_ fun H' => ?_; obtain ⟨Ao11, co11, eo11⟩ := Kd.R_slice HO_5.out; subst eo11; have p431 : 0 ≤ ((ji6) : Int) := of_decide_eq_true y3_; have q431 : (ji6) < (x5_1.length : Int) := of_decide_eq_true y3_; obtain ⟨ad431, e431, hx431_0⟩ := Kd.at_string (Kd.R_reads' HO_5.out).2.2 (ji6) p431 q431
        cases e431
        replace p431 := eq_true p431; replace q431 := eq_true q431; go_wp2_with (first | ((with_reducible refine gate_callee (f := 117) rfl ?_); refine goesL_ (some 19) rfl rfl Tryz.func117 (by kernel_rfl) rfl #[.string (rdOf ByteArray.empty x5_1 (ji6))] rfl (by (try simp only [List.map_toArray, List.map_cons, List.map_nil]); first | done | (simp only [hji6]; rfl) | rfl | (simp only [List.length_drop, List.length_take]; rfl)) ?_; (with_reducible refine (impl_MakNext.calls ?side1 A9.out).mono ?_); (case side1 => exact GlobOk.below HGL.out (y7_ HB.out)); rintro e w12 ⟨rfl, hb⟩; refine ⟨_, rfl, ?_⟩; replace HO_5 := rb_ (y11_ HO_5.out) hb; replace HB := st_ (y7_ HB.out) hb; clear hb) | ((with_reducible refine gate_builtin (b := .append) (xs := #[.tmp 12, .tmp 20]) rfl ?_); at_builtin; refine Kd.R_append Kd.string (w0 := w) w.heap.size rfl (.tmp 12) (.tmp 20) 22 9 (.string ⟨#[]⟩) 16 rfl Tryz.underlying22 info9 rfl (by decide) (by omega) (.slice (some ad431) x5_1.length co11) x5_1 t432 [.string t432] (fun _ => True) (fun _ => False) rfl rfl ?aP (fun _ hk => hk.elim) ?aF ?aO ?aB ?aS ?aL ?_; (case aP => exact rfl); (case aB => exact (y7_ HB.out)); (case aF => exact (fun _ _ => trivial)); (case aO => exact (y11_ HO_5.out)); (case aS => exact (below_size (y7_ HB.out))); (case aL => have := LMc10.out; omega); intro v434 w13 ho hb hg hat; rw [← Ny433.out] at ho; replace HB := am_ hb; have HO435 := am_ ho; clear HO_5; clear ho hb hg hat))
        go_roundg k1
        case measure => have := HK1.out; omega
        case rel => exact ⟨(y433), H', ⟨by have := HK1.out; omega⟩, ⟨y11_ HO435.out⟩, ⟨y7_ HB.out⟩⟩
      intro c5b0; refine oj_ ?_; rintro rfl; obtain ⟨Ao14, co14, eo14⟩ := Kd.R_slice HO_5.out; subst eo14; go_wp2; go_ret; exact ⟨_, y6_, y11_ HO_5.out, y7_ HB.out⟩

/-! ### impl_owned: function 64 -/
def impl_owned.l0 : Nat → List Int → List (S74) → List ByteArray → Int → Int → Option ((List (S74)))
  | 0, _, _, _, _, _ => none
  | k + 1, x0, x5, x14, x15, x16 => if x16 < x15 then (if 0 ≤ x16 then (if x16 < (x14.length : Int) then (if x16 < (x0.length : Int) then (if x16 < (x5.length : Int) then (impl_owned.l0 k x0 (x5.set (x16 : Int).toNat (⟨rd x0 x16, rdOf ByteArray.empty x14 x16⟩ : S74)) x14 x15 (wrap64 (x16 + 1))) else (none)) else (none)) else (none)) else (none)) else (some x5)
def impl_owned.f (k : Nat) (l0 : List Int) (a1 : ByteArray) : Option ((List (S74))) := if 0 ≤ (l0.length : Int) then (if ((l0.length : Int) : Int).toNat ≤ 11728124029610 then ((impl_chain.f k a1 (l0.length : Int)).bind fun t439 => (impl_owned.l0 k l0 (List.replicate ((l0.length : Int) : Int).toNat z74) t439 (t439.length : Int) 0)) else (none)) else (none)
set_option maxHeartbeats 8000000 in
set_option maxRecDepth 100000 in
theorem impl_owned.calls {k : Nat} {A0 : Option Addr} {c0 : Nat} {l0 : List Int} {a1 : ByteArray} {r : List (S74)} {w : World} (hr0 : Kd.C (Kd.int .i64) w A0 l0.length l0) (hc0 : l0.length ≤ c0) (hG : GlobOk w) (H : impl_owned.f k l0 a1 = some r) :
    Calls Tryz.prog 64 #[.slice A0 l0.length c0, .string a1] w fun e w' => ∃ v0_ : Value, e = .returned (v0_) ∧ Kd.R k74 74 w' w.heap.size (fun _ => True) v0_ r ∧ Below w.heap.size w w' := by
  have hu74 := Tryz.underlying74; have HR0 := am_ hr0; have HC0 := am_ hc0; clear hr0 hc0; have HB := am_ (Below.refl w.heap.size w); have HGL := am_ hG; clear hG; revert H; unfold impl_owned.f; refine il_ fun c3b0 c3b1 => ?_
  refine il_ fun c4b0 c4b1 => ?_
  generalize hy436 : (List.replicate ((l0.length : Int) : Int).toNat z74) = y436; have Ny436 := am_ hy436.symm; clear hy436; refine oc_ fun t439 A5 => ?_; refine ai_ fun H' => ?_; go_enter Tryz.func64, Tryz.ntmps64; go_wp2_with (first | ((with_reducible refine gate_dst (N := 10) rfl ?_); refine Kd.R_make k74 _ 74 rfl (N := 10) rfl 31 _ _ rfl (l0.length : Int) rfl rfl Tryz.underlying31 (.agg #[(.int .i64 0), (.string ⟨#[]⟩)]) 24 info74 rfl (by decide) (by omega) z74 (ok := fun _ => True) (okp := fun _ => True) (k74_mkM _ _ _ z74 ) (fun _ hk => hk) trivial (of_decide_eq_true y3_) (Nat.le_trans (Nat.mul_le_mul_right _ (of_decide_eq_true y3_ : (l0.length : Int).toNat ≤ 11728124029610)) (by omega)) (Below.refl _ _) (Nat.le_refl _) ?_; intro v437 w6 ho7 hb hg_ hnew_; clear hg_ hnew_; (first | rw [← Ny436.out] at ho7 | (simp only [Int.reduceToNat] at ho7; rw [← Ny436.out] at ho7)); have HO438 := am_ (Kd.R_lower ho7 (below_size (y7_ HB.out))); replace HB := st_ (y7_ HB.out) hb; clear hb ho7) | ((with_reducible refine gl_ ?_); first | ((with_reducible refine gf_ 104 14 rfl rfl ?_); refine gc_ (impl_chain.calls (GlobOk.below HGL.out (y7_ HB.out)) A5.out) ?_; rintro e w8 ⟨v440, rfl, ho0, hb⟩; refine ⟨_, rfl, ?_⟩; replace HO438 := rb_ (y11_ HO438.out) hb; have HO441 := am_ (Kd.R_lower ho0 (below_size (y7_ HB.out))); replace HB := st_ (y7_ HB.out) hb; (try clear hb); (try clear hk); (try clear ho0); obtain ⟨Ao9, co9, eo9⟩ := Kd.R_slice HO441.out; subst eo9)))
  go_loopg [16] k (fun kq v16 w' => ∃ (x5_1 : List (S74)) (x16_1 : Int), v16 = .int .i64 x16_1 ∧ Aside0 (impl_owned.l0 kq l0 x5_1 t439 (t439.length : Int) x16_1 = some r) ∧ Aside0 (kq ≤ k) ∧ Aside0 (Kd.R k74 74 w' w.heap.size (fun _ => True) v437 x5_1) ∧ Aside0 (Kd.R Kd.string 9 w' w.heap.size (fun _ => True) (.slice Ao9 t439.length co9) t439) ∧ Aside0 (Below w.heap.size w w'))
  case atStart => exact ⟨(y436), (0), y4_, H', ⟨Nat.le_refl _⟩, ⟨y11_ HO438.out⟩, ⟨y11_ HO441.out⟩, ⟨y7_ HB.out⟩⟩
  case round =>
    clear H'; (try clear c3b0); (try clear c3b1); (try clear c4b0); (try clear c4b1); obtain ⟨x5_1, x16_1, rfl, HA, HK1, HO_5, HO_14, HB⟩ := hrel
    cases gk with
    | zero => exact absurd HA.out (by simp [impl_owned.l0])
    | succ k1 =>
      have H := HA.out; clear HA; simp only [impl_owned.l0] at H; revert H; refine it_ ?_ ?_
      · intro c10b0
        refine in_ fun c11b0 => ?_
        refine in_ fun c12b0 => ?_
        refine in_ fun c13b0 => ?_
        refine in_ fun c14b0 => ?_
        generalize hy444 : (x5_1.set (x16_1 : Int).toNat (⟨rd l0 x16_1, rdOf ByteArray.empty t439 x16_1⟩ : S74)) = y444; have Ny444 := am_ hy444.symm; clear hy444; refine ai_ fun H' => ?_; obtain ⟨ad442, e442, p442, q442, hx442_0⟩ := as_ (Kd.at_string (Kd.R_reads' HO_14.out).2.2 x16_1); cases e442; have p443 : 0 ≤ (x16_1 : Int) := of_decide_eq_true y3_; have q443 : x16_1 < (l0.length : Int) := of_decide_eq_true y3_; obtain ⟨ad443, e443, hx443_0⟩ := Kd.at_int HR0.out x16_1 p443 q443
        cases e443
        replace hx443_0 := (HB.out.cell (World.block_lt_of_cell? w _ hx443_0)).trans hx443_0; replace p443 := eq_true p443; replace q443 := eq_true q443; have p15 : 0 ≤ (x16_1 : Int) := of_decide_eq_true y3_; have q15 : (x16_1 : Int) < ((x5_1.length : Int) : Int) := of_decide_eq_true y3_; obtain ⟨go15, co15, eo15, gb15, gl15, cl15, HG15⟩ := Kd.R_form HO_5.out (by omega); (first | cases eo15 | (injection eo15 with ea_ en_ ec_; (first | subst ea_ | (injection ea_ with ea_; subst ea_)); subst ec_; clear en_)); have GB15 := am_ gb15; have GG15 := am_ HG15; clear gb15 gl15 HG15; obtain ⟨ce15, hcl15, hM15, hcc15, hfr15⟩ := Kd.R_elem HO_5.out z74 (x16_1 : Int) p15 q15; obtain rfl := k74_openM hM15; have hx15_0 : wr.cell? ⟨go15, (x16_1 : Int).toNat * 2, none⟩ = some (.int .i64 ((rd_T74 x5_1 x16_1).f0)) := hcc15 0 _ rfl; have hx15_1 : wr.cell? ⟨go15, (x16_1 : Int).toNat * 2 + 1, none⟩ = some (.string ((rd_T74 x5_1 x16_1).f1)) := hcc15 1 _ rfl; have hf15_0 : wr.frozen? ⟨go15, (x16_1 : Int).toNat * 2, none⟩ = false := hfr15 0; have hf15_1 : wr.frozen? ⟨go15, (x16_1 : Int).toNat * 2 + 1, none⟩ = false := hfr15 1; clear hcl15 hcc15 hfr15 hM15; replace p15 := eq_true p15; replace q15 := eq_true q15; have HX16 := am_ (show Kd.R k74 74 wr w.heap.size (fun _ => True) (.slice (some ⟨go15, 0, none⟩) x5_1.length co15) x5_1 from (y11_ HO_5.out)); obtain ⟨ce16, hcl16, hM16, hcc16, hfr16⟩ := Kd.R_elem HX16.out z74 (x16_1 : Int) (of_decide_eq_true y3_) (by have h_ : (x16_1 : Int) < ((x5_1.length : Int) : Int) := of_decide_eq_true y3_; first | exact h_ | (have e_ := (Kd.R_reads' HO_5.out).1; omega) | simpa using h_); obtain rfl := k74_openM hM16; have HP16 := Kd.R_seg HX16.out (x16_1 : Int) (of_decide_eq_true y3_) (by have h_ : (x16_1 : Int) < ((x5_1.length : Int) : Int) := of_decide_eq_true y3_; first | exact h_ | (have e_ := (Kd.R_reads' HO_5.out).1; omega) | simpa using h_) (seg := [.int .i64 (rd l0 x16_1), .string (rdOf ByteArray.empty t439 x16_1)]) (j := 0) hcl16 hcc16 (show 2 ≤ 2 from by decide) (x' := (⟨rd l0 x16_1, rdOf ByteArray.empty t439 x16_1⟩ : S74)) (k74_mkM _ _ _ (⟨rd l0 x16_1, rdOf ByteArray.empty t439 x16_1⟩ : S74) ) (fun _ hk => hk); have hx16_0 := hcc16 0 _ rfl; (try simp only [show (k74).sz = 2 from rfl, Nat.mul_one, Nat.add_zero] at hx16_0); have hf16_0 := hfr16 0; (try simp only [show (k74).sz = 2 from rfl, Nat.mul_one, Nat.add_zero] at hf16_0); have hx16_1 := hcc16 1 _ rfl; (try simp only [show (k74).sz = 2 from rfl, Nat.mul_one, Nat.add_zero] at hx16_1); have hf16_1 := hfr16 1; (try simp only [show (k74).sz = 2 from rfl, Nat.mul_one, Nat.add_zero] at hf16_1); clear hcl16 hcc16 hfr16 hM16; go_wp2_with (first | ((with_reducible refine gate_store (t := 74) (p := 29) rfl ?_); refine store_event (t := 74) (p := 29) (v := ?vo_w17) (w1 := ((wr.setCell ⟨go15, (x16_1 : Int).toNat * 2, none⟩ (.int .i64 (rd l0 x16_1))).setCell ⟨go15, (x16_1 : Int).toNat * 2 + 1, none⟩ (.string (rdOf ByteArray.empty t439 x16_1)))) ?hg ?ho ?hn ?hr ?_; (case ho => rfl); (case hg => rfl); (case hn => rfl); (case hr => go_simp; try rfl); intro w17 hw; have hg : wr.grownBy w17 (some go15) := (by rw [hw]; exact HP16.2); have hp_ : Kd.R k74 74 w17 w.heap.size (fun _ => True) (.slice (some ⟨go15, 0, none⟩) x5_1.length co15) y444 := (by rw [hw, Ny444.out]; exact HP16.1); clear HP16; replace HO_14 := am_ (Kd.R_over' (v := (.slice (some ⟨go15, 0, none⟩) x5_1.length co15)) (y11_ HO_14.out) (Kd.R_typed HO_5.out) (by decide) hg); replace HO_5 := am_ hp_; replace HB := am_ ((by rw [hw]; exact below_set (below_set (HB.out) GB15.out) GB15.out : Below w.heap.size w w17)); clear hg hw hp_))
        go_roundg k1
        case measure => have := HK1.out; omega
        case rel => exact ⟨(y444), (wrap64 (x16_1 + 1)), y4_, H', ⟨by have := HK1.out; omega⟩, ⟨y11_ HO_5.out⟩, ⟨y11_ HO_14.out⟩, ⟨y7_ HB.out⟩⟩
      intro c10b0; refine oj_ ?_; rintro rfl; go_wp2; go_ret; exact ⟨_, y6_, y11_ HO_5.out, y7_ HB.out⟩

/-! ### impl_above: function 65 -/
def impl_above.f (k : Nat) (a0 : Int) : Option (List Int) := (some (([a0] : List Int) : List Int)).bind fun y445 => ((impl_TreUp.f k a0).bind fun t448 => (if y445.length + t448.length < 17592186044416 then (some (y445 ++ t448)) else (none)))
set_option maxHeartbeats 8000000 in
set_option maxRecDepth 100000 in
theorem impl_above.calls {k : Nat} {a0 : Int} {r : List Int} {w : World} (H : impl_above.f k a0 = some r) :
    Calls Tryz.prog 65 #[.int .i64 a0] w fun e w' => ∃ v0_ : Value, e = .returned (v0_) ∧ Kd.R (Kd.int .i64) 3 w' w.heap.size (fun _ => True) v0_ r ∧ Below w.heap.size w w' := by
  have HB := am_ (Below.refl w.heap.size w); revert H; unfold impl_above.f
  refine on_ fun y445 Ny445 => ?_; refine oc_ fun t448 A2 => ?_; refine ia_ fun LMc3 => ?_
  generalize hy451 : (y445 ++ t448) = y451; have Ny451 := am_ hy451.symm; clear hy451; refine oj_ ?_; rintro rfl; go_enter Tryz.func65, Tryz.ntmps65; go_wp2_with (first | ((with_reducible refine gate_dst (N := 4) rfl ?_); refine Kd.R_lit (Kd.int .i64) _ 3 ?hg (N := 4) ?hd (xs := ([a0] : List Int)) (inner := [.int .i64 a0]) (ok := fun _ => True) (okp := fun _ => True) ?hr ?hp (fun _ hk => hk) trivial (Below.refl _ _) (Nat.le_refl _) (by simp) ?_; (case hd => rfl); (case hg => rfl); (case hr => go_simp; try rfl); (case hp => exact (Reps.one (show Kd.M (Kd.int .i64) _ _ _ a0 [.int .i64 a0] from rfl) (Reps.none _ _))); intro v446 w4 ho5 hb hg_ hnew_; clear hg_ hnew_; (first | rw [← Ny445.out] at ho5 | (simp only [Int.reduceToNat] at ho5; rw [← Ny445.out] at ho5)); have HO447 := am_ (Kd.R_lower ho5 (below_size (y7_ HB.out))); replace HB := st_ (y7_ HB.out) hb; clear hb ho5) | ((with_reducible refine gate_builtin (b := .append) (xs := #[.tmp 4, .tmp 6]) rfl ?_); at_builtin; refine Kd.R_append_rows (Kd.int .i64) (w0 := w) w.heap.size rfl (.tmp 4) (.tmp 6) 69 3 (.int .i64 0) 8 rfl Tryz.underlying69 info3 rfl (by decide) (by omega) v446 y445 t448 _ _ _ (fun k_ => some k_ ≠ (.slice Ao8 t448.length co8 : Value).ownBlock) (fun _ => False) rfl rfl ?aO ?aR (fun _ _ h => h) (fun _ h => h.elim) ?aF ?aB ?aS ?aL ?_; (case aR => exact y17_ ((Kd.Q_reads' HO450.out).2.2)); (case aB => exact (y7_ HB.out)); (case aF => exact (fun k_ hk => Kd.fresh' (Kd.Q_lt (y13_ HO450.out)) k_ hk)); (case aO => exact (by (with_reducible repeat (first | apply Kd.R_alloc | apply Kd.R_drewN | apply Kd.R_drew)); exact Kd.R_mono HO447.out (fun _ hk => hk.2))); (case aS => exact (below_size (y7_ HB.out))); (case aL => have := LMc3.out; omega); intro v452 w7 ho hb hg hat; rw [← Ny451.out] at ho; replace HO450 := am_ (Kd.Q_after (ok := (fun _ => True)) (y13_ HO450.out) hg hat); replace HB := am_ hb; have HO453 := am_ ho; clear HO447; clear ho hb hg hat) | ((with_reducible refine gl_ ?_); first | ((with_reducible refine gf_ 83 6 rfl rfl ?_); refine gc_ (impl_TreUp.calls A2.out) ?_; rintro e w6 ⟨v449, rfl, ho0, hb⟩; refine ⟨_, rfl, ?_⟩; have HO450 := am_ (Kd.Q_lower (Kd.Q_new' ho0 (Kd.R_lt (y11_ HO447.out))) (below_size (y7_ HB.out))); replace HO447 := am_ (Kd.R_elder' (y11_ HO447.out) (Kd.Q_base ho0) hb); replace HB := st_ (y7_ HB.out) hb; (try clear hb); (try clear hk); (try clear ho0); obtain ⟨Ao8, co8, eo8, _⟩ := Kd.Q_slice HO450.out; subst eo8))); go_ret; exact ⟨_, y6_, y11_ (Kd.R_mono HO453.out (fun _ hk => trivial)), y7_ HB.out⟩

/-! ### impl_TreMeet: function 66 -/
mutual
def impl_TreMeet.j0 : Nat → Int → Int → Bool → Option (Int)
  | 0, _, _, _ => none
  | k + 1, x0, x1, x12 => if x12 = true then (some (-1)) else (impl_TreMeet.l0 k x0 x1)
def impl_TreMeet.l0 : Nat → Int → Int → Option (Int)
  | 0, _, _ => none
  | k + 1, x0, x1 => if x0 = x1 then (some x0) else (if x0 > x1 then (impl_TreMeet.l0 k (wrap64 (Int.tdiv (wrap64 (x0 - 1)) 2)) x1) else (impl_TreMeet.l0 k x0 (wrap64 (Int.tdiv (wrap64 (x1 - 1)) 2))))
end
def impl_TreMeet.f (k : Nat) (a0 : Int) (a1 : Int) : Option (Int) := (impl_isNode.f a0).bind fun t454 => (if t454 = true then ((impl_isNode.f a1).bind fun t455 => (impl_TreMeet.j0 k a0 a1 (!t455))) else (impl_TreMeet.j0 k a0 a1 true))
theorem impl_TreMeet.mono_l : ∀ k, (∀ y0 y1 y2, LeO (impl_TreMeet.j0 k y0 y1 y2) (impl_TreMeet.j0 (k + 1) y0 y1 y2)) ∧ (∀ y0 y1, LeO (impl_TreMeet.l0 k y0 y1) (impl_TreMeet.l0 (k + 1) y0 y1))
  | 0 => ⟨fun _ _ _ r h => by simp [impl_TreMeet.j0] at h, fun _ _ r h => by simp [impl_TreMeet.l0] at h⟩
  | k + 1 => by
    obtain ⟨ih0, ih1⟩ := impl_TreMeet.mono_l k; refine ⟨?_, ?_⟩
    · intro y0 y1 y2
      unfold impl_TreMeet.j0
      repeat' first
      | (with_reducible exact ih0 _ _ _)
      | (with_reducible exact ih1 _ _)
      | (with_reducible first | exact LeO.refl _ | exact LeO.none _ | refine LeO.ite ?_ ?_ | refine LeO.bind ?_ (fun _ => ?_)) | exact LeO.none _ | refine LeO.ite ?_ ?_ | refine LeO.bind ?_ (fun _ => ?_)
    intro y0 y1; unfold impl_TreMeet.l0
    repeat' first
    | (with_reducible exact ih0 _ _ _)
    | (with_reducible exact ih1 _ _)
    | (with_reducible first | exact LeO.refl _ | exact LeO.none _ | refine LeO.ite ?_ ?_ | refine LeO.bind ?_ (fun _ => ?_)) | exact LeO.none _ | refine LeO.ite ?_ ?_ | refine LeO.bind ?_ (fun _ => ?_)
theorem impl_TreMeet.mono : ∀ a0 a1 k, LeO (impl_TreMeet.f k a0 a1) (impl_TreMeet.f (k + 1) a0 a1) := by
  intro a0 a1 k; obtain ⟨ih0, ih1⟩ := impl_TreMeet.mono_l k; unfold impl_TreMeet.f
  repeat' first
      | (with_reducible exact ih0 _ _ _)
      | (with_reducible exact ih1 _ _)
      | (with_reducible first | exact LeO.refl _ | exact LeO.none _ | refine LeO.ite ?_ ?_ | refine LeO.bind ?_ (fun _ => ?_)) | exact LeO.none _ | refine LeO.ite ?_ ?_ | refine LeO.bind ?_ (fun _ => ?_)
set_option maxHeartbeats 8000000 in
set_option maxRecDepth 100000 in
theorem impl_TreMeet.calls {k : Nat} {a0 : Int} {a1 : Int} {r : Int} {w : World} (H : impl_TreMeet.f k a0 a1 = some r) :
    Calls Tryz.prog 66 #[.int .i64 a0, .int .i64 a1] w fun e w' => e = .returned (.int .i64 r) ∧ Drawn0 w w' := by
  revert H; unfold impl_TreMeet.f; refine ai_ fun HC3 => ?_; go_enter Tryz.func66, Tryz.ntmps66
  go_upto_region 1 with (fail)
  go_cut [12] (fun v12 wc => ∃ (kq : Nat) (x12_2 : Bool), v12 = .bool x12_2 ∧ Aside0 (impl_TreMeet.j0 kq a0 a1 x12_2 = some r) ∧ Aside0 (kq ≤ k) ∧ Drawn0 w wc)
  case first =>
    have H := HC3.out; clear HC3; revert H; refine oc_ fun t454 A4 => ?_; refine ib_ ?_ ?_
    · rintro rfl; refine oc_ fun t455 A6 => ?_; refine ai_ fun H' => ?_; go_wp2_with (first | (go_at_call 105; (with_reducible refine (impl_isNode.calls A6.out).mono ?_); rintro e w' ⟨rfl, ⟨nd, rfl⟩⟩) | ((with_reducible refine gl_ ?_); first | ((with_reducible refine gf_ 105 6 rfl rfl ?_); refine gd_ (impl_isNode.calls A4.out) ?_; intro nd))); go_meet
      case rel => exact ⟨_, (!t455), y4_, H', ⟨by first | omega | exact Nat.le_refl _⟩, by repeat (first | exact Drawn0.refl _ | apply Drawn0.step)⟩
    rintro rfl; refine ai_ fun H' => ?_; go_wp2_with ((with_reducible refine gl_ ?_); first | ((with_reducible refine gf_ 105 6 rfl rfl ?_); refine gd_ (impl_isNode.calls A4.out) ?_; intro nd)); go_meet
    case rel => exact ⟨_, (true), y4_, H', ⟨by first | omega | exact Nat.le_refl _⟩, by repeat (first | exact Drawn0.refl _ | apply Drawn0.step)⟩
  case rest =>
    clear HC3; obtain ⟨kq, x12_2, rfl, HA, HJ2, ⟨mc2, rfl⟩⟩ := hcut
    cases kq with
    | zero => exact absurd HA.out (by simp [impl_TreMeet.j0])
    | succ kj2 =>
      have H := HA.out; clear HA; simp only [impl_TreMeet.j0] at H; revert H; refine ib_ ?_ ?_
      · rintro rfl; refine oj_ ?_; rintro rfl; go_wp2; go_ret; exact ⟨by first | rfl | (simp; done) | (simp [*]; done), by repeat (first | exact Drawn0.refl _ | apply Drawn0.step)⟩
      rintro rfl; refine ai_ fun H' => ?_; go_wp2
      go_loopg [0, 1] kj2 (fun kq v0 v1 w' => ∃ (x0_2 : Int) (x1_2 : Int), v0 = .int .i64 x0_2 ∧ v1 = .int .i64 x1_2 ∧ Aside0 (impl_TreMeet.l0 kq x0_2 x1_2 = some r) ∧ Aside0 (kq ≤ kj2) ∧ Drawn0 w w')
      case atStart => exact ⟨(a0), (a1), y4_, y4_, H', ⟨Nat.le_refl _⟩, by repeat (first | exact Drawn0.refl _ | apply Drawn0.step)⟩
      case round =>
        clear H'; obtain ⟨x0_2, x1_2, rfl, rfl, HA, HK2, ⟨m2, rfl⟩⟩ := hrel
        cases gk with
        | zero => exact absurd HA.out (by simp [impl_TreMeet.l0])
        | succ k2 =>
          have H := HA.out; clear HA; simp only [impl_TreMeet.l0] at H; revert H; refine ie2_ ?_ ?_
          · intro c8b0 c8b1; refine oj_ ?_; rintro rfl; go_wp2; go_ret; exact ⟨by first | rfl | (simp; done) | (simp [*]; done), by repeat (first | exact Drawn0.refl _ | apply Drawn0.step)⟩
          intro c8 c8b0 c8b1
          refine itg_ ?_ ?_
          · intro c9b0; refine ai_ fun H' => ?_; go_wp2
            go_roundg k2
            case measure => have := HJ2.out; have := HK2.out; omega
            case rel => exact ⟨(wrap64 (Int.tdiv (wrap64 (x0_2 - 1)) 2)), (x1_2), y4_, y4_, H', ⟨by have := HJ2.out; have := HK2.out; omega⟩, by repeat (first | exact Drawn0.refl _ | apply Drawn0.step)⟩
          intro c9b0; refine ai_ fun H' => ?_; go_wp2
          go_roundg k2
          case measure => have := HJ2.out; have := HK2.out; omega
          case rel => exact ⟨(x0_2), (wrap64 (Int.tdiv (wrap64 (x1_2 - 1)) 2)), y4_, y4_, H', ⟨by have := HJ2.out; have := HK2.out; omega⟩, by repeat (first | exact Drawn0.refl _ | apply Drawn0.step)⟩

end Go.Proofs.YtnemchmiplbopaaGreatDoor.Zj
