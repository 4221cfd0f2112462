/- Contracts of one, HasPrefix at ';', name, SecMade and SecOk: what the recursive reading of a name comes to. -/
import Derived.Test.YtnemchmiplbopaaGreatDoorGivA
import Derived.Laws.CopyOwn
import Derived.Test.YtnemchmiplbopaaGreatDoorWTab
import Derived.Test.YtnemchmiplbopaaGreatDoorWFour
import Derived.Test.YtnemchmiplbopaaGreatDoorWGuard
import Derived.StillTailTactics
import Derived.Laws.Rows
import Derived.Laws.Tables
namespace Go.Proofs.YtnemchmiplbopaaGreatDoor
set_option linter.unusedSimpArgs false
set_option linter.unusedVariables false
set_option maxRecDepth 100000
open Go.RowKit Go.Proofs.YtnemchmiplbopaaGreatDoorW.PrintWords Go.Proofs.YtnemchmiplbopaaGreatDoorW.PrintLast Go.Proofs.YtnemchmiplbopaaGreatDoorW.PrintMore Go.Proofs.YtnemchmiplbopaaGreatDoor.Th

theorem bcell {W w1 : World} (hb : Below W.heap.size W w1) : (∀ b o, b < W.heap.size → w1.cell? ⟨b, o, none⟩ = W.cell? ⟨b, o, none⟩) ∧ (∀ b o, b < W.heap.size → w1.frozen? ⟨b, o, none⟩ = W.frozen? ⟨b, o, none⟩) :=
  ⟨fun b o h => hb.cell (p := ⟨b, o, none⟩) h, fun b o h => hb.frozen (p := ⟨b, o, none⟩) h⟩

section
variable {P : Program} {ops : Array Oper} {rest : List Oper} {o : Oper} {a : Act} {Q : Exit → Act → World → Prop}
/-- A whole struct is stored at its block's head: the world behind it under a letter. -/
theorem store_ev {w : World} (hgd : o.guard = none) (ty : TypeId) (x y : Operand) (ho : o.op = .store ty x y)
    (g : Nat) (cells : Array Value) (hx : a.eval x = .pointer (some ⟨g, 0, none⟩)) (hy : a.eval y = .agg cells)
    (t : TypeId) (old : Array Value) (hg : w.heap[g]? = some (.cells old t (0, 0))) (hi : (P.info? ty).map (·.size) = some cells.size)
    (hold : old.size = cells.size) (h1 : cells.all (·.oneCell') = true)
    (h : ∀ w2, Hid (w2.heap[g]? = some (.cells cells t (0, 0))) → Hid (∀ (b : Nat) (w0 : World), Below b w0 w → b ≤ g → Below b w0 w2) → wpList P ops Q rest (a.put o.dst undef) w2) : wpList P ops Q (o :: rest) a w :=
  wpList_store_row hgd ty x y ho g cells hx hy t old hg hi hold h1 (h _ (setRow_heap w g old cells t (0, 0) hg) (fun _ _ hb hB => below_setRow hb hB cells))
/-- A whole struct is loaded. -/
theorem load_ev {w : World} (hgd : o.guard = none) (ty : TypeId) (x : Operand) (ho : o.op = .load ty x)
    (g : Nat) (hx : a.eval x = .pointer (some ⟨g, 0, none⟩)) (t : TypeId) (cs : Array Value) (d : TypeDesc) (hg : w.heap[g]? = some (.cells cs t (0, 0)))
    (hu : P.underlying ty = some d) (hd : (match d with | .struct _ | .array _ _ => true | _ => false) = true) (hi : (P.info? ty).map (·.size) = some cs.size)
    (h : wpList P ops Q rest (a.put o.dst (.agg cs)) w) : wpList P ops Q (o :: rest) a w :=
  wpList_load_row hgd ty x ho g hx t cs (0, 0) d hg hu hd hi h
end

/-! ### one -/
theorem one_yes (s : ByteArray) (w : World) (h : 0 < s.size) (a : 65 ≤ bt s 0) (b : bt s 0 ≤ 72) :
    Calls Tryz.prog 119 #[.string s] w fun e w' => e = .returned (.int .i64 (bt s 0 - 65)) ∧ w' = w := by
  have z0 : ((s.size : Int) == 0) = false := beq_eq_false_iff_ne.2 (by omega)
  have z1 : (s.size == 0) = false := beq_eq_false_iff_ne.2 (by omega)
  have hx : ∀ h : 0 < s.size, ((s[0]'h).toNat : Int) = bt s 0 := bt_at s 0
  have qi : (0 < (s.size : Int)) = True := eq_true (by omega)
  have g0 : decide (0 ≤ bt s 0 - 65) = true := decide_eq_true (by omega)
  have g1 : decide (bt s 0 - 65 ≤ 7) = true := decide_eq_true (by omega)
  have f0 : decide (0 < s.size) = true := decide_eq_true h
  replace h := eq_true h
  go_enter Tryz.func119, Tryz.ntmps119
  go_wp2
  go_ret
  exact ⟨rfl, rfl⟩
theorem one_none (s : ByteArray) (w : World) (h : ¬ 0 < s.size) :
    Calls Tryz.prog 119 #[.string s] w fun e w' => e = .returned (.int .i64 (-1)) ∧ w' = w := by
  have z0 : ((s.size : Int) == 0) = true := beq_iff_eq.2 (by omega)
  have z1 : (s.size == 0) = true := beq_iff_eq.2 (by omega)
  clear h
  go_enter Tryz.func119, Tryz.ntmps119
  go_wp2
  go_ret
  exact ⟨rfl, rfl⟩
theorem one_no (s : ByteArray) (w : World) (h : 0 < s.size) (a : bt s 0 < 65 ∨ 72 < bt s 0) :
    Calls Tryz.prog 119 #[.string s] w fun e w' => e = .returned (.int .i64 (-1)) ∧ w' = w := by
  have z0 : ((s.size : Int) == 0) = false := beq_eq_false_iff_ne.2 (by omega)
  have z1 : (s.size == 0) = false := beq_eq_false_iff_ne.2 (by omega)
  have hx : ∀ h : 0 < s.size, ((s[0]'h).toNat : Int) = bt s 0 := bt_at s 0
  have qi : (0 < (s.size : Int)) = True := eq_true (by omega)
  obtain ⟨b0, b1⟩ := bt_range s 0
  have f0 : decide (0 < s.size) = true := decide_eq_true h
  replace h := eq_true h
  rcases a with a | a
  · have g0 : decide (0 ≤ bt s 0 - 65) = false := decide_eq_false (by omega)
    go_enter Tryz.func119, Tryz.ntmps119
    go_wp2
    go_ret
    exact ⟨rfl, rfl⟩
  · have g0 : decide (0 ≤ bt s 0 - 65) = true := decide_eq_true (by omega)
    have g1 : decide (bt s 0 - 65 ≤ 7) = false := decide_eq_false (by omega)
    go_enter Tryz.func119, Tryz.ntmps119
    go_wp2
    go_ret
    exact ⟨rfl, rfl⟩


/-! ### name -/
theorem name_empty (w : World) :
    Calls Tryz.prog 110 #[.string ⟨#[]⟩] w fun e w' => e = .returned (.tuple #[.agg #[.int .i64 0, .int .i64 0, .int .i64 0, .string ⟨#[]⟩, .string ⟨#[]⟩], .string ⟨#[]⟩, .bool false]) ∧ Below w.heap.size w w' := by
  go_enter Tryz.func110, Tryz.ntmps110
  go_wp2
  exact bodyPost_ret (v := .tuple #[.agg #[.int .i64 0, .int .i64 0, .int .i64 0, .string ⟨#[]⟩, .string ⟨#[]⟩], .string ⟨#[]⟩, .bool false]) (by simp [results, Tryz.results110, go_sem]) rfl ⟨rfl, (by repeat (first | exact Below.refl _ _ | (refine Below.trans ?_ (Below.mono hb (by simp))) | (refine Below.alloc ?_ (by first | (simp; done) | omega | (simp; omega)) _) | (refine Below.setCell ?_ (by first | (simp; done) | omega) _)))⟩

theorem name_other (s : ByteArray) (w : World) (h : 0 < s.size) (a : bt s 0 < 65 ∨ 72 < bt s 0) (b : bt s 0 ≠ 110 ∧ bt s 0 ≠ 107 ∧ bt s 0 ≠ 101 ∧ bt s 0 ≠ 109 ∧ bt s 0 ≠ 114) :
    Calls Tryz.prog 110 #[.string s] w fun e w' => e = .returned (.tuple #[.agg #[.int .i64 0, .int .i64 0, .int .i64 0, .string ⟨#[]⟩, .string ⟨#[]⟩], .string s, .bool false]) ∧ Below w.heap.size w w' := by
  obtain ⟨b1, b2, b3, b4, b5⟩ := b
  have hx : ∀ h : 0 < s.size, ((s[0]'h).toNat : Int) = bt s 0 := bt_at s 0
  have qi : (0 < (s.size : Int)) = True := eq_true (by omega)
  have qk : ((1 : Int) ≤ (s.size : Int)) = True := eq_true (by omega)
  have qk' : (1 ≤ s.size) = True := eq_true (by omega)
  have f0 : decide (0 < s.size) = true := decide_eq_true h
  have k0 : decide (1 ≤ s.size) = true := decide_eq_true h
  have k1 : decide ((1 : Int) ≤ (s.size : Int)) = true := decide_eq_true (by omega)
  have ne : (s.toList == []) = false := by
    rw [beq_eq_false_iff_ne]
    intro h1
    rw [toList_nil.1 h1] at h
    exact absurd h (by decide)
  have e110 : (bt s 0 == 110) = false := beq_eq_false_iff_ne.2 (by omega)
  have e107 : (bt s 0 == 107) = false := beq_eq_false_iff_ne.2 (by omega)
  have e101 : (bt s 0 == 101) = false := beq_eq_false_iff_ne.2 (by omega)
  have e109 : (bt s 0 == 109) = false := beq_eq_false_iff_ne.2 (by omega)
  have e114 : (bt s 0 == 114) = false := beq_eq_false_iff_ne.2 (by omega)
  have HO := fun W => Lib.hid (one_no s W h a)
  replace h := eq_true h
  clear a b1 b2 b3 b4 b5
  go_enter Tryz.func110, Tryz.ntmps110
  go_wp2_with (go_at_call 119; refine (HO _).out.mono ?_; rintro e w' ⟨rfl, rfl⟩)
  exact bodyPost_ret (v := .tuple #[.agg #[.int .i64 0, .int .i64 0, .int .i64 0, .string ⟨#[]⟩, .string ⟨#[]⟩], .string s, .bool false]) (by simp [results, Tryz.results110, go_sem]) rfl ⟨rfl, (by repeat (first | exact Below.refl _ _ | (refine Below.trans ?_ (Below.mono hb (by simp))) | (refine Below.alloc ?_ (by first | (simp; done) | omega | (simp; omega)) _) | (refine Below.setCell ?_ (by first | (simp; done) | omega) _)))⟩

theorem name_next_no (s x : ByteArray) (w : World) (hG : GlobOk w) (h : 0 < s.size) (a : bt s 0 = 110) (hX : s.extract 1 s.size = x) (hl : x.size ≤ 300)
    (HC : ∀ W, GlobOk W → Calls Tryz.prog 110 #[.string x] W fun e w1 => e = .returned (.tuple #[.agg #[.int .i64 0, .int .i64 0, .int .i64 0, .string ⟨#[]⟩, .string ⟨#[]⟩], .string x, .bool false]) ∧ Below W.heap.size W w1) :
    Calls Tryz.prog 110 #[.string s] w fun e w' => e = .returned (.tuple #[.agg #[.int .i64 0, .int .i64 0, .int .i64 0, .string ⟨#[]⟩, .string ⟨#[]⟩], .string s, .bool false]) ∧ Below w.heap.size w w' := by
  have hx : ∀ h : 0 < s.size, ((s[0]'h).toNat : Int) = bt s 0 := bt_at s 0
  have qi : (0 < (s.size : Int)) = True := eq_true (by omega)
  have qk : ((1 : Int) ≤ (s.size : Int)) = True := eq_true (by omega)
  have qk' : (1 ≤ s.size) = True := eq_true (by omega)
  have f0 : decide (0 < s.size) = true := decide_eq_true h
  have k0 : decide (1 ≤ s.size) = true := decide_eq_true h
  have k1 : decide ((1 : Int) ≤ (s.size : Int)) = true := decide_eq_true (by omega)
  have ne : (s.toList == []) = false := by
    rw [beq_eq_false_iff_ne]
    intro h1
    rw [toList_nil.1 h1] at h
    exact absurd h (by decide)
  have e110 : (bt s 0 == 110) = true := beq_iff_eq.2 (by omega)
  have HO := fun W => Lib.hid (one_no s W h (by omega))
  have HX := Lib.hid hX
  have HA := Lib.hid a
  have xl : (x.size : Int) ≤ 300 := by omega
  replace h := eq_true h
  clear a hX
  have HC' := Lib.hid HC
  clear HC
  go_enter Tryz.func110, Tryz.ntmps110
  go_wp2_with (go_at_call 119; refine (HO _).out.mono ?_; rintro e w0 ⟨rfl, rfl⟩)
  rw [HX.out]
  refine (HC'.out _ (hG.below (by repeat (first | exact Below.refl _ _ | (refine Below.alloc ?_ (by simp) _))))).mono ?_
  rintro e w1 ⟨rfl, hb⟩
  have R1 := Lib.hid (blk_below (blk_alloc (blk_new w (.cells #[.int .i64 0, .int .i64 0, .int .i64 0, .string ⟨#[]⟩, .string ⟨#[]⟩] 98 (0, 0))) _) hb)
  have H0 : w1.heap[w.heap.size + 1]? = some (.cells #[.int .i64 2, .int .i64 0, .int .i64 0, .string ⟨#[]⟩, .string ⟨#[]⟩] 98 (0, 0)) := by
    have h1 := blk_below (blk_new (w.alloc _) (.cells #[.int .i64 2, .int .i64 0, .int .i64 0, .string ⟨#[]⟩, .string ⟨#[]⟩] 98 (0, 0))) hb
    simpa using h1
  have H1 := Lib.hid H0
  have c0 := blk_cell H0 0
  simp only [List.getElem?_toArray, List.getElem?_cons_zero] at c0
  have c3 : w1.cell? ⟨w.heap.size + 1, 3, none⟩ = some (.string ⟨#[]⟩) := blk_cell H0 3
  have z3 : w1.frozen? ⟨w.heap.size + 1, 3, none⟩ = false := blk_frozen H0 3
  have hz : w.heap.size + 1 < w1.heap.size := by have := hb.size; simp at this; omega
  have HB0 : Below w.heap.size w w1 := by
    refine Below.trans ?_ (Below.mono hb (by first | (simp; done) | (simp; omega)))
    repeat (first | exact Below.refl _ _ | (refine Below.alloc ?_ (by simp) _))
  have HB := Lib.hid HB0
  clear HB0
  clear hb H0
  go_wp2_with ((with_reducible refine gate_store (t := 98) (p := 2) rfl ?_); refine store_ev rfl 98 _ _ rfl w.heap.size #[.int .i64 0, .int .i64 0, .int .i64 0, .string ⟨#[]⟩, .string ⟨#[]⟩] rfl rfl 98 #[.int .i64 0, .int .i64 0, .int .i64 0, .string ⟨#[]⟩, .string ⟨#[]⟩] (by repeat (first | exact R1.out | (refine blk_far ?_ (by simp) _) | (refine blk_alloc ?_ _))) (by kernel_rfl) rfl (by simp [Value.oneCell']) ?_; intro w2 hr hbw)
  refine bodyPost_ret (results_ctt rfl _ _ w.heap.size 98 #[.int .i64 0, .int .i64 0, .int .i64 0, .string ⟨#[]⟩, .string ⟨#[]⟩] (0, 0) _ rfl hr.out Tryz.underlying98 rfl (by kernel_rfl)) rfl ?_
  exact ⟨by first | rfl | (simp; done), hbw.out _ _ (by repeat (first | exact HB.out | (refine Below.alloc ?_ (by first | omega | (simp; omega)) _) | (refine Below.setCell ?_ (by first | (simp; done) | omega) _))) (Nat.le_refl _)⟩

theorem name_next_yes (s x y : ByteArray) (w : World) (hG : GlobOk w) (h : 0 < s.size) (a : bt s 0 = 110) (hX : s.extract 1 s.size = x) (hl : x.size ≤ 300) (hy : y.size ≤ x.size)
    (v0 v1 v2 : Int) (v3 v4 : ByteArray)
    (HC : ∀ W, GlobOk W → Calls Tryz.prog 110 #[.string x] W fun e w1 => e = .returned (.tuple #[.agg #[.int .i64 v0, .int .i64 v1, .int .i64 v2, .string v3, .string v4], .string y, .bool true]) ∧ Below W.heap.size W w1) :
    Calls Tryz.prog 110 #[.string s] w fun e w' => e = .returned (.tuple #[.agg #[.int .i64 2, .int .i64 0, .int .i64 0, .string (x.extract 0 (x.size - y.size)), .string ⟨#[]⟩], .string y, .bool true]) ∧ Below w.heap.size w w' := by
  have hx : ∀ h : 0 < s.size, ((s[0]'h).toNat : Int) = bt s 0 := bt_at s 0
  have qi : (0 < (s.size : Int)) = True := eq_true (by omega)
  have qk : ((1 : Int) ≤ (s.size : Int)) = True := eq_true (by omega)
  have qk' : (1 ≤ s.size) = True := eq_true (by omega)
  have f0 : decide (0 < s.size) = true := decide_eq_true h
  have k0 : decide (1 ≤ s.size) = true := decide_eq_true h
  have k1 : decide ((1 : Int) ≤ (s.size : Int)) = true := decide_eq_true (by omega)
  have ne : (s.toList == []) = false := by
    rw [beq_eq_false_iff_ne]
    intro h1
    rw [toList_nil.1 h1] at h
    exact absurd h (by decide)
  have e110 : (bt s 0 == 110) = true := beq_iff_eq.2 (by omega)
  have HO := fun W => Lib.hid (one_no s W h (by omega))
  have HX := Lib.hid hX
  have HA := Lib.hid a
  have xl : (x.size : Int) ≤ 300 := by omega
  have y0 : (0 : Int) ≤ (x.size : Int) - (y.size : Int) := by omega
  have y1 : (x.size : Int) - (y.size : Int) ≤ (x.size : Int) := by omega
  have yn : ((x.size : Int) - (y.size : Int)).toNat = x.size - y.size := by omega
  have yl : x.size - y.size ≤ x.size := by omega
  replace h := eq_true h
  clear a hX
  have HC' := Lib.hid HC
  clear HC
  go_enter Tryz.func110, Tryz.ntmps110
  go_wp2_with (go_at_call 119; refine (HO _).out.mono ?_; rintro e w0 ⟨rfl, rfl⟩)
  rw [HX.out]
  refine (HC'.out _ (hG.below (by repeat (first | exact Below.refl _ _ | (refine Below.alloc ?_ (by simp) _))))).mono ?_
  rintro e w1 ⟨rfl, hb⟩
  have R1 := Lib.hid (blk_below (blk_alloc (blk_new w (.cells #[.int .i64 0, .int .i64 0, .int .i64 0, .string ⟨#[]⟩, .string ⟨#[]⟩] 98 (0, 0))) _) hb)
  have H0 : w1.heap[w.heap.size + 1]? = some (.cells #[.int .i64 2, .int .i64 0, .int .i64 0, .string ⟨#[]⟩, .string ⟨#[]⟩] 98 (0, 0)) := by
    have h1 := blk_below (blk_new (w.alloc _) (.cells #[.int .i64 2, .int .i64 0, .int .i64 0, .string ⟨#[]⟩, .string ⟨#[]⟩] 98 (0, 0))) hb
    simpa using h1
  have H1 := Lib.hid H0
  have c0 := blk_cell H0 0
  simp only [List.getElem?_toArray, List.getElem?_cons_zero] at c0
  have c3 : w1.cell? ⟨w.heap.size + 1, 3, none⟩ = some (.string ⟨#[]⟩) := blk_cell H0 3
  have z3 : w1.frozen? ⟨w.heap.size + 1, 3, none⟩ = false := blk_frozen H0 3
  have hz : w.heap.size + 1 < w1.heap.size := by have := hb.size; simp at this; omega
  have HB0 : Below w.heap.size w w1 := by
    refine Below.trans ?_ (Below.mono hb (by first | (simp; done) | (simp; omega)))
    repeat (first | exact Below.refl _ _ | (refine Below.alloc ?_ (by simp) _))
  have HB := Lib.hid HB0
  clear HB0
  clear hb H0
  go_wp2_with (first | ((with_reducible refine gate_store (t := 98) (p := 2) rfl ?_); refine store_ev rfl 98 _ _ rfl w.heap.size #[.int .i64 2, .int .i64 0, .int .i64 0, .string (x.extract 0 (x.size - y.size)), .string ⟨#[]⟩] rfl rfl 98 #[.int .i64 0, .int .i64 0, .int .i64 0, .string ⟨#[]⟩, .string ⟨#[]⟩] (by repeat (first | exact R1.out | (refine blk_far ?_ (by simp) _) | (refine blk_alloc ?_ _))) (by kernel_rfl) rfl (by simp [Value.oneCell']) ?_; intro w2 hr hbw) | ((with_reducible refine gate_dst (N := 134) rfl ?_); refine load_ev rfl 98 _ rfl (w.heap.size + 1) rfl 98 #[.int .i64 2, .int .i64 0, .int .i64 0, .string (x.extract 0 (x.size - y.size)), .string ⟨#[]⟩] _ (by repeat (first | exact H1.out | (refine blk_put (cs := #[.int .i64 2, .int .i64 0, .int .i64 0, .string ⟨#[]⟩, .string ⟨#[]⟩]) ?_ 3 _ rfl) | (refine blk_alloc ?_ _))) Tryz.underlying98 rfl (by kernel_rfl) ?_))
  refine bodyPost_ret (results_ctt rfl _ _ w.heap.size 98 #[.int .i64 2, .int .i64 0, .int .i64 0, .string (x.extract 0 (x.size - y.size)), .string ⟨#[]⟩] (0, 0) _ rfl hr.out Tryz.underlying98 rfl (by kernel_rfl)) rfl ?_
  exact ⟨by first | rfl | (simp; done), hbw.out _ _ (by repeat (first | exact HB.out | (refine Below.alloc ?_ (by first | omega | (simp; omega)) _) | (refine Below.setCell ?_ (by first | (simp; done) | omega) _))) (Nat.le_refl _)⟩

theorem name_key_no (s x : ByteArray) (w : World) (hG : GlobOk w) (h : 0 < s.size) (a : bt s 0 = 107) (hX : s.extract 1 s.size = x) (hl : x.size ≤ 300)
    (HC : ∀ W, GlobOk W → Calls Tryz.prog 110 #[.string x] W fun e w1 => e = .returned (.tuple #[.agg #[.int .i64 0, .int .i64 0, .int .i64 0, .string ⟨#[]⟩, .string ⟨#[]⟩], .string x, .bool false]) ∧ Below W.heap.size W w1) :
    Calls Tryz.prog 110 #[.string s] w fun e w' => e = .returned (.tuple #[.agg #[.int .i64 0, .int .i64 0, .int .i64 0, .string ⟨#[]⟩, .string ⟨#[]⟩], .string s, .bool false]) ∧ Below w.heap.size w w' := by
  have hx : ∀ h : 0 < s.size, ((s[0]'h).toNat : Int) = bt s 0 := bt_at s 0
  have qi : (0 < (s.size : Int)) = True := eq_true (by omega)
  have qk : ((1 : Int) ≤ (s.size : Int)) = True := eq_true (by omega)
  have qk' : (1 ≤ s.size) = True := eq_true (by omega)
  have f0 : decide (0 < s.size) = true := decide_eq_true h
  have k0 : decide (1 ≤ s.size) = true := decide_eq_true h
  have k1 : decide ((1 : Int) ≤ (s.size : Int)) = true := decide_eq_true (by omega)
  have ne : (s.toList == []) = false := by
    rw [beq_eq_false_iff_ne]
    intro h1
    rw [toList_nil.1 h1] at h
    exact absurd h (by decide)
  have e110 : (bt s 0 == 110) = false := beq_eq_false_iff_ne.2 (by omega)
  have e107 : (bt s 0 == 107) = true := beq_iff_eq.2 (by omega)
  have HO := fun W => Lib.hid (one_no s W h (by omega))
  have HX := Lib.hid hX
  have HA := Lib.hid a
  have xl : (x.size : Int) ≤ 300 := by omega
  replace h := eq_true h
  clear a hX
  have HC' := Lib.hid HC
  clear HC
  go_enter Tryz.func110, Tryz.ntmps110
  go_wp2_with (go_at_call 119; refine (HO _).out.mono ?_; rintro e w0 ⟨rfl, rfl⟩)
  rw [HX.out]
  refine (HC'.out _ (hG.below (by repeat (first | exact Below.refl _ _ | (refine Below.alloc ?_ (by simp) _))))).mono ?_
  rintro e w1 ⟨rfl, hb⟩
  have R1 := Lib.hid (blk_below (blk_alloc (blk_new w (.cells #[.int .i64 0, .int .i64 0, .int .i64 0, .string ⟨#[]⟩, .string ⟨#[]⟩] 98 (0, 0))) _) hb)
  have H0 : w1.heap[w.heap.size + 1]? = some (.cells #[.int .i64 3, .int .i64 0, .int .i64 0, .string ⟨#[]⟩, .string ⟨#[]⟩] 98 (0, 0)) := by
    have h1 := blk_below (blk_new (w.alloc _) (.cells #[.int .i64 3, .int .i64 0, .int .i64 0, .string ⟨#[]⟩, .string ⟨#[]⟩] 98 (0, 0))) hb
    simpa using h1
  have H1 := Lib.hid H0
  have c0 := blk_cell H0 0
  simp only [List.getElem?_toArray, List.getElem?_cons_zero] at c0
  have c3 : w1.cell? ⟨w.heap.size + 1, 3, none⟩ = some (.string ⟨#[]⟩) := blk_cell H0 3
  have z3 : w1.frozen? ⟨w.heap.size + 1, 3, none⟩ = false := blk_frozen H0 3
  have hz : w.heap.size + 1 < w1.heap.size := by have := hb.size; simp at this; omega
  have HB0 : Below w.heap.size w w1 := by
    refine Below.trans ?_ (Below.mono hb (by first | (simp; done) | (simp; omega)))
    repeat (first | exact Below.refl _ _ | (refine Below.alloc ?_ (by simp) _))
  have HB := Lib.hid HB0
  clear HB0
  clear hb H0
  go_wp2_with ((with_reducible refine gate_store (t := 98) (p := 2) rfl ?_); refine store_ev rfl 98 _ _ rfl w.heap.size #[.int .i64 0, .int .i64 0, .int .i64 0, .string ⟨#[]⟩, .string ⟨#[]⟩] rfl rfl 98 #[.int .i64 0, .int .i64 0, .int .i64 0, .string ⟨#[]⟩, .string ⟨#[]⟩] (by repeat (first | exact R1.out | (refine blk_far ?_ (by simp) _) | (refine blk_alloc ?_ _))) (by kernel_rfl) rfl (by simp [Value.oneCell']) ?_; intro w2 hr hbw)
  refine bodyPost_ret (results_ctt rfl _ _ w.heap.size 98 #[.int .i64 0, .int .i64 0, .int .i64 0, .string ⟨#[]⟩, .string ⟨#[]⟩] (0, 0) _ rfl hr.out Tryz.underlying98 rfl (by kernel_rfl)) rfl ?_
  exact ⟨by first | rfl | (simp; done), hbw.out _ _ (by repeat (first | exact HB.out | (refine Below.alloc ?_ (by first | omega | (simp; omega)) _) | (refine Below.setCell ?_ (by first | (simp; done) | omega) _))) (Nat.le_refl _)⟩

theorem name_key_yes (s x y : ByteArray) (w : World) (hG : GlobOk w) (h : 0 < s.size) (a : bt s 0 = 107) (hX : s.extract 1 s.size = x) (hl : x.size ≤ 300) (hy : y.size ≤ x.size)
    (v0 v1 v2 : Int) (v3 v4 : ByteArray)
    (HC : ∀ W, GlobOk W → Calls Tryz.prog 110 #[.string x] W fun e w1 => e = .returned (.tuple #[.agg #[.int .i64 v0, .int .i64 v1, .int .i64 v2, .string v3, .string v4], .string y, .bool true]) ∧ Below W.heap.size W w1) :
    Calls Tryz.prog 110 #[.string s] w fun e w' => e = .returned (.tuple #[.agg #[.int .i64 3, .int .i64 0, .int .i64 0, .string (x.extract 0 (x.size - y.size)), .string ⟨#[]⟩], .string y, .bool true]) ∧ Below w.heap.size w w' := by
  have hx : ∀ h : 0 < s.size, ((s[0]'h).toNat : Int) = bt s 0 := bt_at s 0
  have qi : (0 < (s.size : Int)) = True := eq_true (by omega)
  have qk : ((1 : Int) ≤ (s.size : Int)) = True := eq_true (by omega)
  have qk' : (1 ≤ s.size) = True := eq_true (by omega)
  have f0 : decide (0 < s.size) = true := decide_eq_true h
  have k0 : decide (1 ≤ s.size) = true := decide_eq_true h
  have k1 : decide ((1 : Int) ≤ (s.size : Int)) = true := decide_eq_true (by omega)
  have ne : (s.toList == []) = false := by
    rw [beq_eq_false_iff_ne]
    intro h1
    rw [toList_nil.1 h1] at h
    exact absurd h (by decide)
  have e110 : (bt s 0 == 110) = false := beq_eq_false_iff_ne.2 (by omega)
  have e107 : (bt s 0 == 107) = true := beq_iff_eq.2 (by omega)
  have HO := fun W => Lib.hid (one_no s W h (by omega))
  have HX := Lib.hid hX
  have HA := Lib.hid a
  have xl : (x.size : Int) ≤ 300 := by omega
  have y0 : (0 : Int) ≤ (x.size : Int) - (y.size : Int) := by omega
  have y1 : (x.size : Int) - (y.size : Int) ≤ (x.size : Int) := by omega
  have yn : ((x.size : Int) - (y.size : Int)).toNat = x.size - y.size := by omega
  have yl : x.size - y.size ≤ x.size := by omega
  replace h := eq_true h
  clear a hX
  have HC' := Lib.hid HC
  clear HC
  go_enter Tryz.func110, Tryz.ntmps110
  go_wp2_with (go_at_call 119; refine (HO _).out.mono ?_; rintro e w0 ⟨rfl, rfl⟩)
  rw [HX.out]
  refine (HC'.out _ (hG.below (by repeat (first | exact Below.refl _ _ | (refine Below.alloc ?_ (by simp) _))))).mono ?_
  rintro e w1 ⟨rfl, hb⟩
  have R1 := Lib.hid (blk_below (blk_alloc (blk_new w (.cells #[.int .i64 0, .int .i64 0, .int .i64 0, .string ⟨#[]⟩, .string ⟨#[]⟩] 98 (0, 0))) _) hb)
  have H0 : w1.heap[w.heap.size + 1]? = some (.cells #[.int .i64 3, .int .i64 0, .int .i64 0, .string ⟨#[]⟩, .string ⟨#[]⟩] 98 (0, 0)) := by
    have h1 := blk_below (blk_new (w.alloc _) (.cells #[.int .i64 3, .int .i64 0, .int .i64 0, .string ⟨#[]⟩, .string ⟨#[]⟩] 98 (0, 0))) hb
    simpa using h1
  have H1 := Lib.hid H0
  have c0 := blk_cell H0 0
  simp only [List.getElem?_toArray, List.getElem?_cons_zero] at c0
  have c3 : w1.cell? ⟨w.heap.size + 1, 3, none⟩ = some (.string ⟨#[]⟩) := blk_cell H0 3
  have z3 : w1.frozen? ⟨w.heap.size + 1, 3, none⟩ = false := blk_frozen H0 3
  have hz : w.heap.size + 1 < w1.heap.size := by have := hb.size; simp at this; omega
  have HB0 : Below w.heap.size w w1 := by
    refine Below.trans ?_ (Below.mono hb (by first | (simp; done) | (simp; omega)))
    repeat (first | exact Below.refl _ _ | (refine Below.alloc ?_ (by simp) _))
  have HB := Lib.hid HB0
  clear HB0
  clear hb H0
  go_wp2_with (first | ((with_reducible refine gate_store (t := 98) (p := 2) rfl ?_); refine store_ev rfl 98 _ _ rfl w.heap.size #[.int .i64 3, .int .i64 0, .int .i64 0, .string (x.extract 0 (x.size - y.size)), .string ⟨#[]⟩] rfl rfl 98 #[.int .i64 0, .int .i64 0, .int .i64 0, .string ⟨#[]⟩, .string ⟨#[]⟩] (by repeat (first | exact R1.out | (refine blk_far ?_ (by simp) _) | (refine blk_alloc ?_ _))) (by kernel_rfl) rfl (by simp [Value.oneCell']) ?_; intro w2 hr hbw) | ((with_reducible refine gate_dst (N := 134) rfl ?_); refine load_ev rfl 98 _ rfl (w.heap.size + 1) rfl 98 #[.int .i64 3, .int .i64 0, .int .i64 0, .string (x.extract 0 (x.size - y.size)), .string ⟨#[]⟩] _ (by repeat (first | exact H1.out | (refine blk_put (cs := #[.int .i64 3, .int .i64 0, .int .i64 0, .string ⟨#[]⟩, .string ⟨#[]⟩]) ?_ 3 _ rfl) | (refine blk_alloc ?_ _))) Tryz.underlying98 rfl (by kernel_rfl) ?_))
  refine bodyPost_ret (results_ctt rfl _ _ w.heap.size 98 #[.int .i64 3, .int .i64 0, .int .i64 0, .string (x.extract 0 (x.size - y.size)), .string ⟨#[]⟩] (0, 0) _ rfl hr.out Tryz.underlying98 rfl (by kernel_rfl)) rfl ?_
  exact ⟨by first | rfl | (simp; done), hbw.out _ _ (by repeat (first | exact HB.out | (refine Below.alloc ?_ (by first | omega | (simp; omega)) _) | (refine Below.setCell ?_ (by first | (simp; done) | omega) _))) (Nat.le_refl _)⟩

theorem name_epoch_no (s x : ByteArray) (w : World) (hG : GlobOk w) (h : 0 < s.size) (a : bt s 0 = 101) (hX : s.extract 1 s.size = x) (hl : x.size ≤ 300)
    (HC : ∀ W, GlobOk W → Calls Tryz.prog 110 #[.string x] W fun e w1 => e = .returned (.tuple #[.agg #[.int .i64 0, .int .i64 0, .int .i64 0, .string ⟨#[]⟩, .string ⟨#[]⟩], .string x, .bool false]) ∧ Below W.heap.size W w1) :
    Calls Tryz.prog 110 #[.string s] w fun e w' => e = .returned (.tuple #[.agg #[.int .i64 0, .int .i64 0, .int .i64 0, .string ⟨#[]⟩, .string ⟨#[]⟩], .string s, .bool false]) ∧ Below w.heap.size w w' := by
  have hx : ∀ h : 0 < s.size, ((s[0]'h).toNat : Int) = bt s 0 := bt_at s 0
  have qi : (0 < (s.size : Int)) = True := eq_true (by omega)
  have qk : ((1 : Int) ≤ (s.size : Int)) = True := eq_true (by omega)
  have qk' : (1 ≤ s.size) = True := eq_true (by omega)
  have f0 : decide (0 < s.size) = true := decide_eq_true h
  have k0 : decide (1 ≤ s.size) = true := decide_eq_true h
  have k1 : decide ((1 : Int) ≤ (s.size : Int)) = true := decide_eq_true (by omega)
  have ne : (s.toList == []) = false := by
    rw [beq_eq_false_iff_ne]
    intro h1
    rw [toList_nil.1 h1] at h
    exact absurd h (by decide)
  have e110 : (bt s 0 == 110) = false := beq_eq_false_iff_ne.2 (by omega)
  have e107 : (bt s 0 == 107) = false := beq_eq_false_iff_ne.2 (by omega)
  have e101 : (bt s 0 == 101) = true := beq_iff_eq.2 (by omega)
  have HO := fun W => Lib.hid (one_no s W h (by omega))
  have HX := Lib.hid hX
  have HA := Lib.hid a
  have xl : (x.size : Int) ≤ 300 := by omega
  replace h := eq_true h
  clear a hX
  have HC' := Lib.hid HC
  clear HC
  go_enter Tryz.func110, Tryz.ntmps110
  go_wp2_with (go_at_call 119; refine (HO _).out.mono ?_; rintro e w0 ⟨rfl, rfl⟩)
  rw [HX.out]
  refine (HC'.out _ (hG.below (by repeat (first | exact Below.refl _ _ | (refine Below.alloc ?_ (by simp) _))))).mono ?_
  rintro e w1 ⟨rfl, hb⟩
  have R1 := Lib.hid (blk_below (blk_alloc (blk_new w (.cells #[.int .i64 0, .int .i64 0, .int .i64 0, .string ⟨#[]⟩, .string ⟨#[]⟩] 98 (0, 0))) _) hb)
  have H0 : w1.heap[w.heap.size + 1]? = some (.cells #[.int .i64 4, .int .i64 0, .int .i64 0, .string ⟨#[]⟩, .string ⟨#[]⟩] 98 (0, 0)) := by
    have h1 := blk_below (blk_new (w.alloc _) (.cells #[.int .i64 4, .int .i64 0, .int .i64 0, .string ⟨#[]⟩, .string ⟨#[]⟩] 98 (0, 0))) hb
    simpa using h1
  have H1 := Lib.hid H0
  have c0 := blk_cell H0 0
  simp only [List.getElem?_toArray, List.getElem?_cons_zero] at c0
  have c3 : w1.cell? ⟨w.heap.size + 1, 3, none⟩ = some (.string ⟨#[]⟩) := blk_cell H0 3
  have z3 : w1.frozen? ⟨w.heap.size + 1, 3, none⟩ = false := blk_frozen H0 3
  have hz : w.heap.size + 1 < w1.heap.size := by have := hb.size; simp at this; omega
  have HB0 : Below w.heap.size w w1 := by
    refine Below.trans ?_ (Below.mono hb (by first | (simp; done) | (simp; omega)))
    repeat (first | exact Below.refl _ _ | (refine Below.alloc ?_ (by simp) _))
  have HB := Lib.hid HB0
  clear HB0
  clear hb H0
  go_wp2_with ((with_reducible refine gate_store (t := 98) (p := 2) rfl ?_); refine store_ev rfl 98 _ _ rfl w.heap.size #[.int .i64 0, .int .i64 0, .int .i64 0, .string ⟨#[]⟩, .string ⟨#[]⟩] rfl rfl 98 #[.int .i64 0, .int .i64 0, .int .i64 0, .string ⟨#[]⟩, .string ⟨#[]⟩] (by repeat (first | exact R1.out | (refine blk_far ?_ (by simp) _) | (refine blk_alloc ?_ _))) (by kernel_rfl) rfl (by simp [Value.oneCell']) ?_; intro w2 hr hbw)
  refine bodyPost_ret (results_ctt rfl _ _ w.heap.size 98 #[.int .i64 0, .int .i64 0, .int .i64 0, .string ⟨#[]⟩, .string ⟨#[]⟩] (0, 0) _ rfl hr.out Tryz.underlying98 rfl (by kernel_rfl)) rfl ?_
  exact ⟨by first | rfl | (simp; done), hbw.out _ _ (by repeat (first | exact HB.out | (refine Below.alloc ?_ (by first | omega | (simp; omega)) _) | (refine Below.setCell ?_ (by first | (simp; done) | omega) _))) (Nat.le_refl _)⟩

theorem name_epoch_half (s x y : ByteArray) (w : World) (hG : GlobOk w) (h : 0 < s.size) (a : bt s 0 = 101) (hX : s.extract 1 s.size = x) (hl : x.size ≤ 300) (hy : y.size ≤ x.size)
    (v0 v1 v2 : Int) (v3 v4 : ByteArray)
    (HC : ∀ W, GlobOk W → Calls Tryz.prog 110 #[.string x] W fun e w1 => e = .returned (.tuple #[.agg #[.int .i64 v0, .int .i64 v1, .int .i64 v2, .string v3, .string v4], .string y, .bool true]) ∧ Below W.heap.size W w1)
    (HD : ∀ W, GlobOk W → Calls Tryz.prog 110 #[.string y] W fun e w1 => e = .returned (.tuple #[.agg #[.int .i64 0, .int .i64 0, .int .i64 0, .string ⟨#[]⟩, .string ⟨#[]⟩], .string y, .bool false]) ∧ Below W.heap.size W w1) :
    Calls Tryz.prog 110 #[.string s] w fun e w' => e = .returned (.tuple #[.agg #[.int .i64 0, .int .i64 0, .int .i64 0, .string ⟨#[]⟩, .string ⟨#[]⟩], .string s, .bool false]) ∧ Below w.heap.size w w' := by
  have hx : ∀ h : 0 < s.size, ((s[0]'h).toNat : Int) = bt s 0 := bt_at s 0
  have qi : (0 < (s.size : Int)) = True := eq_true (by omega)
  have qk : ((1 : Int) ≤ (s.size : Int)) = True := eq_true (by omega)
  have qk' : (1 ≤ s.size) = True := eq_true (by omega)
  have f0 : decide (0 < s.size) = true := decide_eq_true h
  have k0 : decide (1 ≤ s.size) = true := decide_eq_true h
  have k1 : decide ((1 : Int) ≤ (s.size : Int)) = true := decide_eq_true (by omega)
  have ne : (s.toList == []) = false := by
    rw [beq_eq_false_iff_ne]
    intro h1
    rw [toList_nil.1 h1] at h
    exact absurd h (by decide)
  have e110 : (bt s 0 == 110) = false := beq_eq_false_iff_ne.2 (by omega)
  have e107 : (bt s 0 == 107) = false := beq_eq_false_iff_ne.2 (by omega)
  have e101 : (bt s 0 == 101) = true := beq_iff_eq.2 (by omega)
  have HO := fun W => Lib.hid (one_no s W h (by omega))
  have HX := Lib.hid hX
  have HA := Lib.hid a
  have xl : (x.size : Int) ≤ 300 := by omega
  have y0 : (0 : Int) ≤ (x.size : Int) - (y.size : Int) := by omega
  have y1 : (x.size : Int) - (y.size : Int) ≤ (x.size : Int) := by omega
  have yn : ((x.size : Int) - (y.size : Int)).toNat = x.size - y.size := by omega
  have yl : x.size - y.size ≤ x.size := by omega
  have yb : (y.size : Int) ≤ 300 := by omega
  replace h := eq_true h
  clear a hX
  have HC' := Lib.hid HC
  have HD' := Lib.hid HD
  clear HC HD
  go_enter Tryz.func110, Tryz.ntmps110
  go_wp2_with (go_at_call 119; refine (HO _).out.mono ?_; rintro e w0 ⟨rfl, rfl⟩)
  rw [HX.out]
  refine (HC'.out _ (hG.below (by repeat (first | exact Below.refl _ _ | (refine Below.alloc ?_ (by simp) _))))).mono ?_
  rintro e w1 ⟨rfl, hb⟩
  have R1 := Lib.hid (blk_below (blk_alloc (blk_new w (.cells #[.int .i64 0, .int .i64 0, .int .i64 0, .string ⟨#[]⟩, .string ⟨#[]⟩] 98 (0, 0))) _) hb)
  have H0 : w1.heap[w.heap.size + 1]? = some (.cells #[.int .i64 4, .int .i64 0, .int .i64 0, .string ⟨#[]⟩, .string ⟨#[]⟩] 98 (0, 0)) := by
    have h1 := blk_below (blk_new (w.alloc _) (.cells #[.int .i64 4, .int .i64 0, .int .i64 0, .string ⟨#[]⟩, .string ⟨#[]⟩] 98 (0, 0))) hb
    simpa using h1
  have H1 := Lib.hid H0
  have c0 := blk_cell H0 0
  simp only [List.getElem?_toArray, List.getElem?_cons_zero] at c0
  have c3 : w1.cell? ⟨w.heap.size + 1, 3, none⟩ = some (.string ⟨#[]⟩) := blk_cell H0 3
  have z3 : w1.frozen? ⟨w.heap.size + 1, 3, none⟩ = false := blk_frozen H0 3
  have hz : w.heap.size + 1 < w1.heap.size := by have := hb.size; simp at this; omega
  have HB0 : Below w.heap.size w w1 := by
    refine Below.trans ?_ (Below.mono hb (by first | (simp; done) | (simp; omega)))
    repeat (first | exact Below.refl _ _ | (refine Below.alloc ?_ (by simp) _))
  have HB := Lib.hid HB0
  clear HB0
  clear hb H0
  go_wp2_with fail
  refine (HD'.out _ (hG.below (by repeat (first | exact HB.out | (refine Below.alloc ?_ (by first | omega | (simp; omega)) _) | (refine Below.setCell ?_ (by first | (simp; done) | omega) _))))).mono ?_
  rintro e w3 ⟨rfl, hb3⟩
  have R3 := Lib.hid (blk_below (g := w.heap.size) (o := .cells #[.int .i64 0, .int .i64 0, .int .i64 0, .string ⟨#[]⟩, .string ⟨#[]⟩] 98 (0, 0)) (by repeat (first | exact R1.out | (refine blk_far ?_ (by simp) _) | (refine blk_alloc ?_ _))) hb3)
  have H00 := blk_below (g := w.heap.size + 1) (o := .cells #[.int .i64 4, .int .i64 0, .int .i64 0, .string (x.extract 0 (x.size - y.size)), .string ⟨#[]⟩] 98 (0, 0)) (by repeat (first | exact H1.out | (refine blk_put (cs := #[.int .i64 4, .int .i64 0, .int .i64 0, .string ⟨#[]⟩, .string ⟨#[]⟩]) ?_ 3 _ rfl) | (refine blk_alloc ?_ _))) hb3
  have H0 : w3.heap[w.heap.size + 1]? = some (.cells #[.int .i64 4, .int .i64 0, .int .i64 0, .string (x.extract 0 (x.size - y.size)), .string ⟨#[]⟩] 98 (0, 0)) := H00
  have H3 := Lib.hid H0
  have c4 : w3.cell? ⟨w.heap.size + 1, 4, none⟩ = some (.string ⟨#[]⟩) := blk_cell H0 4
  have z4 : w3.frozen? ⟨w.heap.size + 1, 4, none⟩ = false := blk_frozen H0 4
  have hz3 : w.heap.size + 1 < w3.heap.size := by have := hb3.size; simp at this; omega
  have HB30 : Below w.heap.size w w3 := by
    refine Below.trans ?_ (Below.mono hb3 (by first | (simp; done) | (simp; omega)))
    exact (by repeat (first | exact HB.out | (refine Below.alloc ?_ (by first | omega | (simp; omega)) _) | (refine Below.setCell ?_ (by first | (simp; done) | omega) _)))
  have HB3 := Lib.hid HB30
  clear hb3 H0 H00 HB30
  go_wp2_with ((with_reducible refine gate_store (t := 98) (p := 2) rfl ?_); refine store_ev rfl 98 _ _ rfl w.heap.size #[.int .i64 0, .int .i64 0, .int .i64 0, .string ⟨#[]⟩, .string ⟨#[]⟩] rfl rfl 98 #[.int .i64 0, .int .i64 0, .int .i64 0, .string ⟨#[]⟩, .string ⟨#[]⟩] (by repeat (first | exact R3.out | (refine blk_far ?_ (by simp) _) | (refine blk_alloc ?_ _))) (by kernel_rfl) rfl (by simp [Value.oneCell']) ?_; intro w2 hr hbw)
  refine bodyPost_ret (results_ctt rfl _ _ w.heap.size 98 #[.int .i64 0, .int .i64 0, .int .i64 0, .string ⟨#[]⟩, .string ⟨#[]⟩] (0, 0) _ rfl hr.out Tryz.underlying98 rfl (by kernel_rfl)) rfl ?_
  exact ⟨by first | rfl | (simp; done), hbw.out _ _ (by repeat (first | exact HB3.out | (refine Below.alloc ?_ (by first | omega | (simp; omega)) _) | (refine Below.setCell ?_ (by first | (simp; done) | omega) _))) (Nat.le_refl _)⟩

theorem name_epoch_yes (s x y z : ByteArray) (w : World) (hG : GlobOk w) (h : 0 < s.size) (a : bt s 0 = 101) (hX : s.extract 1 s.size = x) (hl : x.size ≤ 300) (hy : y.size ≤ x.size) (hz : z.size ≤ y.size) (u0 u1 u2 : Int) (u3 u4 : ByteArray)
    (v0 v1 v2 : Int) (v3 v4 : ByteArray)
    (HC : ∀ W, GlobOk W → Calls Tryz.prog 110 #[.string x] W fun e w1 => e = .returned (.tuple #[.agg #[.int .i64 v0, .int .i64 v1, .int .i64 v2, .string v3, .string v4], .string y, .bool true]) ∧ Below W.heap.size W w1)
    (HD : ∀ W, GlobOk W → Calls Tryz.prog 110 #[.string y] W fun e w1 => e = .returned (.tuple #[.agg #[.int .i64 u0, .int .i64 u1, .int .i64 u2, .string u3, .string u4], .string z, .bool true]) ∧ Below W.heap.size W w1) :
    Calls Tryz.prog 110 #[.string s] w fun e w' => e = .returned (.tuple #[.agg #[.int .i64 4, .int .i64 0, .int .i64 0, .string (x.extract 0 (x.size - y.size)), .string (y.extract 0 (y.size - z.size))], .string z, .bool true]) ∧ Below w.heap.size w w' := by
  have hx : ∀ h : 0 < s.size, ((s[0]'h).toNat : Int) = bt s 0 := bt_at s 0
  have qi : (0 < (s.size : Int)) = True := eq_true (by omega)
  have qk : ((1 : Int) ≤ (s.size : Int)) = True := eq_true (by omega)
  have qk' : (1 ≤ s.size) = True := eq_true (by omega)
  have f0 : decide (0 < s.size) = true := decide_eq_true h
  have k0 : decide (1 ≤ s.size) = true := decide_eq_true h
  have k1 : decide ((1 : Int) ≤ (s.size : Int)) = true := decide_eq_true (by omega)
  have ne : (s.toList == []) = false := by
    rw [beq_eq_false_iff_ne]
    intro h1
    rw [toList_nil.1 h1] at h
    exact absurd h (by decide)
  have e110 : (bt s 0 == 110) = false := beq_eq_false_iff_ne.2 (by omega)
  have e107 : (bt s 0 == 107) = false := beq_eq_false_iff_ne.2 (by omega)
  have e101 : (bt s 0 == 101) = true := beq_iff_eq.2 (by omega)
  have HO := fun W => Lib.hid (one_no s W h (by omega))
  have HX := Lib.hid hX
  have HA := Lib.hid a
  have xl : (x.size : Int) ≤ 300 := by omega
  have y0 : (0 : Int) ≤ (x.size : Int) - (y.size : Int) := by omega
  have y1 : (x.size : Int) - (y.size : Int) ≤ (x.size : Int) := by omega
  have yn : ((x.size : Int) - (y.size : Int)).toNat = x.size - y.size := by omega
  have yl : x.size - y.size ≤ x.size := by omega
  have y0' : (0 : Int) ≤ (y.size : Int) - (z.size : Int) := by omega
  have y1' : (y.size : Int) - (z.size : Int) ≤ (y.size : Int) := by omega
  have yn' : ((y.size : Int) - (z.size : Int)).toNat = y.size - z.size := by omega
  have yl' : y.size - z.size ≤ y.size := by omega
  have yb : (y.size : Int) ≤ 300 := by omega
  replace h := eq_true h
  clear a hX
  have HC' := Lib.hid HC
  have HD' := Lib.hid HD
  clear HC HD
  go_enter Tryz.func110, Tryz.ntmps110
  go_wp2_with (go_at_call 119; refine (HO _).out.mono ?_; rintro e w0 ⟨rfl, rfl⟩)
  rw [HX.out]
  refine (HC'.out _ (hG.below (by repeat (first | exact Below.refl _ _ | (refine Below.alloc ?_ (by simp) _))))).mono ?_
  rintro e w1 ⟨rfl, hb⟩
  have R1 := Lib.hid (blk_below (blk_alloc (blk_new w (.cells #[.int .i64 0, .int .i64 0, .int .i64 0, .string ⟨#[]⟩, .string ⟨#[]⟩] 98 (0, 0))) _) hb)
  have H0 : w1.heap[w.heap.size + 1]? = some (.cells #[.int .i64 4, .int .i64 0, .int .i64 0, .string ⟨#[]⟩, .string ⟨#[]⟩] 98 (0, 0)) := by
    have h1 := blk_below (blk_new (w.alloc _) (.cells #[.int .i64 4, .int .i64 0, .int .i64 0, .string ⟨#[]⟩, .string ⟨#[]⟩] 98 (0, 0))) hb
    simpa using h1
  have H1 := Lib.hid H0
  have c0 := blk_cell H0 0
  simp only [List.getElem?_toArray, List.getElem?_cons_zero] at c0
  have c3 : w1.cell? ⟨w.heap.size + 1, 3, none⟩ = some (.string ⟨#[]⟩) := blk_cell H0 3
  have z3 : w1.frozen? ⟨w.heap.size + 1, 3, none⟩ = false := blk_frozen H0 3
  have hz : w.heap.size + 1 < w1.heap.size := by have := hb.size; simp at this; omega
  have HB0 : Below w.heap.size w w1 := by
    refine Below.trans ?_ (Below.mono hb (by first | (simp; done) | (simp; omega)))
    repeat (first | exact Below.refl _ _ | (refine Below.alloc ?_ (by simp) _))
  have HB := Lib.hid HB0
  clear HB0
  clear hb H0
  go_wp2_with fail
  refine (HD'.out _ (hG.below (by repeat (first | exact HB.out | (refine Below.alloc ?_ (by first | omega | (simp; omega)) _) | (refine Below.setCell ?_ (by first | (simp; done) | omega) _))))).mono ?_
  rintro e w3 ⟨rfl, hb3⟩
  have R3 := Lib.hid (blk_below (g := w.heap.size) (o := .cells #[.int .i64 0, .int .i64 0, .int .i64 0, .string ⟨#[]⟩, .string ⟨#[]⟩] 98 (0, 0)) (by repeat (first | exact R1.out | (refine blk_far ?_ (by simp) _) | (refine blk_alloc ?_ _))) hb3)
  have H00 := blk_below (g := w.heap.size + 1) (o := .cells #[.int .i64 4, .int .i64 0, .int .i64 0, .string (x.extract 0 (x.size - y.size)), .string ⟨#[]⟩] 98 (0, 0)) (by repeat (first | exact H1.out | (refine blk_put (cs := #[.int .i64 4, .int .i64 0, .int .i64 0, .string ⟨#[]⟩, .string ⟨#[]⟩]) ?_ 3 _ rfl) | (refine blk_alloc ?_ _))) hb3
  have H0 : w3.heap[w.heap.size + 1]? = some (.cells #[.int .i64 4, .int .i64 0, .int .i64 0, .string (x.extract 0 (x.size - y.size)), .string ⟨#[]⟩] 98 (0, 0)) := H00
  have H3 := Lib.hid H0
  have c4 : w3.cell? ⟨w.heap.size + 1, 4, none⟩ = some (.string ⟨#[]⟩) := blk_cell H0 4
  have z4 : w3.frozen? ⟨w.heap.size + 1, 4, none⟩ = false := blk_frozen H0 4
  have hz3 : w.heap.size + 1 < w3.heap.size := by have := hb3.size; simp at this; omega
  have HB30 : Below w.heap.size w w3 := by
    refine Below.trans ?_ (Below.mono hb3 (by first | (simp; done) | (simp; omega)))
    exact (by repeat (first | exact HB.out | (refine Below.alloc ?_ (by first | omega | (simp; omega)) _) | (refine Below.setCell ?_ (by first | (simp; done) | omega) _)))
  have HB3 := Lib.hid HB30
  clear hb3 H0 H00 HB30
  go_wp2_with (first | ((with_reducible refine gate_store (t := 98) (p := 2) rfl ?_); refine store_ev rfl 98 _ _ rfl w.heap.size #[.int .i64 4, .int .i64 0, .int .i64 0, .string (x.extract 0 (x.size - y.size)), .string (y.extract 0 (y.size - z.size))] rfl rfl 98 #[.int .i64 0, .int .i64 0, .int .i64 0, .string ⟨#[]⟩, .string ⟨#[]⟩] (by repeat (first | exact R3.out | (refine blk_far ?_ (by simp) _) | (refine blk_alloc ?_ _))) (by kernel_rfl) rfl (by simp [Value.oneCell']) ?_; intro w2 hr hbw) | ((with_reducible refine gate_dst (N := 134) rfl ?_); refine load_ev rfl 98 _ rfl (w.heap.size + 1) rfl 98 #[.int .i64 4, .int .i64 0, .int .i64 0, .string (x.extract 0 (x.size - y.size)), .string (y.extract 0 (y.size - z.size))] _ (by repeat (first | exact H3.out | (refine blk_put (cs := #[.int .i64 4, .int .i64 0, .int .i64 0, .string (x.extract 0 (x.size - y.size)), .string ⟨#[]⟩]) ?_ 4 _ rfl) | (refine blk_alloc ?_ _))) Tryz.underlying98 rfl (by kernel_rfl) ?_))
  refine bodyPost_ret (results_ctt rfl _ _ w.heap.size 98 #[.int .i64 4, .int .i64 0, .int .i64 0, .string (x.extract 0 (x.size - y.size)), .string (y.extract 0 (y.size - z.size))] (0, 0) _ rfl hr.out Tryz.underlying98 rfl (by kernel_rfl)) rfl ?_
  exact ⟨by first | rfl | (simp; done), hbw.out _ _ (by repeat (first | exact HB3.out | (refine Below.alloc ?_ (by first | omega | (simp; omega)) _) | (refine Below.setCell ?_ (by first | (simp; done) | omega) _))) (Nat.le_refl _)⟩

theorem name_say_bad (s x : ByteArray) (w : World) (h : 0 < s.size) (a : bt s 0 = 109) (hX : s.extract 1 s.size = x)
    (HP : ∀ W, Calls Tryz.prog 119 #[.string x] W fun e w' => e = .returned (.int .i64 (-1)) ∧ w' = W) :
    Calls Tryz.prog 110 #[.string s] w fun e w' => e = .returned (.tuple #[.agg #[.int .i64 0, .int .i64 0, .int .i64 0, .string ⟨#[]⟩, .string ⟨#[]⟩], .string s, .bool false]) ∧ Below w.heap.size w w' := by
  have hx : ∀ h : 0 < s.size, ((s[0]'h).toNat : Int) = bt s 0 := bt_at s 0
  have qi : (0 < (s.size : Int)) = True := eq_true (by omega)
  have qk : ((1 : Int) ≤ (s.size : Int)) = True := eq_true (by omega)
  have qk' : (1 ≤ s.size) = True := eq_true (by omega)
  have f0 : decide (0 < s.size) = true := decide_eq_true h
  have k0 : decide (1 ≤ s.size) = true := decide_eq_true h
  have k1 : decide ((1 : Int) ≤ (s.size : Int)) = true := decide_eq_true (by omega)
  have ne : (s.toList == []) = false := by
    rw [beq_eq_false_iff_ne]
    intro h1
    rw [toList_nil.1 h1] at h
    exact absurd h (by decide)
  have e110 : (bt s 0 == 110) = false := beq_eq_false_iff_ne.2 (by omega)
  have e107 : (bt s 0 == 107) = false := beq_eq_false_iff_ne.2 (by omega)
  have e101 : (bt s 0 == 101) = false := beq_eq_false_iff_ne.2 (by omega)
  have e109 : (bt s 0 == 109) = true := beq_iff_eq.2 (by omega)
  have HO := fun W => Lib.hid (one_no s W h (by omega))
  have HX := Lib.hid hX
  have HA := Lib.hid a
  have HP' := Lib.hid HP
  replace h := eq_true h
  clear a hX HP
  go_enter Tryz.func110, Tryz.ntmps110
  go_wp2_with fail
  refine (HO _).out.mono ?_
  rintro e w0 ⟨rfl, rfl⟩
  go_wp2_with fail
  rw [HX.out]
  refine (HP'.out _).mono ?_
  rintro e w0 ⟨rfl, rfl⟩
  go_wp2_with fail
  refine bodyPost_ret (results_ctt rfl _ _ w.heap.size 98 #[.int .i64 0, .int .i64 0, .int .i64 0, .string ⟨#[]⟩, .string ⟨#[]⟩] (0, 0) _ rfl (by first | exact blk_new w _ | (repeat (first | exact blk_new w _ | (refine blk_alloc ?_ _)))) Tryz.underlying98 rfl (by kernel_rfl)) rfl ?_
  exact ⟨by first | rfl | (simp; done), (by repeat (first | exact Below.refl _ _ | (refine Below.alloc ?_ (by simp) _) | (refine Below.setCell ?_ (by simp) _)))⟩

theorem name_say_no (s v x : ByteArray) (w : World) (hG : GlobOk w) (h : 0 < s.size) (a : bt s 0 = 109) (hV : s.extract 1 s.size = v) (hv : 0 < v.size) (b0 : 65 ≤ bt v 0 ∧ bt v 0 ≤ 72) (hX : v.extract 1 v.size = x) (hl : x.size ≤ 300)
    (HC : ∀ W, GlobOk W → Calls Tryz.prog 110 #[.string x] W fun e w1 => e = .returned (.tuple #[.agg #[.int .i64 0, .int .i64 0, .int .i64 0, .string ⟨#[]⟩, .string ⟨#[]⟩], .string x, .bool false]) ∧ Below W.heap.size W w1) :
    Calls Tryz.prog 110 #[.string s] w fun e w' => e = .returned (.tuple #[.agg #[.int .i64 0, .int .i64 0, .int .i64 0, .string ⟨#[]⟩, .string ⟨#[]⟩], .string s, .bool false]) ∧ Below w.heap.size w w' := by
  have hx : ∀ h : 0 < s.size, ((s[0]'h).toNat : Int) = bt s 0 := bt_at s 0
  have qi : (0 < (s.size : Int)) = True := eq_true (by omega)
  have qk : ((1 : Int) ≤ (s.size : Int)) = True := eq_true (by omega)
  have qk' : (1 ≤ s.size) = True := eq_true (by omega)
  have f0 : decide (0 < s.size) = true := decide_eq_true h
  have k0 : decide (1 ≤ s.size) = true := decide_eq_true h
  have k1 : decide ((1 : Int) ≤ (s.size : Int)) = true := decide_eq_true (by omega)
  have ne : (s.toList == []) = false := by
    rw [beq_eq_false_iff_ne]
    intro h1
    rw [toList_nil.1 h1] at h
    exact absurd h (by decide)
  have e110 : (bt s 0 == 110) = false := beq_eq_false_iff_ne.2 (by omega)
  have e107 : (bt s 0 == 107) = false := beq_eq_false_iff_ne.2 (by omega)
  have e101 : (bt s 0 == 101) = false := beq_eq_false_iff_ne.2 (by omega)
  have e109 : (bt s 0 == 109) = true := beq_iff_eq.2 (by omega)
  have HO := fun W => Lib.hid (one_no s W h (by omega))
  have HP := fun W => Lib.hid (one_yes v W hv b0.1 b0.2)
  have g0 : decide (bt v 0 - 65 < 0) = false := decide_eq_false (by omega)
  have HX := Lib.hid hX
  have HV := Lib.hid hV
  have HA := Lib.hid a
  have xl : (x.size : Int) ≤ 300 := by omega
  have hxv : ∀ h : 0 < v.size, ((v[0]'h).toNat : Int) = bt v 0 := bt_at v 0
  have qiv : (0 < (v.size : Int)) = True := eq_true (by omega)
  have q0v : (0 < v.size) = True := eq_true (by omega)
  have qkv : ((1 : Int) ≤ (v.size : Int)) = True := eq_true (by omega)
  have qmv : (1 ≤ v.size) = True := eq_true (by omega)
  have f0v : decide (0 < v.size) = true := decide_eq_true (by omega)
  have k0v : decide (1 ≤ v.size) = true := decide_eq_true (by omega)
  have k1v : decide ((1 : Int) ≤ (v.size : Int)) = true := decide_eq_true (by omega)
  replace h := eq_true h
  obtain ⟨b1, b2⟩ := b0
  clear a hX hV hv
  have HC' := Lib.hid HC
  clear HC
  go_enter Tryz.func110, Tryz.ntmps110
  go_wp2_with fail
  refine (HO _).out.mono ?_
  rintro e w0 ⟨rfl, rfl⟩
  go_wp2_with fail
  rw [HV.out]
  refine (HP _).out.mono ?_
  rintro e w0 ⟨rfl, rfl⟩
  go_wp2_with fail
  rw [HX.out]
  refine (HC'.out _ (hG.below (by repeat (first | exact Below.refl _ _ | (refine Below.alloc ?_ (by simp) _))))).mono ?_
  rintro e w1 ⟨rfl, hb⟩
  have R1 := Lib.hid (blk_below (blk_alloc (blk_new w (.cells #[.int .i64 0, .int .i64 0, .int .i64 0, .string ⟨#[]⟩, .string ⟨#[]⟩] 98 (0, 0))) _) hb)
  have H0 : w1.heap[w.heap.size + 1]? = some (.cells #[.int .i64 5, .int .i64 (bt v 0 - 65), .int .i64 0, .string ⟨#[]⟩, .string ⟨#[]⟩] 98 (0, 0)) := by
    have h1 := blk_below (blk_new (w.alloc _) (.cells #[.int .i64 5, .int .i64 (bt v 0 - 65), .int .i64 0, .string ⟨#[]⟩, .string ⟨#[]⟩] 98 (0, 0))) hb
    simpa using h1
  have H1 := Lib.hid H0
  have c0 := blk_cell H0 0
  simp only [List.getElem?_toArray, List.getElem?_cons_zero] at c0
  have c3 : w1.cell? ⟨w.heap.size + 1, 3, none⟩ = some (.string ⟨#[]⟩) := blk_cell H0 3
  have z3 : w1.frozen? ⟨w.heap.size + 1, 3, none⟩ = false := blk_frozen H0 3
  have hz : w.heap.size + 1 < w1.heap.size := by have := hb.size; simp at this; omega
  have HB0 : Below w.heap.size w w1 := by
    refine Below.trans ?_ (Below.mono hb (by first | (simp; done) | (simp; omega)))
    repeat (first | exact Below.refl _ _ | (refine Below.alloc ?_ (by simp) _))
  have HB := Lib.hid HB0
  clear HB0
  clear hb H0
  go_wp2_with ((with_reducible refine gate_store (t := 98) (p := 2) rfl ?_); refine store_ev rfl 98 _ _ rfl w.heap.size #[.int .i64 0, .int .i64 0, .int .i64 0, .string ⟨#[]⟩, .string ⟨#[]⟩] rfl rfl 98 #[.int .i64 0, .int .i64 0, .int .i64 0, .string ⟨#[]⟩, .string ⟨#[]⟩] (by repeat (first | exact R1.out | (refine blk_far ?_ (by simp) _) | (refine blk_alloc ?_ _))) (by kernel_rfl) rfl (by simp [Value.oneCell']) ?_; intro w2 hr hbw)
  refine bodyPost_ret (results_ctt rfl _ _ w.heap.size 98 #[.int .i64 0, .int .i64 0, .int .i64 0, .string ⟨#[]⟩, .string ⟨#[]⟩] (0, 0) _ rfl hr.out Tryz.underlying98 rfl (by kernel_rfl)) rfl ?_
  exact ⟨by first | rfl | (simp; done), hbw.out _ _ (by repeat (first | exact HB.out | (refine Below.alloc ?_ (by first | omega | (simp; omega)) _) | (refine Below.setCell ?_ (by first | (simp; done) | omega) _))) (Nat.le_refl _)⟩

theorem name_say_yes (s v x y : ByteArray) (w : World) (hG : GlobOk w) (h : 0 < s.size) (a : bt s 0 = 109) (hV : s.extract 1 s.size = v) (hv : 0 < v.size) (b0 : 65 ≤ bt v 0 ∧ bt v 0 ≤ 72) (hX : v.extract 1 v.size = x) (hl : x.size ≤ 300) (hy : y.size ≤ x.size) (v0 v1 v2 : Int) (v3 v4 : ByteArray)
    (HC : ∀ W, GlobOk W → Calls Tryz.prog 110 #[.string x] W fun e w1 => e = .returned (.tuple #[.agg #[.int .i64 v0, .int .i64 v1, .int .i64 v2, .string v3, .string v4], .string y, .bool true]) ∧ Below W.heap.size W w1) :
    Calls Tryz.prog 110 #[.string s] w fun e w' => e = .returned (.tuple #[.agg #[.int .i64 5, .int .i64 (bt v 0 - 65), .int .i64 0, .string (x.extract 0 (x.size - y.size)), .string ⟨#[]⟩], .string y, .bool true]) ∧ Below w.heap.size w w' := by
  have hx : ∀ h : 0 < s.size, ((s[0]'h).toNat : Int) = bt s 0 := bt_at s 0
  have qi : (0 < (s.size : Int)) = True := eq_true (by omega)
  have qk : ((1 : Int) ≤ (s.size : Int)) = True := eq_true (by omega)
  have qk' : (1 ≤ s.size) = True := eq_true (by omega)
  have f0 : decide (0 < s.size) = true := decide_eq_true h
  have k0 : decide (1 ≤ s.size) = true := decide_eq_true h
  have k1 : decide ((1 : Int) ≤ (s.size : Int)) = true := decide_eq_true (by omega)
  have ne : (s.toList == []) = false := by
    rw [beq_eq_false_iff_ne]
    intro h1
    rw [toList_nil.1 h1] at h
    exact absurd h (by decide)
  have e110 : (bt s 0 == 110) = false := beq_eq_false_iff_ne.2 (by omega)
  have e107 : (bt s 0 == 107) = false := beq_eq_false_iff_ne.2 (by omega)
  have e101 : (bt s 0 == 101) = false := beq_eq_false_iff_ne.2 (by omega)
  have e109 : (bt s 0 == 109) = true := beq_iff_eq.2 (by omega)
  have HO := fun W => Lib.hid (one_no s W h (by omega))
  have HP := fun W => Lib.hid (one_yes v W hv b0.1 b0.2)
  have g0 : decide (bt v 0 - 65 < 0) = false := decide_eq_false (by omega)
  have HX := Lib.hid hX
  have HV := Lib.hid hV
  have HA := Lib.hid a
  have xl : (x.size : Int) ≤ 300 := by omega
  have hxv : ∀ h : 0 < v.size, ((v[0]'h).toNat : Int) = bt v 0 := bt_at v 0
  have qiv : (0 < (v.size : Int)) = True := eq_true (by omega)
  have q0v : (0 < v.size) = True := eq_true (by omega)
  have qkv : ((1 : Int) ≤ (v.size : Int)) = True := eq_true (by omega)
  have qmv : (1 ≤ v.size) = True := eq_true (by omega)
  have f0v : decide (0 < v.size) = true := decide_eq_true (by omega)
  have k0v : decide (1 ≤ v.size) = true := decide_eq_true (by omega)
  have k1v : decide ((1 : Int) ≤ (v.size : Int)) = true := decide_eq_true (by omega)
  have y0 : (0 : Int) ≤ (x.size : Int) - (y.size : Int) := by omega
  have y1 : (x.size : Int) - (y.size : Int) ≤ (x.size : Int) := by omega
  have yn : ((x.size : Int) - (y.size : Int)).toNat = x.size - y.size := by omega
  have yl : x.size - y.size ≤ x.size := by omega
  replace h := eq_true h
  obtain ⟨b1, b2⟩ := b0
  clear a hX hV hv
  have HC' := Lib.hid HC
  clear HC
  go_enter Tryz.func110, Tryz.ntmps110
  go_wp2_with fail
  refine (HO _).out.mono ?_
  rintro e w0 ⟨rfl, rfl⟩
  go_wp2_with fail
  rw [HV.out]
  refine (HP _).out.mono ?_
  rintro e w0 ⟨rfl, rfl⟩
  go_wp2_with fail
  rw [HX.out]
  refine (HC'.out _ (hG.below (by repeat (first | exact Below.refl _ _ | (refine Below.alloc ?_ (by simp) _))))).mono ?_
  rintro e w1 ⟨rfl, hb⟩
  have R1 := Lib.hid (blk_below (blk_alloc (blk_new w (.cells #[.int .i64 0, .int .i64 0, .int .i64 0, .string ⟨#[]⟩, .string ⟨#[]⟩] 98 (0, 0))) _) hb)
  have H0 : w1.heap[w.heap.size + 1]? = some (.cells #[.int .i64 5, .int .i64 (bt v 0 - 65), .int .i64 0, .string ⟨#[]⟩, .string ⟨#[]⟩] 98 (0, 0)) := by
    have h1 := blk_below (blk_new (w.alloc _) (.cells #[.int .i64 5, .int .i64 (bt v 0 - 65), .int .i64 0, .string ⟨#[]⟩, .string ⟨#[]⟩] 98 (0, 0))) hb
    simpa using h1
  have H1 := Lib.hid H0
  have c0 := blk_cell H0 0
  simp only [List.getElem?_toArray, List.getElem?_cons_zero] at c0
  have c3 : w1.cell? ⟨w.heap.size + 1, 3, none⟩ = some (.string ⟨#[]⟩) := blk_cell H0 3
  have z3 : w1.frozen? ⟨w.heap.size + 1, 3, none⟩ = false := blk_frozen H0 3
  have hz : w.heap.size + 1 < w1.heap.size := by have := hb.size; simp at this; omega
  have HB0 : Below w.heap.size w w1 := by
    refine Below.trans ?_ (Below.mono hb (by first | (simp; done) | (simp; omega)))
    repeat (first | exact Below.refl _ _ | (refine Below.alloc ?_ (by simp) _))
  have HB := Lib.hid HB0
  clear HB0
  clear hb H0
  go_wp2_with (first | ((with_reducible refine gate_store (t := 98) (p := 2) rfl ?_); refine store_ev rfl 98 _ _ rfl w.heap.size #[.int .i64 5, .int .i64 (bt v 0 - 65), .int .i64 0, .string (x.extract 0 (x.size - y.size)), .string ⟨#[]⟩] rfl rfl 98 #[.int .i64 0, .int .i64 0, .int .i64 0, .string ⟨#[]⟩, .string ⟨#[]⟩] (by repeat (first | exact R1.out | (refine blk_far ?_ (by simp) _) | (refine blk_alloc ?_ _))) (by kernel_rfl) rfl (by simp [Value.oneCell']) ?_; intro w2 hr hbw) | ((with_reducible refine gate_dst (N := 134) rfl ?_); refine load_ev rfl 98 _ rfl (w.heap.size + 1) rfl 98 #[.int .i64 5, .int .i64 (bt v 0 - 65), .int .i64 0, .string (x.extract 0 (x.size - y.size)), .string ⟨#[]⟩] _ (by repeat (first | exact H1.out | (refine blk_put (cs := #[.int .i64 5, .int .i64 (bt v 0 - 65), .int .i64 0, .string ⟨#[]⟩, .string ⟨#[]⟩]) ?_ 3 _ rfl) | (refine blk_alloc ?_ _))) Tryz.underlying98 rfl (by kernel_rfl) ?_))
  refine bodyPost_ret (results_ctt rfl _ _ w.heap.size 98 #[.int .i64 5, .int .i64 (bt v 0 - 65), .int .i64 0, .string (x.extract 0 (x.size - y.size)), .string ⟨#[]⟩] (0, 0) _ rfl hr.out Tryz.underlying98 rfl (by kernel_rfl)) rfl ?_
  exact ⟨by first | rfl | (simp; done), hbw.out _ _ (by repeat (first | exact HB.out | (refine Below.alloc ?_ (by first | omega | (simp; omega)) _) | (refine Below.setCell ?_ (by first | (simp; done) | omega) _))) (Nat.le_refl _)⟩

theorem name_room_no (s v x : ByteArray) (w : World) (hG : GlobOk w) (h : 0 < s.size) (a : bt s 0 = 114) (hV : s.extract 1 s.size = v) (hv : 0 < v.size) (b0 : 49 ≤ bt v 0 ∧ bt v 0 ≤ 57) (hX : v.extract 1 v.size = x) (hl : x.size ≤ 300)
    (HC : ∀ W, GlobOk W → Calls Tryz.prog 110 #[.string x] W fun e w1 => e = .returned (.tuple #[.agg #[.int .i64 0, .int .i64 0, .int .i64 0, .string ⟨#[]⟩, .string ⟨#[]⟩], .string x, .bool false]) ∧ Below W.heap.size W w1) :
    Calls Tryz.prog 110 #[.string s] w fun e w' => e = .returned (.tuple #[.agg #[.int .i64 0, .int .i64 0, .int .i64 0, .string ⟨#[]⟩, .string ⟨#[]⟩], .string s, .bool false]) ∧ Below w.heap.size w w' := by
  have hx : ∀ h : 0 < s.size, ((s[0]'h).toNat : Int) = bt s 0 := bt_at s 0
  have qi : (0 < (s.size : Int)) = True := eq_true (by omega)
  have qk : ((1 : Int) ≤ (s.size : Int)) = True := eq_true (by omega)
  have qk' : (1 ≤ s.size) = True := eq_true (by omega)
  have f0 : decide (0 < s.size) = true := decide_eq_true h
  have k0 : decide (1 ≤ s.size) = true := decide_eq_true h
  have k1 : decide ((1 : Int) ≤ (s.size : Int)) = true := decide_eq_true (by omega)
  have ne : (s.toList == []) = false := by
    rw [beq_eq_false_iff_ne]
    intro h1
    rw [toList_nil.1 h1] at h
    exact absurd h (by decide)
  have e110 : (bt s 0 == 110) = false := beq_eq_false_iff_ne.2 (by omega)
  have e107 : (bt s 0 == 107) = false := beq_eq_false_iff_ne.2 (by omega)
  have e101 : (bt s 0 == 101) = false := beq_eq_false_iff_ne.2 (by omega)
  have e109 : (bt s 0 == 109) = false := beq_eq_false_iff_ne.2 (by omega)
  have e114 : (bt s 0 == 114) = true := beq_iff_eq.2 (by omega)
  have HO := fun W => Lib.hid (one_no s W h (by omega))
  have ve : (v.toList == []) = false := by
    rw [beq_eq_false_iff_ne]
    intro h1
    rw [toList_nil.1 h1] at hv
    exact absurd hv (by decide)
  have g0 : decide (bt v 0 < 49) = false := decide_eq_false (by omega)
  have g1 : decide (57 < bt v 0) = false := decide_eq_false (by omega)
  have HX := Lib.hid hX
  have HV := Lib.hid hV
  have HA := Lib.hid a
  have xl : (x.size : Int) ≤ 300 := by omega
  have hxv : ∀ h : 0 < v.size, ((v[0]'h).toNat : Int) = bt v 0 := bt_at v 0
  have qiv : (0 < (v.size : Int)) = True := eq_true (by omega)
  have q0v : (0 < v.size) = True := eq_true (by omega)
  have qkv : ((1 : Int) ≤ (v.size : Int)) = True := eq_true (by omega)
  have qmv : (1 ≤ v.size) = True := eq_true (by omega)
  have f0v : decide (0 < v.size) = true := decide_eq_true (by omega)
  have k0v : decide (1 ≤ v.size) = true := decide_eq_true (by omega)
  have k1v : decide ((1 : Int) ≤ (v.size : Int)) = true := decide_eq_true (by omega)
  replace h := eq_true h
  obtain ⟨b1, b2⟩ := b0
  clear a hX hV hv
  have HC' := Lib.hid HC
  clear HC
  go_enter Tryz.func110, Tryz.ntmps110
  go_wp2_with fail
  refine (HO _).out.mono ?_
  rintro e w0 ⟨rfl, rfl⟩
  go_upto_region 26 with (fail)
  rw [HV.out]
  go_wp2_with fail
  rw [HX.out]
  refine (HC'.out _ (hG.below (by repeat (first | exact Below.refl _ _ | (refine Below.alloc ?_ (by simp) _))))).mono ?_
  rintro e w1 ⟨rfl, hb⟩
  have R1 := Lib.hid (blk_below (blk_alloc (blk_new w (.cells #[.int .i64 0, .int .i64 0, .int .i64 0, .string ⟨#[]⟩, .string ⟨#[]⟩] 98 (0, 0))) _) hb)
  have H0 : w1.heap[w.heap.size + 1]? = some (.cells #[.int .i64 6, .int .i64 0, .int .i64 (bt v 0 - 48), .string ⟨#[]⟩, .string ⟨#[]⟩] 98 (0, 0)) := by
    have h1 := blk_below (blk_new (w.alloc _) (.cells #[.int .i64 6, .int .i64 0, .int .i64 (bt v 0 - 48), .string ⟨#[]⟩, .string ⟨#[]⟩] 98 (0, 0))) hb
    simpa using h1
  have H1 := Lib.hid H0
  have c0 := blk_cell H0 0
  simp only [List.getElem?_toArray, List.getElem?_cons_zero] at c0
  have c3 : w1.cell? ⟨w.heap.size + 1, 3, none⟩ = some (.string ⟨#[]⟩) := blk_cell H0 3
  have z3 : w1.frozen? ⟨w.heap.size + 1, 3, none⟩ = false := blk_frozen H0 3
  have hz : w.heap.size + 1 < w1.heap.size := by have := hb.size; simp at this; omega
  have HB0 : Below w.heap.size w w1 := by
    refine Below.trans ?_ (Below.mono hb (by first | (simp; done) | (simp; omega)))
    repeat (first | exact Below.refl _ _ | (refine Below.alloc ?_ (by simp) _))
  have HB := Lib.hid HB0
  clear HB0
  clear hb H0
  go_wp2_with ((with_reducible refine gate_store (t := 98) (p := 2) rfl ?_); refine store_ev rfl 98 _ _ rfl w.heap.size #[.int .i64 0, .int .i64 0, .int .i64 0, .string ⟨#[]⟩, .string ⟨#[]⟩] rfl rfl 98 #[.int .i64 0, .int .i64 0, .int .i64 0, .string ⟨#[]⟩, .string ⟨#[]⟩] (by repeat (first | exact R1.out | (refine blk_far ?_ (by simp) _) | (refine blk_alloc ?_ _))) (by kernel_rfl) rfl (by simp [Value.oneCell']) ?_; intro w2 hr hbw)
  refine bodyPost_ret (results_ctt rfl _ _ w.heap.size 98 #[.int .i64 0, .int .i64 0, .int .i64 0, .string ⟨#[]⟩, .string ⟨#[]⟩] (0, 0) _ rfl hr.out Tryz.underlying98 rfl (by kernel_rfl)) rfl ?_
  exact ⟨by first | rfl | (simp; done), hbw.out _ _ (by repeat (first | exact HB.out | (refine Below.alloc ?_ (by first | omega | (simp; omega)) _) | (refine Below.setCell ?_ (by first | (simp; done) | omega) _))) (Nat.le_refl _)⟩

theorem name_room_yes (s v x y : ByteArray) (w : World) (hG : GlobOk w) (h : 0 < s.size) (a : bt s 0 = 114) (hV : s.extract 1 s.size = v) (hv : 0 < v.size) (b0 : 49 ≤ bt v 0 ∧ bt v 0 ≤ 57) (hX : v.extract 1 v.size = x) (hl : x.size ≤ 300) (hy : y.size ≤ x.size) (v0 v1 v2 : Int) (v3 v4 : ByteArray)
    (HC : ∀ W, GlobOk W → Calls Tryz.prog 110 #[.string x] W fun e w1 => e = .returned (.tuple #[.agg #[.int .i64 v0, .int .i64 v1, .int .i64 v2, .string v3, .string v4], .string y, .bool true]) ∧ Below W.heap.size W w1) :
    Calls Tryz.prog 110 #[.string s] w fun e w' => e = .returned (.tuple #[.agg #[.int .i64 6, .int .i64 0, .int .i64 (bt v 0 - 48), .string (x.extract 0 (x.size - y.size)), .string ⟨#[]⟩], .string y, .bool true]) ∧ Below w.heap.size w w' := by
  have hx : ∀ h : 0 < s.size, ((s[0]'h).toNat : Int) = bt s 0 := bt_at s 0
  have qi : (0 < (s.size : Int)) = True := eq_true (by omega)
  have qk : ((1 : Int) ≤ (s.size : Int)) = True := eq_true (by omega)
  have qk' : (1 ≤ s.size) = True := eq_true (by omega)
  have f0 : decide (0 < s.size) = true := decide_eq_true h
  have k0 : decide (1 ≤ s.size) = true := decide_eq_true h
  have k1 : decide ((1 : Int) ≤ (s.size : Int)) = true := decide_eq_true (by omega)
  have ne : (s.toList == []) = false := by
    rw [beq_eq_false_iff_ne]
    intro h1
    rw [toList_nil.1 h1] at h
    exact absurd h (by decide)
  have e110 : (bt s 0 == 110) = false := beq_eq_false_iff_ne.2 (by omega)
  have e107 : (bt s 0 == 107) = false := beq_eq_false_iff_ne.2 (by omega)
  have e101 : (bt s 0 == 101) = false := beq_eq_false_iff_ne.2 (by omega)
  have e109 : (bt s 0 == 109) = false := beq_eq_false_iff_ne.2 (by omega)
  have e114 : (bt s 0 == 114) = true := beq_iff_eq.2 (by omega)
  have HO := fun W => Lib.hid (one_no s W h (by omega))
  have ve : (v.toList == []) = false := by
    rw [beq_eq_false_iff_ne]
    intro h1
    rw [toList_nil.1 h1] at hv
    exact absurd hv (by decide)
  have g0 : decide (bt v 0 < 49) = false := decide_eq_false (by omega)
  have g1 : decide (57 < bt v 0) = false := decide_eq_false (by omega)
  have HX := Lib.hid hX
  have HV := Lib.hid hV
  have HA := Lib.hid a
  have xl : (x.size : Int) ≤ 300 := by omega
  have hxv : ∀ h : 0 < v.size, ((v[0]'h).toNat : Int) = bt v 0 := bt_at v 0
  have qiv : (0 < (v.size : Int)) = True := eq_true (by omega)
  have q0v : (0 < v.size) = True := eq_true (by omega)
  have qkv : ((1 : Int) ≤ (v.size : Int)) = True := eq_true (by omega)
  have qmv : (1 ≤ v.size) = True := eq_true (by omega)
  have f0v : decide (0 < v.size) = true := decide_eq_true (by omega)
  have k0v : decide (1 ≤ v.size) = true := decide_eq_true (by omega)
  have k1v : decide ((1 : Int) ≤ (v.size : Int)) = true := decide_eq_true (by omega)
  have y0 : (0 : Int) ≤ (x.size : Int) - (y.size : Int) := by omega
  have y1 : (x.size : Int) - (y.size : Int) ≤ (x.size : Int) := by omega
  have yn : ((x.size : Int) - (y.size : Int)).toNat = x.size - y.size := by omega
  have yl : x.size - y.size ≤ x.size := by omega
  replace h := eq_true h
  obtain ⟨b1, b2⟩ := b0
  clear a hX hV hv
  have HC' := Lib.hid HC
  clear HC
  go_enter Tryz.func110, Tryz.ntmps110
  go_wp2_with fail
  refine (HO _).out.mono ?_
  rintro e w0 ⟨rfl, rfl⟩
  go_upto_region 26 with (fail)
  rw [HV.out]
  go_wp2_with fail
  rw [HX.out]
  refine (HC'.out _ (hG.below (by repeat (first | exact Below.refl _ _ | (refine Below.alloc ?_ (by simp) _))))).mono ?_
  rintro e w1 ⟨rfl, hb⟩
  have R1 := Lib.hid (blk_below (blk_alloc (blk_new w (.cells #[.int .i64 0, .int .i64 0, .int .i64 0, .string ⟨#[]⟩, .string ⟨#[]⟩] 98 (0, 0))) _) hb)
  have H0 : w1.heap[w.heap.size + 1]? = some (.cells #[.int .i64 6, .int .i64 0, .int .i64 (bt v 0 - 48), .string ⟨#[]⟩, .string ⟨#[]⟩] 98 (0, 0)) := by
    have h1 := blk_below (blk_new (w.alloc _) (.cells #[.int .i64 6, .int .i64 0, .int .i64 (bt v 0 - 48), .string ⟨#[]⟩, .string ⟨#[]⟩] 98 (0, 0))) hb
    simpa using h1
  have H1 := Lib.hid H0
  have c0 := blk_cell H0 0
  simp only [List.getElem?_toArray, List.getElem?_cons_zero] at c0
  have c3 : w1.cell? ⟨w.heap.size + 1, 3, none⟩ = some (.string ⟨#[]⟩) := blk_cell H0 3
  have z3 : w1.frozen? ⟨w.heap.size + 1, 3, none⟩ = false := blk_frozen H0 3
  have hz : w.heap.size + 1 < w1.heap.size := by have := hb.size; simp at this; omega
  have HB0 : Below w.heap.size w w1 := by
    refine Below.trans ?_ (Below.mono hb (by first | (simp; done) | (simp; omega)))
    repeat (first | exact Below.refl _ _ | (refine Below.alloc ?_ (by simp) _))
  have HB := Lib.hid HB0
  clear HB0
  clear hb H0
  go_wp2_with (first | ((with_reducible refine gate_store (t := 98) (p := 2) rfl ?_); refine store_ev rfl 98 _ _ rfl w.heap.size #[.int .i64 6, .int .i64 0, .int .i64 (bt v 0 - 48), .string (x.extract 0 (x.size - y.size)), .string ⟨#[]⟩] rfl rfl 98 #[.int .i64 0, .int .i64 0, .int .i64 0, .string ⟨#[]⟩, .string ⟨#[]⟩] (by repeat (first | exact R1.out | (refine blk_far ?_ (by simp) _) | (refine blk_alloc ?_ _))) (by kernel_rfl) rfl (by simp [Value.oneCell']) ?_; intro w2 hr hbw) | ((with_reducible refine gate_dst (N := 134) rfl ?_); refine load_ev rfl 98 _ rfl (w.heap.size + 1) rfl 98 #[.int .i64 6, .int .i64 0, .int .i64 (bt v 0 - 48), .string (x.extract 0 (x.size - y.size)), .string ⟨#[]⟩] _ (by repeat (first | exact H1.out | (refine blk_put (cs := #[.int .i64 6, .int .i64 0, .int .i64 (bt v 0 - 48), .string ⟨#[]⟩, .string ⟨#[]⟩]) ?_ 3 _ rfl) | (refine blk_alloc ?_ _))) Tryz.underlying98 rfl (by kernel_rfl) ?_))
  refine bodyPost_ret (results_ctt rfl _ _ w.heap.size 98 #[.int .i64 6, .int .i64 0, .int .i64 (bt v 0 - 48), .string (x.extract 0 (x.size - y.size)), .string ⟨#[]⟩] (0, 0) _ rfl hr.out Tryz.underlying98 rfl (by kernel_rfl)) rfl ?_
  exact ⟨by first | rfl | (simp; done), hbw.out _ _ (by repeat (first | exact HB.out | (refine Below.alloc ?_ (by first | omega | (simp; omega)) _) | (refine Below.setCell ?_ (by first | (simp; done) | omega) _))) (Nat.le_refl _)⟩

theorem name_room_empty (s v : ByteArray) (w : World) (h : 0 < s.size) (a : bt s 0 = 114) (hV : s.extract 1 s.size = v) (hv : v = ⟨#[]⟩) :
    Calls Tryz.prog 110 #[.string s] w fun e w' => e = .returned (.tuple #[.agg #[.int .i64 0, .int .i64 0, .int .i64 0, .string ⟨#[]⟩, .string ⟨#[]⟩], .string s, .bool false]) ∧ Below w.heap.size w w' := by
  have hx : ∀ h : 0 < s.size, ((s[0]'h).toNat : Int) = bt s 0 := bt_at s 0
  have qi : (0 < (s.size : Int)) = True := eq_true (by omega)
  have qk : ((1 : Int) ≤ (s.size : Int)) = True := eq_true (by omega)
  have qk' : (1 ≤ s.size) = True := eq_true (by omega)
  have f0 : decide (0 < s.size) = true := decide_eq_true h
  have k0 : decide (1 ≤ s.size) = true := decide_eq_true h
  have k1 : decide ((1 : Int) ≤ (s.size : Int)) = true := decide_eq_true (by omega)
  have ne : (s.toList == []) = false := by
    rw [beq_eq_false_iff_ne]
    intro h1
    rw [toList_nil.1 h1] at h
    exact absurd h (by decide)
  have e110 : (bt s 0 == 110) = false := beq_eq_false_iff_ne.2 (by omega)
  have e107 : (bt s 0 == 107) = false := beq_eq_false_iff_ne.2 (by omega)
  have e101 : (bt s 0 == 101) = false := beq_eq_false_iff_ne.2 (by omega)
  have e109 : (bt s 0 == 109) = false := beq_eq_false_iff_ne.2 (by omega)
  have e114 : (bt s 0 == 114) = true := beq_iff_eq.2 (by omega)
  have HO := fun W => Lib.hid (one_no s W h (by omega))
  have HV := Lib.hid hV
  have HA := Lib.hid a
  have ve : (v.toList == []) = true := by rw [hv]; simp
  clear hv
  replace h := eq_true h
  clear a hV
  go_enter Tryz.func110, Tryz.ntmps110
  go_wp2_with fail
  refine (HO _).out.mono ?_
  rintro e w0 ⟨rfl, rfl⟩
  go_upto_region 26 with (fail)
  rw [HV.out]
  go_wp2_with fail
  refine bodyPost_ret (results_ctt rfl _ _ w.heap.size 98 #[.int .i64 0, .int .i64 0, .int .i64 0, .string ⟨#[]⟩, .string ⟨#[]⟩] (0, 0) _ rfl (by first | exact blk_new w _ | (repeat (first | exact blk_new w _ | (refine blk_alloc ?_ _)))) Tryz.underlying98 rfl (by kernel_rfl)) rfl ?_
  exact ⟨by first | rfl | (simp; done), (by repeat (first | exact Below.refl _ _ | (refine Below.alloc ?_ (by simp) _) | (refine Below.setCell ?_ (by simp) _)))⟩

theorem name_room_lo (s v : ByteArray) (w : World) (h : 0 < s.size) (a : bt s 0 = 114) (hV : s.extract 1 s.size = v) (hv : 0 < v.size) (b0 : bt v 0 < 49) :
    Calls Tryz.prog 110 #[.string s] w fun e w' => e = .returned (.tuple #[.agg #[.int .i64 0, .int .i64 0, .int .i64 0, .string ⟨#[]⟩, .string ⟨#[]⟩], .string s, .bool false]) ∧ Below w.heap.size w w' := by
  have hx : ∀ h : 0 < s.size, ((s[0]'h).toNat : Int) = bt s 0 := bt_at s 0
  have qi : (0 < (s.size : Int)) = True := eq_true (by omega)
  have qk : ((1 : Int) ≤ (s.size : Int)) = True := eq_true (by omega)
  have qk' : (1 ≤ s.size) = True := eq_true (by omega)
  have f0 : decide (0 < s.size) = true := decide_eq_true h
  have k0 : decide (1 ≤ s.size) = true := decide_eq_true h
  have k1 : decide ((1 : Int) ≤ (s.size : Int)) = true := decide_eq_true (by omega)
  have ne : (s.toList == []) = false := by
    rw [beq_eq_false_iff_ne]
    intro h1
    rw [toList_nil.1 h1] at h
    exact absurd h (by decide)
  have e110 : (bt s 0 == 110) = false := beq_eq_false_iff_ne.2 (by omega)
  have e107 : (bt s 0 == 107) = false := beq_eq_false_iff_ne.2 (by omega)
  have e101 : (bt s 0 == 101) = false := beq_eq_false_iff_ne.2 (by omega)
  have e109 : (bt s 0 == 109) = false := beq_eq_false_iff_ne.2 (by omega)
  have e114 : (bt s 0 == 114) = true := beq_iff_eq.2 (by omega)
  have HO := fun W => Lib.hid (one_no s W h (by omega))
  have HV := Lib.hid hV
  have HA := Lib.hid a
  have ve : (v.toList == []) = false := by
    rw [beq_eq_false_iff_ne]
    intro h1
    rw [toList_nil.1 h1] at hv
    exact absurd hv (by decide)
  have hxv : ∀ h : 0 < v.size, ((v[0]'h).toNat : Int) = bt v 0 := bt_at v 0
  have qiv : (0 < (v.size : Int)) = True := eq_true (by omega)
  have q0v : (0 < v.size) = True := eq_true (by omega)
  have qkv : ((1 : Int) ≤ (v.size : Int)) = True := eq_true (by omega)
  have qmv : (1 ≤ v.size) = True := eq_true (by omega)
  have f0v : decide (0 < v.size) = true := decide_eq_true (by omega)
  have k0v : decide (1 ≤ v.size) = true := decide_eq_true (by omega)
  have k1v : decide ((1 : Int) ≤ (v.size : Int)) = true := decide_eq_true (by omega)
  have g0 : decide (bt v 0 < 49) = true := decide_eq_true b0
  clear b0 hv
  replace h := eq_true h
  clear a hV
  go_enter Tryz.func110, Tryz.ntmps110
  go_wp2_with fail
  refine (HO _).out.mono ?_
  rintro e w0 ⟨rfl, rfl⟩
  go_upto_region 26 with (fail)
  rw [HV.out]
  go_wp2_with fail
  refine bodyPost_ret (results_ctt rfl _ _ w.heap.size 98 #[.int .i64 0, .int .i64 0, .int .i64 0, .string ⟨#[]⟩, .string ⟨#[]⟩] (0, 0) _ rfl (by first | exact blk_new w _ | (repeat (first | exact blk_new w _ | (refine blk_alloc ?_ _)))) Tryz.underlying98 rfl (by kernel_rfl)) rfl ?_
  exact ⟨by first | rfl | (simp; done), (by repeat (first | exact Below.refl _ _ | (refine Below.alloc ?_ (by simp) _) | (refine Below.setCell ?_ (by simp) _)))⟩

theorem name_room_hi (s v : ByteArray) (w : World) (h : 0 < s.size) (a : bt s 0 = 114) (hV : s.extract 1 s.size = v) (hv : 0 < v.size) (b0 : 57 < bt v 0) :
    Calls Tryz.prog 110 #[.string s] w fun e w' => e = .returned (.tuple #[.agg #[.int .i64 0, .int .i64 0, .int .i64 0, .string ⟨#[]⟩, .string ⟨#[]⟩], .string s, .bool false]) ∧ Below w.heap.size w w' := by
  have hx : ∀ h : 0 < s.size, ((s[0]'h).toNat : Int) = bt s 0 := bt_at s 0
  have qi : (0 < (s.size : Int)) = True := eq_true (by omega)
  have qk : ((1 : Int) ≤ (s.size : Int)) = True := eq_true (by omega)
  have qk' : (1 ≤ s.size) = True := eq_true (by omega)
  have f0 : decide (0 < s.size) = true := decide_eq_true h
  have k0 : decide (1 ≤ s.size) = true := decide_eq_true h
  have k1 : decide ((1 : Int) ≤ (s.size : Int)) = true := decide_eq_true (by omega)
  have ne : (s.toList == []) = false := by
    rw [beq_eq_false_iff_ne]
    intro h1
    rw [toList_nil.1 h1] at h
    exact absurd h (by decide)
  have e110 : (bt s 0 == 110) = false := beq_eq_false_iff_ne.2 (by omega)
  have e107 : (bt s 0 == 107) = false := beq_eq_false_iff_ne.2 (by omega)
  have e101 : (bt s 0 == 101) = false := beq_eq_false_iff_ne.2 (by omega)
  have e109 : (bt s 0 == 109) = false := beq_eq_false_iff_ne.2 (by omega)
  have e114 : (bt s 0 == 114) = true := beq_iff_eq.2 (by omega)
  have HO := fun W => Lib.hid (one_no s W h (by omega))
  have HV := Lib.hid hV
  have HA := Lib.hid a
  have ve : (v.toList == []) = false := by
    rw [beq_eq_false_iff_ne]
    intro h1
    rw [toList_nil.1 h1] at hv
    exact absurd hv (by decide)
  have hxv : ∀ h : 0 < v.size, ((v[0]'h).toNat : Int) = bt v 0 := bt_at v 0
  have qiv : (0 < (v.size : Int)) = True := eq_true (by omega)
  have q0v : (0 < v.size) = True := eq_true (by omega)
  have qkv : ((1 : Int) ≤ (v.size : Int)) = True := eq_true (by omega)
  have qmv : (1 ≤ v.size) = True := eq_true (by omega)
  have f0v : decide (0 < v.size) = true := decide_eq_true (by omega)
  have k0v : decide (1 ≤ v.size) = true := decide_eq_true (by omega)
  have k1v : decide ((1 : Int) ≤ (v.size : Int)) = true := decide_eq_true (by omega)
  have g0 : decide (bt v 0 < 49) = false := decide_eq_false (by omega)
  have g1 : decide (57 < bt v 0) = true := decide_eq_true b0
  clear b0 hv
  replace h := eq_true h
  clear a hV
  go_enter Tryz.func110, Tryz.ntmps110
  go_wp2_with fail
  refine (HO _).out.mono ?_
  rintro e w0 ⟨rfl, rfl⟩
  go_upto_region 26 with (fail)
  rw [HV.out]
  go_wp2_with fail
  refine bodyPost_ret (results_ctt rfl _ _ w.heap.size 98 #[.int .i64 0, .int .i64 0, .int .i64 0, .string ⟨#[]⟩, .string ⟨#[]⟩] (0, 0) _ rfl (by first | exact blk_new w _ | (repeat (first | exact blk_new w _ | (refine blk_alloc ?_ _)))) Tryz.underlying98 rfl (by kernel_rfl)) rfl ?_
  exact ⟨by first | rfl | (simp; done), (by repeat (first | exact Below.refl _ _ | (refine Below.alloc ?_ (by simp) _) | (refine Below.setCell ?_ (by simp) _)))⟩

theorem semi_yes (r : ByteArray) (w : World) (h : 0 < r.size) (a : bt r 0 = 59) :
    Calls Tryz.prog 121 #[.string r, .string ⟨#[59]⟩] w fun e w' => e = .returned (.bool true) ∧ w' = w := by
  have e1 : ((r.extract 0 1).toList == [59]) = true := by
    rw [beq_iff_eq, toList_data, cut1 r h]
    have hb := bt_at r 0 h
    rw [a] at hb
    simp only [List.cons.injEq, and_true]
    apply UInt8.toNat_inj.1
    have : ((r[0]).toNat : Int) = 59 := hb
    show (r[0]).toNat = 59
    omega
  have hxr : ∀ h : 0 < r.size, ((r[0]'h).toNat : Int) = bt r 0 := bt_at r 0
  have qir : (0 < (r.size : Int)) = True := eq_true (by omega)
  have q0r : (0 < r.size) = True := eq_true (by omega)
  have qkr : ((1 : Int) ≤ (r.size : Int)) = True := eq_true (by omega)
  have qmr : (1 ≤ r.size) = True := eq_true (by omega)
  have f0r : decide (0 < r.size) = true := decide_eq_true (by omega)
  have k0r : decide (1 ≤ r.size) = true := decide_eq_true (by omega)
  have k1r : decide ((1 : Int) ≤ (r.size : Int)) = true := decide_eq_true (by omega)
  have q1 : decide (1 ≤ r.size) = true := decide_eq_true (by omega)
  clear a
  replace h := eq_true h
  go_enter Tryz.func121, Tryz.ntmps121
  go_wp2
  go_ret
  exact ⟨rfl, rfl⟩
theorem semi_none (r : ByteArray) (w : World) (h : ¬ 0 < r.size) :
    Calls Tryz.prog 121 #[.string r, .string ⟨#[59]⟩] w fun e w' => e = .returned (.bool false) ∧ w' = w := by
  have f0 : decide (1 ≤ r.size) = false := decide_eq_false (by omega)
  have k1 : decide ((1 : Int) ≤ (r.size : Int)) = false := decide_eq_false (by omega)
  clear h
  go_enter Tryz.func121, Tryz.ntmps121
  go_wp2
  go_ret
  exact ⟨rfl, rfl⟩
theorem semi_no (r : ByteArray) (w : World) (h : 0 < r.size) (a : bt r 0 ≠ 59) :
    Calls Tryz.prog 121 #[.string r, .string ⟨#[59]⟩] w fun e w' => e = .returned (.bool false) ∧ w' = w := by
  have e1 : ((r.extract 0 1).toList == [59]) = false := by
    rw [beq_eq_false_iff_ne, toList_data, cut1 r h]
    intro h1
    simp only [List.cons.injEq, and_true] at h1
    have hb := bt_at r 0 h
    apply a
    rw [← hb]
    have : r[0] = 59 := h1
    show ((r[0]).toNat : Int) = 59
    rw [this]
    rfl
  have hxr : ∀ h : 0 < r.size, ((r[0]'h).toNat : Int) = bt r 0 := bt_at r 0
  have qir : (0 < (r.size : Int)) = True := eq_true (by omega)
  have q0r : (0 < r.size) = True := eq_true (by omega)
  have qkr : ((1 : Int) ≤ (r.size : Int)) = True := eq_true (by omega)
  have qmr : (1 ≤ r.size) = True := eq_true (by omega)
  have f0r : decide (0 < r.size) = true := decide_eq_true (by omega)
  have k0r : decide (1 ≤ r.size) = true := decide_eq_true (by omega)
  have k1r : decide ((1 : Int) ≤ (r.size : Int)) = true := decide_eq_true (by omega)
  have q1 : decide (1 ≤ r.size) = true := decide_eq_true (by omega)
  clear a
  replace h := eq_true h
  go_enter Tryz.func121, Tryz.ntmps121
  go_wp2
  go_ret
  exact ⟨rfl, rfl⟩

def name_T8 : Bool × List (List Nat × List Nat) := (true, [([], []), ([], []), ([0, 1], [0, 1]), ([], []), ([3], [3]), ([2, 0, 1, 2], [2]), ([4, 5, 0, 1, 2, 3, 4, 5], [4]), ([6, 0, 1, 2, 3, 4, 5, 6], [])])
def name_B8 : List Nat := [0, 0, 3, 0, 8, 7, 63, 127]
theorem name_tab8 : rtab .any (opsOf Tryz.f110 8) = name_T8 := by kernel_rfl
theorem name_bits8 : waitsOk name_T8.2 name_B8 = true := by kernel_rfl

set_option maxHeartbeats 2000000 in
theorem name_new_zero (s v r : ByteArray) (w : World) (hG : GlobOk w) (h : 0 < s.size) (a0 : 65 ≤ bt s 0) (a1 : bt s 0 ≤ 72) (hV : s.extract 1 s.size = v) (hf : impl_numberOf.f v = some (0, r)) :
    Calls Tryz.prog 110 #[.string s] w fun e w' => e = .returned (.tuple #[.agg #[.int .i64 0, .int .i64 0, .int .i64 0, .string ⟨#[]⟩, .string ⟨#[]⟩], .string s, .bool false]) ∧ Below w.heap.size w w' := by
  have hx : ∀ h : 0 < s.size, ((s[0]'h).toNat : Int) = bt s 0 := bt_at s 0
  have qi : (0 < (s.size : Int)) = True := eq_true (by omega)
  have qk : ((1 : Int) ≤ (s.size : Int)) = True := eq_true (by omega)
  have qk' : (1 ≤ s.size) = True := eq_true (by omega)
  have f0 : decide (0 < s.size) = true := decide_eq_true h
  have k0 : decide (1 ≤ s.size) = true := decide_eq_true h
  have k1 : decide ((1 : Int) ≤ (s.size : Int)) = true := decide_eq_true (by omega)
  have ne : (s.toList == []) = false := by
    rw [beq_eq_false_iff_ne]
    intro h1
    rw [toList_nil.1 h1] at h
    exact absurd h (by decide)
  have HO := fun W => Lib.hid (one_yes s W h a0 a1)
  have HN := fun W hG => Lib.hid (impl_numberOf.calls v _ r W hG hf)
  have HV := Lib.hid hV
  have g0 : decide (0 ≤ bt s 0 - 65) = true := decide_eq_true (by omega)
  replace h := eq_true h
  clear hV hf
  go_enter Tryz.func110, Tryz.ntmps110
  go_wp2_with fail
  refine (HO _).out.mono ?_
  rintro e w0 ⟨rfl, rfl⟩
  go_wp2_with fail
  rw [HV.out]
  refine (HN _ (hG.below (by repeat (first | exact Below.refl _ _ | (refine Below.alloc ?_ (by simp) _))))).out.mono ?_
  rintro e w1 ⟨rfl, hb⟩
  have R1 := Lib.hid (blk_below (g := w.heap.size) (o := .cells #[.int .i64 0, .int .i64 0, .int .i64 0, .string ⟨#[]⟩, .string ⟨#[]⟩] 98 (0, 0)) (blk_new w _) hb)
  have hz0 : w.heap.size < w1.heap.size := by have := hb.size; simp at this; omega
  have HB0 : Below w.heap.size w w1 := by
    refine Below.trans ?_ (Below.mono hb (by first | (simp; done) | (simp; omega)))
    repeat (first | exact Below.refl _ _ | (refine Below.alloc ?_ (by simp) _))
  have HB := Lib.hid HB0
  clear hb HB0
  go_wp2_with ((with_reducible refine gate_store (t := 98) (p := 2) rfl ?_); refine store_ev rfl 98 _ _ rfl w.heap.size #[.int .i64 0, .int .i64 0, .int .i64 0, .string ⟨#[]⟩, .string ⟨#[]⟩] rfl rfl 98 #[.int .i64 0, .int .i64 0, .int .i64 0, .string ⟨#[]⟩, .string ⟨#[]⟩] (by repeat (first | exact R1.out | (refine blk_far ?_ (by simp) _) | (refine blk_alloc ?_ _))) (by kernel_rfl) rfl (by simp [Value.oneCell']) ?_; intro w2 hr hbw)
  refine bodyPost_ret (results_ctt rfl _ _ w.heap.size 98 #[.int .i64 0, .int .i64 0, .int .i64 0, .string ⟨#[]⟩, .string ⟨#[]⟩] (0, 0) _ rfl hr.out Tryz.underlying98 rfl (by kernel_rfl)) rfl ?_
  exact ⟨by first | rfl | (simp; done), hbw.out _ _ (by repeat (first | exact HB.out | (refine Below.alloc ?_ (by first | omega | (simp; omega)) _) | (refine Below.setCell ?_ (by first | (simp; done) | omega) _))) (Nat.le_refl _)⟩

set_option maxHeartbeats 2000000 in
theorem name_new_bad (s v r : ByteArray) (w : World) (hG : GlobOk w) (h : 0 < s.size) (a0 : 65 ≤ bt s 0) (a1 : bt s 0 ≤ 72) (hV : s.extract 1 s.size = v) (n : Int) (hf : impl_numberOf.f v = some (n, r)) (hn : n ≠ 0) (HP : ∀ W, Calls Tryz.prog 121 #[.string r, .string ⟨#[59]⟩] W fun e w1 => e = .returned (.bool false) ∧ w1 = W) :
    Calls Tryz.prog 110 #[.string s] w fun e w' => e = .returned (.tuple #[.agg #[.int .i64 0, .int .i64 0, .int .i64 0, .string ⟨#[]⟩, .string ⟨#[]⟩], .string s, .bool false]) ∧ Below w.heap.size w w' := by
  have hx : ∀ h : 0 < s.size, ((s[0]'h).toNat : Int) = bt s 0 := bt_at s 0
  have qi : (0 < (s.size : Int)) = True := eq_true (by omega)
  have qk : ((1 : Int) ≤ (s.size : Int)) = True := eq_true (by omega)
  have qk' : (1 ≤ s.size) = True := eq_true (by omega)
  have f0 : decide (0 < s.size) = true := decide_eq_true h
  have k0 : decide (1 ≤ s.size) = true := decide_eq_true h
  have k1 : decide ((1 : Int) ≤ (s.size : Int)) = true := decide_eq_true (by omega)
  have ne : (s.toList == []) = false := by
    rw [beq_eq_false_iff_ne]
    intro h1
    rw [toList_nil.1 h1] at h
    exact absurd h (by decide)
  have HO := fun W => Lib.hid (one_yes s W h a0 a1)
  have HN := fun W hG => Lib.hid (impl_numberOf.calls v _ r W hG hf)
  have HV := Lib.hid hV
  have g0 : decide (0 ≤ bt s 0 - 65) = true := decide_eq_true (by omega)
  have n0 : (n == 0) = false := beq_eq_false_iff_ne.2 hn
  have HP' := fun W => Lib.hid (HP W)
  clear HP hn
  replace h := eq_true h
  clear hV hf
  go_enter Tryz.func110, Tryz.ntmps110
  go_wp2_with fail
  refine (HO _).out.mono ?_
  rintro e w0 ⟨rfl, rfl⟩
  go_wp2_with fail
  rw [HV.out]
  refine (HN _ (hG.below (by repeat (first | exact Below.refl _ _ | (refine Below.alloc ?_ (by simp) _))))).out.mono ?_
  rintro e w1 ⟨rfl, hb⟩
  have R1 := Lib.hid (blk_below (g := w.heap.size) (o := .cells #[.int .i64 0, .int .i64 0, .int .i64 0, .string ⟨#[]⟩, .string ⟨#[]⟩] 98 (0, 0)) (blk_new w _) hb)
  have hz0 : w.heap.size < w1.heap.size := by have := hb.size; simp at this; omega
  have HB0 : Below w.heap.size w w1 := by
    refine Below.trans ?_ (Below.mono hb (by first | (simp; done) | (simp; omega)))
    repeat (first | exact Below.refl _ _ | (refine Below.alloc ?_ (by simp) _))
  have HB := Lib.hid HB0
  clear hb HB0
  go_wp2_with (first | (go_at_call 121; refine (HP' _).out.mono ?_; rintro e w5 ⟨rfl, rfl⟩) | ((with_reducible refine gate_store (t := 98) (p := 2) rfl ?_); refine store_ev rfl 98 _ _ rfl w.heap.size #[.int .i64 0, .int .i64 0, .int .i64 0, .string ⟨#[]⟩, .string ⟨#[]⟩] rfl rfl 98 #[.int .i64 0, .int .i64 0, .int .i64 0, .string ⟨#[]⟩, .string ⟨#[]⟩] (by repeat (first | exact R1.out | (refine blk_far ?_ (by simp) _) | (refine blk_alloc ?_ _))) (by kernel_rfl) rfl (by simp [Value.oneCell']) ?_; intro w2 hr hbw))
  refine bodyPost_ret (results_ctt rfl _ _ w.heap.size 98 #[.int .i64 0, .int .i64 0, .int .i64 0, .string ⟨#[]⟩, .string ⟨#[]⟩] (0, 0) _ rfl hr.out Tryz.underlying98 rfl (by kernel_rfl)) rfl ?_
  exact ⟨by first | rfl | (simp; done), hbw.out _ _ (by repeat (first | exact HB.out | (refine Below.alloc ?_ (by first | omega | (simp; omega)) _) | (refine Below.setCell ?_ (by first | (simp; done) | omega) _))) (Nat.le_refl _)⟩

set_option maxHeartbeats 2000000 in
theorem name_new_yes (s v r : ByteArray) (w : World) (hG : GlobOk w) (h : 0 < s.size) (a0 : 65 ≤ bt s 0) (a1 : bt s 0 ≤ 72) (hV : s.extract 1 s.size = v) (n : Int) (hf : impl_numberOf.f v = some (n, r)) (hn : n ≠ 0) (hr0 : 0 < r.size) (hr1 : bt r 0 = 59) :
    Calls Tryz.prog 110 #[.string s] w fun e w' => e = .returned (.tuple #[.agg #[.int .i64 1, .int .i64 (bt s 0 - 65), .int .i64 n, .string ⟨#[]⟩, .string ⟨#[]⟩], .string (r.extract 1 r.size), .bool true]) ∧ Below w.heap.size w w' := by
  have hx : ∀ h : 0 < s.size, ((s[0]'h).toNat : Int) = bt s 0 := bt_at s 0
  have qi : (0 < (s.size : Int)) = True := eq_true (by omega)
  have qk : ((1 : Int) ≤ (s.size : Int)) = True := eq_true (by omega)
  have qk' : (1 ≤ s.size) = True := eq_true (by omega)
  have f0 : decide (0 < s.size) = true := decide_eq_true h
  have k0 : decide (1 ≤ s.size) = true := decide_eq_true h
  have k1 : decide ((1 : Int) ≤ (s.size : Int)) = true := decide_eq_true (by omega)
  have ne : (s.toList == []) = false := by
    rw [beq_eq_false_iff_ne]
    intro h1
    rw [toList_nil.1 h1] at h
    exact absurd h (by decide)
  have HO := fun W => Lib.hid (one_yes s W h a0 a1)
  have HN := fun W hG => Lib.hid (impl_numberOf.calls v _ r W hG hf)
  have HV := Lib.hid hV
  have g0 : decide (0 ≤ bt s 0 - 65) = true := decide_eq_true (by omega)
  have n0 : (n == 0) = false := beq_eq_false_iff_ne.2 hn
  have HP' := fun W => Lib.hid (semi_yes r W hr0 hr1)
  have hxr : ∀ h : 0 < r.size, ((r[0]'h).toNat : Int) = bt r 0 := bt_at r 0
  have qir : (0 < (r.size : Int)) = True := eq_true (by omega)
  have q0r : (0 < r.size) = True := eq_true (by omega)
  have qkr : ((1 : Int) ≤ (r.size : Int)) = True := eq_true (by omega)
  have qmr : (1 ≤ r.size) = True := eq_true (by omega)
  have f0r : decide (0 < r.size) = true := decide_eq_true (by omega)
  have k0r : decide (1 ≤ r.size) = true := decide_eq_true (by omega)
  have k1r : decide ((1 : Int) ≤ (r.size : Int)) = true := decide_eq_true (by omega)
  clear hn hr0 hr1
  replace h := eq_true h
  clear hV hf
  go_enter Tryz.func110, Tryz.ntmps110
  go_wp2_with fail
  refine (HO _).out.mono ?_
  rintro e w0 ⟨rfl, rfl⟩
  go_wp2_with fail
  rw [HV.out]
  refine (HN _ (hG.below (by repeat (first | exact Below.refl _ _ | (refine Below.alloc ?_ (by simp) _))))).out.mono ?_
  rintro e w1 ⟨rfl, hb⟩
  have R1 := Lib.hid (blk_below (g := w.heap.size) (o := .cells #[.int .i64 0, .int .i64 0, .int .i64 0, .string ⟨#[]⟩, .string ⟨#[]⟩] 98 (0, 0)) (blk_new w _) hb)
  have hz0 : w.heap.size < w1.heap.size := by have := hb.size; simp at this; omega
  have HB0 : Below w.heap.size w w1 := by
    refine Below.trans ?_ (Below.mono hb (by first | (simp; done) | (simp; omega)))
    repeat (first | exact Below.refl _ _ | (refine Below.alloc ?_ (by simp) _))
  have HB := Lib.hid HB0
  clear hb HB0
  go_wp2_with (go_at_call 121; refine (HP' _).out.mono ?_; rintro e w5 ⟨rfl, hw5⟩; obtain rfl : w1 = w5 := hw5.symm)
  have R2 := Lib.hid (blk_drew R1.out)
  have HB2 := Lib.hid (below_drew1 HB.out)
  have hz2 : w.heap.size < w1.drew.heap.size := hz0
  refine start_ (n := 8) (S := fun w' => True) (ds := []) #[false, false, false, false, false, false, false, false] (by kernel_rfl) rfl rfl trivial (fun hHeld => ?_); refine with_tabW name_tab8 name_bits8 (fun HT_ HW_ => ?_)
  clear R1 HB
  generalize w1.drew = w2 at R2 HB2 hz2 hHeld ⊢
  refine pure_ (i := 0) (N := some 37) (v := ?_) (a' := ?_) #[true, false, false, false, false, false, false, false] rfl rfl (any_of HT_.out (by kernel_rfl)) (fun _ _ _ h => h) (Or.inl ⟨by rfl, ?_⟩) ?_ ?_
  rotate_left
  · intro w'
    go_simp
    with_reducible rfl
  rotate_left
  · simp only [Act.put, List.setIfInBounds_toArray, List.set_cons_zero, List.set_cons_succ, i64_w, i32_w]
    rfl
  refine pure_ (i := 1) (N := some 38) (v := ?_) (a' := ?_) #[true, true, false, false, false, false, false, false] rfl rfl (any_of HT_.out (by kernel_rfl)) (fun _ _ _ h => h) (Or.inl ⟨by rfl, ?_⟩) ?_ ?_
  rotate_left
  · intro w'
    go_simp
    with_reducible rfl
  rotate_left
  · simp only [Act.put, List.setIfInBounds_toArray, List.set_cons_zero, List.set_cons_succ, i64_w, i32_w]
    rfl
  refine pure_ (i := 2) (N := some 39) (v := ?_) (a' := ?_) #[true, true, true, false, false, false, false, false] rfl rfl (any_of HT_.out (by kernel_rfl)) (fun _ _ _ h => h) (Or.inl ⟨by rfl, ?_⟩) ?_ ?_
  rotate_left
  · intro w'
    go_simp
    with_reducible rfl
  rotate_left
  · simp only [Act.put, List.setIfInBounds_toArray, List.set_cons_zero, List.set_cons_succ, i64_w, i32_w]
    rfl
  refine pure_ (i := 3) (N := some 40) (v := ?_) (a' := ?_) #[true, true, true, true, false, false, false, false] rfl rfl (any_of HT_.out (by kernel_rfl)) (fun _ _ _ h => h) (Or.inl ⟨by rfl, ?_⟩) ?_ ?_
  rotate_left
  · intro w'
    go_simp
    with_reducible rfl
  rotate_left
  · simp only [Act.put, List.setIfInBounds_toArray, List.set_cons_zero, List.set_cons_succ, i64_w, i32_w]
    rfl
  refine pure_ (i := 4) (N := some 41) (v := ?_) (a' := ?_) #[true, true, true, true, true, false, false, false] rfl rfl (any_of HT_.out (by kernel_rfl)) (fun _ _ _ h => h) (Or.inl ⟨by rfl, ?_⟩) ?_ ?_
  rotate_left
  · intro w'
    go_simp
    with_reducible rfl
  rotate_left
  · simp only [Act.put, List.setIfInBounds_toArray, List.set_cons_zero, List.set_cons_succ, i64_w, i32_w]
    rfl
  refine one_ (i := 5) (N := none) #[true, true, true, true, true, true, false, false] rfl rfl (one_of HT_.out (by kernel_rfl)) (by decide) (fun K hK => ?_)
  have hs0 : w2.cell? ⟨w.heap.size, 0, none⟩ = some (.int .i64 0) := (blk_cell R2.out 0).trans rfl
  have hfs0 := blk_frozen R2.out 0
  have hs1 : w2.cell? ⟨w.heap.size, 1, none⟩ = some (.int .i64 0) := (blk_cell R2.out 1).trans rfl
  have hfs1 := blk_frozen R2.out 1
  have hs2 : w2.cell? ⟨w.heap.size, 2, none⟩ = some (.int .i64 0) := (blk_cell R2.out 2).trans rfl
  have hfs2 := blk_frozen R2.out 2
  have hs3 : w2.cell? ⟨w.heap.size, 3, none⟩ = some (.string (⟨#[]⟩ : ByteArray)) := (blk_cell R2.out 3).trans rfl
  have hfs3 := blk_frozen R2.out 3
  have hs4 : w2.cell? ⟨w.heap.size, 4, none⟩ = some (.string (⟨#[]⟩ : ByteArray)) := (blk_cell R2.out 4).trans rfl
  have hfs4 := blk_frozen R2.out 4
  refine skip_ (w1 := ?_) (by rfl) rfl ?_ ?_
  rotate_left
  · go_simp
    rfl
  refine hK.out _ _ trivial (fun hHeld => ?_)
  clear hK K
  refine pure_ (i := 6) (N := some 3) (v := ?_) (a' := ?_) #[true, true, true, true, true, true, true, false] rfl rfl (any_of HT_.out (by kernel_rfl)) (fun _ _ _ h => h) (Or.inl ⟨by rfl, ?_⟩) ?_ ?_
  rotate_left
  · intro w'
    go_simp
    with_reducible rfl
  rotate_left
  · simp only [Act.put, List.setIfInBounds_toArray, List.set_cons_zero, List.set_cons_succ, i64_w, i32_w]
    rfl
  refine pure_ (i := 7) (N := some 4) (v := ?_) (a' := ?_) #[true, true, true, true, true, true, true, true] rfl rfl (any_of HT_.out (by kernel_rfl)) (fun _ _ _ h => h) (Or.inl ⟨by rfl, ?_⟩) ?_ ?_
  rotate_left
  · intro w'
    go_simp
    with_reducible rfl
  rotate_left
  · simp only [Act.put, List.setIfInBounds_toArray, List.set_cons_zero, List.set_cons_succ, i64_w, i32_w]
    rfl
  refine done_ (done_of HT_.out (by kernel_rfl)) ?_
  try go_wp2
  refine bodyPost_ret (results_ctt rfl _ _ w.heap.size 98 #[.int .i64 1, .int .i64 (bt s 0 - 65), .int .i64 n, .string (⟨#[]⟩ : ByteArray), .string (⟨#[]⟩ : ByteArray)] (0, 0) _ rfl (by refine blk_put (cs := #[.int .i64 1, .int .i64 (bt s 0 - 65), .int .i64 n, .string (⟨#[]⟩ : ByteArray), .string (⟨#[]⟩ : ByteArray)]) ?_ 4 _ rfl; refine blk_put (cs := #[.int .i64 1, .int .i64 (bt s 0 - 65), .int .i64 n, .string (⟨#[]⟩ : ByteArray), .string (⟨#[]⟩ : ByteArray)]) ?_ 3 _ rfl; refine blk_put (cs := #[.int .i64 1, .int .i64 (bt s 0 - 65), .int .i64 0, .string (⟨#[]⟩ : ByteArray), .string (⟨#[]⟩ : ByteArray)]) ?_ 2 _ rfl; refine blk_put (cs := #[.int .i64 1, .int .i64 0, .int .i64 0, .string (⟨#[]⟩ : ByteArray), .string (⟨#[]⟩ : ByteArray)]) ?_ 1 _ rfl; refine blk_put (cs := #[.int .i64 0, .int .i64 0, .int .i64 0, .string (⟨#[]⟩ : ByteArray), .string (⟨#[]⟩ : ByteArray)]) ?_ 0 _ rfl; exact R2.out) Tryz.underlying98 rfl (by kernel_rfl)) rfl ?_
  exact ⟨by first | rfl | (simp; done), (by repeat (first | exact HB2.out | (refine Below.setCell ?_ (by first | (simp; done) | omega) _)))⟩
end Go.Proofs.YtnemchmiplbopaaGreatDoor
