/- impl.ownAt: its contract. -/
import Derived.Test.YtnemchmiplbopaaGreatDoorZkx0
import Derived.LoopTactic
namespace Go.Proofs.YtnemchmiplbopaaGreatDoor.Zk
set_option linter.unusedSimpArgs false
set_option linter.unusedVariables false
set_option maxRecDepth 100000
open Go.RowKit Go.Maps Go.Proofs.YtnemchmiplbopaaGreatDoor Go.Proofs.YtnemchmiplbopaaGreatDoorW.PrintWords Go.Proofs.YtnemchmiplbopaaGreatDoorW.PrintLast Go.Proofs.YtnemchmiplbopaaGreatDoorW.PrintMore Go.Proofs.YtnemchmiplbopaaGreatDoor.Th

abbrev Ow := S74
def firstAt : List Ow → Int → Nat → Int
  | [], _, _ => -1
  | o :: l, n, i => if o.f0 = n then (i : Int) else firstAt l n (i + 1)
/-- The place of the first secret of a node, or -1. -/
def ownI (own : List Ow) (node : Int) : Int := firstAt own node 0
theorem firstAt_at : ∀ (l : List Ow) (n : Int) (i k : Nat) (h : k < l.length), (l[k]).f0 = n → (∀ j, ∀ hj : j < k, (l[j]'(by omega)).f0 ≠ n) → firstAt l n i = ((i + k : Nat) : Int)
  | [], _, _, _, h, _, _ => absurd h (by simp)
  | o :: l, n, i, 0, _, he, _ => by
    unfold firstAt
    rw [if_pos (show o.f0 = n from he), Nat.add_zero]
  | o :: l, n, i, k + 1, h, he, hb => by
    have h0 : o.f0 ≠ n := hb 0 (by omega)
    have hi := firstAt_at l n (i + 1) k (by simpa using h) he (fun j hj => hb (j + 1) (by omega))
    unfold firstAt
    rw [if_neg h0, hi]
    omega
theorem firstAt_no : ∀ (l : List Ow) (n : Int) (i : Nat), (∀ o ∈ l, o.f0 ≠ n) → firstAt l n i = -1
  | [], _, _, _ => rfl
  | o :: l, n, i, h => by
    unfold firstAt
    rw [if_neg (h o (by simp))]
    exact firstAt_no l n (i + 1) (fun x hx => h x (by simp [hx]))
theorem rdO_at {l : List Ow} {i : Nat} (h : i < l.length) : rd_T74 l (i : Int) = l[i] := by
  unfold rd_T74
  rw [Int.toNat_natCast, List.getD_eq_getElem?_getD, List.getElem?_eq_getElem h]
  rfl
theorem ownI_at {l : List Ow} {n : Int} {k : Nat} (h : k < l.length) (he : (rd_T74 l (k : Int)).f0 = n) (hb : ∀ j : Nat, j < k → (rd_T74 l (j : Int)).f0 ≠ n) : ownI l n = (k : Int) := by
  have := firstAt_at l n 0 k h (by rw [← rdO_at h]; exact he) (fun j hj => by rw [← rdO_at (show j < l.length by omega)]; exact hb j hj)
  rw [Nat.zero_add] at this
  exact this
theorem ownI_no {l : List Ow} {n : Int} (hb : ∀ j : Nat, j < l.length → (rd_T74 l (j : Int)).f0 ≠ n) : ownI l n = -1 :=
  firstAt_no l n 0 fun o ho => by
    obtain ⟨j, hj, e⟩ := List.getElem_of_mem ho
    rw [← e, ← rdO_at hj]
    exact hb j hj
theorem load_row_at {P : Program} {ops : Array Oper} {rest : List Oper} {op : Oper} {a : Act} {w : World} {Q : Exit → Act → World → Prop} (hgd : op.guard = none) (ty : TypeId) (x : Operand) (ho : op.op = .load ty x)
    (p : Addr) (hx : a.eval x = .pointer (some p)) (cs : List Value) (d : TypeDesc) (hc : ∀ j v, cs[j]? = some v → w.cell? (p.add j) = some v)
    (hu : P.underlying ty = some d) (hd : (match d with | .struct _ | .array _ _ => true | _ => false) = true) (hi : (P.info? ty).map (·.size) = some cs.length)
    (h : wpList P ops Q rest (a.put op.dst (.agg cs.toArray)) w) : wpList P ops Q (op :: rest) a w := by
  have hl : (loadCells p cs.length).run P w = .ok cs.toArray w := run_loadCells_list (P := P) w p cs hc
  have hv : (loadVar ty p).run P w = .ok (.agg cs.toArray) w := by
    cases hq : P.info? ty with
    | none => simp [hq] at hi
    | some i =>
      have hs : i.size = cs.length := by simpa [hq] using hi
      have hagg : (isAgg ty).run P w = .ok true w := by
        unfold isAgg
        rw [Sem.run_bind, run_underlying hu w]
        cases d <;> simp_all
      simp [loadVar, Sem.run_bind, hagg, sizeOf, typeInfo, hq, hs, hl]
  refine wpList_plain hgd fun _ hK => ?_
  unfold Oper.wp execOp
  simp only [ho, hx, Instr.loadAt, Instr.sureAddr, Sem.run_bind, Sem.run_pure, Result.andThen_ok, hv]
  exact hK _ _ h
theorem own_at {w : World} {A : Option Addr} {n : Nat} {xs : List Ow} (h : Kd.C k74 w A n xs) (i : Nat) (h1 : i < n) :
    ∃ ad, A = some ad ∧ ∀ j v, [Value.int .i64 (rd_T74 xs i).f0, .string (rd_T74 xs i).f1][j]? = some v → w.cell? ((ad.add (i * 2)).add j) = some v := by
  obtain ⟨ad, c, e, _, hK, hc0⟩ := Kd.C_get h z74 (i : Int) (by omega) (by omega)
  obtain rfl := k74_open hK
  rw [Int.toNat_natCast] at hc0
  exact ⟨ad, e, fun j v hj => by rw [Addr.add_add]; exact hc0 j v hj⟩
theorem own_eq (x n : Int) (s : ByteArray) (g : Nat) (w : World) (hg : w.cell? ⟨g, 0, none⟩ = some (.int .i64 n)) :
    Calls Tryz.prog 85 #[.agg #[.int .i64 x, .string s], .pointer (some ⟨g, 0, none⟩)] w fun e w' => e = .returned (.bool (x == n)) ∧ Below w.heap.size w w' := by
  have hu := Tryz.underlying74
  have HB0 := Lib.hid (below_alloc (Below.refl w.heap.size w) (.cells #[.int .i64 x, .string s] 74))
  have c2 : (w.alloc (.cells #[.int .i64 x, .string s] 74)).cell? ⟨g, 0, none⟩ = some (.int .i64 n) := (HB0.out.cell (World.block_lt_of_cell? w _ hg)).trans hg
  clear hg
  go_enter Tryz.func85, Tryz.ntmps85
  go_wp2
  go_ret
  exact ⟨rfl, HB0.out⟩
theorem own_index (A : Option Addr) (c : Nat) (l : List Ow) (n : Int) (g : Nat) (w : World) (hr : Kd.C k74 w A l.length l) (hg : w.cell? ⟨g, 0, none⟩ = some (.int .i64 n)) :
    Calls Tryz.prog 84 #[.slice A l.length c, .func (.func 85) #[] #[.pointer (some ⟨g, 0, none⟩)]] w fun e w' => e = .returned (.int .i64 (ownI l n)) ∧ Below w.heap.size w w' := by
  have hmx : l.length ≤ 9223372036854775807 := hr.2.1
  go_enter Tryz.func84, Tryz.ntmps84
  go_wp2
  have HR := Aside0.mk hr
  have HG := Aside0.mk hg
  clear hr hg
  go_loopw [8] (fun i wr => ∃ k : Nat, k ≤ l.length ∧ i = .int .i64 k ∧ Hid (∀ j : Nat, j < k → (rd_T74 l (j : Int)).f0 ≠ n) ∧ Aside0 (Below w.heap.size w wr)) (fun i _ => l.length - (intOf i).toNat)
  case atStart => exact ⟨0, Nat.zero_le _, rfl, Lib.hid (fun j hj => by omega), ⟨Below.refl _ _⟩⟩
  case round =>
    obtain ⟨k, hk, rfl, HP, HB⟩ := hrel
    by_cases hlt : k < l.length
    · obtain ⟨ad, rfl, hc⟩ := own_at (Kd.C_below HR.out HB.out) k hlt
      have HC := Lib.hid (own_eq (rd_T74 l k).f0 n (rd_T74 l k).f1 g wr ((HB.out.cell (World.block_lt_of_cell? w _ HG.out)).trans HG.out))
      have HD := Lib.hid hc
      clear hc
      by_cases hs : (rd_T74 l k).f0 = n
      · have HS := Lib.hid hs
        rw [beq_iff_eq.2 hs] at HC
        clear hs
        go_wp2_with (first
          | ((with_reducible refine gate_dst (N := 15) rfl ?_); refine load_row_at rfl 74 _ rfl _ rfl _ _ HD.out Tryz.underlying74 rfl (by kernel_rfl) ?_)
          | (go_at_call 85; refine HC.out.mono ?_; rintro e w1 ⟨rfl, hb⟩))
        go_ret
        exact ⟨by rw [ownI_at hlt HS.out HP.out]; rfl, HB.out.trans (hb.mono HB.out.size)⟩
      · have HS := Lib.hid hs
        rw [beq_eq_false_iff_ne.2 hs] at HC
        clear hs
        go_wp2_with (first
          | ((with_reducible refine gate_dst (N := 15) rfl ?_); refine load_row_at rfl 74 _ rfl _ rfl _ _ HD.out Tryz.underlying74 rfl (by kernel_rfl) ?_)
          | (go_at_call 85; refine HC.out.mono ?_; rintro e w1 ⟨rfl, hb⟩))
        go_roundw
        case rel =>
          refine ⟨k + 1, by omega, by go_num, Lib.hid (fun j hj => ?_), ⟨HB.out.trans (hb.mono HB.out.size)⟩⟩
          by_cases hjk : j = k
          · rw [hjk]; exact HS.out
          · exact HP.out j (by omega)
        case measure => simp [intOf]; omega
    · have he : k = l.length := by omega
      have hp := HP.out
      rw [he] at hp
      have HQ := Lib.hid hp
      clear he hp
      go_wp2
      go_ret
      exact ⟨by rw [ownI_no HQ.out]; rfl, HB.out⟩
def impl_ownAt.f (l : List Ow) (n : Int) : Option Int := some (ownI l n)
theorem impl_ownAt.calls (A0 : Option Addr) (c0 : Nat) (l0 : List Ow) (a1 : Int) (r : Int) (w : World) (hr0 : Kd.C k74 w A0 l0.length l0) (hc0 : l0.length ≤ c0) (h : impl_ownAt.f l0 a1 = some r) :
    Calls Tryz.prog 39 #[.slice A0 l0.length c0, .int .i64 a1] w fun e w' => e = .returned (.int .i64 r) ∧ Below w.heap.size w w' := by
  unfold impl_ownAt.f at h
  obtain rfl := Option.some.inj h
  clear h
  have HB0 := Lib.hid (below_alloc (Below.refl w.heap.size w) (.cells #[.int .i64 a1] 3))
  have HI := Lib.hid (own_index A0 c0 l0 a1 w.heap.size (w.alloc (.cells #[.int .i64 a1] 3)) (Kd.C_below hr0 HB0.out) ((blk_cell (blk_new w _) 0).trans rfl))
  clear hr0 hc0
  go_enter Tryz.func39, Tryz.ntmps39
  go_wp2_with (go_at_call 84; refine HI.out.mono ?_; rintro e w1 ⟨rfl, hb⟩)
  go_ret
  exact ⟨rfl, HB0.out.trans (hb.mono HB0.out.size)⟩
end Go.Proofs.YtnemchmiplbopaaGreatDoor.Zk
