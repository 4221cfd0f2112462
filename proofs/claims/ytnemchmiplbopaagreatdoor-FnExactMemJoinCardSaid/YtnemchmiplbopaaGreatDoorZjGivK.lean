/- impl.ownAt, impl.named, slices.Clone and slices.Clip at MemOwn, strings.Count of one byte: their contracts. -/
import Derived.Test.YtnemchmiplbopaaGreatDoorZjx0
import Derived.LoopTactic
import Derived.WalkKit
import Derived.WalkSpells
namespace Go.Proofs.YtnemchmiplbopaaGreatDoor.Zj
set_option linter.unusedSimpArgs false
set_option linter.unusedVariables false
set_option maxRecDepth 100000
open Go.RowKit Go.Maps Go.Proofs.YtnemchmiplbopaaGreatDoor Go.Proofs.YtnemchmiplbopaaGreatDoorW.PrintWords Go.Proofs.YtnemchmiplbopaaGreatDoorW.PrintLast Go.Proofs.YtnemchmiplbopaaGreatDoorW.PrintMore Go.Proofs.YtnemchmiplbopaaGreatDoor.Th

theorem blk_self (w : World) (o : Obj) : (w.alloc o).heap[w.heap.size]? = some o := by show (w.heap.push o)[w.heap.size]? = some o; simp
abbrev Ow := S74
def firstAt : List Ow → Int → Nat → Int
  | [], _, _ => -1
  | o :: l, n, i => if o.f0 = n then (i : Int) else firstAt l n (i + 1)
/-- The place of the first secret of a node, or -1. -/
def ownI (own : List Ow) (node : Int) : Int := firstAt own node 0
theorem firstAt_at : ∀ (l : List Ow) (n : Int) (i k : Nat) (h : k < l.length), (l[k]).f0 = n → (∀ j, ∀ hj : j < k, (l[j]'(by omega)).f0 ≠ n) → firstAt l n i = ((i + k : Nat) : Int)
  | [], _, _, _, h, _, _ => absurd h (by simp)
  | o :: l, n, i, 0, _, he, _ => by
    unfold firstAt
    rw [if_pos (show o.f0 = n from he), Nat.add_zero]
  | o :: l, n, i, k + 1, h, he, hb => by
    have h0 : o.f0 ≠ n := hb 0 (by omega)
    have hi := firstAt_at l n (i + 1) k (by simpa using h) he (fun j hj => hb (j + 1) (by omega))
    unfold firstAt
    rw [if_neg h0, hi]
    omega
theorem firstAt_no : ∀ (l : List Ow) (n : Int) (i : Nat), (∀ o ∈ l, o.f0 ≠ n) → firstAt l n i = -1
  | [], _, _, _ => rfl
  | o :: l, n, i, h => by
    unfold firstAt
    rw [if_neg (h o (by simp))]
    exact firstAt_no l n (i + 1) (fun x hx => h x (by simp [hx]))
theorem rdO_at {l : List Ow} {i : Nat} (h : i < l.length) : rd_T74 l (i : Int) = l[i] := by
  unfold rd_T74
  rw [Int.toNat_natCast, List.getD_eq_getElem?_getD, List.getElem?_eq_getElem h]
  rfl
theorem ownI_at {l : List Ow} {n : Int} {k : Nat} (h : k < l.length) (he : (rd_T74 l (k : Int)).f0 = n) (hb : ∀ j : Nat, j < k → (rd_T74 l (j : Int)).f0 ≠ n) : ownI l n = (k : Int) := by
  have := firstAt_at l n 0 k h (by rw [← rdO_at h]; exact he) (fun j hj => by rw [← rdO_at (show j < l.length by omega)]; exact hb j hj)
  rw [Nat.zero_add] at this
  exact this
theorem ownI_no {l : List Ow} {n : Int} (hb : ∀ j : Nat, j < l.length → (rd_T74 l (j : Int)).f0 ≠ n) : ownI l n = -1 :=
  firstAt_no l n 0 fun o ho => by
    obtain ⟨j, hj, e⟩ := List.getElem_of_mem ho
    rw [← e, ← rdO_at hj]
    exact hb j hj
theorem load_row_at {P : Program} {ops : Array Oper} {rest : List Oper} {op : Oper} {a : Act} {w : World} {Q : Exit → Act → World → Prop} (hgd : op.guard = none) (ty : TypeId) (x : Operand) (ho : op.op = .load ty x)
    (p : Addr) (hx : a.eval x = .pointer (some p)) (cs : List Value) (d : TypeDesc) (hc : ∀ j v, cs[j]? = some v → w.cell? (p.add j) = some v)
    (hu : P.underlying ty = some d) (hd : (match d with | .struct _ | .array _ _ => true | _ => false) = true) (hi : (P.info? ty).map (·.size) = some cs.length)
    (h : wpList P ops Q rest (a.put op.dst (.agg cs.toArray)) w) : wpList P ops Q (op :: rest) a w := by
  have hl : (loadCells p cs.length).run P w = .ok cs.toArray w := run_loadCells_list (P := P) w p cs hc
  have hv : (loadVar ty p).run P w = .ok (.agg cs.toArray) w := by
    cases hq : P.info? ty with
    | none => simp [hq] at hi
    | some i =>
      have hs : i.size = cs.length := by simpa [hq] using hi
      have hagg : (isAgg ty).run P w = .ok true w := by
        unfold isAgg
        rw [Sem.run_bind, run_underlying hu w]
        cases d <;> simp_all
      simp [loadVar, Sem.run_bind, hagg, sizeOf, typeInfo, hq, hs, hl]
  refine wpList_plain hgd fun _ hK => ?_
  unfold Oper.wp execOp
  simp only [ho, hx, Instr.loadAt, Instr.sureAddr, Sem.run_bind, Sem.run_pure, Result.andThen_ok, hv]
  exact hK _ _ h
theorem own_at {w : World} {A : Option Addr} {n : Nat} {xs : List Ow} (h : Kd.C k74 w A n xs) (i : Nat) (h1 : i < n) :
    ∃ ad, A = some ad ∧ ∀ j v, [Value.int .i64 (rd_T74 xs i).f0, .string (rd_T74 xs i).f1][j]? = some v → w.cell? ((ad.add (i * 2)).add j) = some v := by
  obtain ⟨ad, c, e, _, hK, hc0⟩ := Kd.C_get h z74 (i : Int) (by omega) (by omega)
  obtain rfl := k74_open hK
  rw [Int.toNat_natCast] at hc0
  exact ⟨ad, e, fun j v hj => by rw [Addr.add_add]; exact hc0 j v hj⟩
theorem own_eq (x n : Int) (s : ByteArray) (g : Nat) (w : World) (hg : w.cell? ⟨g, 0, none⟩ = some (.int .i64 n)) :
    Calls Tryz.prog 85 #[.agg #[.int .i64 x, .string s], .pointer (some ⟨g, 0, none⟩)] w fun e w' => e = .returned (.bool (x == n)) ∧ Below w.heap.size w w' := by
  have hu := Tryz.underlying74
  have HB0 := Lib.hid (below_alloc (Below.refl w.heap.size w) (.cells #[.int .i64 x, .string s] 74))
  have c2 : (w.alloc (.cells #[.int .i64 x, .string s] 74)).cell? ⟨g, 0, none⟩ = some (.int .i64 n) := (HB0.out.cell (World.block_lt_of_cell? w _ hg)).trans hg
  clear hg
  go_enter Tryz.func85, Tryz.ntmps85
  go_wp2
  go_ret
  exact ⟨rfl, HB0.out⟩
theorem own_index (A : Option Addr) (c : Nat) (l : List Ow) (n : Int) (g : Nat) (w : World) (hr : Kd.C k74 w A l.length l) (hg : w.cell? ⟨g, 0, none⟩ = some (.int .i64 n)) :
    Calls Tryz.prog 84 #[.slice A l.length c, .func (.func 85) #[] #[.pointer (some ⟨g, 0, none⟩)]] w fun e w' => e = .returned (.int .i64 (ownI l n)) ∧ Below w.heap.size w w' := by
  have hmx : l.length ≤ 9223372036854775807 := hr.2.1
  go_enter Tryz.func84, Tryz.ntmps84
  go_wp2
  have HR := Aside0.mk hr
  have HG := Aside0.mk hg
  clear hr hg
  go_loopw [8] (fun i wr => ∃ k : Nat, k ≤ l.length ∧ i = .int .i64 k ∧ Hid (∀ j : Nat, j < k → (rd_T74 l (j : Int)).f0 ≠ n) ∧ Aside0 (Below w.heap.size w wr)) (fun i _ => l.length - (intOf i).toNat)
  case atStart => exact ⟨0, Nat.zero_le _, rfl, Lib.hid (fun j hj => by omega), ⟨Below.refl _ _⟩⟩
  case round =>
    obtain ⟨k, hk, rfl, HP, HB⟩ := hrel
    by_cases hlt : k < l.length
    · obtain ⟨ad, rfl, hc⟩ := own_at (Kd.C_below HR.out HB.out) k hlt
      have HC := Lib.hid (own_eq (rd_T74 l k).f0 n (rd_T74 l k).f1 g wr ((HB.out.cell (World.block_lt_of_cell? w _ HG.out)).trans HG.out))
      have HD := Lib.hid hc
      clear hc
      by_cases hs : (rd_T74 l k).f0 = n
      · have HS := Lib.hid hs
        rw [beq_iff_eq.2 hs] at HC
        clear hs
        go_wp2_with (first
          | ((with_reducible refine gate_dst (N := 15) rfl ?_); refine load_row_at rfl 74 _ rfl _ rfl _ _ HD.out Tryz.underlying74 rfl (by kernel_rfl) ?_)
          | (go_at_call 85; refine HC.out.mono ?_; rintro e w1 ⟨rfl, hb⟩))
        go_ret
        exact ⟨by rw [ownI_at hlt HS.out HP.out]; rfl, HB.out.trans (hb.mono HB.out.size)⟩
      · have HS := Lib.hid hs
        rw [beq_eq_false_iff_ne.2 hs] at HC
        clear hs
        go_wp2_with (first
          | ((with_reducible refine gate_dst (N := 15) rfl ?_); refine load_row_at rfl 74 _ rfl _ rfl _ _ HD.out Tryz.underlying74 rfl (by kernel_rfl) ?_)
          | (go_at_call 85; refine HC.out.mono ?_; rintro e w1 ⟨rfl, hb⟩))
        go_roundw
        case rel =>
          refine ⟨k + 1, by omega, by go_num, Lib.hid (fun j hj => ?_), ⟨HB.out.trans (hb.mono HB.out.size)⟩⟩
          by_cases hjk : j = k
          · rw [hjk]; exact HS.out
          · exact HP.out j (by omega)
        case measure => simp [intOf]; omega
    · have he : k = l.length := by omega
      have hp := HP.out
      rw [he] at hp
      have HQ := Lib.hid hp
      clear he hp
      go_wp2
      go_ret
      exact ⟨by rw [ownI_no HQ.out]; rfl, HB.out⟩
def impl_ownAt.f (l : List Ow) (n : Int) : Option Int := some (ownI l n)
theorem impl_ownAt.calls (A0 : Option Addr) (c0 : Nat) (l0 : List Ow) (a1 : Int) (r : Int) (w : World) (hr0 : Kd.C k74 w A0 l0.length l0) (hc0 : l0.length ≤ c0) (h : impl_ownAt.f l0 a1 = some r) :
    Calls Tryz.prog 39 #[.slice A0 l0.length c0, .int .i64 a1] w fun e w' => e = .returned (.int .i64 r) ∧ Below w.heap.size w w' := by
  unfold impl_ownAt.f at h
  obtain rfl := Option.some.inj h
  clear h
  have HB0 := Lib.hid (below_alloc (Below.refl w.heap.size w) (.cells #[.int .i64 a1] 3))
  have HI := Lib.hid (own_index A0 c0 l0 a1 w.heap.size (w.alloc (.cells #[.int .i64 a1] 3)) (Kd.C_below hr0 HB0.out) ((blk_cell (blk_new w _) 0).trans rfl))
  clear hr0 hc0
  go_enter Tryz.func39, Tryz.ntmps39
  go_wp2_with (go_at_call 84; refine HI.out.mono ?_; rintro e w1 ⟨rfl, hb⟩)
  go_ret
  exact ⟨rfl, HB0.out.trans (hb.mono HB0.out.size)⟩

abbrev Bx := S52
def okB (s : ByteArray) : Bool := (nm s).isSome
def okBx (b : Bx) : Bool := okB b.f0 && okB b.f1
def pairs (bs : List Bx) : List (ByteArray × ByteArray) := bs.map fun b => (b.f0, b.f1)
def namedB (known : List ByteArray) (bs : List Bx) : Bool := decide (known.length ≤ 400) && (decide (bs.length ≤ 400) && (known.all okB && bs.all okBx))

theorem box_at {w : World} {A : Option Addr} {n : Nat} {xs : List Bx} (h : Kd.C k52 w A n xs) (i : Nat) (h1 : i < n) :
    ∃ ad, A = some ad ∧ ∀ j v, [Value.string (rd_T52 xs i).f0, .string (rd_T52 xs i).f1][j]? = some v → w.cell? ((ad.add (i * 2)).add j) = some v := by
  obtain ⟨ad, c, e, _, hK, hc0⟩ := Kd.C_get h z52 (i : Int) (by omega) (by omega)
  obtain rfl := k52_open hK
  rw [Int.toNat_natCast] at hc0
  exact ⟨ad, e, fun j v hj => by rw [Addr.add_add]; exact hc0 j v hj⟩

theorem name_bad (s : ByteArray) (w : World) (hG : GlobOk w) :
    Calls Tryz.prog 113 #[.string s] w fun e w' => e = .returned (.bool (!okB s)) ∧ Below w.heap.size w w' := by
  have HM := Lib.hid (impl_SecOk.calls s (okB s) w hG rfl)
  clear hG
  go_enter Tryz.func113, Tryz.ntmps113
  go_wp2_with (go_at_call 36; refine HM.out.mono ?_; rintro e w1 ⟨rfl, hb⟩)
  go_ret
  exact ⟨rfl, hb⟩
theorem box_bad (x y : ByteArray) (w : World) (hG : GlobOk w) :
    Calls Tryz.prog 115 #[.agg #[.string x, .string y]] w fun e w' => e = .returned (.bool (!(okB x && okB y))) ∧ Below w.heap.size w w' := by
  have hu := Tryz.underlying52
  have HB0 := Lib.hid (below_alloc (Below.refl w.heap.size w) (.cells #[.string x, .string y] 52))
  have HG0 := Lib.hid (GlobOk.below hG HB0.out)
  clear hG
  cases hx : okB x with
  | false =>
    have HM := Lib.hid (impl_SecOk.calls x false _ HG0.out (by unfold impl_SecOk.f; rw [show (nm x).isSome = false from hx]))
    clear hx
    go_enter Tryz.func115, Tryz.ntmps115
    go_wp2_with (go_at_call 36; with_reducible refine HM.out.mono ?_; rintro e w1 ⟨rfl, hb⟩; have HB1 := Lib.hid (HB0.out.trans (hb.mono HB0.out.size)); clear hb)
    go_ret
    exact ⟨rfl, HB1.out⟩
  | true =>
    have HM := Lib.hid (impl_SecOk.calls x true _ HG0.out (by unfold impl_SecOk.f; rw [show (nm x).isSome = true from hx]))
    have HY : ∀ W, GlobOk W → _ := fun W hW => Lib.hid (impl_SecOk.calls y (okB y) W hW rfl)
    clear hx
    cases hy : okB y <;> rw [hy] at HY <;> clear hy
    all_goals
      go_enter Tryz.func115, Tryz.ntmps115
      go_wp2_with (first
        | (go_at_call 36; with_reducible refine HM.out.mono ?_; rintro e w1 ⟨rfl, hb⟩; have c1 : w1.cell? ⟨w.heap.size, 1, none⟩ = some (.string y) := ((bcell hb).1 _ _ (by simp)).trans ((blk_cell (blk_self _ _) 1).trans rfl); have HB1 := Lib.hid (HB0.out.trans (hb.mono HB0.out.size)); have HG1 := Lib.hid (GlobOk.below HG0.out hb); clear hb)
        | (go_at_call 36; with_reducible refine (HY _ HG1.out).out.mono ?_; rintro e w2 ⟨rfl, hb2⟩; have HB2 := Lib.hid (HB1.out.trans (hb2.mono HB1.out.size)); clear hb2))
      go_ret
      exact ⟨rfl, HB2.out⟩
/-! ### The rows -/
theorem names_index (A : Option Addr) (c : Nat) (l : List ByteArray) (w : World) (hr : Kd.C Kd.string w A l.length l) (hG : GlobOk w) :
    Calls Tryz.prog 109 #[.slice A l.length c, .func (.func 113) #[] #[]] w fun e w' => (∃ i : Int, e = .returned (.int .i64 i) ∧ decide (0 ≤ i) = !l.all okB) ∧ Below w.heap.size w w' := by
  have hmx : l.length ≤ 9223372036854775807 := hr.2.1
  go_enter Tryz.func109, Tryz.ntmps109
  go_wp2
  have HR := Aside0.mk hr
  have HG := Aside0.mk hG
  clear hr hG
  go_loopw [8] (fun i wr => ∃ k : Nat, k ≤ l.length ∧ i = .int .i64 k ∧ Hid ((l.take k).all okB = true) ∧ Aside0 (Below w.heap.size w wr)) (fun i _ => l.length - (intOf i).toNat)
  case atStart => exact ⟨0, Nat.zero_le _, rfl, Lib.hid (by simp), ⟨Below.refl _ _⟩⟩
  case round =>
    obtain ⟨k, hk, rfl, HP, HB⟩ := hrel
    by_cases hlt : k < l.length
    · obtain ⟨ad, rfl, hc⟩ := Kd.at_string (Kd.C_below HR.out HB.out) (k : Int) (by omega) (by omega)
      rw [Int.toNat_natCast] at hc
      have hx : l.take (k + 1) = l.take k ++ [rdOf ByteArray.empty l k] := by
        rw [List.take_succ_eq_append_getElem hlt]
        unfold rdOf
        rw [Int.toNat_natCast, List.getD_eq_getElem?_getD, List.getElem?_eq_getElem hlt]
        rfl
      have hall : l.all okB = true → okB (rdOf ByteArray.empty l k) = true := by
        intro h
        rw [List.all_eq_true] at h
        exact h _ (List.mem_of_mem_take (i := k + 1) (by rw [hx]; simp))
      have hnext : (l.take k).all okB = true → okB (rdOf ByteArray.empty l k) = true → (l.take (k + 1)).all okB = true := by
        intro h1 h2
        rw [hx, List.all_append, h1, List.all_cons, h2]
        rfl
      have HC := Lib.hid (name_bad (rdOf ByteArray.empty l k) wr (GlobOk.below HG.out HB.out))
      have HA := Lib.hid hall
      have HN := Lib.hid hnext
      clear hx hall hnext
      cases hs : okB (rdOf ByteArray.empty l k) with
      | true =>
        rw [hs] at HC
        have HS := Lib.hid hs
        clear hs
        go_wp2_with (go_at_call 113; refine HC.out.mono ?_; rintro e w1 ⟨rfl, hb⟩)
        go_roundw
        case rel => exact ⟨k + 1, by omega, by go_num, Lib.hid (HN.out HP.out HS.out), ⟨HB.out.trans (hb.mono HB.out.size)⟩⟩
        case measure => simp [intOf]; omega
      | false =>
        rw [hs] at HC HA
        clear hs
        go_wp2_with (go_at_call 113; refine HC.out.mono ?_; rintro e w1 ⟨rfl, hb⟩)
        go_ret
        refine ⟨⟨_, rfl, ?_⟩, HB.out.trans (hb.mono HB.out.size)⟩
        rw [decide_eq_true (by omega)]
        cases h : l.all okB with
        | true => exact absurd (HA.out h) (by decide)
        | false => rfl
    · have he : k = l.length := by omega
      have hp := HP.out
      rw [he, List.take_length] at hp
      have HQ := Lib.hid hp
      clear he hp
      go_wp2
      go_ret
      refine ⟨⟨_, rfl, ?_⟩, HB.out⟩
      rw [HQ.out]
      rfl
theorem boxes_index (A : Option Addr) (c : Nat) (l : List Bx) (w : World) (hr : Kd.C k52 w A l.length l) (hG : GlobOk w) :
    Calls Tryz.prog 125 #[.slice A l.length c, .func (.func 115) #[] #[]] w fun e w' => (∃ i : Int, e = .returned (.int .i64 i) ∧ decide (0 ≤ i) = !l.all okBx) ∧ Below w.heap.size w w' := by
  have hmx : l.length ≤ 9223372036854775807 := hr.2.1
  go_enter Tryz.func125, Tryz.ntmps125
  go_wp2
  have HR := Aside0.mk hr
  have HG := Aside0.mk hG
  clear hr hG
  go_loopw [8] (fun i wr => ∃ k : Nat, k ≤ l.length ∧ i = .int .i64 k ∧ Hid ((l.take k).all okBx = true) ∧ Aside0 (Below w.heap.size w wr)) (fun i _ => l.length - (intOf i).toNat)
  case atStart => exact ⟨0, Nat.zero_le _, rfl, Lib.hid (by simp), ⟨Below.refl _ _⟩⟩
  case round =>
    obtain ⟨k, hk, rfl, HP, HB⟩ := hrel
    by_cases hlt : k < l.length
    · obtain ⟨ad, rfl, hc⟩ := box_at (Kd.C_below HR.out HB.out) k hlt
      have hx : l.take (k + 1) = l.take k ++ [rd_T52 l k] := by
        rw [List.take_succ_eq_append_getElem hlt]
        unfold rd_T52
        rw [Int.toNat_natCast, List.getD_eq_getElem?_getD, List.getElem?_eq_getElem hlt]
        rfl
      have hall : l.all okBx = true → okBx (rd_T52 l k) = true := by
        intro h
        rw [List.all_eq_true] at h
        exact h _ (List.mem_of_mem_take (i := k + 1) (by rw [hx]; simp))
      have hnext : (l.take k).all okBx = true → okBx (rd_T52 l k) = true → (l.take (k + 1)).all okBx = true := by
        intro h1 h2
        rw [hx, List.all_append, h1, List.all_cons, h2]
        rfl
      have HC := Lib.hid (box_bad (rd_T52 l k).f0 (rd_T52 l k).f1 wr (GlobOk.below HG.out HB.out))
      have HA := Lib.hid hall
      have HN := Lib.hid hnext
      have HD := Lib.hid hc
      clear hx hall hnext hc
      have hq : (okB (rd_T52 l k).f0 && okB (rd_T52 l k).f1) = okBx (rd_T52 l k) := rfl
      rw [hq] at HC
      clear hq
      cases hs : okBx (rd_T52 l k) with
      | true =>
        rw [hs] at HC
        have HS := Lib.hid hs
        clear hs
        go_wp2_with (first
          | ((with_reducible refine gate_dst (N := 15) rfl ?_); refine load_row_at rfl 52 _ rfl _ rfl _ _ HD.out Tryz.underlying52 rfl (by kernel_rfl) ?_)
          | (go_at_call 115; refine HC.out.mono ?_; rintro e w1 ⟨rfl, hb⟩))
        go_roundw
        case rel => exact ⟨k + 1, by omega, by go_num, Lib.hid (HN.out HP.out HS.out), ⟨HB.out.trans (hb.mono HB.out.size)⟩⟩
        case measure => simp [intOf]; omega
      | false =>
        rw [hs] at HC HA
        clear hs
        go_wp2_with (first
          | ((with_reducible refine gate_dst (N := 15) rfl ?_); refine load_row_at rfl 52 _ rfl _ rfl _ _ HD.out Tryz.underlying52 rfl (by kernel_rfl) ?_)
          | (go_at_call 115; refine HC.out.mono ?_; rintro e w1 ⟨rfl, hb⟩))
        go_ret
        refine ⟨⟨_, rfl, ?_⟩, HB.out.trans (hb.mono HB.out.size)⟩
        rw [decide_eq_true (by omega)]
        cases h : l.all okBx with
        | true => exact absurd (HA.out h) (by decide)
        | false => rfl
    · have he : k = l.length := by omega
      have hp := HP.out
      rw [he, List.take_length] at hp
      have HQ := Lib.hid hp
      clear he hp
      go_wp2
      go_ret
      refine ⟨⟨_, rfl, ?_⟩, HB.out⟩
      rw [HQ.out]
      rfl
theorem names_contains (A : Option Addr) (c : Nat) (l : List ByteArray) (w : World) (hr : Kd.C Kd.string w A l.length l) (hG : GlobOk w) :
    Calls Tryz.prog 79 #[.slice A l.length c, .func (.func 113) #[] #[]] w fun e w' => e = .returned (.bool (!l.all okB)) ∧ Below w.heap.size w w' := by
  have HC := Lib.hid (names_index A c l w hr hG)
  clear hr hG
  go_enter Tryz.func79, Tryz.ntmps79
  go_wp2_with (go_at_call 109; refine HC.out.mono ?_; rintro e w1 ⟨⟨i, rfl, hi⟩, hb⟩; have HI := Lib.hid hi; clear hi)
  go_ret
  exact ⟨by rw [HI.out]; rfl, hb⟩
theorem boxes_contains (A : Option Addr) (c : Nat) (l : List Bx) (w : World) (hr : Kd.C k52 w A l.length l) (hG : GlobOk w) :
    Calls Tryz.prog 114 #[.slice A l.length c, .func (.func 115) #[] #[]] w fun e w' => e = .returned (.bool (!l.all okBx)) ∧ Below w.heap.size w w' := by
  have HC := Lib.hid (boxes_index A c l w hr hG)
  clear hr hG
  go_enter Tryz.func114, Tryz.ntmps114
  go_wp2_with (go_at_call 125; refine HC.out.mono ?_; rintro e w1 ⟨⟨i, rfl, hi⟩, hb⟩; have HI := Lib.hid hi; clear hi)
  go_ret
  exact ⟨by rw [HI.out]; rfl, hb⟩
theorem named_calls (A B : Option Addr) (c d : Nat) (l : List ByteArray) (bs : List Bx) (w : World) (hr : Kd.C Kd.string w A l.length l) (hb : Kd.C k52 w B bs.length bs) (hG : GlobOk w) :
    Calls Tryz.prog 97 #[.slice A l.length c, .slice B bs.length d] w fun e w' => e = .returned (.bool (namedB l bs)) ∧ Below w.heap.size w w' := by
  have HC := Lib.hid (names_contains A c l w hr hG)
  have HD : ∀ W, Below w.heap.size w W → _ := fun W hW => Lib.hid (boxes_contains B d bs W (Kd.C_below hb hW) (GlobOk.below hG hW))
  unfold namedB
  clear hr hb hG
  by_cases h1 : l.length ≤ 400
  · have g1 : decide ((l.length : Int) ≤ 400) = true := decide_eq_true (by omega)
    rw [decide_eq_true h1]
    clear h1
    by_cases h2 : bs.length ≤ 400
    · have g2 : decide ((bs.length : Int) ≤ 400) = true := decide_eq_true (by omega)
      rw [decide_eq_true h2]
      clear h2
      cases h3 : l.all okB with
      | false =>
        rw [h3] at HC
        clear h3
        go_enter Tryz.func97, Tryz.ntmps97
        go_wp2_with (go_at_call 79; refine HC.out.mono ?_; rintro e w1 ⟨rfl, hb⟩)
        go_ret
        exact ⟨rfl, hb⟩
      | true =>
        rw [h3] at HC
        clear h3
        cases h4 : bs.all okBx <;> rw [h4] at HD <;> clear h4
        all_goals
          go_enter Tryz.func97, Tryz.ntmps97
          go_wp2_with (first
            | (go_at_call 79; refine HC.out.mono ?_; rintro e w1 ⟨rfl, hb⟩)
            | (go_at_call 114; refine (HD _ hb).out.mono ?_; rintro e w2 ⟨rfl, hb2⟩))
          go_ret
          exact ⟨rfl, hb.trans (hb2.mono hb.size)⟩
    · have g2 : decide ((bs.length : Int) ≤ 400) = false := decide_eq_false (by omega)
      rw [decide_eq_false h2]
      clear h2
      go_enter Tryz.func97, Tryz.ntmps97
      go_wp2
      go_ret
      exact ⟨rfl, Below.refl _ _⟩
  · have g1 : decide ((l.length : Int) ≤ 400) = false := decide_eq_false (by omega)
    rw [decide_eq_false h1]
    clear h1
    go_enter Tryz.func97, Tryz.ntmps97
    go_wp2
    go_ret
    exact ⟨rfl, Below.refl _ _⟩
def impl_named.f (l : List ByteArray) (bs : List Bx) : Option Bool := some (namedB l bs)
theorem impl_named.calls (A0 : Option Addr) (c0 : Nat) (l0 : List ByteArray) (A1 : Option Addr) (c1 : Nat) (l1 : List Bx) (r : Bool) (w : World) (hr0 : Kd.C Kd.string w A0 l0.length l0) (hc0 : l0.length ≤ c0) (hr1 : Kd.C k52 w A1 l1.length l1) (hc1 : l1.length ≤ c1) (hG : GlobOk w) (h : impl_named.f l0 l1 = some r) :
    Calls Tryz.prog 97 #[.slice A0 l0.length c0, .slice A1 l1.length c1] w fun e w' => e = .returned (.bool r) ∧ Below w.heap.size w w' := by
  unfold impl_named.f at h
  obtain rfl := Option.some.inj h
  exact named_calls A0 A1 c0 c1 l0 l1 w hr0 hr1 hG

def impl_MemOwn_103.f (l : List Ow) : Option (List Ow) := if l.length < 4398046511104 then some l else none
theorem impl_MemOwn_103.calls (A0 : Option Addr) (c0 : Nat) (l0 : List Ow) (r : List Ow) (w : World) (hr0 : Kd.C k74 w A0 l0.length l0) (hc0 : l0.length ≤ c0) (h : impl_MemOwn_103.f l0 = some r) :
    Calls Tryz.prog 103 #[.slice A0 l0.length c0] w fun e w' => ∃ v0_ : Value, e = .returned (v0_) ∧ Kd.R k74 74 w' w.heap.size (fun _ => True) v0_ r ∧ Below w.heap.size w w' := by
  unfold impl_MemOwn_103.f at h
  split at h
  · rename_i hz
    obtain rfl := Option.some.inj h
    clear h
    cases A0 with
    | none =>
      have h0 : l0 = [] := by
        rcases Nat.eq_zero_or_pos l0.length with h | h
        · exact List.eq_nil_of_length_eq_zero h
        · obtain ⟨ad, he, _⟩ := hr0.2.2 h
          cases he
      subst h0
      have hq := Lib.run_eql_slice_nil (P := Tryz.prog) w 31 74 none 0 c0 0 0 Tryz.underlying31
      clear hr0 hz hc0
      go_enter Tryz.func103, Tryz.ntmps103
      go_wp2
      go_ret
      exact ⟨_, rfl, Kd.R_nil _ _ _ _ _, Below.refl _ _⟩
    | some ad =>
      have HR := Aside0.mk hr0
      have HZ := Aside0.mk hz
      have hq := Lib.run_eql_slice_nil (P := Tryz.prog) w 31 74 (some ad) l0.length c0 0 0 Tryz.underlying31
      clear hr0 hz hc0
      go_enter Tryz.func103, Tryz.ntmps103
      go_wp2_with (first
        | ((with_reducible refine gate_dst (N := 5) rfl ?_); refine Kd.R_lit k74 _ 74 ?hg (N := 5) ?hd (xs := ([] : List Ow)) (inner := []) (ok := fun _ => True) (okp := fun _ => True) ?hr ?hp (fun _ hk => hk) trivial (Below.refl _ _) (Nat.le_refl _) (by simp) ?_; (case hd => rfl); (case hg => rfl); (case hr => first | (go_simp; done) | (go_simp; rfl)); (case hp => exact (Reps.none _ _)); intro v1 w1 ho hb hg_ hnew_; clear hg_ hnew_; have HO := Aside0.mk ho; have HB := Aside0.mk hb; clear ho hb)
        | ((with_reducible refine gate_builtin (b := .append) (xs := #[.tmp 5, .tmp 6]) rfl ?_); at_builtin; refine Kd.R_append_rows k74 (w0 := w) w.heap.size rfl (.tmp 5) (.tmp 6) 31 74 (.agg #[(.int .i64 0), (.string ⟨#[]⟩)]) 24 rfl Tryz.underlying31 info74 rfl (by decide) (by omega) _ [] l0 (some ad) l0.length c0 (fun _ => True) (fun _ => False) rfl rfl ?aO ?aR (fun _ _ h => h) (fun _ h => h.elim) (fun _ _ => trivial) HB.out HB.out.size ?aL ?_; (case aO => exact HO.out); (case aR => exact Kd.C_below HR.out HB.out); (case aL => have := HZ.out; simp; omega); intro v2 w2 ho2 hb2 hg2 hat2; clear hg2 hat2; rw [List.nil_append] at ho2; have HO2 := Aside0.mk ho2; have HB2 := Aside0.mk hb2; clear ho2 hb2))
      go_ret
      exact ⟨_, rfl, HO2.out, HB2.out⟩
  · cases h
theorem clip_own (A : Option Addr) (n c : Nat) (w : World) (h : n ≤ c) (hm : n ≤ 9223372036854775807) :
    Calls Tryz.prog 102 #[.slice A n c] w fun e w' => e = .returned (.slice A n n) ∧ w' = w := by
  go_enter Tryz.func102, Tryz.ntmps102
  go_wp2
  go_ret
  exact ⟨rfl, rfl⟩
def strings_Count.f (a0 a1 : ByteArray) : Option Int := if a1 = ⟨#[59]⟩ then some (Lib.countByte a0.data.toList 59) else none
theorem strings_Count.calls (a0 a1 : ByteArray) (r : Int) (w : World) (h : strings_Count.f a0 a1 = some r) : Calls Tryz.prog 61 #[.string a0, .string a1] w fun e w' => e = .returned (.int .i64 r) ∧ Drawn0 w w' := by
  unfold strings_Count.f at h
  split at h
  · rename_i he
    subst he
    obtain rfl := Option.some.inj h
    refine (Tryz.strings_Count_one a0 59 w).mono ?_
    rintro e w' ⟨rfl, rfl⟩
    exact ⟨rfl, Drawn0.refl _⟩
  · cases h
end Go.Proofs.YtnemchmiplbopaaGreatDoor.Zj
