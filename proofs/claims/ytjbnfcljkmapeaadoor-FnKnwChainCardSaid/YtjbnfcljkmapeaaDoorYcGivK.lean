/- impl.named: its contract. impl.opened, impl.KnwMake, impl.KnwOpen, impl.KnwHas: their contracts. -/
import Derived.Test.YtjbnfcljkmapeaaDoorKnwN
import Derived.Test.YtjbnfcljkmapeaaDoorYcx0
namespace Go.Proofs.YtjbnfcljkmapeaaDoor.Yc
section
set_option linter.unusedSimpArgs false
set_option linter.unusedVariables false
set_option maxRecDepth 100000
open Go.RowKit Go.Maps Go.Proofs.YtjbnfcljkmapeaaDoor Go.Proofs.YtjbnfcljkmapeaaDoorW.PrintWords Go.Proofs.YtjbnfcljkmapeaaDoorW.PrintLast Go.Proofs.YtjbnfcljkmapeaaDoorW.PrintMore Go.Proofs.YtjbnfcljkmapeaaDoor.Th Go.Proofs.YtjbnfcljkmapeaaDoor.SetW

abbrev Bx := S45
def okB (s : ByteArray) : Bool := (nm s).isSome
def okBx (b : Bx) : Bool := okB b.f0 && okB b.f1
def pairs (bs : List Bx) : List (ByteArray × ByteArray) := bs.map fun b => (b.f0, b.f1)
def namedB (known : List ByteArray) (bs : List Bx) : Bool := decide (known.length ≤ 400) && (decide (bs.length ≤ 400) && (known.all okB && bs.all okBx))

theorem load_row_at {P : Program} {ops : Array Oper} {rest : List Oper} {op : Oper} {a : Act} {w : World} {Q : Exit → Act → World → Prop} (hgd : op.guard = none) (ty : TypeId) (x : Operand) (ho : op.op = .load ty x)
    (p : Addr) (hx : a.eval x = .pointer (some p)) (cs : List Value) (d : TypeDesc) (hc : ∀ j v, cs[j]? = some v → w.cell? (p.add j) = some v)
    (hu : P.underlying ty = some d) (hd : (match d with | .struct _ | .array _ _ => true | _ => false) = true) (hi : (P.info? ty).map (·.size) = some cs.length)
    (h : wpList P ops Q rest (a.put op.dst (.agg cs.toArray)) w) : wpList P ops Q (op :: rest) a w := by
  have hl : (loadCells p cs.length).run P w = .ok cs.toArray w := run_loadCells_list (P := P) w p cs hc
  have hv : (loadVar ty p).run P w = .ok (.agg cs.toArray) w := by
    cases hq : P.info? ty with
    | none => simp [hq] at hi
    | some i =>
      have hs : i.size = cs.length := by simpa [hq] using hi
      have hagg : (isAgg ty).run P w = .ok true w := by
        unfold isAgg
        rw [Sem.run_bind, run_underlying hu w]
        cases d <;> simp_all
      simp [loadVar, Sem.run_bind, hagg, sizeOf, typeInfo, hq, hs, hl]
  refine wpList_plain hgd fun _ hK => ?_
  unfold Oper.wp execOp
  simp only [ho, hx, Instr.loadAt, Instr.sureAddr, Sem.run_bind, Sem.run_pure, Result.andThen_ok, hv]
  exact hK _ _ h
theorem box_at {w : World} {A : Option Addr} {n : Nat} {xs : List Bx} (h : Kd.C k45 w A n xs) (i : Nat) (h1 : i < n) :
    ∃ ad, A = some ad ∧ ∀ j v, [Value.string (rd_T45 xs i).f0, .string (rd_T45 xs i).f1][j]? = some v → w.cell? ((ad.add (i * 2)).add j) = some v := by
  obtain ⟨ad, c, e, _, hK, hc0⟩ := Kd.C_get h z45 (i : Int) (by omega) (by omega)
  obtain rfl := k45_open hK
  rw [Int.toNat_natCast] at hc0
  exact ⟨ad, e, fun j v hj => by rw [Addr.add_add]; exact hc0 j v hj⟩

theorem name_bad (s : ByteArray) (w : World) (hG : GlobOk w) :
    Calls Tryd.prog 57 #[.string s] w fun e w' => e = .returned (.bool (!okB s)) ∧ Below w.heap.size w w' := by
  have HM := Lib.hid (impl_SecOk.calls s (okB s) w hG rfl)
  clear hG
  go_enter Tryd.func57, Tryd.ntmps57
  go_wp2_with (go_at_call 22; refine HM.out.mono ?_; rintro e w1 ⟨rfl, hb⟩)
  go_ret
  exact ⟨rfl, hb⟩
theorem box_bad (x y : ByteArray) (w : World) (hG : GlobOk w) :
    Calls Tryd.prog 59 #[.agg #[.string x, .string y]] w fun e w' => e = .returned (.bool (!(okB x && okB y))) ∧ Below w.heap.size w w' := by
  have hu := Tryd.underlying45
  have HB0 := Lib.hid (below_alloc (Below.refl w.heap.size w) (.cells #[.string x, .string y] 45))
  have HG0 := Lib.hid (GlobOk.below hG HB0.out)
  clear hG
  cases hx : okB x with
  | false =>
    have HM := Lib.hid (impl_SecOk.calls x false _ HG0.out (by unfold impl_SecOk.f; rw [show (nm x).isSome = false from hx]))
    clear hx
    go_enter Tryd.func59, Tryd.ntmps59
    go_wp2_with (go_at_call 22; with_reducible refine HM.out.mono ?_; rintro e w1 ⟨rfl, hb⟩; have HB1 := Lib.hid (HB0.out.trans (hb.mono HB0.out.size)); clear hb)
    go_ret
    exact ⟨rfl, HB1.out⟩
  | true =>
    have HM := Lib.hid (impl_SecOk.calls x true _ HG0.out (by unfold impl_SecOk.f; rw [show (nm x).isSome = true from hx]))
    have HY : ∀ W, GlobOk W → _ := fun W hW => Lib.hid (impl_SecOk.calls y (okB y) W hW rfl)
    clear hx
    cases hy : okB y <;> rw [hy] at HY <;> clear hy
    all_goals
      go_enter Tryd.func59, Tryd.ntmps59
      go_wp2_with (first
        | (go_at_call 22; with_reducible refine HM.out.mono ?_; rintro e w1 ⟨rfl, hb⟩; have c1 : w1.cell? ⟨w.heap.size, 1, none⟩ = some (.string y) := ((bcell hb).1 _ _ (by simp)).trans ((blk_cell (blk_self _ _) 1).trans rfl); have HB1 := Lib.hid (HB0.out.trans (hb.mono HB0.out.size)); have HG1 := Lib.hid (GlobOk.below HG0.out hb); clear hb)
        | (go_at_call 22; with_reducible refine (HY _ HG1.out).out.mono ?_; rintro e w2 ⟨rfl, hb2⟩; have HB2 := Lib.hid (HB1.out.trans (hb2.mono HB1.out.size)); clear hb2))
      go_ret
      exact ⟨rfl, HB2.out⟩
/-! ### The rows -/
theorem names_index (A : Option Addr) (c : Nat) (l : List ByteArray) (w : World) (hr : Kd.C Kd.string w A l.length l) (hG : GlobOk w) :
    Calls Tryd.prog 77 #[.slice A l.length c, .func (.func 57) #[] #[]] w fun e w' => (∃ i : Int, e = .returned (.int .i64 i) ∧ decide (0 ≤ i) = !l.all okB) ∧ Below w.heap.size w w' := by
  have hmx : l.length ≤ 9223372036854775807 := hr.2.1
  go_enter Tryd.func77, Tryd.ntmps77
  go_wp2
  have HR := Aside0.mk hr
  have HG := Aside0.mk hG
  clear hr hG
  go_loopw [8] (fun i wr => ∃ k : Nat, k ≤ l.length ∧ i = .int .i64 k ∧ Hid ((l.take k).all okB = true) ∧ Aside0 (Below w.heap.size w wr)) (fun i _ => l.length - (intOf i).toNat)
  case atStart => exact ⟨0, Nat.zero_le _, rfl, Lib.hid (by simp), ⟨Below.refl _ _⟩⟩
  case round =>
    obtain ⟨k, hk, rfl, HP, HB⟩ := hrel
    by_cases hlt : k < l.length
    · obtain ⟨ad, rfl, hc⟩ := Kd.at_string (Kd.C_below HR.out HB.out) (k : Int) (by omega) (by omega)
      rw [Int.toNat_natCast] at hc
      have hx : l.take (k + 1) = l.take k ++ [rdOf ByteArray.empty l k] := by
        rw [List.take_succ_eq_append_getElem hlt]
        unfold rdOf
        rw [Int.toNat_natCast, List.getD_eq_getElem?_getD, List.getElem?_eq_getElem hlt]
        rfl
      have hall : l.all okB = true → okB (rdOf ByteArray.empty l k) = true := by
        intro h
        rw [List.all_eq_true] at h
        exact h _ (List.mem_of_mem_take (i := k + 1) (by rw [hx]; simp))
      have hnext : (l.take k).all okB = true → okB (rdOf ByteArray.empty l k) = true → (l.take (k + 1)).all okB = true := by
        intro h1 h2
        rw [hx, List.all_append, h1, List.all_cons, h2]
        rfl
      have HC := Lib.hid (name_bad (rdOf ByteArray.empty l k) wr (GlobOk.below HG.out HB.out))
      have HA := Lib.hid hall
      have HN := Lib.hid hnext
      clear hx hall hnext
      cases hs : okB (rdOf ByteArray.empty l k) with
      | true =>
        rw [hs] at HC
        have HS := Lib.hid hs
        clear hs
        go_wp2_with (go_at_call 57; refine HC.out.mono ?_; rintro e w1 ⟨rfl, hb⟩)
        go_roundw
        case rel => exact ⟨k + 1, by omega, by go_num, Lib.hid (HN.out HP.out HS.out), ⟨HB.out.trans (hb.mono HB.out.size)⟩⟩
        case measure => simp [intOf]; omega
      | false =>
        rw [hs] at HC HA
        clear hs
        go_wp2_with (go_at_call 57; refine HC.out.mono ?_; rintro e w1 ⟨rfl, hb⟩)
        go_ret
        refine ⟨⟨_, rfl, ?_⟩, HB.out.trans (hb.mono HB.out.size)⟩
        rw [decide_eq_true (by omega)]
        cases h : l.all okB with
        | true => exact absurd (HA.out h) (by decide)
        | false => rfl
    · have he : k = l.length := by omega
      have hp := HP.out
      rw [he, List.take_length] at hp
      have HQ := Lib.hid hp
      clear he hp
      go_wp2
      go_ret
      refine ⟨⟨_, rfl, ?_⟩, HB.out⟩
      rw [HQ.out]
      rfl
theorem boxes_index (A : Option Addr) (c : Nat) (l : List Bx) (w : World) (hr : Kd.C k45 w A l.length l) (hG : GlobOk w) :
    Calls Tryd.prog 78 #[.slice A l.length c, .func (.func 59) #[] #[]] w fun e w' => (∃ i : Int, e = .returned (.int .i64 i) ∧ decide (0 ≤ i) = !l.all okBx) ∧ Below w.heap.size w w' := by
  have hmx : l.length ≤ 9223372036854775807 := hr.2.1
  go_enter Tryd.func78, Tryd.ntmps78
  go_wp2
  have HR := Aside0.mk hr
  have HG := Aside0.mk hG
  clear hr hG
  go_loopw [8] (fun i wr => ∃ k : Nat, k ≤ l.length ∧ i = .int .i64 k ∧ Hid ((l.take k).all okBx = true) ∧ Aside0 (Below w.heap.size w wr)) (fun i _ => l.length - (intOf i).toNat)
  case atStart => exact ⟨0, Nat.zero_le _, rfl, Lib.hid (by simp), ⟨Below.refl _ _⟩⟩
  case round =>
    obtain ⟨k, hk, rfl, HP, HB⟩ := hrel
    by_cases hlt : k < l.length
    · obtain ⟨ad, rfl, hc⟩ := box_at (Kd.C_below HR.out HB.out) k hlt
      have hx : l.take (k + 1) = l.take k ++ [rd_T45 l k] := by
        rw [List.take_succ_eq_append_getElem hlt]
        unfold rd_T45
        rw [Int.toNat_natCast, List.getD_eq_getElem?_getD, List.getElem?_eq_getElem hlt]
        rfl
      have hall : l.all okBx = true → okBx (rd_T45 l k) = true := by
        intro h
        rw [List.all_eq_true] at h
        exact h _ (List.mem_of_mem_take (i := k + 1) (by rw [hx]; simp))
      have hnext : (l.take k).all okBx = true → okBx (rd_T45 l k) = true → (l.take (k + 1)).all okBx = true := by
        intro h1 h2
        rw [hx, List.all_append, h1, List.all_cons, h2]
        rfl
      have HC := Lib.hid (box_bad (rd_T45 l k).f0 (rd_T45 l k).f1 wr (GlobOk.below HG.out HB.out))
      have HA := Lib.hid hall
      have HN := Lib.hid hnext
      have HD := Lib.hid hc
      clear hx hall hnext hc
      have hq : (okB (rd_T45 l k).f0 && okB (rd_T45 l k).f1) = okBx (rd_T45 l k) := rfl
      rw [hq] at HC
      clear hq
      cases hs : okBx (rd_T45 l k) with
      | true =>
        rw [hs] at HC
        have HS := Lib.hid hs
        clear hs
        go_wp2_with (first
          | ((with_reducible refine gate_dst (N := 15) rfl ?_); refine load_row_at rfl 45 _ rfl _ rfl _ _ HD.out Tryd.underlying45 rfl (by kernel_rfl) ?_)
          | (go_at_call 59; refine HC.out.mono ?_; rintro e w1 ⟨rfl, hb⟩))
        go_roundw
        case rel => exact ⟨k + 1, by omega, by go_num, Lib.hid (HN.out HP.out HS.out), ⟨HB.out.trans (hb.mono HB.out.size)⟩⟩
        case measure => simp [intOf]; omega
      | false =>
        rw [hs] at HC HA
        clear hs
        go_wp2_with (first
          | ((with_reducible refine gate_dst (N := 15) rfl ?_); refine load_row_at rfl 45 _ rfl _ rfl _ _ HD.out Tryd.underlying45 rfl (by kernel_rfl) ?_)
          | (go_at_call 59; refine HC.out.mono ?_; rintro e w1 ⟨rfl, hb⟩))
        go_ret
        refine ⟨⟨_, rfl, ?_⟩, HB.out.trans (hb.mono HB.out.size)⟩
        rw [decide_eq_true (by omega)]
        cases h : l.all okBx with
        | true => exact absurd (HA.out h) (by decide)
        | false => rfl
    · have he : k = l.length := by omega
      have hp := HP.out
      rw [he, List.take_length] at hp
      have HQ := Lib.hid hp
      clear he hp
      go_wp2
      go_ret
      refine ⟨⟨_, rfl, ?_⟩, HB.out⟩
      rw [HQ.out]
      rfl
theorem names_contains (A : Option Addr) (c : Nat) (l : List ByteArray) (w : World) (hr : Kd.C Kd.string w A l.length l) (hG : GlobOk w) :
    Calls Tryd.prog 56 #[.slice A l.length c, .func (.func 57) #[] #[]] w fun e w' => e = .returned (.bool (!l.all okB)) ∧ Below w.heap.size w w' := by
  have HC := Lib.hid (names_index A c l w hr hG)
  clear hr hG
  go_enter Tryd.func56, Tryd.ntmps56
  go_wp2_with (go_at_call 77; refine HC.out.mono ?_; rintro e w1 ⟨⟨i, rfl, hi⟩, hb⟩; have HI := Lib.hid hi; clear hi)
  go_ret
  exact ⟨by rw [HI.out]; rfl, hb⟩
theorem boxes_contains (A : Option Addr) (c : Nat) (l : List Bx) (w : World) (hr : Kd.C k45 w A l.length l) (hG : GlobOk w) :
    Calls Tryd.prog 58 #[.slice A l.length c, .func (.func 59) #[] #[]] w fun e w' => e = .returned (.bool (!l.all okBx)) ∧ Below w.heap.size w w' := by
  have HC := Lib.hid (boxes_index A c l w hr hG)
  clear hr hG
  go_enter Tryd.func58, Tryd.ntmps58
  go_wp2_with (go_at_call 78; refine HC.out.mono ?_; rintro e w1 ⟨⟨i, rfl, hi⟩, hb⟩; have HI := Lib.hid hi; clear hi)
  go_ret
  exact ⟨by rw [HI.out]; rfl, hb⟩
theorem named_calls (A B : Option Addr) (c d : Nat) (l : List ByteArray) (bs : List Bx) (w : World) (hr : Kd.C Kd.string w A l.length l) (hb : Kd.C k45 w B bs.length bs) (hG : GlobOk w) :
    Calls Tryd.prog 37 #[.slice A l.length c, .slice B bs.length d] w fun e w' => e = .returned (.bool (namedB l bs)) ∧ Below w.heap.size w w' := by
  have HC := Lib.hid (names_contains A c l w hr hG)
  have HD : ∀ W, Below w.heap.size w W → _ := fun W hW => Lib.hid (boxes_contains B d bs W (Kd.C_below hb hW) (GlobOk.below hG hW))
  unfold namedB
  clear hr hb hG
  by_cases h1 : l.length ≤ 400
  · have g1 : decide ((l.length : Int) ≤ 400) = true := decide_eq_true (by omega)
    rw [decide_eq_true h1]
    clear h1
    by_cases h2 : bs.length ≤ 400
    · have g2 : decide ((bs.length : Int) ≤ 400) = true := decide_eq_true (by omega)
      rw [decide_eq_true h2]
      clear h2
      cases h3 : l.all okB with
      | false =>
        rw [h3] at HC
        clear h3
        go_enter Tryd.func37, Tryd.ntmps37
        go_wp2_with (go_at_call 56; refine HC.out.mono ?_; rintro e w1 ⟨rfl, hb⟩)
        go_ret
        exact ⟨rfl, hb⟩
      | true =>
        rw [h3] at HC
        clear h3
        cases h4 : bs.all okBx <;> rw [h4] at HD <;> clear h4
        all_goals
          go_enter Tryd.func37, Tryd.ntmps37
          go_wp2_with (first
            | (go_at_call 56; refine HC.out.mono ?_; rintro e w1 ⟨rfl, hb⟩)
            | (go_at_call 58; refine (HD _ hb).out.mono ?_; rintro e w2 ⟨rfl, hb2⟩))
          go_ret
          exact ⟨rfl, hb.trans (hb2.mono hb.size)⟩
    · have g2 : decide ((bs.length : Int) ≤ 400) = false := decide_eq_false (by omega)
      rw [decide_eq_false h2]
      clear h2
      go_enter Tryd.func37, Tryd.ntmps37
      go_wp2
      go_ret
      exact ⟨rfl, Below.refl _ _⟩
  · have g1 : decide ((l.length : Int) ≤ 400) = false := decide_eq_false (by omega)
    rw [decide_eq_false h1]
    clear h1
    go_enter Tryd.func37, Tryd.ntmps37
    go_wp2
    go_ret
    exact ⟨rfl, Below.refl _ _⟩
end
end Go.Proofs.YtjbnfcljkmapeaaDoor.Yc
namespace Go.Proofs.YtjbnfcljkmapeaaDoor.Yc
section
set_option linter.unusedSimpArgs false
set_option linter.unusedVariables false
set_option maxRecDepth 100000
open Go.RowKit Go.Maps Go.Proofs.YtjbnfcljkmapeaaDoor Go.Proofs.YtjbnfcljkmapeaaDoorW.PrintWords Go.Proofs.YtjbnfcljkmapeaaDoorW.PrintLast Go.Proofs.YtjbnfcljkmapeaaDoorW.PrintMore Go.Proofs.YtjbnfcljkmapeaaDoor.Th Go.Proofs.YtjbnfcljkmapeaaDoor.SetW

/-! ### plain -/
theorem fold_bound {mk : List ByteArray → ByteArray → Bool} (bs : List (ByteArray × ByteArray)) : ∀ (cs : List (ByteArray × ByteArray)) (o : List ByteArray), (∀ b ∈ cs, b ∈ bs) → (cs.foldl (boxB mk) o).length + left bs (cs.foldl (boxB mk) o) ≤ o.length + left bs o := by
  intro cs
  induction cs with
  | nil => intro o _; exact Nat.le_refl _
  | cons c cs ic =>
    intro o ha
    rw [List.foldl_cons]
    refine Nat.le_trans (ic _ (fun b hb => ha b (by simp [hb]))) ?_
    by_cases hc : (!hasB o c.2 && mk o c.1) = true
    · have e : boxB mk o c = o ++ [c.2] := if_pos hc
      have := fold_left (mk := mk) bs [c] o (fun b hb => by rw [List.mem_singleton] at hb; subst hb; exact ha _ (by simp)) (by rw [List.foldl_cons, List.foldl_nil, e]; simp)
      rw [List.foldl_cons, List.foldl_nil] at this
      rw [e] at this ⊢
      simp only [List.length_append, List.length_singleton]
      omega
    · have e : boxB mk o c = o := if_neg hc
      rw [e]; exact Nat.le_refl _
theorem all_box {bs : List Bx} {k : Nat} (h : bs.all okBx = true) (hk : k < bs.length) : okB (rd_T45 bs k).f0 = true ∧ okB (rd_T45 bs k).f1 = true := by
  rw [List.all_eq_true] at h
  have := h (rd_T45 bs k) (by
    unfold rd_T45
    rw [Int.toNat_natCast, List.getD_eq_getElem?_getD, List.getElem?_eq_getElem hk]
    exact List.getElem_mem hk)
  unfold okBx at this
  rwa [Bool.and_eq_true] at this
theorem ok_size {s : ByteArray} (h : okB s = true) : s.size ≤ 300 := by
  unfold okB at h
  cases hn : nm s with
  | none => rw [hn] at h; exact absurd h (by decide)
  | some a => exact (nm_some.1 hn).2.1
theorem take_put {l : List ByteArray} {k : Nat} (h : k < l.length) : (l.take (k + 1)).foldl putB [] = putB ((l.take k).foldl putB []) (rdOf ByteArray.empty l k) := by
  rw [List.take_succ_eq_append_getElem h, List.foldl_append]
  unfold rdOf
  rw [Int.toNat_natCast, List.getD_eq_getElem?_getD, List.getElem?_eq_getElem h]
  rfl
theorem take_box {mk : List ByteArray → ByteArray → Bool} {bs : List Bx} {k : Nat} (h : k < bs.length) (o : List ByteArray) :
    ((pairs bs).take (k + 1)).foldl (boxB mk) o = boxB mk (((pairs bs).take k).foldl (boxB mk) o) ((rd_T45 bs k).f0, (rd_T45 bs k).f1) := by
  have h' : k < (pairs bs).length := by unfold pairs; rw [List.length_map]; exact h
  rw [List.take_succ_eq_append_getElem h', List.foldl_append]
  unfold rd_T45
  rw [Int.toNat_natCast, List.getD_eq_getElem?_getD, List.getElem?_eq_getElem h]
  simp [pairs]
theorem mem_rd {l : List ByteArray} {k : Nat} (h : k < l.length) : rdOf ByteArray.empty l k ∈ l := by
  unfold rdOf
  rw [Int.toNat_natCast, List.getD_eq_getElem?_getD, List.getElem?_eq_getElem h]
  exact List.getElem_mem h
/-- How long the list is, as its variable tells. -/
def outLen (w : World) (g : Nat) : Nat := match w.cell? ⟨g, 0, none⟩ with
  | some (.slice _ n _) => n
  | _ => 0
theorem opn_out {w0 w : World} {g1 g2 bm : Nat} {o : List ByteArray} (h : Opn w0 w g1 g2 bm o) : ∃ A c, w.cell? ⟨g1, 0, none⟩ = some (.slice A o.length c) ∧ o.length ≤ c ∧ Kd.R Kd.string 9 w w0.heap.size (fun k => k ≠ g1 ∧ k ≠ g2 ∧ k ≠ bm) (.slice A o.length c) o := by
  obtain ⟨v, h1, h2, h3, h4, _⟩ := h
  obtain ⟨A, c, rfl, hc, _⟩ := Kd.R_reads h4
  exact ⟨A, c, blk_cell h1 0, hc, h4⟩
theorem opn_len {w0 w : World} {g1 g2 bm : Nat} {o : List ByteArray} (h : Opn w0 w g1 g2 bm o) : outLen w g1 = o.length := by
  obtain ⟨A, c, hc, _⟩ := opn_out h
  unfold outLen
  rw [hc]
theorem opn_set {w0 w : World} {g1 g2 bm : Nat} {o : List ByteArray} (h : Opn w0 w g1 g2 bm o) : KSet w bm o.length o ∧ w.cell? ⟨g2, 0, none⟩ = some (.map (some bm)) ∧ g2 < w.heap.size ∧ Below w0.heap.size w0 w := by
  obtain ⟨v, h1, h2, h3, h4, h5, _⟩ := h
  exact ⟨h3, blk_cell h2 0, blk_lt h2, h5⟩
theorem put_calls {w0 w : World} {g1 g2 bm : Nat} {o : List ByteArray} {s : ByteArray} (h : Opn w0 w g1 g2 bm o) (hs : s.size ≤ 300) (ho : o.length ≤ 1000) :
    Calls Tryd.prog 60 #[.string s, .pointer (some ⟨g2, 0, none⟩), .pointer (some ⟨g1, 0, none⟩)] w fun e w' => e = .returned (.tuple #[]) ∧ Opn w0 w' g1 g2 bm (putB o s) := by
  unfold putB
  cases hh : hasB o s with
  | true =>
    rw [if_pos rfl]
    refine (put_old h hs hh).mono ?_
    rintro e w' ⟨rfl, rfl⟩
    exact ⟨rfl, h⟩
  | false =>
    rw [if_neg (by decide)]
    exact put_new h hs hh ho
theorem clip_str (A : Option Addr) (n c : Nat) (w : World) (h : n ≤ c) (hm : n ≤ 9223372036854775807) :
    Calls Tryd.prog 61 #[.slice A n c] w fun e w' => e = .returned (.slice A n n) ∧ w' = w := by
  go_enter Tryd.func61, Tryd.ntmps61
  go_wp2
  go_ret
  exact ⟨rfl, rfl⟩
theorem q_clip {α : Type} {d : Kd α} {e : Nat} {w : World} {base : Nat} {ok : Nat → Prop} {A : Option Addr} {n c : Nat} {xs : List α} (h : d.Q e w base ok (.slice A n c) xs) : d.Q e w base ok (.slice A n n) xs := by
  have hO : (Value.slice A n n).ownBlock = (Value.slice A n c).ownBlock := by cases A <;> rfl
  obtain ⟨h0, inner, ⟨h1, h2⟩, hr⟩ := h
  refine ⟨by rw [hO]; exact h0, inner, ⟨h1, ?_⟩, by rw [hO]; exact hr⟩
  rcases h2 with ⟨hz, A', he, hA⟩ | ⟨g, off, cap, cur, he, hb, hh, hnc, hcm, hcs, ht⟩
  · injection he with e1 e2 e3
    subst e1; subst e2
    exact .inl ⟨hz, A, rfl, hA⟩
  · injection he with e1 e2 e3
    subst e1; subst e2; subst e3
    exact .inr ⟨g, off, xs.length, cur, rfl, hb, hh, Nat.le_refl _, by omega, Nat.le_trans (Nat.mul_le_mul_right _ (by omega)) hcs, ht⟩
/-- A round's end: more, or all that is opened. -/
def EndB (bs : List (ByteArray × ByteArray)) (R : List ByteArray) (more : Bool) (o : List ByteArray) : Prop := if more = true then opnB mkS bs (left bs o + 1) o = R else o = R
theorem end_round {bs : List (ByteArray × ByteArray)} {R o : List ByteArray} (h : EndB bs R true o) : EndB bs R (decide (o.length < (roundB mkS bs o).length)) (roundB mkS bs o) := by
  unfold EndB at h ⊢
  rw [if_pos rfl] at h
  unfold opnB at h
  by_cases hc : o.length < (roundB mkS bs o).length
  · rw [if_pos hc] at h
    rw [decide_eq_true hc, if_pos rfl, ← h]
    have := round_left hc
    exact opn_more bs _ _ _ (by omega) (by omega)
  · rw [if_neg hc] at h
    rw [decide_eq_false hc, if_neg (by decide), round_same hc, h]

theorem opn_start (w : World) : Opn w (((w.alloc (.cells #[.slice none 0 0] 23)).alloc (.map #[] 0)).alloc (.cells #[.map (some (w.heap.size + 1))] 57)) w.heap.size (w.heap.size + 2) (w.heap.size + 1) [] := by
  have e1 : (w.alloc (.cells #[.slice none 0 0] 23)).heap.size = w.heap.size + 1 := by simp
  have e2 : ((w.alloc (.cells #[.slice none 0 0] 23)).alloc (.map #[] 0)).heap.size = w.heap.size + 2 := by simp
  refine ⟨.slice none 0 0, blk_alloc (blk_alloc (blk_self _ _) _) _, ?_, ?_, Kd.R_nil _ _ _ _ _, below_alloc (below_alloc (below_alloc (Below.refl _ _) _) _) _, Nat.le_refl _, by omega, by omega, by omega, by omega, by omega⟩
  · have h := blk_self ((w.alloc (.cells #[.slice none 0 0] 23)).alloc (.map #[] 0)) (.cells #[.map (some (w.heap.size + 1))] 57)
    rw [e2] at h
    exact h
  · have h := (IsSet.made Tryd.prog 9 4 (w.alloc (.cells #[.slice none 0 0] 23))).alloc (.cells #[.map (some (w.heap.size + 1))] 57)
    rw [e1] at h
    exact h
theorem w64_nat {k : Nat} (h : k ≤ 1000000) : wrap64 ((k : Int) + 1) = (k : Int) + 1 := by unfold wrap64; omega
theorem fold_put_le (l : List ByteArray) (k : Nat) : ((l.take k).foldl putB []).length ≤ l.length := by
  have := dedup_length_le (l.take k) []
  rw [List.length_take, List.length_nil] at this
  omega
theorem pairs_len (bs : List Bx) : (pairs bs).length = bs.length := by unfold pairs; rw [List.length_map]
def moreN : Value → Nat
  | .bool true => 1
  | _ => 0
set_option maxHeartbeats 8000000 in
theorem opened_calls (A B : Option Addr) (c d : Nat) (l : List ByteArray) (bs : List Bx) (w : World) (hr : Kd.C Kd.string w A l.length l) (hb : Kd.C k45 w B bs.length bs) (hG : GlobOk w)
    (h1 : l.length ≤ 400) (h2 : bs.length ≤ 400) (h3 : l.all okB = true) (h4 : bs.all okBx = true) :
    Calls Tryd.prog 38 #[.slice A l.length c, .slice B bs.length d] w fun e w' => ∃ v, e = .returned v ∧ Kd.Q Kd.string 9 w' w.heap.size (fun _ => True) v (openB mkS l (pairs bs)) ∧ Below w.heap.size w w' := by
  have hmm := @run_makeMap Tryd.prog
  go_enter Tryd.func38, Tryd.ntmps38
  go_wp2
  have HR := Aside0.mk hr
  have HBX := Aside0.mk hb
  have HG := Aside0.mk hG
  have L1 := Aside0.mk h1
  have L2 := Aside0.mk h2
  have O1 := Aside0.mk h3
  have O2 := Aside0.mk h4
  clear hr hb hG h1 h2 h3 h4
  go_loopw [18] (fun i wr => ∃ k : Nat, k ≤ l.length ∧ i = .int .i64 k ∧ Hid (Opn w wr w.heap.size (w.heap.size + 2) (w.heap.size + 1) ((l.take k).foldl putB []))) (fun i _ => l.length - (intOf i).toNat)
  case atStart => exact ⟨0, Nat.zero_le _, rfl, Lib.hid (opn_start w)⟩
  case round =>
    obtain ⟨k, hk, rfl, HK⟩ := hrel
    by_cases hlt : k < l.length
    · obtain ⟨ad, rfl, hc⟩ := Kd.at_string (Kd.C_below HR.out (opn_set HK.out).2.2.2) (k : Int) (by omega) (by omega)
      rw [Int.toNat_natCast] at hc
      have HP := Lib.hid (put_calls HK.out (ok_size (List.all_eq_true.1 O1.out _ (mem_rd hlt))) (by have := fold_put_le l k; have := L1.out; omega))
      have HT := Lib.hid (take_put hlt)
      have hw_ := w64_nat (k := k) (by have := L1.out; omega)
      go_wp2_with (go_at_call 60; refine HP.out.mono ?_; rintro e w1 ⟨rfl, ho⟩; have HO1 := Lib.hid ho; clear ho)
      go_roundw
      case rel => exact ⟨k + 1, by omega, by rw [hw_]; rfl, Lib.hid (by rw [HT.out]; exact HO1.out)⟩
      case measure => rw [hw_]; simp [intOf]; omega
    · have he : k = l.length := by omega
      subst he
      have hD := HK.out
      rw [List.take_length] at hD
      have HD := Lib.hid hD
      clear hD hlt hk HK
      go_wp2
      go_loopw [10] (fun more wq => ∃ (m : Bool) (o : List ByteArray), more = .bool m ∧ Hid (Opn w wq w.heap.size (w.heap.size + 2) (w.heap.size + 1) o) ∧ Hid (o.length + left (pairs bs) o ≤ 800) ∧ Hid (EndB (pairs bs) (openB mkS l (pairs bs)) m o)) (fun more wq => 2 * (800 - outLen wq w.heap.size) + moreN more)
      case atStart =>
        refine ⟨true, l.foldl putB [], rfl, HD, Lib.hid ?_, Lib.hid ?_⟩
        · have q1 := left_le (pairs bs) (l.foldl putB [])
          have q2 := fold_put_le l l.length
          rw [List.take_length] at q2
          rw [pairs_len] at q1
          have := L1.out
          have := L2.out
          omega
        · unfold EndB openB
          rw [if_pos rfl]
          have q1 := left_le (pairs bs) (dedup l)
          show opnB mkS (pairs bs) (left (pairs bs) (dedup l) + 1) (dedup l) = opnB mkS (pairs bs) ((pairs bs).length + 1) (dedup l)
          exact opn_more (pairs bs) _ _ _ (Nat.lt_succ_self _) (by omega)
      case round =>
        obtain ⟨m, o, rfl, HK, HL, HE⟩ := hrel
        obtain ⟨A1, q1, hc1, hq1, hR1⟩ := opn_out HK.out
        cases m with
        | false =>
          have HQ := Lib.hid hR1
          have HCL := fun W => Lib.hid (clip_str A1 o.length q1 W hq1 (by have := HL.out; omega))
          have HB := Lib.hid (opn_set HK.out).2.2.2
          clear hR1 hq1
          go_wp2_with (go_at_call 61; refine (HCL _).out.mono ?_; rintro e w1 ⟨rfl, rfl⟩)
          go_ret
          have hE := HE.out
          unfold EndB at hE
          rw [if_neg (by decide)] at hE
          rw [← hE]
          exact ⟨_, rfl, q_clip (Kd.Q_mono (Kd.Q_of_R HQ.out) (fun _ _ => trivial)), HB.out⟩
        | true =>
          clear hR1 hq1
          go_wp2
          go_loopw [31] (fun i wi => ∃ j : Nat, j ≤ bs.length ∧ i = .int .i64 j ∧ Hid (Opn w wi w.heap.size (w.heap.size + 2) (w.heap.size + 1) (((pairs bs).take j).foldl (boxB mkS) o))) (fun i _ => bs.length - (intOf i).toNat)
          case atStart => exact ⟨0, Nat.zero_le _, rfl, HK⟩
          case round =>
            obtain ⟨j, hj, rfl, HJ⟩ := hrel
            by_cases hlt : j < bs.length
            · obtain ⟨ad, rfl, hcb⟩ := box_at (Kd.C_below HBX.out (opn_set HJ.out).2.2.2) j hlt
              have HBC := Lib.hid hcb
              obtain ⟨hS, hc2, hl2, hbel⟩ := opn_set HJ.out
              have HOA := Lib.hid (HJ.out.below (below_alloc (Below.refl _ _) (.cells #[.string (rd_T45 bs j).f0, .string (rd_T45 bs j).f1] 45)))
              have HST := Lib.hid (hS.alloc (.cells #[.string (rd_T45 bs j).f0, .string (rd_T45 bs j).f1] 45))
              have c2 : (wr.alloc (.cells #[.string (rd_T45 bs j).f0, .string (rd_T45 bs j).f1] 45)).cell? ⟨w.heap.size + 2, 0, none⟩ = some (.map (some (w.heap.size + 1))) := (opn_set HOA.out).2.1
              obtain ⟨hb0, hb1⟩ := all_box O2.out hlt
              have HZ1 := Lib.hid (ok_size hb1)
              have hw_ := w64_nat (k := j) (by have := L2.out; omega)
              have HT := Lib.hid (take_box (mk := mkS) hlt o)
              have HLE := Lib.hid (fold_bound (mk := mkS) (pairs bs) ((pairs bs).take j) o (fun b hb => List.mem_of_mem_take hb))
              generalize hoo : ((pairs bs).take j).foldl (boxB mkS) o = oo at HJ HOA HST HT HLE hS
              have HL3 := Lib.hid (show oo.length ≤ 1000 by have := HLE.out; have := HL.out; omega)
              have HM := Lib.hid (makeS_calls (s := (rd_T45 bs j).f0) hb0 _ HST.out (GlobOk.below HG.out (opn_set HOA.out).2.2.2))
              clear hcb hS hbel hb0 hb1
              cases hh : hasB oo (rd_T45 bs j).f1 with
              | true =>
                have ho : boxB mkS oo ((rd_T45 bs j).f0, (rd_T45 bs j).f1) = oo := by unfold boxB; rw [if_neg (by simp [hh])]
                go_wp2_with (first
                  | ((with_reducible refine gate_dst (N := 34) rfl ?_); refine load_row_at rfl 45 _ rfl _ rfl _ _ HBC.out Tryd.underlying45 rfl (by kernel_rfl) ?_)
                  | (at_lookup; refine wpList_look_set _ rfl _ _ rfl Tryd.underlying9 Tryd.underlying4 Tryd.underlying57 (zeroBool _) rfl HST.out (rd_T45 bs j).f1 rfl (by have := HZ1.out; unfold maxLen; omega) ?_; rw [hh]))
                go_roundw
                case rel => exact ⟨j + 1, by omega, by rw [hw_]; rfl, Lib.hid (by rw [HT.out, ho]; exact HOA.out)⟩
                case measure => rw [hw_]; simp [intOf]; omega
              | false =>
                cases hm : mkS oo (rd_T45 bs j).f0 with
                | false =>
                  have ho : boxB mkS oo ((rd_T45 bs j).f0, (rd_T45 bs j).f1) = oo := by unfold boxB; rw [if_neg (by simp [hm])]
                  rw [hm] at HM
                  go_wp2_with (first
                    | ((with_reducible refine gate_dst (N := 34) rfl ?_); refine load_row_at rfl 45 _ rfl _ rfl _ _ HBC.out Tryd.underlying45 rfl (by kernel_rfl) ?_)
                    | (at_lookup; refine wpList_look_set _ rfl _ _ rfl Tryd.underlying9 Tryd.underlying4 Tryd.underlying57 (zeroBool _) rfl HST.out (rd_T45 bs j).f1 rfl (by have := HZ1.out; unfold maxLen; omega) ?_; rw [hh])
                    | (go_at_call 40; refine HM.out.mono ?_; rintro e w3 ⟨rfl, hb3⟩; have c13 : w3.cell? ⟨wr.heap.size, 1, none⟩ = some (.string (rd_T45 bs j).f1) := ((bcell hb3).1 _ _ (by simp)).trans ((blk_cell (blk_self _ _) 1).trans rfl); have HO3 := Lib.hid (HOA.out.below hb3); clear hb3))
                  go_roundw
                  case rel => exact ⟨j + 1, by omega, by rw [hw_]; rfl, Lib.hid (by rw [HT.out, ho]; exact HO3.out)⟩
                  case measure => rw [hw_]; simp [intOf]; omega
                | true =>
                  have ho : boxB mkS oo ((rd_T45 bs j).f0, (rd_T45 bs j).f1) = putB oo (rd_T45 bs j).f1 := by unfold boxB putB; rw [if_pos (by simp [hh, hm]), if_neg (by rw [hh]; decide)]
                  rw [hm] at HM
                  go_wp2_with (first
                    | ((with_reducible refine gate_dst (N := 34) rfl ?_); refine load_row_at rfl 45 _ rfl _ rfl _ _ HBC.out Tryd.underlying45 rfl (by kernel_rfl) ?_)
                    | (at_lookup; refine wpList_look_set _ rfl _ _ rfl Tryd.underlying9 Tryd.underlying4 Tryd.underlying57 (zeroBool _) rfl HST.out (rd_T45 bs j).f1 rfl (by have := HZ1.out; unfold maxLen; omega) ?_; rw [hh])
                    | (go_at_call 40; refine HM.out.mono ?_; rintro e w3 ⟨rfl, hb3⟩; have c13 : w3.cell? ⟨wr.heap.size, 1, none⟩ = some (.string (rd_T45 bs j).f1) := ((bcell hb3).1 _ _ (by simp)).trans ((blk_cell (blk_self _ _) 1).trans rfl); have HO3 := Lib.hid (HOA.out.below hb3); clear hb3)
                    | (go_at_call 60; refine (put_calls HO3.out HZ1.out HL3.out).mono ?_; rintro e w4 ⟨rfl, ho4⟩; have HO4 := Lib.hid ho4; clear ho4))
                  go_roundw
                  case rel => exact ⟨j + 1, by omega, by rw [hw_]; rfl, Lib.hid (by rw [HT.out, ho]; exact HO4.out)⟩
                  case measure => rw [hw_]; simp [intOf]; omega
            · have he : j = bs.length := by omega
              subst he
              have hD := HJ.out
              rw [← pairs_len bs, List.take_length] at hD
              have HD2 := Lib.hid (show Opn w wr w.heap.size (w.heap.size + 2) (w.heap.size + 1) (roundB mkS (pairs bs) o) from hD)
              have hE := end_round HE.out
              have hF := fold_bound (mk := mkS) (pairs bs) (pairs bs) o (fun _ h => h)
              have HF := Lib.hid (show (roundB mkS (pairs bs) o).length + left (pairs bs) (roundB mkS (pairs bs) o) ≤ 800 from Nat.le_trans hF HL.out)
              obtain ⟨A2, q2, hc2, _, _⟩ := opn_out HD2.out
              have n1 := opn_len HK.out
              have n2 := opn_len HD2.out
              have HN1 := Lib.hid n1
              have HN2 := Lib.hid n2
              have HEE := Lib.hid hE
              have HGE := Lib.hid (show o.length ≤ (roundB mkS (pairs bs) o).length by obtain ⟨r_, e_⟩ := round_pre (mk := mkS) (pairs bs) o; rw [e_, List.length_append]; omega)
              clear hD hE hF n1 n2 HJ hlt hj
              generalize roundB mkS (pairs bs) o = o2 at HD2 HF HEE hc2 HN2 HGE
              by_cases hc : o.length < o2.length
              · have g1 : decide ((o.length : Int) < (o2.length : Int)) = true := decide_eq_true (by omega)
                have HC := Lib.hid hc
                clear hc
                go_wp2
                go_roundw
                case rel => exact ⟨true, o2, by first | rfl | (simp; omega) | (simp [HC.out]), HD2, HF, Lib.hid (by have h := HEE.out; rw [decide_eq_true HC.out] at h; exact h)⟩
                case measure => rw [HN1.out, HN2.out]; have hx1 := HC.out; have hx2 := HF.out; have hx3 := HGE.out; simp only [moreN, Int.ofNat_lt, hx1, decide_true, decide_false]; omega
              · have g1 : decide ((o.length : Int) < (o2.length : Int)) = false := decide_eq_false (by omega)
                have HC := Lib.hid hc
                clear hc
                go_wp2
                go_roundw
                case rel => exact ⟨false, o2, by first | rfl | (simp; omega) | (simp [HC.out]), HD2, HF, Lib.hid (by have h := HEE.out; rw [decide_eq_false HC.out] at h; exact h)⟩
                case measure => rw [HN1.out, HN2.out]; have hx1 := HC.out; have hx2 := HF.out; have hx3 := HGE.out; simp only [moreN, Int.ofNat_lt, hx1, decide_true, decide_false]; omega
/-! ### The three -/
theorem open_ok {l : List ByteArray} {bs : List Bx} (h3 : l.all okB = true) (h4 : bs.all okBx = true) : ∀ x ∈ openB mkS l (pairs bs), okB x = true := by
  refine open_inv (fun o => ∀ x ∈ o, okB x = true) (fun x hx => List.all_eq_true.1 h3 x (dedup_mem.1 hx)) fun o b hb h x hx => ?_
  unfold boxB at hx
  split at hx
  · rcases List.mem_append.1 hx with hx | hx
    · exact h x hx
    · rw [List.mem_singleton] at hx
      subst hx
      obtain ⟨z, hz, rfl⟩ := List.mem_map.1 hb
      have := List.all_eq_true.1 h4 z hz
      unfold okBx at this
      rw [Bool.and_eq_true] at this
      exact this.2
  · exact h x hx
theorem named_parts {l : List ByteArray} {bs : List Bx} (h : namedB l bs = true) : l.length ≤ 400 ∧ bs.length ≤ 400 ∧ l.all okB = true ∧ bs.all okBx = true := by
  unfold namedB at h
  rw [Bool.and_eq_true, Bool.and_eq_true, Bool.and_eq_true, decide_eq_true_eq, decide_eq_true_eq] at h
  exact h
def impl_KnwMake.f (l : List ByteArray) (s : ByteArray) : Option Bool := some (namedB l [] && (okB s && mkS l s))
def impl_KnwOpen.f (l : List ByteArray) (bs : List Bx) : Option (List ByteArray) := some (if namedB l bs then openB mkS l (pairs bs) else [])
def impl_KnwHas.f (l : List ByteArray) (bs : List Bx) (s : ByteArray) : Option Bool := some (namedB l bs && (okB s && mkS (openB mkS l (pairs bs)) s))
theorem impl_KnwMake.calls (A0 : Option Addr) (c0 : Nat) (l0 : List ByteArray) (a1 : ByteArray) (r : Bool) (w : World) (hr0 : Kd.C Kd.string w A0 l0.length l0) (hc0 : l0.length ≤ c0) (hG : GlobOk w) (h : impl_KnwMake.f l0 a1 = some r) :
    Calls Tryd.prog 14 #[.slice A0 l0.length c0, .string a1] w fun e w' => e = .returned (.bool r) ∧ Below w.heap.size w w' := by
  unfold impl_KnwMake.f at h
  obtain rfl := Option.some.inj h
  clear h
  have HN := Lib.hid (named_calls A0 none c0 0 l0 [] w hr0 ⟨by simp, by simp, fun h => absurd h (Nat.lt_irrefl 0)⟩ hG)
  have HR := Lib.hid hr0
  have HG := Lib.hid hG
  cases hn : namedB l0 [] with
  | false =>
    rw [hn] at HN
    clear hn hr0 hc0 hG
    go_enter Tryd.func14, Tryd.ntmps14
    go_wp2_with (go_at_call 37; refine HN.out.mono ?_; rintro e w1 ⟨rfl, hb⟩)
    go_ret
    exact ⟨rfl, hb⟩
  | true =>
    rw [hn] at HN
    obtain ⟨h1, h2, h3, h4⟩ := named_parts hn
    have HK := fun W (hW : Below w.heap.size w W) => Lib.hid (knowsOf_calls A0 c0 l0 W (Kd.C_below hr0 hW) (by omega) (fun s hs => ok_size (List.all_eq_true.1 h3 s hs)))
    have HS := fun W (hW : Below w.heap.size w W) => Lib.hid (impl_SecOk.calls a1 (okB a1) W (GlobOk.below hG hW) rfl)
    clear hn hr0 hc0 hG h1 h2 h3 h4
    cases ho : okB a1 with
    | false =>
      rw [ho] at HS
      clear ho
      go_enter Tryd.func14, Tryd.ntmps14
      go_wp2_with (first
        | (go_at_call 37; refine HN.out.mono ?_; rintro e w1 ⟨rfl, hb⟩)
        | (go_at_call 22; refine (HS _ hb).out.mono ?_; rintro e w2 ⟨rfl, hb2⟩))
      go_ret
      exact ⟨rfl, hb.trans (hb2.mono hb.size)⟩
    | true =>
      rw [ho] at HS
      have HO := Lib.hid ho
      clear ho
      cases hm : mkS l0 a1
      all_goals
        go_enter Tryd.func14, Tryd.ntmps14
        go_wp2_with (first
          | (go_at_call 37; refine HN.out.mono ?_; rintro e w1 ⟨rfl, hb⟩)
          | (go_at_call 22; refine (HS _ hb).out.mono ?_; rintro e w2 ⟨rfl, hb2⟩; have HB2 := Lib.hid (hb.trans (hb2.mono hb.size)))
          | (go_at_call 39; refine (HK _ HB2.out).out.mono ?_; rintro e w3 ⟨bm, rfl, hk, hb3⟩; have HB3 := Lib.hid (HB2.out.trans (hb3.mono HB2.out.size)); have HKS := Lib.hid hk; clear hk hb3)
          | (go_at_call 40; refine (makeS_calls HO.out _ HKS.out (GlobOk.below HG.out HB3.out)).mono ?_; rw [hm]; rintro e w4 ⟨rfl, hb4⟩; have HB4 := Lib.hid (HB3.out.trans (hb4.mono HB3.out.size)); clear hb4))
        go_ret
        exact ⟨rfl, HB4.out⟩
theorem impl_KnwOpen.calls (A0 : Option Addr) (c0 : Nat) (l0 : List ByteArray) (A1 : Option Addr) (c1 : Nat) (l1 : List Bx) (r : List ByteArray) (w : World) (hr0 : Kd.C Kd.string w A0 l0.length l0) (hc0 : l0.length ≤ c0) (hr1 : Kd.C k45 w A1 l1.length l1) (hc1 : l1.length ≤ c1) (hG : GlobOk w) (h : impl_KnwOpen.f l0 l1 = some r) :
    Calls Tryd.prog 12 #[.slice A0 l0.length c0, .slice A1 l1.length c1] w fun e w' => ∃ v0_ : Value, e = .returned (v0_) ∧ Kd.Q Kd.string 9 w' w.heap.size (fun _ => True) v0_ r ∧ Below w.heap.size w w' := by
  unfold impl_KnwOpen.f at h
  obtain rfl := Option.some.inj h
  clear h
  have HN := Lib.hid (named_calls A0 A1 c0 c1 l0 l1 w hr0 hr1 hG)
  cases hn : namedB l0 l1 with
  | false =>
    rw [hn] at HN
    rw [if_neg (by decide)]
    clear hn hr0 hc0 hr1 hc1 hG
    go_enter Tryd.func12, Tryd.ntmps12
    go_wp2_with (go_at_call 37; refine HN.out.mono ?_; rintro e w1 ⟨rfl, hb⟩)
    go_ret
    exact ⟨_, rfl, Kd.Q_nil _ _ _ _ _, hb⟩
  | true =>
    rw [hn] at HN
    rw [if_pos rfl]
    obtain ⟨h1, h2, h3, h4⟩ := named_parts hn
    have HO := fun W (hW : Below w.heap.size w W) => Lib.hid (opened_calls A0 A1 c0 c1 l0 l1 W (Kd.C_below hr0 hW) (Kd.C_below hr1 hW) (GlobOk.below hG hW) h1 h2 h3 h4)
    clear hn hr0 hc0 hr1 hc1 hG h1 h2 h3 h4
    go_enter Tryd.func12, Tryd.ntmps12
    go_wp2_with (first
      | (go_at_call 37; refine HN.out.mono ?_; rintro e w1 ⟨rfl, hb⟩)
      | (go_at_call 38; refine (HO _ hb).out.mono ?_; rintro e w2 ⟨v, rfl, hq, hb2⟩; have HQ := Lib.hid (Kd.Q_lower hq hb.size); have HB2 := Lib.hid (hb.trans (hb2.mono hb.size)); clear hq hb2))
    go_ret
    exact ⟨_, rfl, HQ.out, HB2.out⟩
theorem impl_KnwHas.calls (A0 : Option Addr) (c0 : Nat) (l0 : List ByteArray) (A1 : Option Addr) (c1 : Nat) (l1 : List Bx) (a2 : ByteArray) (r : Bool) (w : World) (hr0 : Kd.C Kd.string w A0 l0.length l0) (hc0 : l0.length ≤ c0) (hr1 : Kd.C k45 w A1 l1.length l1) (hc1 : l1.length ≤ c1) (hG : GlobOk w) (h : impl_KnwHas.f l0 l1 a2 = some r) :
    Calls Tryd.prog 13 #[.slice A0 l0.length c0, .slice A1 l1.length c1, .string a2] w fun e w' => e = .returned (.bool r) ∧ Below w.heap.size w w' := by
  unfold impl_KnwHas.f at h
  obtain rfl := Option.some.inj h
  clear h
  have HN := Lib.hid (named_calls A0 A1 c0 c1 l0 l1 w hr0 hr1 hG)
  have HG := Lib.hid hG
  cases hn : namedB l0 l1 with
  | false =>
    rw [hn] at HN
    clear hn hr0 hc0 hr1 hc1 hG
    go_enter Tryd.func13, Tryd.ntmps13
    go_wp2_with (go_at_call 37; refine HN.out.mono ?_; rintro e w1 ⟨rfl, hb⟩)
    go_ret
    exact ⟨rfl, hb⟩
  | true =>
    rw [hn] at HN
    obtain ⟨h1, h2, h3, h4⟩ := named_parts hn
    have HOP := fun W (hW : Below w.heap.size w W) => Lib.hid (opened_calls A0 A1 c0 c1 l0 l1 W (Kd.C_below hr0 hW) (Kd.C_below hr1 hW) (GlobOk.below hG hW) h1 h2 h3 h4)
    have HS := fun W (hW : Below w.heap.size w W) => Lib.hid (impl_SecOk.calls a2 (okB a2) W (GlobOk.below hG hW) rfl)
    have hlen : (openB mkS l0 (pairs l1)).length ≤ 1000 := by
      have := open_length (mk := mkS) l0 (pairs l1)
      rw [pairs_len] at this
      omega
    have HK := fun W (A : Option Addr) (c : Nat) (hC : Kd.C Kd.string W A (openB mkS l0 (pairs l1)).length (openB mkS l0 (pairs l1))) => Lib.hid (knowsOf_calls A c (openB mkS l0 (pairs l1)) W hC hlen (fun s hs => ok_size (open_ok h3 h4 s hs)))
    clear hn hr0 hc0 hr1 hc1 hG h1 h2 h3 h4 hlen
    generalize openB mkS l0 (pairs l1) = oo at HOP HK
    cases ho : okB a2 with
    | false =>
      rw [ho] at HS
      clear ho
      go_enter Tryd.func13, Tryd.ntmps13
      go_wp2_with (first
        | (go_at_call 37; refine HN.out.mono ?_; rintro e w1 ⟨rfl, hb⟩)
        | (go_at_call 22; refine (HS _ hb).out.mono ?_; rintro e w2 ⟨rfl, hb2⟩))
      go_ret
      exact ⟨rfl, hb.trans (hb2.mono hb.size)⟩
    | true =>
      rw [ho] at HS
      have HO := Lib.hid ho
      clear ho
      cases hm : mkS oo a2
      all_goals
        go_enter Tryd.func13, Tryd.ntmps13
        go_wp2_with (first
          | (go_at_call 37; refine HN.out.mono ?_; rintro e w1 ⟨rfl, hb⟩)
          | (go_at_call 22; refine (HS _ hb).out.mono ?_; rintro e w2 ⟨rfl, hb2⟩; have HB2 := Lib.hid (hb.trans (hb2.mono hb.size)))
          | (go_at_call 38; refine (HOP _ HB2.out).out.mono ?_; rintro e w3 ⟨v, rfl, hq, hb3⟩; obtain ⟨A, c, rfl, hqc, hqC⟩ := Kd.Q_reads hq; have HQC := Lib.hid hqC; have HB3 := Lib.hid (HB2.out.trans (hb3.mono HB2.out.size)); clear hq hqC hb3)
          | (go_at_call 39; refine (HK _ _ _ HQC.out).out.mono ?_; rintro e w4 ⟨bm, rfl, hk, hb4⟩; have HB4 := Lib.hid (HB3.out.trans (hb4.mono HB3.out.size)); have HKS := Lib.hid hk; clear hk hb4)
          | (go_at_call 40; refine (makeS_calls HO.out _ HKS.out (GlobOk.below HG.out HB4.out)).mono ?_; rw [hm]; rintro e w5 ⟨rfl, hb5⟩; have HB5 := Lib.hid (HB4.out.trans (hb5.mono HB4.out.size)); clear hb5))
        go_ret
        exact ⟨rfl, HB5.out⟩
end
end Go.Proofs.YtjbnfcljkmapeaaDoor.Yc
