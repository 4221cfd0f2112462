/- impl.named: its contract. -/
import Derived.Test.YtnemchmiplbopaaDoorKnwN
import Derived.Test.YtnemchmiplbopaaDoorXqx0
namespace Go.Proofs.YtnemchmiplbopaaDoor.Xq
set_option linter.unusedSimpArgs false
set_option linter.unusedVariables false
set_option maxRecDepth 100000
open Go.RowKit Go.Maps Go.Proofs.YtnemchmiplbopaaDoor Go.Proofs.YtnemchmiplbopaaDoorW.PrintWords Go.Proofs.YtnemchmiplbopaaDoorW.PrintLast Go.Proofs.YtnemchmiplbopaaDoorW.PrintMore Go.Proofs.YtnemchmiplbopaaDoor.Th Go.Proofs.YtnemchmiplbopaaDoor.SetW

abbrev Bx := S45
def okB (s : ByteArray) : Bool := (nm s).isSome
def okBx (b : Bx) : Bool := okB b.f0 && okB b.f1
def pairs (bs : List Bx) : List (ByteArray × ByteArray) := bs.map fun b => (b.f0, b.f1)
def namedB (known : List ByteArray) (bs : List Bx) : Bool := decide (known.length ≤ 400) && (decide (bs.length ≤ 400) && (known.all okB && bs.all okBx))

theorem load_row_at {P : Program} {ops : Array Oper} {rest : List Oper} {op : Oper} {a : Act} {w : World} {Q : Exit → Act → World → Prop} (hgd : op.guard = none) (ty : TypeId) (x : Operand) (ho : op.op = .load ty x)
    (p : Addr) (hx : a.eval x = .pointer (some p)) (cs : List Value) (d : TypeDesc) (hc : ∀ j v, cs[j]? = some v → w.cell? (p.add j) = some v)
    (hu : P.underlying ty = some d) (hd : (match d with | .struct _ | .array _ _ => true | _ => false) = true) (hi : (P.info? ty).map (·.size) = some cs.length)
    (h : wpList P ops Q rest (a.put op.dst (.agg cs.toArray)) w) : wpList P ops Q (op :: rest) a w := by
  have hl : (loadCells p cs.length).run P w = .ok cs.toArray w := run_loadCells_list (P := P) w p cs hc
  have hv : (loadVar ty p).run P w = .ok (.agg cs.toArray) w := by
    cases hq : P.info? ty with
    | none => simp [hq] at hi
    | some i =>
      have hs : i.size = cs.length := by simpa [hq] using hi
      have hagg : (isAgg ty).run P w = .ok true w := by
        unfold isAgg
        rw [Sem.run_bind, run_underlying hu w]
        cases d <;> simp_all
      simp [loadVar, Sem.run_bind, hagg, sizeOf, typeInfo, hq, hs, hl]
  refine wpList_plain hgd fun _ hK => ?_
  unfold Oper.wp execOp
  simp only [ho, hx, Instr.loadAt, Instr.sureAddr, Sem.run_bind, Sem.run_pure, Result.andThen_ok, hv]
  exact hK _ _ h
theorem box_at {w : World} {A : Option Addr} {n : Nat} {xs : List Bx} (h : Kd.C k45 w A n xs) (i : Nat) (h1 : i < n) :
    ∃ ad, A = some ad ∧ ∀ j v, [Value.string (rd_T45 xs i).f0, .string (rd_T45 xs i).f1][j]? = some v → w.cell? ((ad.add (i * 2)).add j) = some v := by
  obtain ⟨ad, c, e, _, hK, hc0⟩ := Kd.C_get h z45 (i : Int) (by omega) (by omega)
  obtain rfl := k45_open hK
  rw [Int.toNat_natCast] at hc0
  exact ⟨ad, e, fun j v hj => by rw [Addr.add_add]; exact hc0 j v hj⟩

theorem name_bad (s : ByteArray) (w : World) (hG : GlobOk w) :
    Calls Tryd.prog 56 #[.string s] w fun e w' => e = .returned (.bool (!okB s)) ∧ Below w.heap.size w w' := by
  have HM := Lib.hid (impl_SecOk.calls s (okB s) w hG rfl)
  clear hG
  go_enter Tryd.func56, Tryd.ntmps56
  go_wp2_with (go_at_call 31; refine HM.out.mono ?_; rintro e w1 ⟨rfl, hb⟩)
  go_ret
  exact ⟨rfl, hb⟩
theorem box_bad (x y : ByteArray) (w : World) (hG : GlobOk w) :
    Calls Tryd.prog 58 #[.agg #[.string x, .string y]] w fun e w' => e = .returned (.bool (!(okB x && okB y))) ∧ Below w.heap.size w w' := by
  have hu := Tryd.underlying45
  have HB0 := Lib.hid (below_alloc (Below.refl w.heap.size w) (.cells #[.string x, .string y] 45))
  have HG0 := Lib.hid (GlobOk.below hG HB0.out)
  clear hG
  cases hx : okB x with
  | false =>
    have HM := Lib.hid (impl_SecOk.calls x false _ HG0.out (by unfold impl_SecOk.f; rw [show (nm x).isSome = false from hx]))
    clear hx
    go_enter Tryd.func58, Tryd.ntmps58
    go_wp2_with (go_at_call 31; with_reducible refine HM.out.mono ?_; rintro e w1 ⟨rfl, hb⟩; have HB1 := Lib.hid (HB0.out.trans (hb.mono HB0.out.size)); clear hb)
    go_ret
    exact ⟨rfl, HB1.out⟩
  | true =>
    have HM := Lib.hid (impl_SecOk.calls x true _ HG0.out (by unfold impl_SecOk.f; rw [show (nm x).isSome = true from hx]))
    have HY : ∀ W, GlobOk W → _ := fun W hW => Lib.hid (impl_SecOk.calls y (okB y) W hW rfl)
    clear hx
    cases hy : okB y <;> rw [hy] at HY <;> clear hy
    all_goals
      go_enter Tryd.func58, Tryd.ntmps58
      go_wp2_with (first
        | (go_at_call 31; with_reducible refine HM.out.mono ?_; rintro e w1 ⟨rfl, hb⟩; have c1 : w1.cell? ⟨w.heap.size, 1, none⟩ = some (.string y) := ((bcell hb).1 _ _ (by simp)).trans ((blk_cell (blk_self _ _) 1).trans rfl); have HB1 := Lib.hid (HB0.out.trans (hb.mono HB0.out.size)); have HG1 := Lib.hid (GlobOk.below HG0.out hb); clear hb)
        | (go_at_call 31; with_reducible refine (HY _ HG1.out).out.mono ?_; rintro e w2 ⟨rfl, hb2⟩; have HB2 := Lib.hid (HB1.out.trans (hb2.mono HB1.out.size)); clear hb2))
      go_ret
      exact ⟨rfl, HB2.out⟩
/-! ### The rows -/
theorem names_index (A : Option Addr) (c : Nat) (l : List ByteArray) (w : World) (hr : Kd.C Kd.string w A l.length l) (hG : GlobOk w) :
    Calls Tryd.prog 67 #[.slice A l.length c, .func (.func 56) #[] #[]] w fun e w' => (∃ i : Int, e = .returned (.int .i64 i) ∧ decide (0 ≤ i) = !l.all okB) ∧ Below w.heap.size w w' := by
  have hmx : l.length ≤ 9223372036854775807 := hr.2.1
  go_enter Tryd.func67, Tryd.ntmps67
  go_wp2
  have HR := Aside0.mk hr
  have HG := Aside0.mk hG
  clear hr hG
  go_loopw [8] (fun i wr => ∃ k : Nat, k ≤ l.length ∧ i = .int .i64 k ∧ Hid ((l.take k).all okB = true) ∧ Aside0 (Below w.heap.size w wr)) (fun i _ => l.length - (intOf i).toNat)
  case atStart => exact ⟨0, Nat.zero_le _, rfl, Lib.hid (by simp), ⟨Below.refl _ _⟩⟩
  case round =>
    obtain ⟨k, hk, rfl, HP, HB⟩ := hrel
    by_cases hlt : k < l.length
    · obtain ⟨ad, rfl, hc⟩ := Kd.at_string (Kd.C_below HR.out HB.out) (k : Int) (by omega) (by omega)
      rw [Int.toNat_natCast] at hc
      have hx : l.take (k + 1) = l.take k ++ [rdOf ByteArray.empty l k] := by
        rw [List.take_succ_eq_append_getElem hlt]
        unfold rdOf
        rw [Int.toNat_natCast, List.getD_eq_getElem?_getD, List.getElem?_eq_getElem hlt]
        rfl
      have hall : l.all okB = true → okB (rdOf ByteArray.empty l k) = true := by
        intro h
        rw [List.all_eq_true] at h
        exact h _ (List.mem_of_mem_take (i := k + 1) (by rw [hx]; simp))
      have hnext : (l.take k).all okB = true → okB (rdOf ByteArray.empty l k) = true → (l.take (k + 1)).all okB = true := by
        intro h1 h2
        rw [hx, List.all_append, h1, List.all_cons, h2]
        rfl
      have HC := Lib.hid (name_bad (rdOf ByteArray.empty l k) wr (GlobOk.below HG.out HB.out))
      have HA := Lib.hid hall
      have HN := Lib.hid hnext
      clear hx hall hnext
      cases hs : okB (rdOf ByteArray.empty l k) with
      | true =>
        rw [hs] at HC
        have HS := Lib.hid hs
        clear hs
        go_wp2_with (go_at_call 56; refine HC.out.mono ?_; rintro e w1 ⟨rfl, hb⟩)
        go_roundw
        case rel => exact ⟨k + 1, by omega, by go_num, Lib.hid (HN.out HP.out HS.out), ⟨HB.out.trans (hb.mono HB.out.size)⟩⟩
        case measure => simp [intOf]; omega
      | false =>
        rw [hs] at HC HA
        clear hs
        go_wp2_with (go_at_call 56; refine HC.out.mono ?_; rintro e w1 ⟨rfl, hb⟩)
        go_ret
        refine ⟨⟨_, rfl, ?_⟩, HB.out.trans (hb.mono HB.out.size)⟩
        rw [decide_eq_true (by omega)]
        cases h : l.all okB with
        | true => exact absurd (HA.out h) (by decide)
        | false => rfl
    · have he : k = l.length := by omega
      have hp := HP.out
      rw [he, List.take_length] at hp
      have HQ := Lib.hid hp
      clear he hp
      go_wp2
      go_ret
      refine ⟨⟨_, rfl, ?_⟩, HB.out⟩
      rw [HQ.out]
      rfl
theorem boxes_index (A : Option Addr) (c : Nat) (l : List Bx) (w : World) (hr : Kd.C k45 w A l.length l) (hG : GlobOk w) :
    Calls Tryd.prog 68 #[.slice A l.length c, .func (.func 58) #[] #[]] w fun e w' => (∃ i : Int, e = .returned (.int .i64 i) ∧ decide (0 ≤ i) = !l.all okBx) ∧ Below w.heap.size w w' := by
  have hmx : l.length ≤ 9223372036854775807 := hr.2.1
  go_enter Tryd.func68, Tryd.ntmps68
  go_wp2
  have HR := Aside0.mk hr
  have HG := Aside0.mk hG
  clear hr hG
  go_loopw [8] (fun i wr => ∃ k : Nat, k ≤ l.length ∧ i = .int .i64 k ∧ Hid ((l.take k).all okBx = true) ∧ Aside0 (Below w.heap.size w wr)) (fun i _ => l.length - (intOf i).toNat)
  case atStart => exact ⟨0, Nat.zero_le _, rfl, Lib.hid (by simp), ⟨Below.refl _ _⟩⟩
  case round =>
    obtain ⟨k, hk, rfl, HP, HB⟩ := hrel
    by_cases hlt : k < l.length
    · obtain ⟨ad, rfl, hc⟩ := box_at (Kd.C_below HR.out HB.out) k hlt
      have hx : l.take (k + 1) = l.take k ++ [rd_T45 l k] := by
        rw [List.take_succ_eq_append_getElem hlt]
        unfold rd_T45
        rw [Int.toNat_natCast, List.getD_eq_getElem?_getD, List.getElem?_eq_getElem hlt]
        rfl
      have hall : l.all okBx = true → okBx (rd_T45 l k) = true := by
        intro h
        rw [List.all_eq_true] at h
        exact h _ (List.mem_of_mem_take (i := k + 1) (by rw [hx]; simp))
      have hnext : (l.take k).all okBx = true → okBx (rd_T45 l k) = true → (l.take (k + 1)).all okBx = true := by
        intro h1 h2
        rw [hx, List.all_append, h1, List.all_cons, h2]
        rfl
      have HC := Lib.hid (box_bad (rd_T45 l k).f0 (rd_T45 l k).f1 wr (GlobOk.below HG.out HB.out))
      have HA := Lib.hid hall
      have HN := Lib.hid hnext
      have HD := Lib.hid hc
      clear hx hall hnext hc
      have hq : (okB (rd_T45 l k).f0 && okB (rd_T45 l k).f1) = okBx (rd_T45 l k) := rfl
      rw [hq] at HC
      clear hq
      cases hs : okBx (rd_T45 l k) with
      | true =>
        rw [hs] at HC
        have HS := Lib.hid hs
        clear hs
        go_wp2_with (first
          | ((with_reducible refine gate_dst (N := 15) rfl ?_); refine load_row_at rfl 45 _ rfl _ rfl _ _ HD.out Tryd.underlying45 rfl (by kernel_rfl) ?_)
          | (go_at_call 58; refine HC.out.mono ?_; rintro e w1 ⟨rfl, hb⟩))
        go_roundw
        case rel => exact ⟨k + 1, by omega, by go_num, Lib.hid (HN.out HP.out HS.out), ⟨HB.out.trans (hb.mono HB.out.size)⟩⟩
        case measure => simp [intOf]; omega
      | false =>
        rw [hs] at HC HA
        clear hs
        go_wp2_with (first
          | ((with_reducible refine gate_dst (N := 15) rfl ?_); refine load_row_at rfl 45 _ rfl _ rfl _ _ HD.out Tryd.underlying45 rfl (by kernel_rfl) ?_)
          | (go_at_call 58; refine HC.out.mono ?_; rintro e w1 ⟨rfl, hb⟩))
        go_ret
        refine ⟨⟨_, rfl, ?_⟩, HB.out.trans (hb.mono HB.out.size)⟩
        rw [decide_eq_true (by omega)]
        cases h : l.all okBx with
        | true => exact absurd (HA.out h) (by decide)
        | false => rfl
    · have he : k = l.length := by omega
      have hp := HP.out
      rw [he, List.take_length] at hp
      have HQ := Lib.hid hp
      clear he hp
      go_wp2
      go_ret
      refine ⟨⟨_, rfl, ?_⟩, HB.out⟩
      rw [HQ.out]
      rfl
theorem names_contains (A : Option Addr) (c : Nat) (l : List ByteArray) (w : World) (hr : Kd.C Kd.string w A l.length l) (hG : GlobOk w) :
    Calls Tryd.prog 55 #[.slice A l.length c, .func (.func 56) #[] #[]] w fun e w' => e = .returned (.bool (!l.all okB)) ∧ Below w.heap.size w w' := by
  have HC := Lib.hid (names_index A c l w hr hG)
  clear hr hG
  go_enter Tryd.func55, Tryd.ntmps55
  go_wp2_with (go_at_call 67; refine HC.out.mono ?_; rintro e w1 ⟨⟨i, rfl, hi⟩, hb⟩; have HI := Lib.hid hi; clear hi)
  go_ret
  exact ⟨by rw [HI.out]; rfl, hb⟩
theorem boxes_contains (A : Option Addr) (c : Nat) (l : List Bx) (w : World) (hr : Kd.C k45 w A l.length l) (hG : GlobOk w) :
    Calls Tryd.prog 57 #[.slice A l.length c, .func (.func 58) #[] #[]] w fun e w' => e = .returned (.bool (!l.all okBx)) ∧ Below w.heap.size w w' := by
  have HC := Lib.hid (boxes_index A c l w hr hG)
  clear hr hG
  go_enter Tryd.func57, Tryd.ntmps57
  go_wp2_with (go_at_call 68; refine HC.out.mono ?_; rintro e w1 ⟨⟨i, rfl, hi⟩, hb⟩; have HI := Lib.hid hi; clear hi)
  go_ret
  exact ⟨by rw [HI.out]; rfl, hb⟩
theorem named_calls (A B : Option Addr) (c d : Nat) (l : List ByteArray) (bs : List Bx) (w : World) (hr : Kd.C Kd.string w A l.length l) (hb : Kd.C k45 w B bs.length bs) (hG : GlobOk w) :
    Calls Tryd.prog 30 #[.slice A l.length c, .slice B bs.length d] w fun e w' => e = .returned (.bool (namedB l bs)) ∧ Below w.heap.size w w' := by
  have HC := Lib.hid (names_contains A c l w hr hG)
  have HD : ∀ W, Below w.heap.size w W → _ := fun W hW => Lib.hid (boxes_contains B d bs W (Kd.C_below hb hW) (GlobOk.below hG hW))
  unfold namedB
  clear hr hb hG
  by_cases h1 : l.length ≤ 400
  · have g1 : decide ((l.length : Int) ≤ 400) = true := decide_eq_true (by omega)
    rw [decide_eq_true h1]
    clear h1
    by_cases h2 : bs.length ≤ 400
    · have g2 : decide ((bs.length : Int) ≤ 400) = true := decide_eq_true (by omega)
      rw [decide_eq_true h2]
      clear h2
      cases h3 : l.all okB with
      | false =>
        rw [h3] at HC
        clear h3
        go_enter Tryd.func30, Tryd.ntmps30
        go_wp2_with (go_at_call 55; refine HC.out.mono ?_; rintro e w1 ⟨rfl, hb⟩)
        go_ret
        exact ⟨rfl, hb⟩
      | true =>
        rw [h3] at HC
        clear h3
        cases h4 : bs.all okBx <;> rw [h4] at HD <;> clear h4
        all_goals
          go_enter Tryd.func30, Tryd.ntmps30
          go_wp2_with (first
            | (go_at_call 55; refine HC.out.mono ?_; rintro e w1 ⟨rfl, hb⟩)
            | (go_at_call 57; refine (HD _ hb).out.mono ?_; rintro e w2 ⟨rfl, hb2⟩))
          go_ret
          exact ⟨rfl, hb.trans (hb2.mono hb.size)⟩
    · have g2 : decide ((bs.length : Int) ≤ 400) = false := decide_eq_false (by omega)
      rw [decide_eq_false h2]
      clear h2
      go_enter Tryd.func30, Tryd.ntmps30
      go_wp2
      go_ret
      exact ⟨rfl, Below.refl _ _⟩
  · have g1 : decide ((l.length : Int) ≤ 400) = false := decide_eq_false (by omega)
    rw [decide_eq_false h1]
    clear h1
    go_enter Tryd.func30, Tryd.ntmps30
    go_wp2
    go_ret
    exact ⟨rfl, Below.refl _ _⟩
def impl_named.f (l : List ByteArray) (bs : List Bx) : Option Bool := some (namedB l bs)
theorem impl_named.calls (A0 : Option Addr) (c0 : Nat) (l0 : List ByteArray) (A1 : Option Addr) (c1 : Nat) (l1 : List Bx) (r : Bool) (w : World) (hr0 : Kd.C Kd.string w A0 l0.length l0) (hc0 : l0.length ≤ c0) (hr1 : Kd.C k45 w A1 l1.length l1) (hc1 : l1.length ≤ c1) (hG : GlobOk w) (h : impl_named.f l0 l1 = some r) :
    Calls Tryd.prog 30 #[.slice A0 l0.length c0, .slice A1 l1.length c1] w fun e w' => e = .returned (.bool r) ∧ Below w.heap.size w w' := by
  unfold impl_named.f at h
  obtain rfl := Option.some.inj h
  exact named_calls A0 A1 c0 c1 l0 l1 w hr0 hr1 hG
end Go.Proofs.YtnemchmiplbopaaDoor.Xq
