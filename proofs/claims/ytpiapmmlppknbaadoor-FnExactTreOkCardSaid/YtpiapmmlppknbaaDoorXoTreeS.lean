/- Whether a tree is ok: the reference's answer is the program's. Plain Lean. -/
import Derived.Test.YtpiapmmlppknbaaDoorXoHow
import Derived.Test.YtpiapmmlppknbaaDoorGivTree
import Derived.Test.YtpiapmmlppknbaaDoorXox7
namespace Go.Proofs.YtpiapmmlppknbaaDoor.Pure
open Go.RowKit Go.Proofs.YtpiapmmlppknbaaDoor Go.Proofs.YtpiapmmlppknbaaDoor.Xo Go.Proofs.YtpiapmmlppknbaaDoorW.PrintWords Go.Proofs.YtpiapmmlppknbaaDoorW.PrintLast
open Go.Proofs.YtpiapmmlppknbaaDoor.Th (T B Nm nm dec hd prsNum whole)

theorem rdT_at {l : List ByteArray} {i : Nat} (h : i < l.length) : rdOf ByteArray.empty l (i : Int) = l[i] := by
  unfold rdOf
  rw [Int.toNat_natCast, List.getD_eq_getElem?_getD, List.getElem?_eq_getElem h]
  rfl
theorem how_nm {s : ByteArray} {a : Nm} (h : nm s = some a) : Ev (fun k => spec_l1How.f k s) (tells a) := by
  obtain ⟨ha, hl, he⟩ := Th.nm_some.1 h
  exact how_ev ha hl (by rw [he, Th.B_T (Th.enc_lt a ha)])
theorem tre_j1 (l : List ByteArray) (i : Nat) (hi : i < 15) (b r : Bool) (h : Ev (fun k => spec_TreOk.l0 k ((i + 1 : Nat) : Int) l) r) : Ev (fun k => spec_TreOk.j1 k (i : Int) (!b) l) (b && r) := by
  cases b with
  | false => exact Ev.step (f := fun _ => some false) (fun k => by rw [spec_TreOk.j1, if_pos (by decide)]) (Ev.now _)
  | true =>
    refine Ev.step (fun k => ?_) (show Ev (fun k => spec_TreOk.l0 k ((i + 1 : Nat) : Int) l) (true && r) from h)
    rw [spec_TreOk.j1, if_neg (by decide), wz (x := (i : Int) + 1) (by omega) (by omega)]
    rfl
theorem tre_l0 (l : List ByteArray) (hl : l.length = 15) : ∀ (d i : Nat), 15 - i ≤ d → i ≤ 15 → Ev (fun k => spec_TreOk.l0 k (i : Int) l) ((l.drop i).all slotB) := by
  intro d
  induction d with
  | zero =>
    intro i h0 h1
    obtain rfl : i = 15 := by omega
    rw [List.drop_eq_nil_of_le (by omega)]
    exact Ev.step (f := fun _ => some true) (fun k => by rw [spec_TreOk.l0, if_neg (by omega)]) (Ev.now _)
  | succ d ih =>
    intro i h0 h1
    by_cases h : i < 15
    · have hi : i < l.length := by omega
      have e := ih (i + 1) (by omega) (by omega)
      rw [List.drop_eq_getElem_cons hi, List.all_cons]
      have st := fun b => tre_j1 l i h b _ e
      by_cases h2 : l[i] = ⟨#[]⟩
      · have s := st true
        rw [show slotB l[i] = true from if_pos h2]
        refine Ev.step (fun k => ?_) s
        rw [spec_TreOk.l0, if_pos (by omega), if_pos (by omega), if_pos (by omega), rdT_at hi, if_pos (Th.toList_nil.2 h2)]
        rfl
      · refine Ev.step (fun k => by rw [spec_TreOk.l0, if_pos (by omega), if_pos (by omega), if_pos (by omega), rdT_at hi, if_neg (fun e => h2 (Th.toList_nil.1 e))]) (Ev.bind (secOk_ev l[i]) ?_)
        cases hn : nm l[i] with
        | none =>
          have s := st false
          rw [show slotB l[i] = false by unfold slotB keyB; rw [if_neg h2, hn]]
          rw [Option.isSome_none]
          exact Ev.congr (fun k => if_neg (by decide)) s
        | some a =>
          have s := st (a.op == 3)
          rw [show slotB l[i] = (a.op == 3) by unfold slotB keyB; rw [if_neg h2, hn]]
          rw [Option.isSome_some]
          exact Ev.congr (fun k => if_pos rfl) (Ev.bind (how_nm hn) s)
    · obtain rfl : i = 15 := by omega
      rw [List.drop_eq_nil_of_le (by omega)]
      exact Ev.step (f := fun _ => some true) (fun k => by rw [spec_TreOk.l0, if_neg (by omega)]) (Ev.now _)
theorem specTreOk_ev (l : List ByteArray) : Ev (fun k => spec_TreOk.f k l) (treB l) := by
  unfold spec_TreOk.f treB
  by_cases h : l.length = 15
  · rw [decide_eq_true h, Bool.true_and]
    exact Ev.congr (fun k => if_pos (by omega)) (tre_l0 l h 15 0 (by omega) (by omega))
  · rw [decide_eq_false h, Bool.false_and]
    exact Ev.of_eq fun k => if_neg (by omega)
end Go.Proofs.YtpiapmmlppknbaaDoor.Pure
