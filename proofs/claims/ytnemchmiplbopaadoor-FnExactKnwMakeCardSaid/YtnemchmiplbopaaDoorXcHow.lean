/- How a name was made, as the reference reads it. Plain Lean. -/
import Derived.Test.YtnemchmiplbopaaDoorXcSizes
import Derived.Test.YtnemchmiplbopaaDoorXcx6
namespace Go.Proofs.YtnemchmiplbopaaDoor.Pure
open Go.RowKit Go.Proofs.YtnemchmiplbopaaDoor Go.Proofs.YtnemchmiplbopaaDoor.Xc Go.Proofs.YtnemchmiplbopaaDoorW.PrintWords Go.Proofs.YtnemchmiplbopaaDoorW.PrintLast
open Go.Proofs.YtnemchmiplbopaaDoor.Th (T B Nm nm dec hd prsNum whole)

theorem cut_ {s : ByteArray} {pre u v : List Nat} (h : B s = pre ++ (u ++ v)) (i j : Nat) (hi : i = pre.length) (hj : j = pre.length + u.length) : s.extract i j = T u := by
  subst hi hj
  rw [cut_pre h, List.take_left]
theorem cut_end {s : ByteArray} {pre u : List Nat} (h : B s = pre ++ u) (i : Nat) (hi : i = pre.length) : s.extract i s.size = T u :=
  cut_ (v := []) (by rw [List.append_nil]; exact h) i _ hi (by rw [← Th.B_length, h, List.length_append])
/-- What the fields tell of a name. -/
def tells (a : Nm) : Int × Int × Int × ByteArray × ByteArray := (a.op, a.who, a.num, T a.fst, T a.snd)
theorem how_new (w n : Nat) (hw : w < 8) (h1 : 1 ≤ n) (h2 : n ≤ 99) : spec_l1How.f 6 (T (Nm.new w n).enc) = some (tells (.new w n)) := by
  have : ∀ w : Fin 8, ∀ n : Fin 100, 1 ≤ n.1 → spec_l1How.f 6 (T (Nm.new w.1 n.1).enc) = some (tells (.new w.1 n.1)) := by decide +kernel
  exact this ⟨w, hw⟩ ⟨n, by omega⟩ h1
theorem how_ev {s : ByteArray} {a : Nm} (ha : a.ok = true) (hl : s.size ≤ 300) (h : B s = a.enc) : Ev (fun k => spec_l1How.f k s) (tells a) := by
  have hz : s.size = a.enc.length := by rw [← Th.B_length, h]
  have hp := Th.enc_pos a
  cases a with
  | new w n =>
    simp only [Nm.ok, Bool.and_eq_true, decide_eq_true_eq] at ha
    have e : s = T (Nm.new w n).enc := by rw [← h, Th.T_B]
    rw [e]
    exact Ev.of (fun k => spec_l1How.mono _ k) (how_new w n ha.1.1 ha.1.2 ha.2)
  | next a =>
    have b0 : bt s 0 = 110 := bt_pre (pre := []) h 0
    have hs : s.size = a.enc.length + 1 := hz
    refine Ev.of_eq fun k => ?_
    unfold spec_l1How.f
    rw [if_pos (by omega), b0, if_pos rfl, if_pos (by omega), cut_end (pre := [110]) h 1 rfl]
    rfl
  | key a =>
    have b0 : bt s 0 = 107 := bt_pre (pre := []) h 0
    have hs : s.size = a.enc.length + 1 := hz
    refine Ev.of_eq fun k => ?_
    unfold spec_l1How.f
    rw [if_pos (by omega), b0, if_neg (by decide), if_pos rfl, if_pos (by omega), cut_end (pre := [107]) h 1 rfl]
    rfl
  | say w a =>
    simp only [Nm.ok, Bool.and_eq_true, decide_eq_true_eq] at ha
    have b0 : bt s 0 = 109 := bt_pre (pre := []) h 0
    have b1 : bt s 1 = ((65 + w : Nat) : Int) := bt_pre (pre := []) h 1
    have hs : s.size = a.enc.length + 2 := hz
    have hw : (((65 + w : Nat) : Int) - 65) % 256 = (w : Int) := by omega
    refine Ev.of_eq fun k => ?_
    unfold spec_l1How.f
    rw [if_pos (by omega), b0, if_neg (by decide), if_neg (by decide), if_pos rfl, if_pos (by omega), if_pos (by omega), b1, hw, cut_end (pre := [109, 65 + w]) h 2 rfl]
    rfl
  | room r a =>
    simp only [Nm.ok, Bool.and_eq_true, decide_eq_true_eq] at ha
    have b0 : bt s 0 = 114 := bt_pre (pre := []) h 0
    have b1 : bt s 1 = ((48 + r : Nat) : Int) := bt_pre (pre := []) h 1
    have hs : s.size = a.enc.length + 2 := hz
    have hw : (((48 + r : Nat) : Int) - 48) % 256 = (r : Int) := by omega
    refine Ev.of_eq fun k => ?_
    unfold spec_l1How.f
    rw [if_pos (by omega), b0, if_neg (by decide), if_neg (by decide), if_neg (by decide), if_pos rfl, if_pos (by omega), if_pos (by omega), b1, hw, cut_end (pre := [114, 48 + r]) h 2 rfl]
    rfl
  | epoch a b =>
    simp only [Nm.ok, Bool.and_eq_true] at ha
    have b0 : bt s 0 = 101 := bt_pre (pre := []) h 0
    have hs : s.size = a.enc.length + b.enc.length + 1 := by rw [hz]; simp [Nm.enc]
    have hsz : sz (a.enc ++ b.enc) = (a.enc.length : Int) := by
      rw [sz_some (Th.hd_enc ha.1 b.enc), List.length_append]
      omega
    refine Ev.congr (f := fun k => (spec_l1Size.f k s (([101] : List Nat).length : Int)).bind fun u => if 1 ≤ wrap64 (1 + u) then if wrap64 (1 + u) ≤ (s.size : Int) then if 0 ≤ wrap64 (1 + u) then some ((4 : Int), (0 : Int), (0 : Int), s.extract 1 (wrap64 (1 + u)).toNat, s.extract (wrap64 (1 + u)).toNat s.size) else none else none else none) (fun k => ?_) ?_
    · unfold spec_l1How.f
      rw [if_pos (by omega), b0, if_neg (by decide), if_neg (by decide), if_neg (by decide), if_neg (by decide), if_pos rfl]
      rfl
    · refine Ev.bind (size_ev (by omega) _ [101] (a.enc ++ b.enc) h (Nat.le_refl _)) (Ev.of_eq fun k => ?_)
      rw [hsz, wz (by omega) (by omega), if_pos (by omega), if_pos (by omega), if_pos (by omega), show (1 + (a.enc.length : Int)).toNat = 1 + a.enc.length by omega]
      rw [cut_ (pre := [101]) (u := a.enc) (v := b.enc) h 1 (1 + a.enc.length) rfl rfl, cut_end (pre := 101 :: a.enc) (u := b.enc) h (1 + a.enc.length) (by rw [List.length_cons]; omega)]
      rfl
/-- What the reference tells of a text. -/
theorem implMade (s : ByteArray) : impl_SecMade.f s = some (match nm s with | some a => tells a | none => (0, 0, 0, ⟨#[]⟩, ⟨#[]⟩)) := by
  unfold impl_SecMade.f
  cases nm s <;> rfl
end Go.Proofs.YtnemchmiplbopaaDoor.Pure
