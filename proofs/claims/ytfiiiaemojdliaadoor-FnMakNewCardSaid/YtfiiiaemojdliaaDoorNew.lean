/- A new secret's name, as the program and as the reference make it. -/
import Derived.Test.YtfiiiaemojdliaaDoorPureFnExactMakNew
import Derived.Test.YtfiiiaemojdliaaDoorDraw
namespace Go.Proofs.YtfiiiaemojdliaaDoor.Pure
open Go.RowKit Go.Proofs.YtfiiiaemojdliaaDoor Go.Proofs.YtfiiiaemojdliaaDoor.Walk Go.Proofs.YtfiiiaemojdliaaDoorW.PrintWords Go.Proofs.YtfiiiaemojdliaaDoorW.PrintLast
open Go.Proofs.YtfiiiaemojdliaaDoor.Th (T B Nm nm dec)

theorem T_app (a b : List Nat) : T (a ++ b) = T a ++ T b := by
  apply Th.B_inj
  rw [Th.B_append]
  simp [T, B]
/-- What makNew of one and a number is. -/
def mkNew (a b : Int) : ByteArray := if (0 ≤ a ∧ a ≤ 7) ∧ (1 ≤ b ∧ b ≤ 99) then T (Nm.new a.toNat b.toNat).enc else ⟨#[]⟩
theorem letter_T {a : Int} (h0 : 0 ≤ a) (h1 : a ≤ 7) : impl_letter.f a = some (T [65 + a.toNat]) := by
  unfold impl_letter.f
  rw [if_pos (by omega)]
  rfl
theorem itoa_T {a : Int} (h0 : 1 ≤ a) (h1 : a ≤ 99) : strconv_Itoa.f a = some (T (dec a.toNat)) := by
  obtain ⟨n, rfl⟩ := Int.eq_ofNat_of_zero_le (show 0 ≤ a by omega)
  have : ∀ n : Fin 100, strconv_Itoa.f ((n.1 : Nat) : Int) = some (T (dec n.1)) := by decide +kernel
  exact this ⟨n, by omega⟩
theorem spec_letter {a : Int} (h0 : 0 ≤ a) (h1 : a ≤ 7) : spec_l1Who.f a = some (T [65 + a.toNat]) := by
  obtain ⟨s, e0, e1, _⟩ := who_letter h0 h1
  rw [e0, ← e1, letter_T h0 h1]
theorem spec_plain {a : Int} (h0 : 1 ≤ a) (h1 : a ≤ 99) (k : Nat) (hk : 3 ≤ k) : spec_l1Plain.f k a = some (T (dec a.toNat)) := by
  obtain ⟨s, e0, e1, _⟩ := plain_itoa h0 h1
  rw [e0 k hk, ← e1, itoa_T h0 h1]
theorem dec_two (n : Nat) : (dec n).length ≤ 2 := by unfold dec; split <;> simp
theorem impl_new (a b : Int) (k : Nat) (hk : 1 ≤ k) : impl_MakNew.f k a b = some (mkNew a b) := by
  obtain ⟨k, rfl⟩ : ∃ j, k = j + 1 := ⟨k - 1, by omega⟩
  unfold impl_MakNew.f mkNew
  rw [isOne_any, in_any']
  simp only [Option.bind_some]
  by_cases h0 : 0 ≤ a ∧ a ≤ 7
  · by_cases h1 : 1 ≤ b ∧ b ≤ 99
    · rw [decide_eq_true h0, decide_eq_true h1, if_pos rfl, if_pos ⟨h0, h1⟩]
      simp only [Bool.not_true, impl_MakNew.j0]
      rw [if_neg (by decide), letter_T h0.1 h0.2, itoa_T h1.1 h1.2]
      simp only [Option.bind_some]
      have := dec_two b.toNat
      rw [if_pos (by rw [Th.T_size, Th.T_size, List.length_singleton]; omega), if_pos (by rw [ByteArray.size_append, Th.T_size, Th.T_size, List.length_singleton]; omega)]
      rw [show (⟨#[59]⟩ : ByteArray) = T [59] from rfl, ← T_app, ← T_app]
      rfl
    · rw [decide_eq_true h0, decide_eq_false h1, if_pos rfl, if_neg (fun h => h1 h.2)]
      simp [impl_MakNew.j0]
  · rw [decide_eq_false h0, if_neg (by decide), if_neg (fun h => h0 h.1)]
    simp [impl_MakNew.j0]
theorem spec_new (a b : Int) (k : Nat) (hk : 4 ≤ k) : spec_MakNew.f k a b = some (mkNew a b) := by
  obtain ⟨k, rfl⟩ : ∃ j, k = j + 1 := ⟨k - 1, by omega⟩
  unfold spec_MakNew.f mkNew
  rw [in_any, in_any]
  simp only [Option.bind_some]
  by_cases h0 : 0 ≤ a ∧ a ≤ 7
  · by_cases h1 : 1 ≤ b ∧ b ≤ 99
    · rw [decide_eq_true h0, decide_eq_true h1, if_pos rfl, if_pos ⟨h0, h1⟩]
      simp only [Bool.not_true, spec_MakNew.j0]
      rw [if_neg (by decide), spec_letter h0.1 h0.2, spec_plain h1.1 h1.2 k (by omega)]
      simp only [Option.bind_some]
      have := dec_two b.toNat
      rw [if_pos (by rw [Th.T_size, Th.T_size, List.length_singleton]; omega), if_pos (by rw [ByteArray.size_append, Th.T_size, Th.T_size, List.length_singleton]; omega)]
      rw [show (⟨#[59]⟩ : ByteArray) = T [59] from rfl, ← T_app, ← T_app]
      rfl
    · rw [decide_eq_true h0, decide_eq_false h1, if_pos rfl, if_neg (fun h => h1 h.2)]
      simp [spec_MakNew.j0]
  · rw [decide_eq_false h0, if_neg (by decide), if_neg (fun h => h0 h.1)]
    simp [spec_MakNew.j0]
theorem new_ok {a b : Int} (h0 : 0 ≤ a ∧ a ≤ 7) (h1 : 1 ≤ b ∧ b ≤ 99) : (Nm.new a.toNat b.toNat).ok = true := by
  simp only [Nm.ok, Bool.and_eq_true, decide_eq_true_eq]
  omega
theorem new_short (w n : Nat) : (Nm.new w n).enc.length ≤ 4 := by
  have := dec_two n
  simp only [Nm.enc, List.length_cons, List.length_append, List.length_nil]
  omega
theorem nm_new {a b : Int} (h0 : 0 ≤ a ∧ a ≤ 7) (h1 : 1 ≤ b ∧ b ≤ 99) : nm (mkNew a b) = some (.new a.toNat b.toNat) := by
  unfold mkNew
  rw [if_pos ⟨h0, h1⟩]
  exact Th.nm_T (new_ok h0 h1) (by have := new_short a.toNat b.toNat; omega)
theorem nm_empty : nm (⟨#[]⟩ : ByteArray) = none := by decide +kernel
/-- Two names of new secrets are one just if both are made of the same. -/
theorem new_one {a b c d : Int} (h0 : 0 ≤ a ∧ a ≤ 7) (h1 : 1 ≤ b ∧ b ≤ 99) : (mkNew a b).toList = (mkNew c d).toList ↔ a = c ∧ b = d := by
  rw [Th.toList_eq]
  constructor
  · intro h
    by_cases g : (0 ≤ c ∧ c ≤ 7) ∧ (1 ≤ d ∧ d ≤ 99)
    · have e := nm_new h0 h1
      rw [h, nm_new g.1 g.2] at e
      simp only [Option.some.injEq, Nm.new.injEq] at e
      omega
    · have e := nm_new h0 h1
      rw [h, show mkNew c d = ⟨#[]⟩ from if_neg g, nm_empty] at e
      cases e
  · rintro ⟨rfl, rfl⟩
    rfl
end Go.Proofs.YtfiiiaemojdliaaDoor.Pure
