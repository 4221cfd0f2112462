/- The reader of codes: each pick is a number below its bound, and moves on by one. Plain Lean. -/
import Derived.Test.YtdcaipomjimplaaDoorWtx1
import Derived.Laws.BitsLemmas
namespace Go.Proofs.YtdcaipomjimplaaDoor.Pure
open Go.RowKit Go.Proofs.YtdcaipomjimplaaDoor Go.Proofs.YtdcaipomjimplaaDoor.Wt Go.Proofs.YtdcaipomjimplaaDoorW.PrintWords Go.Proofs.YtdcaipomjimplaaDoorW.PrintLast

theorem w64 {x : Int} (h0 : -1000000000000 ≤ x) (h1 : x ≤ 1000000000000) : wrap64 x = x := by
  unfold wrap64
  omega
theorem xor_nat (a b : Nat) (ha : a < 2 ^ 31) (hb : b < 2 ^ 31) : Go.bits .xor .i64 (a : Int) (b : Int) = ((a ^^^ b : Nat) : Int) := by
  have ha' : a % 2 ^ 64 = a := Nat.mod_eq_of_lt (by omega)
  have hb' : b % 2 ^ 64 = b := Nat.mod_eq_of_lt (by omega)
  have hx : a ^^^ b < 2 ^ 31 := Nat.xor_lt_two_pow ha hb
  have e : (BitVec.ofNat 64 a ^^^ BitVec.ofNat 64 b).toNat = a ^^^ b := by
    rw [BitVec.toNat_xor, BitVec.toNat_ofNat, BitVec.toNat_ofNat, ha', hb']
  simp only [Go.bits, BitVec.ofInt_natCast, IntKind.bits]
  rw [IntKind.wrap_i64]
  show (((BitVec.ofNat 64 a ^^^ BitVec.ofNat 64 b).toNat : Int) + 9223372036854775808) % 18446744073709551616 - 9223372036854775808 = _
  rw [e]
  omega
theorem xor_pos {x y : Int} (h0 : 0 ≤ x) (h1 : x < 2 ^ 31) (g0 : 0 ≤ y) (g1 : y < 2 ^ 31) : 0 ≤ Go.bits .xor .i64 x y ∧ Go.bits .xor .i64 x y < 2 ^ 31 := by
  obtain ⟨a, rfl⟩ := Int.eq_ofNat_of_zero_le h0
  obtain ⟨b, rfl⟩ := Int.eq_ofNat_of_zero_le g0
  have ha : a < 2 ^ 31 := by omega
  have hb : b < 2 ^ 31 := by omega
  rw [xor_nat a b ha hb]
  have := Nat.xor_lt_two_pow ha hb
  omega
/-- The bytes of a code. -/
def Bytes (b : List Int) : Prop := ∀ x ∈ b, 0 ≤ x ∧ x ≤ 255
theorem Bytes.of_wf {l : List Int} (h : ∀ x ∈ l, (Lit.int .u8 x).wf = true) : Bytes l := by
  intro x hx
  have := h x hx
  simp only [Lit.wf, Bool.and_eq_true, decide_eq_true_eq] at this
  exact ⟨by have := this.1; simpa [IntKind.min, IntKind.signed] using this, by have := this.2; simpa [IntKind.max, IntKind.signed, IntKind.bits] using this⟩
theorem Bytes.take {l : List Int} (h : Bytes l) (n : Nat) : Bytes (l.take n) := fun x hx => h x (List.mem_of_mem_take hx)
theorem Bytes.rd_ {l : List Int} (h : Bytes l) (i : Int) : 0 ≤ rd l i ∧ rd l i ≤ 255 := by
  unfold rd
  rw [List.getD_eq_getElem?_getD]
  cases e : l[i.toNat]? with
  | none => exact ⟨Int.le_refl _, by decide⟩
  | some x => exact h x (List.mem_of_getElem? e)
/-- What a reader is good for: short, of bytes, not far on. -/
structure Rd (b : List Int) (p : Int) (m : Int) : Prop where
  bytes : Bytes b
  short : b.length ≤ 2000
  lo : 0 ≤ p
  hi : p ≤ m
theorem open_any (l : List Int) (h : Bytes l) : ∃ b, spec_l20Open.f l = some (b, 0) ∧ Rd b 0 0 := by
  unfold spec_l20Open.f
  by_cases hl : (l.length : Int) > 2000
  · rw [if_pos hl, if_pos (by omega)]
    exact ⟨_, rfl, h.take _, by rw [List.length_take]; omega, Int.le_refl _, Int.le_refl _⟩
  · rw [if_neg hl]
    exact ⟨_, rfl, h, by omega, Int.le_refl _, Int.le_refl _⟩
theorem pick_any {b : List Int} {p m : Int} (h : Rd b p m) (hm : m ≤ 100000) (n : Int) (hn : 1 ≤ n) (hn2 : n ≤ 1000000) (k : Nat) (hk : 1 ≤ k) :
    ∃ r, spec_l20Rd_pick.f k b p n = some (r, p + 1) ∧ 0 ≤ r ∧ r < n := by
  obtain ⟨k, rfl⟩ : ∃ j, k = j + 1 := ⟨k - 1, by omega⟩
  obtain ⟨hb, hl, h0, h1⟩ := h
  unfold spec_l20Rd_pick.f
  rw [if_neg (by omega)]
  simp only [spec_l20Rd_pick.j0]
  rw [w64 (x := p + 1) (by omega) (by omega), show p + 1 - 1 = p by omega, w64 (x := p) (by omega) (by omega)]
  by_cases hz : ((b.length : Int) == 0) = true
  · rw [if_pos hz]
    exact ⟨0, rfl, by omega, by omega⟩
  · rw [if_neg hz]
    have hlen : 0 < (b.length : Int) := by
      have : ¬ (b.length : Int) = 0 := fun e => hz (by rw [e]; rfl)
      omega
    by_cases hp : p < (b.length : Int)
    · rw [if_pos hp, if_pos h0, if_neg (by omega)]
      obtain ⟨r0, r1⟩ := hb.rd_ p
      rw [w64 (x := rd b p) (by omega) (by omega)]
      exact ⟨_, rfl, Int.tmod_nonneg _ r0, Int.tmod_lt_of_pos _ (by omega)⟩
    · rw [if_neg hp, if_neg (by omega)]
      have i0 := Int.tmod_nonneg (b.length : Int) h0
      have i1 := Int.tmod_lt_of_pos p hlen
      have j0 := Int.tmod_nonneg (b.length : Int) (show 0 ≤ p * 7 + 3 by omega)
      have j1 := Int.tmod_lt_of_pos (p * 7 + 3) hlen
      rw [if_pos i0, if_pos i1, w64 (x := p * 7) (by omega) (by omega), w64 (x := p * 7 + 3) (by omega) (by omega), if_pos j0, if_pos j1, if_neg (by omega)]
      obtain ⟨u0, u1⟩ := hb.rd_ (p.tmod (b.length : Int))
      obtain ⟨v0, v1⟩ := hb.rd_ ((p * 7 + 3).tmod (b.length : Int))
      have q0 : 0 ≤ p.tdiv (b.length : Int) := Int.tdiv_nonneg h0 (by omega)
      have q1 : p.tdiv (b.length : Int) ≤ p := Int.tdiv_le_self _ h0
      generalize rd b (p.tmod (b.length : Int)) = u at u0 u1 ⊢
      generalize rd b ((p * 7 + 3).tmod (b.length : Int)) = v at v0 v1 ⊢
      generalize p.tdiv (b.length : Int) = q at q0 q1 ⊢
      rw [w64 (x := u) (by omega) (by omega), w64 (x := v) (by omega) (by omega), w64 (x := q) (by omega) (by omega), w64 (x := u * 131) (by omega) (by omega), w64 (x := v * 1117) (by omega) (by omega), w64 (x := p * 29) (by omega) (by omega), w64 (x := q * 53) (by omega) (by omega), w64 (x := u * 131 + v * 1117) (by omega) (by omega), w64 (x := u * 131 + v * 1117 + p * 29) (by omega) (by omega), w64 (x := u * 131 + v * 1117 + p * 29 + q * 53) (by omega) (by omega)]
      have X0 : 0 ≤ u * 131 + v * 1117 + p * 29 + q * 53 := by omega
      have X1 : u * 131 + v * 1117 + p * 29 + q * 53 < 2 ^ 31 := by omega
      generalize u * 131 + v * 1117 + p * 29 + q * 53 = X at X0 X1 ⊢
      have d0 : 0 ≤ X.tdiv 64 := Int.tdiv_nonneg X0 (by omega)
      have d1 : X.tdiv 64 ≤ X := Int.tdiv_le_self _ X0
      rw [w64 (x := X.tdiv 64) (by omega) (by omega)]
      obtain ⟨z0, z1⟩ := xor_pos X0 X1 d0 (by omega)
      exact ⟨_, rfl, Int.tmod_nonneg _ z0, Int.tmod_lt_of_pos _ (by omega)⟩
theorem Rd.next {b : List Int} {p m : Int} (h : Rd b p m) : Rd b (p + 1) (m + 1) := ⟨h.bytes, h.short, by have := h.lo; omega, by have := h.hi; omega⟩
end Go.Proofs.YtdcaipomjimplaaDoor.Pure
