/- What reading a name comes to, whatever the text; SecMade and SecOk: their contracts. -/
import Derived.Test.YtnemchmiplbopaaGreatDoorGivB
namespace Go.Proofs.YtnemchmiplbopaaGreatDoor
set_option linter.unusedSimpArgs false
set_option linter.unusedVariables false
set_option maxRecDepth 100000
open Go.RowKit Go.Proofs.YtnemchmiplbopaaGreatDoorW.PrintWords Go.Proofs.YtnemchmiplbopaaGreatDoorW.PrintLast Go.Proofs.YtnemchmiplbopaaGreatDoorW.PrintMore Go.Proofs.YtnemchmiplbopaaGreatDoor.Th

/-! ### name, whatever the text -/
theorem B_cons {s : ByteArray} (h : 0 < s.size) : ∃ c : Nat, bt s 0 = c ∧ B s = c :: B (s.extract 1 s.size) := by
  refine ⟨(B s).getD 0 0, bt_B s 0, ?_⟩
  rw [B_extract, List.take_of_length_le (by rw [B_length]; exact Nat.le_refl _)]
  have h' : 0 < (B s).length := by rw [B_length]; exact h
  have := getD_cons_drop 0 h'
  simpa using this
theorem tail_size {s : ByteArray} (h : 0 < s.size) : (s.extract 1 s.size).size = s.size - 1 := by
  rw [ByteArray.size_extract]
  omega
theorem B_from (x : ByteArray) (k : Nat) : B (x.extract k x.size) = (B x).drop k := by rw [B_extract, List.take_of_length_le (by rw [B_length]; exact Nat.le_refl _)]
theorem suffix_lt {x : ByteArray} {l r : List Nat} (h : B x = l ++ r) : ∀ z ∈ r, z < 256 := fun z hz => B_lt x z (by rw [h]; exact List.mem_append_right _ hz)
theorem rest_size {x : ByteArray} {l r : List Nat} (h : B x = l ++ r) : (T r).size ≤ x.size := by
  rw [T_size, ← B_length x, h]
  simp
theorem cut_head {x : ByteArray} {l r : List Nat} (h : B x = l ++ r) : x.extract 0 (x.size - (T r).size) = T l := by
  apply B_inj
  rw [B_extract, B_T (fun z hz => B_lt x z (by rw [h]; exact List.mem_append_left _ hz)), T_size, ← B_length x, h]
  simp
def nameV (s : ByteArray) : Value := match hd (B s) with
  | some (a, r) => .tuple #[.agg #[.int .i64 a.op, .int .i64 a.who, .int .i64 a.num, .string (T a.fst), .string (T a.snd)], .string (T r), .bool true]
  | none => .tuple #[.agg #[.int .i64 0, .int .i64 0, .int .i64 0, .string ⟨#[]⟩, .string ⟨#[]⟩], .string s, .bool false]
theorem nameV_some {s : ByteArray} {a : Nm} {r : List Nat} (h : hd (B s) = some (a, r)) : nameV s = .tuple #[.agg #[.int .i64 a.op, .int .i64 a.who, .int .i64 a.num, .string (T a.fst), .string (T a.snd)], .string (T r), .bool true] := by
  unfold nameV
  rw [h]
theorem nameV_none {s : ByteArray} (h : hd (B s) = none) : nameV s = .tuple #[.agg #[.int .i64 0, .int .i64 0, .int .i64 0, .string ⟨#[]⟩, .string ⟨#[]⟩], .string s, .bool false] := by
  unfold nameV
  rw [h]

theorem num_some {x : ByteArray} {n : Nat} {r' : List Nat} (h : prsNum (B x) = some (n, r')) : ∃ r, impl_numberOf.f x = some ((n : Int), r) ∧ (n : Int) ≠ 0 ∧ 0 < r.size ∧ bt r 0 = 59 ∧ B (r.extract 1 r.size) = r' := by
  unfold prsNum at h
  have e0 := bt_B x 0
  have e1 := bt_B x 1
  simp only [Int.toNat_zero] at e0
  simp only [show (1 : Int).toNat = 1 from rfl] at e1
  have l0 : (B x).length = x.size := B_length x
  split at h
  · rename_i h0
    have hx0 : 0 < x.size := by rw [← l0]; exact lt_of_getD (by omega)
    split at h
    · rename_i h1
      have hx1 : 1 < x.size := by rw [← l0]; exact lt_of_getD (by omega)
      split at h
      · rename_i h2
        simp only [Option.some.injEq, Prod.mk.injEq] at h
        obtain ⟨rfl, rfl⟩ := h
        have hx2 : 2 < x.size := by rw [← l0]; exact lt_of_getD (by omega)
        have hs : (x.extract 2 x.size).size = x.size - 2 := by rw [ByteArray.size_extract]; omega
        refine ⟨x.extract 2 x.size, ?_, by omega, by omega, ?_, ?_⟩
        · unfold impl_numberOf.f
          rw [if_pos ⟨hx0, by omega, by omega⟩, if_neg (by omega), if_pos ⟨hx1, by omega, by omega⟩, e0, e1]
          congr 2
          omega
        · rw [bt_B, B_extract, List.take_of_length_le (by omega)]
          simp only [Int.toNat_zero, List.getD_eq_getElem?_getD, List.getElem?_drop] at h2 ⊢
          rw [show 2 + 0 = 2 from rfl, h2]
          rfl
        · rw [B_from, B_from, List.drop_drop]
      · exact absurd h (by simp)
    · rename_i h1
      split at h
      · rename_i h2
        simp only [Option.some.injEq, Prod.mk.injEq] at h
        obtain ⟨rfl, rfl⟩ := h
        have hx1 : 1 < x.size := by rw [← l0]; exact lt_of_getD (by omega)
        have hs : (x.extract 1 x.size).size = x.size - 1 := by rw [ByteArray.size_extract]; omega
        refine ⟨x.extract 1 x.size, ?_, by omega, by omega, ?_, ?_⟩
        · unfold impl_numberOf.f
          rw [if_pos ⟨hx0, by omega, by omega⟩, if_neg (by omega), if_neg (by omega), e0]
          congr 2
          omega
        · rw [bt_B, B_extract, List.take_of_length_le (by omega)]
          simp only [Int.toNat_zero, List.getD_eq_getElem?_getD, List.getElem?_drop] at h2 ⊢
          rw [show 1 + 0 = 1 from rfl, h2]
          rfl
        · rw [B_from, B_from, List.drop_drop]
      · exact absurd h (by simp)
  · exact absurd h (by simp)
theorem num_none {x : ByteArray} (h : prsNum (B x) = none) : ∃ n r, impl_numberOf.f x = some (n, r) ∧ (n = 0 ∨ ¬ 0 < r.size ∨ bt r 0 ≠ 59) := by
  unfold prsNum at h
  have e0 := bt_B x 0
  have e1 := bt_B x 1
  simp only [Int.toNat_zero] at e0
  simp only [show (1 : Int).toNat = 1 from rfl] at e1
  have l0 : (B x).length = x.size := B_length x
  unfold impl_numberOf.f
  by_cases h0 : 0 < x.size ∧ 48 ≤ bt x 0 ∧ bt x 0 ≤ 57
  · rw [if_pos h0]
    by_cases hz : bt x 0 = 48
    · rw [if_pos hz]; exact ⟨_, _, rfl, .inl rfl⟩
    · rw [if_neg hz]
      rw [if_pos (by omega)] at h
      by_cases h1 : 1 < x.size ∧ 48 ≤ bt x 1 ∧ bt x 1 ≤ 57
      · rw [if_pos h1]
        rw [if_pos (by omega)] at h
        have hs : (x.extract 2 x.size).size = x.size - 2 := by rw [ByteArray.size_extract]; omega
        split at h
        · exact absurd h (by simp)
        · rename_i h2
          refine ⟨_, _, rfl, .inr (.inr ?_)⟩
          rw [bt_B, B_extract, List.take_of_length_le (by omega)]
          simp only [Int.toNat_zero, List.getD_eq_getElem?_getD, List.getElem?_drop] at h2 ⊢
          rw [show 2 + 0 = 2 from rfl]
          omega
      · rw [if_neg h1]
        have hn : ¬ (48 ≤ (B x).getD 1 0 ∧ (B x).getD 1 0 ≤ 57) := by
          intro hc
          have : 1 < (B x).length := lt_of_getD (by omega)
          exact h1 ⟨by omega, by omega, by omega⟩
        rw [if_neg hn] at h
        split at h
        · exact absurd h (by simp)
        · rename_i h2
          refine ⟨_, _, rfl, .inr (.inr ?_)⟩
          rw [bt_B, B_extract, List.take_of_length_le (by omega)]
          simp only [Int.toNat_zero, List.getD_eq_getElem?_getD, List.getElem?_drop] at h2 ⊢
          rw [show 1 + 0 = 1 from rfl]
          omega
  · rw [if_neg h0]; exact ⟨_, _, rfl, .inl rfl⟩

theorem name_any : ∀ (m : Nat) (s : ByteArray) (w : World), s.size ≤ m → s.size ≤ 300 → GlobOk w →
    Calls Tryz.prog 110 #[.string s] w fun e w' => e = .returned (nameV s) ∧ Below w.heap.size w w' := by
  intro m
  induction m with
  | zero =>
    intro s w hm _ _
    obtain rfl : s = ⟨#[]⟩ := B_eq_nil.1 (List.eq_nil_of_length_eq_zero (by rw [B_length]; omega))
    exact name_empty w
  | succ m ih =>
    intro s w hm hl hG
    by_cases h : 0 < s.size
    · obtain ⟨c, hc, hB⟩ := B_cons h
      have hxs := tail_size h
      obtain ⟨x, hX⟩ : ∃ x, s.extract 1 s.size = x := ⟨_, rfl⟩
      rw [hX] at hB hxs
      have hcd := hd_cons c (B x)
      have IH : ∀ W, GlobOk W → Calls Tryz.prog 110 #[.string x] W fun e w1 => e = .returned (nameV x) ∧ Below W.heap.size W w1 := fun W hW => ih x W (by omega) (by omega) hW
      by_cases hnew : 65 ≤ c ∧ c ≤ 72
      · rw [if_pos hnew] at hcd
        cases hp : prsNum (B x) with
        | some p =>
          obtain ⟨n, r'⟩ := p
          obtain ⟨r, n1, n2, n3, n4, n5⟩ := num_some hp
          rw [hp] at hcd
          rw [nameV_some (by rw [hB]; exact hcd)]
          refine (name_new_yes s x r w hG h (by omega) (by omega) hX n n1 n2 n3 n4).mono ?_
          rintro e w' ⟨rfl, hb⟩
          refine ⟨?_, hb⟩
          simp only [Nm.op, Nm.who, Nm.num, Nm.fst, Nm.snd]
          rw [← n5, T_B, hc, show ((c - 65 : Nat) : Int) = (c : Int) - 65 by omega]
          rfl
        | none =>
          obtain ⟨n, r, n1, n2⟩ := num_none hp
          rw [hp] at hcd
          rw [nameV_none (by rw [hB]; exact hcd)]
          by_cases hn : n = 0
          · subst hn
            exact name_new_zero s x r w hG h (by omega) (by omega) hX n1
          · by_cases hr : 0 < r.size
            · exact name_new_bad s x r w hG h (by omega) (by omega) hX n n1 hn (fun W => semi_no r W hr (by rcases n2 with n2 | n2 | n2; exact absurd n2 hn; exact absurd hr n2; exact n2))
            · exact name_new_bad s x r w hG h (by omega) (by omega) hX n n1 hn (fun W => semi_none r W hr)
      rw [if_neg hnew] at hcd
      by_cases h110 : c = 110
      · subst h110
        rw [if_pos rfl] at hcd
        cases hp : hd (B x) with
        | some p =>
          obtain ⟨a, r⟩ := p
          rw [hp] at hcd
          rw [nameV_some (by rw [hB]; exact hcd)]
          have hs := (hd_sound hp).2
          refine (name_next_yes s x (T r) w hG h hc hX (by omega) (rest_size hs) _ _ _ _ _ (fun W hW => (IH W hW).mono (fun e w1 ⟨he, hb⟩ => ⟨he.trans (by rw [nameV_some hp]), hb⟩))).mono ?_
          rintro e w' ⟨rfl, hb⟩
          refine ⟨?_, hb⟩
          rw [cut_head hs]
          rfl
        | none =>
          rw [hp] at hcd
          rw [nameV_none (by rw [hB]; exact hcd)]
          exact name_next_no s x w hG h hc hX (by omega) (fun W hW => (IH W hW).mono (fun e w1 ⟨he, hb⟩ => ⟨he.trans (by rw [nameV_none hp]), hb⟩))
      rw [if_neg h110] at hcd
      by_cases h107 : c = 107
      · subst h107
        rw [if_pos rfl] at hcd
        cases hp : hd (B x) with
        | some p =>
          obtain ⟨a, r⟩ := p
          rw [hp] at hcd
          rw [nameV_some (by rw [hB]; exact hcd)]
          have hs := (hd_sound hp).2
          refine (name_key_yes s x (T r) w hG h hc hX (by omega) (rest_size hs) _ _ _ _ _ (fun W hW => (IH W hW).mono (fun e w1 ⟨he, hb⟩ => ⟨he.trans (by rw [nameV_some hp]), hb⟩))).mono ?_
          rintro e w' ⟨rfl, hb⟩
          refine ⟨?_, hb⟩
          rw [cut_head hs]
          rfl
        | none =>
          rw [hp] at hcd
          rw [nameV_none (by rw [hB]; exact hcd)]
          exact name_key_no s x w hG h hc hX (by omega) (fun W hW => (IH W hW).mono (fun e w1 ⟨he, hb⟩ => ⟨he.trans (by rw [nameV_none hp]), hb⟩))
      rw [if_neg h107] at hcd
      by_cases h101 : c = 101
      · subst h101
        rw [if_pos rfl] at hcd
        cases hp : hd (B x) with
        | some p =>
          obtain ⟨a, r⟩ := p
          rw [hp] at hcd
          simp only [Option.bind_some] at hcd
          have hs := (hd_sound hp).2
          have hy : B (T r) = r := B_T (suffix_lt hs)
          have hys := rest_size hs
          have IH2 : ∀ W, GlobOk W → Calls Tryz.prog 110 #[.string (T r)] W fun e w1 => e = .returned (nameV (T r)) ∧ Below W.heap.size W w1 := fun W hW => ih (T r) W (by omega) (by omega) hW
          have HC : ∀ W, GlobOk W → Calls Tryz.prog 110 #[.string x] W fun e w1 => e = .returned (.tuple #[.agg #[.int .i64 a.op, .int .i64 a.who, .int .i64 a.num, .string (T a.fst), .string (T a.snd)], .string (T r), .bool true]) ∧ Below W.heap.size W w1 := fun W hW => (IH W hW).mono (fun e w1 ⟨he, hb⟩ => ⟨he.trans (by rw [nameV_some hp]), hb⟩)
          cases hq : hd r with
          | some q =>
            obtain ⟨b, r2⟩ := q
            rw [hq] at hcd
            rw [nameV_some (by rw [hB]; exact hcd)]
            have hs2 : B (T r) = b.enc ++ r2 := hy.trans (hd_sound hq).2
            refine (name_epoch_yes s x (T r) (T r2) w hG h hc hX (by omega) hys (rest_size hs2) _ _ _ _ _ _ _ _ _ _ HC (fun W hW => (IH2 W hW).mono (fun e w1 ⟨he, hb⟩ => ⟨he.trans (by rw [nameV_some (by rw [hy]; exact hq)]), hb⟩))).mono ?_
            rintro e w' ⟨rfl, hb⟩
            refine ⟨?_, hb⟩
            rw [cut_head hs, cut_head hs2]
            rfl
          | none =>
            rw [hq] at hcd
            rw [nameV_none (by rw [hB]; exact hcd)]
            exact name_epoch_half s x (T r) w hG h hc hX (by omega) hys _ _ _ _ _ HC (fun W hW => (IH2 W hW).mono (fun e w1 ⟨he, hb⟩ => ⟨he.trans (by rw [nameV_none (by rw [hy]; exact hq)]), hb⟩))
        | none =>
          rw [hp] at hcd
          rw [nameV_none (by rw [hB]; exact hcd)]
          exact name_epoch_no s x w hG h hc hX (by omega) (fun W hW => (IH W hW).mono (fun e w1 ⟨he, hb⟩ => ⟨he.trans (by rw [nameV_none hp]), hb⟩))
      rw [if_neg h101] at hcd
      by_cases h109 : c = 109
      · subst h109
        rw [if_pos rfl] at hcd
        by_cases hv : 0 < x.size
        · have hb0 : bt x 0 = ((B x).getD 0 0 : Nat) := bt_B x 0
          by_cases hr : 65 ≤ (B x).getD 0 0 ∧ (B x).getD 0 0 ≤ 72
          · rw [if_pos hr] at hcd
            have hys := tail_size hv
            have hyB : B (x.extract 1 x.size) = (B x).drop 1 := by rw [B_extract, List.take_of_length_le (by rw [B_length]; exact Nat.le_refl _)]
            obtain ⟨y, hY⟩ : ∃ y, x.extract 1 x.size = y := ⟨_, rfl⟩
            rw [hY] at hys hyB
            rw [← hyB] at hcd
            have IH2 : ∀ W, GlobOk W → Calls Tryz.prog 110 #[.string y] W fun e w1 => e = .returned (nameV y) ∧ Below W.heap.size W w1 := fun W hW => ih y W (by omega) (by omega) hW
            cases hp : hd (B y) with
            | some p =>
              obtain ⟨a, r⟩ := p
              rw [hp] at hcd
              rw [nameV_some (by rw [hB]; exact hcd)]
              have hs := (hd_sound hp).2
              refine (name_say_yes s x y (T r) w hG h hc hX hv ⟨by omega, by omega⟩ hY (by omega) (rest_size hs) _ _ _ _ _ (fun W hW => (IH2 W hW).mono (fun e w1 ⟨he, hb⟩ => ⟨he.trans (by rw [nameV_some hp]), hb⟩))).mono ?_
              rintro e w' ⟨rfl, hb⟩
              refine ⟨?_, hb⟩
              simp only [Nm.op, Nm.who, Nm.num, Nm.fst, Nm.snd]
              have hi : (((B x).getD 0 0 - 65 : Nat) : Int) = (((B x).getD 0 0 : Nat) : Int) - 65 := by omega
              rw [cut_head hs, hb0, hi]
              rfl
            | none =>
              rw [hp] at hcd
              rw [nameV_none (by rw [hB]; exact hcd)]
              exact name_say_no s x y w hG h hc hX hv ⟨by omega, by omega⟩ hY (by omega) (fun W hW => (IH2 W hW).mono (fun e w1 ⟨he, hb⟩ => ⟨he.trans (by rw [nameV_none hp]), hb⟩))
          · rw [if_neg hr] at hcd
            rw [nameV_none (by rw [hB]; exact hcd)]
            exact name_say_bad s x w h hc hX (fun W => one_no x W hv (by omega))
        · have hx0 : B x = [] := List.eq_nil_of_length_eq_zero (by rw [B_length]; omega)
          rw [hx0, if_neg (by simp)] at hcd
          rw [nameV_none (by rw [hB, hx0]; exact hcd)]
          exact name_say_bad s x w h hc hX (fun W => one_none x W hv)
      rw [if_neg h109] at hcd
      by_cases h114 : c = 114
      · subst h114
        rw [if_pos rfl] at hcd
        by_cases hv : 0 < x.size
        · have hb0 : bt x 0 = ((B x).getD 0 0 : Nat) := bt_B x 0
          by_cases hr : 49 ≤ (B x).getD 0 0 ∧ (B x).getD 0 0 ≤ 57
          · rw [if_pos hr] at hcd
            have hys := tail_size hv
            have hyB : B (x.extract 1 x.size) = (B x).drop 1 := by rw [B_extract, List.take_of_length_le (by rw [B_length]; exact Nat.le_refl _)]
            obtain ⟨y, hY⟩ : ∃ y, x.extract 1 x.size = y := ⟨_, rfl⟩
            rw [hY] at hys hyB
            rw [← hyB] at hcd
            have IH2 : ∀ W, GlobOk W → Calls Tryz.prog 110 #[.string y] W fun e w1 => e = .returned (nameV y) ∧ Below W.heap.size W w1 := fun W hW => ih y W (by omega) (by omega) hW
            cases hp : hd (B y) with
            | some p =>
              obtain ⟨a, r⟩ := p
              rw [hp] at hcd
              rw [nameV_some (by rw [hB]; exact hcd)]
              have hs := (hd_sound hp).2
              refine (name_room_yes s x y (T r) w hG h hc hX hv ⟨by omega, by omega⟩ hY (by omega) (rest_size hs) _ _ _ _ _ (fun W hW => (IH2 W hW).mono (fun e w1 ⟨he, hb⟩ => ⟨he.trans (by rw [nameV_some hp]), hb⟩))).mono ?_
              rintro e w' ⟨rfl, hb⟩
              refine ⟨?_, hb⟩
              simp only [Nm.op, Nm.who, Nm.num, Nm.fst, Nm.snd]
              have hi : (((B x).getD 0 0 - 48 : Nat) : Int) = (((B x).getD 0 0 : Nat) : Int) - 48 := by omega
              rw [cut_head hs, hb0, hi]
              rfl
            | none =>
              rw [hp] at hcd
              rw [nameV_none (by rw [hB]; exact hcd)]
              exact name_room_no s x y w hG h hc hX hv ⟨by omega, by omega⟩ hY (by omega) (fun W hW => (IH2 W hW).mono (fun e w1 ⟨he, hb⟩ => ⟨he.trans (by rw [nameV_none hp]), hb⟩))
          · rw [if_neg hr] at hcd
            rw [nameV_none (by rw [hB]; exact hcd)]
            by_cases hlo : bt x 0 < 49
            · exact name_room_lo s x w h hc hX hv hlo
            · exact name_room_hi s x w h hc hX hv (by omega)
        · have hx0 : B x = [] := List.eq_nil_of_length_eq_zero (by rw [B_length]; omega)
          rw [hx0, if_neg (by simp)] at hcd
          rw [nameV_none (by rw [hB, hx0]; exact hcd)]
          exact name_room_empty s x w h hc hX (B_eq_nil.1 hx0)
      rw [if_neg h114] at hcd
      rw [nameV_none (by rw [hB]; exact hcd)]
      exact name_other s w h (by omega) ⟨by omega, by omega, by omega, by omega, by omega⟩
    · obtain rfl : s = ⟨#[]⟩ := B_eq_nil.1 (List.eq_nil_of_length_eq_zero (by rw [B_length]; omega))
      exact name_empty w

/-! ### SecMade, SecOk -/
theorem made_long (s : ByteArray) (w : World) (hl : 300 < s.size) :
    Calls Tryz.prog 82 #[.string s] w fun e w' => e = .returned (.agg #[.int .i64 0, .int .i64 0, .int .i64 0, .string ⟨#[]⟩, .string ⟨#[]⟩]) ∧ Below w.heap.size w w' := by
  have l0 : decide ((300 : Int) < (s.size : Int)) = true := decide_eq_true (by omega)
  have l1 : decide (300 < s.size) = true := decide_eq_true hl
  clear hl
  go_enter Tryz.func82, Tryz.ntmps82
  go_wp2
  refine bodyPost_ret (results_cell_row rfl _ _ w.heap.size 98 #[.int .i64 0, .int .i64 0, .int .i64 0, .string ⟨#[]⟩, .string ⟨#[]⟩] (0, 0) _ rfl (blk_new w _) Tryz.underlying98 rfl (by kernel_rfl)) rfl ?_
  exact ⟨by first | rfl | (simp; done), (Below.refl _ _).alloc (Nat.le_refl _) _⟩
theorem made_none (s y : ByteArray) (w : World) (hG : GlobOk w) (hl : s.size ≤ 300) (v0 v1 v2 : Int) (v3 v4 : ByteArray)
    (HC : ∀ W, GlobOk W → Calls Tryz.prog 110 #[.string s] W fun e w1 => e = .returned (.tuple #[.agg #[.int .i64 v0, .int .i64 v1, .int .i64 v2, .string v3, .string v4], .string y, .bool false]) ∧ Below W.heap.size W w1) :
    Calls Tryz.prog 82 #[.string s] w fun e w' => e = .returned (.agg #[.int .i64 0, .int .i64 0, .int .i64 0, .string ⟨#[]⟩, .string ⟨#[]⟩]) ∧ Below w.heap.size w w' := by
  have l0 : decide ((300 : Int) < (s.size : Int)) = false := decide_eq_false (by omega)
  have l1 : decide (300 < s.size) = false := decide_eq_false (by omega)
  have HC' := Lib.hid HC
  clear HC hl
  go_enter Tryz.func82, Tryz.ntmps82
  go_wp2_with fail
  refine (HC'.out _ (hG.below (by repeat (first | exact Below.refl _ _ | (refine Below.alloc ?_ (by simp) _))))).mono ?_
  rintro e w1 ⟨rfl, hb⟩
  have R1 := Lib.hid (blk_below (g := w.heap.size) (o := .cells #[.int .i64 0, .int .i64 0, .int .i64 0, .string ⟨#[]⟩, .string ⟨#[]⟩] 98 (0, 0)) (blk_new w _) hb)
  have hz0 : w.heap.size < w1.heap.size := by have := hb.size; simp at this; omega
  have HB0 : Below w.heap.size w w1 := by
    refine Below.trans ?_ (Below.mono hb (by first | (simp; done) | (simp; omega)))
    repeat (first | exact Below.refl _ _ | (refine Below.alloc ?_ (by simp) _))
  have HB := Lib.hid HB0
  clear hb HB0
  go_wp2_with ((with_reducible refine gate_store (t := 98) (p := 2) rfl ?_); refine store_ev rfl 98 _ _ rfl w.heap.size #[.int .i64 0, .int .i64 0, .int .i64 0, .string ⟨#[]⟩, .string ⟨#[]⟩] rfl rfl 98 #[.int .i64 0, .int .i64 0, .int .i64 0, .string ⟨#[]⟩, .string ⟨#[]⟩] (by repeat (first | exact R1.out | (refine blk_far ?_ (by simp) _) | (refine blk_alloc ?_ _))) (by kernel_rfl) rfl (by simp [Value.oneCell']) ?_; intro w2 hr hbw)
  refine bodyPost_ret (results_cell_row rfl _ _ w.heap.size 98 #[.int .i64 0, .int .i64 0, .int .i64 0, .string ⟨#[]⟩, .string ⟨#[]⟩] (0, 0) _ rfl hr.out Tryz.underlying98 rfl (by kernel_rfl)) rfl ?_
  exact ⟨by first | rfl | (simp; done), hbw.out _ _ (by repeat (first | exact HB.out | (refine Below.alloc ?_ (by first | omega | (simp; omega)) _) | (refine Below.setCell ?_ (by first | (simp; done) | omega) _))) (Nat.le_refl _)⟩
theorem made_more (s y : ByteArray) (w : World) (hG : GlobOk w) (hl : s.size ≤ 300) (v0 v1 v2 : Int) (v3 v4 : ByteArray) (hy : y ≠ ⟨#[]⟩)
    (HC : ∀ W, GlobOk W → Calls Tryz.prog 110 #[.string s] W fun e w1 => e = .returned (.tuple #[.agg #[.int .i64 v0, .int .i64 v1, .int .i64 v2, .string v3, .string v4], .string y, .bool true]) ∧ Below W.heap.size W w1) :
    Calls Tryz.prog 82 #[.string s] w fun e w' => e = .returned (.agg #[.int .i64 0, .int .i64 0, .int .i64 0, .string ⟨#[]⟩, .string ⟨#[]⟩]) ∧ Below w.heap.size w w' := by
  have ye : (y.toList == []) = false := by
    rw [beq_eq_false_iff_ne]
    intro h1
    exact hy (toList_nil.1 h1)
  have yd : (y.toList != []) = true := by
    rw [bne_iff_ne]
    intro h1
    exact hy (toList_nil.1 h1)
  have yi : (!y.toList.isEmpty) = true := by
    cases h1 : y.toList with
    | nil => exact absurd (toList_nil.1 h1) hy
    | cons _ _ => rfl
  clear hy
  have l0 : decide ((300 : Int) < (s.size : Int)) = false := decide_eq_false (by omega)
  have l1 : decide (300 < s.size) = false := decide_eq_false (by omega)
  have HC' := Lib.hid HC
  clear HC hl
  go_enter Tryz.func82, Tryz.ntmps82
  go_wp2_with fail
  refine (HC'.out _ (hG.below (by repeat (first | exact Below.refl _ _ | (refine Below.alloc ?_ (by simp) _))))).mono ?_
  rintro e w1 ⟨rfl, hb⟩
  have R1 := Lib.hid (blk_below (g := w.heap.size) (o := .cells #[.int .i64 0, .int .i64 0, .int .i64 0, .string ⟨#[]⟩, .string ⟨#[]⟩] 98 (0, 0)) (blk_new w _) hb)
  have hz0 : w.heap.size < w1.heap.size := by have := hb.size; simp at this; omega
  have HB0 : Below w.heap.size w w1 := by
    refine Below.trans ?_ (Below.mono hb (by first | (simp; done) | (simp; omega)))
    repeat (first | exact Below.refl _ _ | (refine Below.alloc ?_ (by simp) _))
  have HB := Lib.hid HB0
  clear hb HB0
  go_wp2_with ((with_reducible refine gate_store (t := 98) (p := 2) rfl ?_); refine store_ev rfl 98 _ _ rfl w.heap.size #[.int .i64 0, .int .i64 0, .int .i64 0, .string ⟨#[]⟩, .string ⟨#[]⟩] rfl rfl 98 #[.int .i64 0, .int .i64 0, .int .i64 0, .string ⟨#[]⟩, .string ⟨#[]⟩] (by repeat (first | exact R1.out | (refine blk_far ?_ (by simp) _) | (refine blk_alloc ?_ _))) (by kernel_rfl) rfl (by simp [Value.oneCell']) ?_; intro w2 hr hbw)
  refine bodyPost_ret (results_cell_row rfl _ _ w.heap.size 98 #[.int .i64 0, .int .i64 0, .int .i64 0, .string ⟨#[]⟩, .string ⟨#[]⟩] (0, 0) _ rfl hr.out Tryz.underlying98 rfl (by kernel_rfl)) rfl ?_
  exact ⟨by first | rfl | (simp; done), hbw.out _ _ (by repeat (first | exact HB.out | (refine Below.alloc ?_ (by first | omega | (simp; omega)) _) | (refine Below.setCell ?_ (by first | (simp; done) | omega) _))) (Nat.le_refl _)⟩
theorem made_whole (s : ByteArray) (w : World) (hG : GlobOk w) (hl : s.size ≤ 300) (v0 v1 v2 : Int) (v3 v4 : ByteArray)
    (HC : ∀ W, GlobOk W → Calls Tryz.prog 110 #[.string s] W fun e w1 => e = .returned (.tuple #[.agg #[.int .i64 v0, .int .i64 v1, .int .i64 v2, .string v3, .string v4], .string ⟨#[]⟩, .bool true]) ∧ Below W.heap.size W w1) :
    Calls Tryz.prog 82 #[.string s] w fun e w' => e = .returned (.agg #[.int .i64 v0, .int .i64 v1, .int .i64 v2, .string v3, .string v4]) ∧ Below w.heap.size w w' := by
  have l0 : decide ((300 : Int) < (s.size : Int)) = false := decide_eq_false (by omega)
  have l1 : decide (300 < s.size) = false := decide_eq_false (by omega)
  have HC' := Lib.hid HC
  clear HC hl
  go_enter Tryz.func82, Tryz.ntmps82
  go_wp2_with fail
  refine (HC'.out _ (hG.below (by repeat (first | exact Below.refl _ _ | (refine Below.alloc ?_ (by simp) _))))).mono ?_
  rintro e w1 ⟨rfl, hb⟩
  have R1 := Lib.hid (blk_below (g := w.heap.size) (o := .cells #[.int .i64 0, .int .i64 0, .int .i64 0, .string ⟨#[]⟩, .string ⟨#[]⟩] 98 (0, 0)) (blk_new w _) hb)
  have hz0 : w.heap.size < w1.heap.size := by have := hb.size; simp at this; omega
  have HB0 : Below w.heap.size w w1 := by
    refine Below.trans ?_ (Below.mono hb (by first | (simp; done) | (simp; omega)))
    repeat (first | exact Below.refl _ _ | (refine Below.alloc ?_ (by simp) _))
  have HB := Lib.hid HB0
  clear hb HB0
  go_wp2_with ((with_reducible refine gate_store (t := 98) (p := 2) rfl ?_); refine store_ev rfl 98 _ _ rfl w.heap.size #[.int .i64 v0, .int .i64 v1, .int .i64 v2, .string v3, .string v4] rfl rfl 98 #[.int .i64 0, .int .i64 0, .int .i64 0, .string ⟨#[]⟩, .string ⟨#[]⟩] (by repeat (first | exact R1.out | (refine blk_far ?_ (by simp) _) | (refine blk_alloc ?_ _))) (by kernel_rfl) rfl (by simp [Value.oneCell']) ?_; intro w2 hr hbw)
  refine bodyPost_ret (results_cell_row rfl _ _ w.heap.size 98 #[.int .i64 v0, .int .i64 v1, .int .i64 v2, .string v3, .string v4] (0, 0) _ rfl hr.out Tryz.underlying98 rfl (by kernel_rfl)) rfl ?_
  exact ⟨by first | rfl | (simp; done), hbw.out _ _ (by repeat (first | exact HB.out | (refine Below.alloc ?_ (by first | omega | (simp; omega)) _) | (refine Below.setCell ?_ (by first | (simp; done) | omega) _))) (Nat.le_refl _)⟩

def impl_SecMade.f (s : ByteArray) : Option (Int × Int × Int × ByteArray × ByteArray) := some (match nm s with
  | some a => (a.op, a.who, a.num, T a.fst, T a.snd)
  | none => (0, 0, 0, ⟨#[]⟩, ⟨#[]⟩))
theorem nm_long {s : ByteArray} (h : 300 < s.size) : nm s = none := by
  unfold nm
  rw [if_neg (by omega)]
theorem nm_none {s : ByteArray} (h : hd (B s) = none) : nm s = none := by
  unfold nm whole
  rw [h]
  simp
theorem nm_more {s : ByteArray} {a : Nm} {r : List Nat} (h : hd (B s) = some (a, r)) (hr : r ≠ []) : nm s = none := by
  unfold nm whole
  rw [h]
  cases r with
  | nil => exact absurd rfl hr
  | cons _ _ => simp
theorem nm_whole {s : ByteArray} {a : Nm} (hl : s.size ≤ 300) (h : hd (B s) = some (a, [])) : nm s = some a := by
  unfold nm whole
  rw [if_pos hl, h]
theorem T_nil : T [] = ⟨#[]⟩ := rfl
theorem impl_SecMade.calls (a0 : ByteArray) (r1 : Int) (r2 : Int) (r3 : Int) (r4 : ByteArray) (r5 : ByteArray) (w : World) (hG : GlobOk w) (h : impl_SecMade.f a0 = some (r1, r2, r3, r4, r5)) :
    Calls Tryz.prog 82 #[.string a0] w fun e w' => e = .returned (.agg #[.int .i64 r1, .int .i64 r2, .int .i64 r3, .string r4, .string r5]) ∧ Below w.heap.size w w' := by
  unfold impl_SecMade.f at h
  simp only [Option.some.injEq] at h
  by_cases hl : a0.size ≤ 300
  · have HN := fun W hW => name_any 300 a0 W hl hl hW
    cases hd0 : hd (B a0) with
    | none =>
      rw [nm_none hd0] at h
      simp only [Prod.mk.injEq] at h
      obtain ⟨rfl, rfl, rfl, rfl, rfl⟩ := h
      exact made_none a0 a0 w hG hl _ _ _ _ _ (fun W hW => (HN W hW).mono (fun e w1 ⟨he, hb⟩ => ⟨he.trans (by rw [nameV_none hd0]), hb⟩))
    | some p =>
      obtain ⟨a, r⟩ := p
      have hs := (hd_sound hd0).2
      cases r with
      | nil =>
        rw [nm_whole hl hd0] at h
        simp only [Prod.mk.injEq] at h
        obtain ⟨rfl, rfl, rfl, rfl, rfl⟩ := h
        exact made_whole a0 w hG hl _ _ _ _ _ (fun W hW => (HN W hW).mono (fun e w1 ⟨he, hb⟩ => ⟨he.trans (by rw [nameV_some hd0, T_nil]), hb⟩))
      | cons c t =>
        rw [nm_more hd0 (by simp)] at h
        simp only [Prod.mk.injEq] at h
        obtain ⟨rfl, rfl, rfl, rfl, rfl⟩ := h
        have hne : T (c :: t) ≠ ⟨#[]⟩ := by
          intro e
          have := congrArg ByteArray.size e
          rw [T_size] at this
          simp at this
          exact absurd this (by show ¬ (t.length + 1 = 0); omega)
        exact made_more a0 _ w hG hl _ _ _ _ _ hne (fun W hW => (HN W hW).mono (fun e w1 ⟨he, hb⟩ => ⟨he.trans (by rw [nameV_some hd0]), hb⟩))
  · rw [nm_long (by omega)] at h
    simp only [Prod.mk.injEq] at h
    obtain ⟨rfl, rfl, rfl, rfl, rfl⟩ := h
    exact made_long a0 w (by omega)

def impl_SecOk.f (s : ByteArray) : Option Bool := some (nm s).isSome
theorem op_ne (a : Nm) : (a.op != 0) = true := by cases a <;> rfl
theorem impl_SecOk.calls (a0 : ByteArray) (r : Bool) (w : World) (hG : GlobOk w) (h : impl_SecOk.f a0 = some r) :
    Calls Tryz.prog 36 #[.string a0] w fun e w' => e = .returned (.bool r) ∧ Below w.heap.size w w' := by
  have hfl : ∀ (v0 v1 v2 v3 v4 : Value) (W : World), (Instr.field 98 (.agg #[v0, v1, v2, v3, v4]) 0).run Tryz.prog W = .ok v0 W := fun _ _ _ _ _ _ => by kernel_rfl
  unfold impl_SecOk.f at h
  obtain rfl := Option.some.inj h
  clear h
  cases hn : nm a0 with
  | none =>
    have HM := Lib.hid (impl_SecMade.calls a0 0 0 0 ⟨#[]⟩ ⟨#[]⟩ w hG (by unfold impl_SecMade.f; rw [hn]))
    clear hn hG
    go_enter Tryz.func36, Tryz.ntmps36
    go_wp2_with (go_at_call 82; refine HM.out.mono ?_; rintro e w1 ⟨rfl, hb⟩)
    go_ret
    exact ⟨rfl, hb⟩
  | some a =>
    have HM := Lib.hid (impl_SecMade.calls a0 a.op a.who a.num (T a.fst) (T a.snd) w hG (by unfold impl_SecMade.f; rw [hn]))
    have ho := op_ne a
    clear hn hG
    go_enter Tryz.func36, Tryz.ntmps36
    go_wp2_with (go_at_call 82; refine HM.out.mono ?_; rintro e w1 ⟨rfl, hb⟩)
    go_ret
    exact ⟨rfl, hb⟩
end Go.Proofs.YtnemchmiplbopaaGreatDoor
