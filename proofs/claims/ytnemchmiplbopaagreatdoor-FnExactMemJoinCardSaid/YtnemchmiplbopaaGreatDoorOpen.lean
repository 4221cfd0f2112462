/- Arguments that are read, of whatever shape (numbers, bools, texts, slices, structs in structs): down to the print's kinds. -/
import Derived.Test.YtnemchmiplbopaaGreatDoorWWords
import Derived.Deep.Slices
import Derived.SizedLaws
namespace Go.Proofs.YtnemchmiplbopaaGreatDoor.Opn
open Go.ChangeShapes Go.WideShapes Go.RowKit Go.Deep Go.Proofs.YtnemchmiplbopaaGreatDoorW.PrintWords
set_option linter.unusedVariables false

/-- What reads as data of type T, and weighs no more than may be, is a value of kind d, of which wf holds. -/
def Opens {α : Type} (P : Program) (d : Kd α) (T : TypeId) (wf : α → Prop) : Prop :=
  ∀ (H : Type) (enc : TypeId × Value → H) (W : World) (base : Nat) (spare : Nat → Bool) (held : Bool) (fuel : Nat) (cs : List Value) (x : DataW H × List MemPlace),
    DataW.trod enc P W base spare held fuel T cs = some x → (∀ n ∈ x.1.weights P T, n ≤ 140737488351232) → ∃ a, d.K W a cs ∧ wf a
variable {P : Program}
theorem opens_int {k : IntKind} {T : TypeId} (h : P.underlying T = some (.int k)) : Opens P (Kd.int k) T (fun n => (Lit.int k n).wf = true) := by
  intro H enc W base spare held fuel cs x hx _
  obtain ⟨n, rfl, _, hw⟩ := DataW.trod_int h hx
  exact ⟨n, rfl, hw⟩
theorem opens_bool {T : TypeId} (h : P.underlying T = some .bool) : Opens P Kd.bool T (fun _ => True) := by
  intro H enc W base spare held fuel cs x hx _
  obtain ⟨n, rfl, _⟩ := DataW.trod_bool h hx
  exact ⟨n, rfl, trivial⟩
theorem opens_string {T : TypeId} (h : P.underlying T = some .string) : Opens P Kd.string T (fun s => s.size ≤ 140737488351232) := by
  intro H enc W base spare held fuel cs x hx hw
  obtain ⟨s, rfl, rfl, _⟩ := DataW.trod_string h hx
  refine ⟨s, rfl, ?_⟩
  have := hw s.data.toList.length (by simp [DataW.weights])
  exact this
theorem weightsAll_mem {H : Type} {e : TypeId} : ∀ {ds : List (DataW H)} {d : DataW H}, d ∈ ds → ∀ n ∈ d.weights P e, n ∈ DataW.weightsAll P e ds
  | d0 :: r, d, hd, n, hn => by
    simp only [DataW.weightsAll, List.mem_append]
    rcases List.mem_cons.1 hd with rfl | hd
    · exact .inl hn
    · exact .inr (weightsAll_mem hd n hn)
theorem opens_slice {α : Type} [Inhabited α] {d : Kd α} {e T : TypeId} {wf : α → Prop} {B : Nat} (hd : Opens P d e wf) (ht : P.underlying T = some (.slice e)) (hc : P.cellsOf e = d.sz) (hB : P.bytesOf e = B) :
    Opens P (Kd.slice e d) T (fun l => l.length * B ≤ 140737488351232 ∧ l.length ≤ maxLen ∧ ∀ a ∈ l, wf a) := by
  intro H enc W base spare held fuel cs x hx hw
  rcases open_slice ht hx with ⟨rfl, rfl⟩ | ⟨a, len, cap, m, n, D, Pl, rfl, hb, hl, hm, hmm, rfl, hi⟩
  · exact ⟨[], ⟨none, 0, rfl, Nat.le_refl _, rfl, by simp, fun h => absurd h (Nat.lt_irrefl 0)⟩, by simp, Nat.zero_le _, by simp⟩
  · have hle : len ≤ m := by rw [hmm]; split <;> omega
    have key : ∀ i, i < len → ∃ p : α, ∃ c, c.length = d.sz ∧ d.K W p c ∧ (∀ j u, c[j]? = some u → W.cell? (a.add (i * d.sz + j)) = some u) ∧ wf p := by
      intro i hlt
      obtain ⟨cs', h1, h2⟩ := hi i (by omega)
      obtain ⟨_, hcl, hat⟩ := World.cells?_some h1
      obtain ⟨p, hk, hwf⟩ := hd _ enc W base spare held n cs' (D i, Pl i) h2 (fun z hz => hw z (by
        simp only [DataW.weights, ht, List.mem_cons, List.mem_append]
        refine .inr (.inl ?_)
        refine weightsAll_mem (d := D i) (List.mem_map.2 ⟨i, List.mem_range.2 hlt, rfl⟩) z hz))
      refine ⟨p, cs', by rw [hcl, hc], hk, fun j u hj => ?_, hwf⟩
      have hjl : j < cs'.length := (List.getElem?_eq_some_iff.1 hj).1
      have := hat j (by omega)
      rw [hc, Go.Deep.add_add] at this
      rw [this, hj]
    obtain ⟨f, hf⟩ := choose_lt key
    refine ⟨(List.range len).map f, ⟨some a, cap, by simp, by simpa using hl, by simp, by unfold maxLen at hm; simp; omega, fun _ => ⟨a, rfl, fun j p hj => ?_⟩⟩, ?_, ?_, ?_⟩
    · rw [List.getElem?_map] at hj
      obtain ⟨i, hi1, rfl⟩ := Option.map_eq_some_iff.1 hj
      obtain ⟨hjl, rfl⟩ := List.getElem?_eq_some_iff.1 hi1
      rw [List.getElem_range]
      have hlt : j < len := by simpa using hjl
      obtain ⟨c, c1, c2, c3, _⟩ := hf j hlt
      exact ⟨c, c1, c2, c3⟩
    · have := hw ((len + (m - len)) * P.bytesOf e) (by simp [DataW.weights, ht])
      rw [hB] at this
      simp only [List.length_map, List.length_range]
      exact Nat.le_trans (Nat.mul_le_mul_right _ (by omega)) this
    · simp only [List.length_map, List.length_range]
      omega
    · intro p hp
      obtain ⟨i, hi1, rfl⟩ := List.mem_map.1 hp
      obtain ⟨c, _, _, _, h4⟩ := hf i (List.mem_range.1 hi1)
      exact h4
/-- The fields from a cell on. -/
def Seg {α : Type} (P : Program) (d : Kd α) (off : Nat) (fs : List Field) (wf : α → Prop) : Prop :=
  ∀ (H : Type) (enc : TypeId × Value → H) (W : World) (base : Nat) (spare : Nat → Bool) (held : Bool) (n : Nat) (cs : List Value) (ys : List (DataW H × List MemPlace)),
    cs.length = off + d.sz → ys.length = fs.length → (∀ (i : Nat) (f : Field), fs[i]? = some f → DataW.trod enc P W base spare held n f.type ((cs.drop f.offset).take (P.cellsOf f.type)) = ys[i]?) →
    (∀ m ∈ DataW.weightsEach P (fs.map (·.type)) (ys.map (·.1)), m ≤ 140737488351232) → ∃ a, d.K W a (cs.drop off) ∧ wf a
theorem seg_one {α : Type} {d : Kd α} {f : Field} {wf : α → Prop} (hd : Opens P d f.type wf) (hc : P.cellsOf f.type = d.sz) : Seg P d f.offset [f] wf := by
  intro H enc W base spare held n cs ys hl hy hx hw
  obtain ⟨y, rfl⟩ : ∃ y, ys = [y] := List.length_eq_one_iff.1 (by simpa using hy)
  have h := hx 0 f rfl
  rw [hc, List.take_of_length_le (by rw [List.length_drop]; omega)] at h
  exact hd _ enc W base spare held n _ y h (fun m hm => hw m (by simpa [DataW.weightsEach] using hm))
theorem seg_cons {α β : Type} {d : Kd α} {d' : Kd β} {f : Field} {fs : List Field} {wf : α → Prop} {wf' : β → Prop} (hd : Opens P d f.type wf) (hc : P.cellsOf f.type = d.sz) (hs : Seg P d' (f.offset + d.sz) fs wf') :
    Seg P (Kd.pair d d') f.offset (f :: fs) (fun x => wf x.1 ∧ wf' x.2) := by
  intro H enc W base spare held n cs ys hl hy hx hw
  match ys, hy with
  | y :: ys, hy =>
    have hsz : (Kd.pair d d').sz = d.sz + d'.sz := rfl
    have h := hx 0 f rfl
    rw [hc] at h
    obtain ⟨a, ha, wa⟩ := hd _ enc W base spare held n _ y h (fun m hm => hw m (by simp only [List.map_cons, DataW.weightsEach, List.mem_append]; exact .inl hm))
    obtain ⟨b, hb, wb⟩ := hs _ enc W base spare held n cs ys (by omega) (by simpa using hy) (fun i g hg => hx (i + 1) g hg) (fun m hm => hw m (by simp only [List.map_cons, DataW.weightsEach, List.mem_append]; exact .inr hm))
    refine ⟨(a, b), ⟨_, _, ?_, ha, hb⟩, wa, wb⟩
    rw [← List.drop_drop, List.take_append_drop]
theorem seg_one' {α : Type} {d : Kd α} {f : Field} {fs : List Field} {off : Nat} {wf : α → Prop} (hf : fs = [f]) (ho : f.offset = off) (hd : Opens P d f.type wf) (hc : P.cellsOf f.type = d.sz) : Seg P d off fs wf := by
  subst hf; subst ho; exact seg_one hd hc
theorem seg_cons' {α β : Type} {d : Kd α} {d' : Kd β} {f : Field} {fs gs : List Field} {off : Nat} {wf : α → Prop} {wf' : β → Prop} (hf : gs = f :: fs) (ho : f.offset = off) (hd : Opens P d f.type wf) (hc : P.cellsOf f.type = d.sz) (hs : Seg P d' (off + d.sz) fs wf') :
    Seg P (Kd.pair d d') off gs (fun x => wf x.1 ∧ wf' x.2) := by
  subst hf; subst ho; exact seg_cons hd hc hs
theorem opens_struct {α S : Type} {d : Kd α} {T : TypeId} {fs : Array Field} {wf : α → Prop} (g : S → α) (mk : α → S) (hg : ∀ a, g (mk a) = a) (ht : P.underlying T = some (.struct fs)) (hc : P.cellsOf T = d.sz) (hs : Seg P d 0 fs.toList wf) :
    Opens P (Kd.iso d g) T (fun x => wf (g x)) := by
  intro H enc W base spare held fuel cs x hx hw
  obtain ⟨xs, n, _, rfl, hcl, hxl, hf⟩ := DataW.trod_struct ht hx
  obtain ⟨a, ha, wa⟩ := hs _ enc W base spare held n cs xs (by omega) (by simpa using hxl) (fun i f hi => hf i f (by simpa using hi)) (fun m hm => hw m (by simpa [DataW.weights, ht] using hm))
  exact ⟨mk a, by show d.K W (g (mk a)) cs; rw [hg]; exact ha, by show wf (g (mk a)); rw [hg]; exact wa⟩
end Go.Proofs.YtnemchmiplbopaaGreatDoor.Opn
