/- What may be said may be said in part: the law's plain statement. -/
import Derived.Test.YtfiiiaemojdliaaDoorWalkx4
import Derived.Test.YtfiiiaemojdliaaDoorDraw
namespace Go.Proofs.YtfiiiaemojdliaaDoor.Pure
open Go.RowKit Go.Proofs.YtfiiiaemojdliaaDoor Go.Proofs.YtfiiiaemojdliaaDoor.Walk Go.Proofs.YtfiiiaemojdliaaDoorW.PrintWords Go.Proofs.YtfiiiaemojdliaaDoorW.PrintLast

def said : List ByteArray := [(⟨#[]⟩ : ByteArray), (⟨#[104, 105]⟩ : ByteArray), (⟨#[97, 98, 99, 100, 101, 102, 103, 104]⟩ : ByteArray), (⟨#[97, 98, 99, 100, 101, 102, 103, 104, 105]⟩ : ByteArray), (⟨#[65]⟩ : ByteArray), (⟨#[97, 32, 98]⟩ : ByteArray), (⟨#[97, 49]⟩ : ByteArray)]
theorem drawText {l : List Int} (h : Bytes l) (k : Nat) (hk : 1 ≤ k) : ∃ r : Nat, r < 7 ∧ spec_DrawFraText.f k l = some (said.getD r ByteArray.empty) := by
  obtain ⟨b, e, R⟩ := open_any l h
  obtain ⟨r, f, r0, r1⟩ := pick_any R (by omega) 7 (by omega) (by omega) k hk
  obtain ⟨r, rfl⟩ := Int.eq_ofNat_of_zero_le r0
  refine ⟨r, by omega, ?_⟩
  unfold spec_DrawFraText.f
  rw [e]
  simp only [Option.bind_some]
  rw [f]
  simp only [Option.bind_some]
  rw [if_pos r0, if_pos (by exact r1)]
  rfl
theorem each (r : Nat) (hr : r < 7) : ((impl_FraText.f 40 (said.getD r ByteArray.empty)).bind fun a => (spec_FraText.f 40 (said.getD r ByteArray.empty)).bind fun b => if (a != b) = true then some false else laws_FnFraText.l0 40 (said.getD r ByteArray.empty) a 0) = some true := by
  have : ∀ r : Fin 7, ((impl_FraText.f 40 (said.getD r.1 ByteArray.empty)).bind fun a => (spec_FraText.f 40 (said.getD r.1 ByteArray.empty)).bind fun b => if (a != b) = true then some false else laws_FnFraText.l0 40 (said.getD r.1 ByteArray.empty) a 0) = some true := by decide +kernel
  exact this ⟨r, hr⟩
theorem FnFraText : laws_FnFraText.Pure := by
  intro l0 _ _ hw0
  refine ⟨40, ?_⟩
  unfold laws_FnFraText.f
  by_cases h0 : (l0.length : Int) > 1048576
  · rw [if_pos h0]
  rw [if_neg h0]
  obtain ⟨r, hr, e⟩ := drawText (Bytes.of_wf hw0) 40 (by omega)
  rw [e]
  simp only [Option.bind_some]
  exact each r hr

end Go.Proofs.YtfiiiaemojdliaaDoor.Pure
