/-
  DERIVED. GIVEN WITH THE SEED: THE CARDS: each row of YtfiiiaemojdliaaDoorRows.lean that lists a variable, with what it lists TIED to the program's text (the seventh form; the later family's looks); each row that meets fmt, with fmt's text TOLD by the authors' own Lean function (tested against real Go, not proved from fmt's source: count such statements apart). THE CARD IS WHAT COUNTS. Prove the row's statement (the work); the ties are given (YtfiiiaemojdliaaDoorTie.lean); close each card by the builder's one call (the guide's Derived/Test/ToyasCard.lean, 'card_holds'). Laid BY PROGRAM, IN A SANDBOX (cutbox-door.mjs). By AI agents, Wed Nov 11 2026. No macro, syntax, notation, axiom, sorry.
-/
import Derived.Test.YtfiiiaemojdliaaDoorRows
import GoSem.ClaimSeven
namespace Go.Proofs.YtfiiiaemojdliaaDoor
namespace Rows

/-- THE TIED CARD OF 'laws.FnExactMakNew'. -/
def fnExactMakNewCard : Claim7 := { stood := { row := fnExactMakNewRow, standIns := [], harness := (true, "37e7b191899b24e2d123f8a47c744537dce9f485ce575a7d72f66e46747f578c"), looks := true }, kinds := [], alts := [], laidByText := true, laidKinds := [.data, .data, .data], laidTests := true, laidLooks := .later }
def FnExactMakNewCardSaid : Prop := Claim7.holds Tryd.pinned (.plain (OpenSpec.ofChange fnExactMakNewSpec)) fnExactMakNewCard

/-- THE TIED CARD OF 'laws.FnTreLeaf'. -/
def fnTreLeafCard : Claim7 := { stood := { row := fnTreLeafRow, standIns := [], harness := (true, "37e7b191899b24e2d123f8a47c744537dce9f485ce575a7d72f66e46747f578c"), looks := true }, kinds := [], alts := [], laidByText := true, laidKinds := [.data, .data, .data, .sentinel, .sentinel], laidTests := true, laidLooks := .later }
def FnTreLeafCardSaid : Prop := Claim7.holds Tryd.pinned (.plain (OpenSpec.ofChange fnTreLeafSpec)) fnTreLeafCard

/-- THE TIED CARD OF 'laws.FnFraText'. -/
def fnFraTextCard : Claim7 := { stood := { row := fnFraTextRow, standIns := [], harness := (true, "37e7b191899b24e2d123f8a47c744537dce9f485ce575a7d72f66e46747f578c"), looks := true }, kinds := [], alts := [], laidByText := true, laidKinds := [.data, .data, .data, .sentinel, .sentinel], laidTests := true, laidLooks := .later }
def FnFraTextCardSaid : Prop := Claim7.holds Tryd.pinned (.plain (OpenSpec.ofChange fnFraTextSpec)) fnFraTextCard

/-- THE TIED CARD OF 'laws.FnMakNew'. -/
def fnMakNewCard : Claim7 := { stood := { row := fnMakNewRow, standIns := [], harness := (true, "37e7b191899b24e2d123f8a47c744537dce9f485ce575a7d72f66e46747f578c"), looks := true }, kinds := [], alts := [], laidByText := true, laidKinds := [.data, .data, .data, .sentinel, .sentinel], laidTests := true, laidLooks := .later }
def FnMakNewCardSaid : Prop := Claim7.holds Tryd.pinned (.plain (OpenSpec.ofChange fnMakNewSpec)) fnMakNewCard

/-- THE SECOND FORM's CARD OF 'laws.FnExactMakNew'. -/
def fnExactMakNewUptoCard : Claim7 := { stood := { row := fnExactMakNewUptoRow, standIns := [], harness := (true, "37e7b191899b24e2d123f8a47c744537dce9f485ce575a7d72f66e46747f578c"), looks := true }, kinds := [], alts := [], laidByText := true, laidKinds := [.data, .data, .data], laidTests := true, laidLooks := .later }
def FnExactMakNewUptoCardSaid : Prop := Claim7.holds Tryd.pinned (.plain (OpenSpec.upto fnExactMakNewSpec)) fnExactMakNewUptoCard

/-- THE SECOND FORM's CARD OF 'laws.FnTreLeaf'. -/
def fnTreLeafUptoCard : Claim7 := { stood := { row := fnTreLeafUptoRow, standIns := [], harness := (true, "37e7b191899b24e2d123f8a47c744537dce9f485ce575a7d72f66e46747f578c"), looks := true }, kinds := [], alts := [], laidByText := true, laidKinds := [.data, .data, .data, .sentinel, .sentinel], laidTests := true, laidLooks := .later }
def FnTreLeafUptoCardSaid : Prop := Claim7.holds Tryd.pinned (.plain (OpenSpec.upto fnTreLeafSpec)) fnTreLeafUptoCard

/-- THE SECOND FORM's CARD OF 'laws.FnFraText'. -/
def fnFraTextUptoCard : Claim7 := { stood := { row := fnFraTextUptoRow, standIns := [], harness := (true, "37e7b191899b24e2d123f8a47c744537dce9f485ce575a7d72f66e46747f578c"), looks := true }, kinds := [], alts := [], laidByText := true, laidKinds := [.data, .data, .data, .sentinel, .sentinel], laidTests := true, laidLooks := .later }
def FnFraTextUptoCardSaid : Prop := Claim7.holds Tryd.pinned (.plain (OpenSpec.upto fnFraTextSpec)) fnFraTextUptoCard

/-- THE SECOND FORM's CARD OF 'laws.FnMakNew'. -/
def fnMakNewUptoCard : Claim7 := { stood := { row := fnMakNewUptoRow, standIns := [], harness := (true, "37e7b191899b24e2d123f8a47c744537dce9f485ce575a7d72f66e46747f578c"), looks := true }, kinds := [], alts := [], laidByText := true, laidKinds := [.data, .data, .data, .sentinel, .sentinel], laidTests := true, laidLooks := .later }
def FnMakNewUptoCardSaid : Prop := Claim7.holds Tryd.pinned (.plain (OpenSpec.upto fnMakNewSpec)) fnMakNewUptoCard
end Rows
end Go.Proofs.YtfiiiaemojdliaaDoor
