/-
  DERIVED. GIVEN WITH THE SEED: THE CARDS: each row of YtnemchmiplbopaaGreatDoorRows.lean that lists a variable, with what it lists TIED to the program's text (the seventh form; the later family's looks); each row that meets fmt, with fmt's text TOLD by the authors' own Lean function (tested against real Go, not proved from fmt's source: count such statements apart). THE CARD IS WHAT COUNTS. Prove the row's statement (the work); the ties are given (YtnemchmiplbopaaGreatDoorTie.lean); close each card by the builder's one call (the guide's Derived/Test/ToyasCard.lean, 'card_holds'). Laid BY PROGRAM, IN A SANDBOX (cutbox-door.mjs). By AI agents, Wed Nov 11 2026. No macro, syntax, notation, axiom, sorry.
-/
import Derived.Test.YtnemchmiplbopaaGreatDoorRows
import GoSem.ClaimSeven
namespace Go.Proofs.YtnemchmiplbopaaGreatDoor
namespace Rows

/-- THE TIED CARD OF 'laws.FnExactMemOk'. -/
def fnExactMemOkCard : Claim7 := { stood := { row := fnExactMemOkRow, standIns := [], harness := (true, "9e554d63a8c839e87ac8ca81f2cc67f686306bc932f6a6b6eacb172544455e1a"), looks := true }, kinds := [], alts := [], laidByText := true, laidKinds := [.data, .data, .data, .sentinel, .sentinel], laidTests := true, laidLooks := .later }
def FnExactMemOkCardSaid : Prop := Claim7.holds Tryz.pinned (.plain (OpenSpec.ofChange fnExactMemOkSpec)) fnExactMemOkCard

/-- THE TIED CARD OF 'laws.FnExactMemKnows'. -/
def fnExactMemKnowsCard : Claim7 := { stood := { row := fnExactMemKnowsRow, standIns := [], harness := (true, "9e554d63a8c839e87ac8ca81f2cc67f686306bc932f6a6b6eacb172544455e1a"), looks := true }, kinds := [], alts := [], laidByText := true, laidKinds := [.data, .data, .data, .sentinel, .sentinel], laidTests := true, laidLooks := .later }
def FnExactMemKnowsCardSaid : Prop := Claim7.holds Tryz.pinned (.plain (OpenSpec.ofChange fnExactMemKnowsSpec)) fnExactMemKnowsCard

/-- THE TIED CARD OF 'laws.FnExactMemJoin'. -/
def fnExactMemJoinCard : Claim7 := { stood := { row := fnExactMemJoinRow, standIns := [], harness := (true, "9e554d63a8c839e87ac8ca81f2cc67f686306bc932f6a6b6eacb172544455e1a"), looks := true }, kinds := [], alts := [], laidByText := true, laidKinds := [.data, .data, .data, .sentinel, .sentinel], laidTests := true, laidLooks := .later }
def FnExactMemJoinCardSaid : Prop := Claim7.holds Tryz.pinned (.plain (OpenSpec.ofChange fnExactMemJoinSpec)) fnExactMemJoinCard

/-- THE SECOND FORM's CARD OF 'laws.FnExactMemOk'. -/
def fnExactMemOkUptoCard : Claim7 := { stood := { row := fnExactMemOkUptoRow, standIns := [], harness := (true, "9e554d63a8c839e87ac8ca81f2cc67f686306bc932f6a6b6eacb172544455e1a"), looks := true }, kinds := [], alts := [], laidByText := true, laidKinds := [.data, .data, .data, .sentinel, .sentinel], laidTests := true, laidLooks := .later }
def FnExactMemOkUptoCardSaid : Prop := Claim7.holds Tryz.pinned (.plain (OpenSpec.upto fnExactMemOkSpec)) fnExactMemOkUptoCard

/-- THE SECOND FORM's CARD OF 'laws.FnExactMemKnows'. -/
def fnExactMemKnowsUptoCard : Claim7 := { stood := { row := fnExactMemKnowsUptoRow, standIns := [], harness := (true, "9e554d63a8c839e87ac8ca81f2cc67f686306bc932f6a6b6eacb172544455e1a"), looks := true }, kinds := [], alts := [], laidByText := true, laidKinds := [.data, .data, .data, .sentinel, .sentinel], laidTests := true, laidLooks := .later }
def FnExactMemKnowsUptoCardSaid : Prop := Claim7.holds Tryz.pinned (.plain (OpenSpec.upto fnExactMemKnowsSpec)) fnExactMemKnowsUptoCard

/-- THE SECOND FORM's CARD OF 'laws.FnExactMemJoin'. -/
def fnExactMemJoinUptoCard : Claim7 := { stood := { row := fnExactMemJoinUptoRow, standIns := [], harness := (true, "9e554d63a8c839e87ac8ca81f2cc67f686306bc932f6a6b6eacb172544455e1a"), looks := true }, kinds := [], alts := [], laidByText := true, laidKinds := [.data, .data, .data, .sentinel, .sentinel], laidTests := true, laidLooks := .later }
def FnExactMemJoinUptoCardSaid : Prop := Claim7.holds Tryz.pinned (.plain (OpenSpec.upto fnExactMemJoinSpec)) fnExactMemJoinUptoCard
end Rows
end Go.Proofs.YtnemchmiplbopaaGreatDoor
