/-
  DERIVED. GIVEN WITH THE SEED: THE CARDS: each row of YtnemchmiplbopaaDoorRows.lean that lists a variable, with what it lists TIED to the program's text (the seventh form; the later family's looks); each row that meets fmt, with fmt's text TOLD by the authors' own Lean function (tested against real Go, not proved from fmt's source: count such statements apart). THE CARD IS WHAT COUNTS. Prove the row's statement (the work); the ties are given (YtnemchmiplbopaaDoorTie.lean); close each card by the builder's one call (the guide's Derived/Test/ToyasCard.lean, 'card_holds'). Laid BY PROGRAM, IN A SANDBOX (cutbox-door.mjs). By AI agents, Wed Nov 11 2026. No macro, syntax, notation, axiom, sorry.
-/
import Derived.Test.YtnemchmiplbopaaDoorRows
import GoSem.ClaimSeven
namespace Go.Proofs.YtnemchmiplbopaaDoor
namespace Rows

/-- THE TIED CARD OF 'laws.FnExactKnwMake'. -/
def fnExactKnwMakeCard : Claim7 := { stood := { row := fnExactKnwMakeRow, standIns := [], harness := (true, "1bb7c57abcf46660d64e2f8cf2dd7d6ca7063e3719c9a6115fa590ed670fb872"), looks := true }, kinds := [], alts := [], laidByText := true, laidKinds := [.data, .data, .data, .sentinel, .sentinel], laidTests := true, laidLooks := .later }
def FnExactKnwMakeCardSaid : Prop := Claim7.holds Tryd.pinned (.plain (OpenSpec.ofChange fnExactKnwMakeSpec)) fnExactKnwMakeCard

/-- THE TIED CARD OF 'laws.FnExactKnwHas'. -/
def fnExactKnwHasCard : Claim7 := { stood := { row := fnExactKnwHasRow, standIns := [], harness := (true, "1bb7c57abcf46660d64e2f8cf2dd7d6ca7063e3719c9a6115fa590ed670fb872"), looks := true }, kinds := [], alts := [], laidByText := true, laidKinds := [.data, .data, .data, .sentinel, .sentinel], laidTests := true, laidLooks := .later }
def FnExactKnwHasCardSaid : Prop := Claim7.holds Tryd.pinned (.plain (OpenSpec.ofChange fnExactKnwHasSpec)) fnExactKnwHasCard

/-- THE TIED CARD OF 'laws.FnExactKnwOpen'. -/
def fnExactKnwOpenCard : Claim7 := { stood := { row := fnExactKnwOpenRow, standIns := [], harness := (true, "1bb7c57abcf46660d64e2f8cf2dd7d6ca7063e3719c9a6115fa590ed670fb872"), looks := true }, kinds := [], alts := [], laidByText := true, laidKinds := [.data, .data, .data, .sentinel, .sentinel], laidTests := true, laidLooks := .later }
def FnExactKnwOpenCardSaid : Prop := Claim7.holds Tryd.pinned (.plain (OpenSpec.ofChange fnExactKnwOpenSpec)) fnExactKnwOpenCard

/-- THE TIED CARD OF 'laws.FnExactCmtOk'. -/
def fnExactCmtOkCard : Claim7 := { stood := { row := fnExactCmtOkRow, standIns := [], harness := (true, "1bb7c57abcf46660d64e2f8cf2dd7d6ca7063e3719c9a6115fa590ed670fb872"), looks := true }, kinds := [], alts := [], laidByText := true, laidKinds := [.data, .data, .data, .sentinel, .sentinel], laidTests := true, laidLooks := .later }
def FnExactCmtOkCardSaid : Prop := Claim7.holds Tryd.pinned (.plain (OpenSpec.ofChange fnExactCmtOkSpec)) fnExactCmtOkCard

/-- THE SECOND FORM's CARD OF 'laws.FnExactKnwMake'. -/
def fnExactKnwMakeUptoCard : Claim7 := { stood := { row := fnExactKnwMakeUptoRow, standIns := [], harness := (true, "1bb7c57abcf46660d64e2f8cf2dd7d6ca7063e3719c9a6115fa590ed670fb872"), looks := true }, kinds := [], alts := [], laidByText := true, laidKinds := [.data, .data, .data, .sentinel, .sentinel], laidTests := true, laidLooks := .later }
def FnExactKnwMakeUptoCardSaid : Prop := Claim7.holds Tryd.pinned (.plain (OpenSpec.upto fnExactKnwMakeSpec)) fnExactKnwMakeUptoCard

/-- THE SECOND FORM's CARD OF 'laws.FnExactKnwHas'. -/
def fnExactKnwHasUptoCard : Claim7 := { stood := { row := fnExactKnwHasUptoRow, standIns := [], harness := (true, "1bb7c57abcf46660d64e2f8cf2dd7d6ca7063e3719c9a6115fa590ed670fb872"), looks := true }, kinds := [], alts := [], laidByText := true, laidKinds := [.data, .data, .data, .sentinel, .sentinel], laidTests := true, laidLooks := .later }
def FnExactKnwHasUptoCardSaid : Prop := Claim7.holds Tryd.pinned (.plain (OpenSpec.upto fnExactKnwHasSpec)) fnExactKnwHasUptoCard

/-- THE SECOND FORM's CARD OF 'laws.FnExactKnwOpen'. -/
def fnExactKnwOpenUptoCard : Claim7 := { stood := { row := fnExactKnwOpenUptoRow, standIns := [], harness := (true, "1bb7c57abcf46660d64e2f8cf2dd7d6ca7063e3719c9a6115fa590ed670fb872"), looks := true }, kinds := [], alts := [], laidByText := true, laidKinds := [.data, .data, .data, .sentinel, .sentinel], laidTests := true, laidLooks := .later }
def FnExactKnwOpenUptoCardSaid : Prop := Claim7.holds Tryd.pinned (.plain (OpenSpec.upto fnExactKnwOpenSpec)) fnExactKnwOpenUptoCard

/-- THE SECOND FORM's CARD OF 'laws.FnExactCmtOk'. -/
def fnExactCmtOkUptoCard : Claim7 := { stood := { row := fnExactCmtOkUptoRow, standIns := [], harness := (true, "1bb7c57abcf46660d64e2f8cf2dd7d6ca7063e3719c9a6115fa590ed670fb872"), looks := true }, kinds := [], alts := [], laidByText := true, laidKinds := [.data, .data, .data, .sentinel, .sentinel], laidTests := true, laidLooks := .later }
def FnExactCmtOkUptoCardSaid : Prop := Claim7.holds Tryd.pinned (.plain (OpenSpec.upto fnExactCmtOkSpec)) fnExactCmtOkUptoCard
end Rows
end Go.Proofs.YtnemchmiplbopaaDoor
