/-
  DERIVED. GIVEN WITH THE SEED: THE CARDS: each row of YtdcaipomjimplaaDoorRows.lean that lists a variable, with what it lists TIED to the program's text (the seventh form; the later family's looks); each row that meets fmt, with fmt's text TOLD by the authors' own Lean function (tested against real Go, not proved from fmt's source: count such statements apart). THE CARD IS WHAT COUNTS. Prove the row's statement (the work); the ties are given (YtdcaipomjimplaaDoorTie.lean); close each card by the builder's one call (the guide's Derived/Test/ToyasCard.lean, 'card_holds'). Laid BY PROGRAM, IN A SANDBOX (cutbox-door.mjs). By AI agents, Wed Nov 11 2026. No macro, syntax, notation, axiom, sorry.
-/
import Derived.Test.YtdcaipomjimplaaDoorRows
import GoSem.ClaimSeven
namespace Go.Proofs.YtdcaipomjimplaaDoor
namespace Rows

/-- THE TIED CARD OF 'laws.FnTreMeet'. -/
def fnTreMeetCard : Claim7 := { stood := { row := fnTreMeetRow, standIns := [], harness := (true, "dc54e999e7a9dbf05aad64a0393db607a193c8f3edab798435b940a9aaad6728"), looks := true }, kinds := [], alts := [], laidByText := true, laidKinds := [.data, .data, .data, .sentinel, .sentinel], laidTests := true, laidLooks := .later }
def FnTreMeetCardSaid : Prop := Claim7.holds Tryd.pinned (.plain (OpenSpec.ofChange fnTreMeetSpec)) fnTreMeetCard

/-- THE TIED CARD OF 'laws.FnTreUp'. -/
def fnTreUpCard : Claim7 := { stood := { row := fnTreUpRow, standIns := [], harness := (true, "dc54e999e7a9dbf05aad64a0393db607a193c8f3edab798435b940a9aaad6728"), looks := true }, kinds := [], alts := [], laidByText := true, laidKinds := [.data, .data, .data, .sentinel, .sentinel], laidTests := true, laidLooks := .later }
def FnTreUpCardSaid : Prop := Claim7.holds Tryd.pinned (.plain (OpenSpec.ofChange fnTreUpSpec)) fnTreUpCard

/-- THE TIED CARD OF 'laws.FnSecParts'. -/
def fnSecPartsCard : Claim7 := { stood := { row := fnSecPartsRow, standIns := [], harness := (true, "dc54e999e7a9dbf05aad64a0393db607a193c8f3edab798435b940a9aaad6728"), looks := true }, kinds := [], alts := [], laidByText := true, laidKinds := [.data, .data, .data, .sentinel, .sentinel], laidTests := true, laidLooks := .later }
def FnSecPartsCardSaid : Prop := Claim7.holds Tryd.pinned (.plain (OpenSpec.ofChange fnSecPartsSpec)) fnSecPartsCard

/-- THE TIED CARD OF 'laws.FnFraOk'. -/
def fnFraOkCard : Claim7 := { stood := { row := fnFraOkRow, standIns := [], harness := (true, "dc54e999e7a9dbf05aad64a0393db607a193c8f3edab798435b940a9aaad6728"), looks := true }, kinds := [], alts := [], laidByText := true, laidKinds := [.data, .data, .data, .sentinel, .sentinel], laidTests := true, laidLooks := .later }
def FnFraOkCardSaid : Prop := Claim7.holds Tryd.pinned (.plain (OpenSpec.ofChange fnFraOkSpec)) fnFraOkCard

/-- THE TIED CARD OF 'laws.FnMakEpoch'. -/
def fnMakEpochCard : Claim7 := { stood := { row := fnMakEpochRow, standIns := [], harness := (true, "dc54e999e7a9dbf05aad64a0393db607a193c8f3edab798435b940a9aaad6728"), looks := true }, kinds := [], alts := [], laidByText := true, laidKinds := [.data, .data, .data, .sentinel, .sentinel], laidTests := true, laidLooks := .later }
def FnMakEpochCardSaid : Prop := Claim7.holds Tryd.pinned (.plain (OpenSpec.ofChange fnMakEpochSpec)) fnMakEpochCard

/-- THE TIED CARD OF 'laws.FnMakNext'. -/
def fnMakNextCard : Claim7 := { stood := { row := fnMakNextRow, standIns := [], harness := (true, "dc54e999e7a9dbf05aad64a0393db607a193c8f3edab798435b940a9aaad6728"), looks := true }, kinds := [], alts := [], laidByText := true, laidKinds := [.data, .data, .data, .sentinel, .sentinel], laidTests := true, laidLooks := .later }
def FnMakNextCardSaid : Prop := Claim7.holds Tryd.pinned (.plain (OpenSpec.ofChange fnMakNextSpec)) fnMakNextCard

/-- THE TIED CARD OF 'laws.FnMakSay'. -/
def fnMakSayCard : Claim7 := { stood := { row := fnMakSayRow, standIns := [], harness := (true, "dc54e999e7a9dbf05aad64a0393db607a193c8f3edab798435b940a9aaad6728"), looks := true }, kinds := [], alts := [], laidByText := true, laidKinds := [.data, .data, .data, .sentinel, .sentinel], laidTests := true, laidLooks := .later }
def FnMakSayCardSaid : Prop := Claim7.holds Tryd.pinned (.plain (OpenSpec.ofChange fnMakSaySpec)) fnMakSayCard

/-- THE TIED CARD OF 'laws.FnSecApart'. -/
def fnSecApartCard : Claim7 := { stood := { row := fnSecApartRow, standIns := [], harness := (true, "dc54e999e7a9dbf05aad64a0393db607a193c8f3edab798435b940a9aaad6728"), looks := true }, kinds := [], alts := [], laidByText := true, laidKinds := [.data, .data, .data, .sentinel, .sentinel], laidTests := true, laidLooks := .later }
def FnSecApartCardSaid : Prop := Claim7.holds Tryd.pinned (.plain (OpenSpec.ofChange fnSecApartSpec)) fnSecApartCard

/-- THE TIED CARD OF 'laws.FnSecMade'. -/
def fnSecMadeCard : Claim7 := { stood := { row := fnSecMadeRow, standIns := [], harness := (true, "dc54e999e7a9dbf05aad64a0393db607a193c8f3edab798435b940a9aaad6728"), looks := true }, kinds := [], alts := [], laidByText := true, laidKinds := [.data, .data, .data, .sentinel, .sentinel], laidTests := true, laidLooks := .later }
def FnSecMadeCardSaid : Prop := Claim7.holds Tryd.pinned (.plain (OpenSpec.ofChange fnSecMadeSpec)) fnSecMadeCard

/-- THE TIED CARD OF 'laws.FnTreOk'. -/
def fnTreOkCard : Claim7 := { stood := { row := fnTreOkRow, standIns := [], harness := (true, "dc54e999e7a9dbf05aad64a0393db607a193c8f3edab798435b940a9aaad6728"), looks := true }, kinds := [], alts := [], laidByText := true, laidKinds := [.data, .data, .data, .sentinel, .sentinel], laidTests := true, laidLooks := .later }
def FnTreOkCardSaid : Prop := Claim7.holds Tryd.pinned (.plain (OpenSpec.ofChange fnTreOkSpec)) fnTreOkCard

/-- THE TIED CARD OF 'laws.FnTreIn'. -/
def fnTreInCard : Claim7 := { stood := { row := fnTreInRow, standIns := [], harness := (true, "dc54e999e7a9dbf05aad64a0393db607a193c8f3edab798435b940a9aaad6728"), looks := true }, kinds := [], alts := [], laidByText := true, laidKinds := [.data, .data, .data, .sentinel, .sentinel], laidTests := true, laidLooks := .later }
def FnTreInCardSaid : Prop := Claim7.holds Tryd.pinned (.plain (OpenSpec.ofChange fnTreInSpec)) fnTreInCard

/-- THE TIED CARD OF 'laws.FnTreCover'. -/
def fnTreCoverCard : Claim7 := { stood := { row := fnTreCoverRow, standIns := [], harness := (true, "dc54e999e7a9dbf05aad64a0393db607a193c8f3edab798435b940a9aaad6728"), looks := true }, kinds := [], alts := [], laidByText := true, laidKinds := [.data, .data, .data, .sentinel, .sentinel], laidTests := true, laidLooks := .later }
def FnTreCoverCardSaid : Prop := Claim7.holds Tryd.pinned (.plain (OpenSpec.ofChange fnTreCoverSpec)) fnTreCoverCard

/-- THE SECOND FORM's CARD OF 'laws.FnTreMeet'. -/
def fnTreMeetUptoCard : Claim7 := { stood := { row := fnTreMeetUptoRow, standIns := [], harness := (true, "dc54e999e7a9dbf05aad64a0393db607a193c8f3edab798435b940a9aaad6728"), looks := true }, kinds := [], alts := [], laidByText := true, laidKinds := [.data, .data, .data, .sentinel, .sentinel], laidTests := true, laidLooks := .later }
def FnTreMeetUptoCardSaid : Prop := Claim7.holds Tryd.pinned (.plain (OpenSpec.upto fnTreMeetSpec)) fnTreMeetUptoCard

/-- THE SECOND FORM's CARD OF 'laws.FnTreUp'. -/
def fnTreUpUptoCard : Claim7 := { stood := { row := fnTreUpUptoRow, standIns := [], harness := (true, "dc54e999e7a9dbf05aad64a0393db607a193c8f3edab798435b940a9aaad6728"), looks := true }, kinds := [], alts := [], laidByText := true, laidKinds := [.data, .data, .data, .sentinel, .sentinel], laidTests := true, laidLooks := .later }
def FnTreUpUptoCardSaid : Prop := Claim7.holds Tryd.pinned (.plain (OpenSpec.upto fnTreUpSpec)) fnTreUpUptoCard

/-- THE SECOND FORM's CARD OF 'laws.FnSecParts'. -/
def fnSecPartsUptoCard : Claim7 := { stood := { row := fnSecPartsUptoRow, standIns := [], harness := (true, "dc54e999e7a9dbf05aad64a0393db607a193c8f3edab798435b940a9aaad6728"), looks := true }, kinds := [], alts := [], laidByText := true, laidKinds := [.data, .data, .data, .sentinel, .sentinel], laidTests := true, laidLooks := .later }
def FnSecPartsUptoCardSaid : Prop := Claim7.holds Tryd.pinned (.plain (OpenSpec.upto fnSecPartsSpec)) fnSecPartsUptoCard

/-- THE SECOND FORM's CARD OF 'laws.FnFraOk'. -/
def fnFraOkUptoCard : Claim7 := { stood := { row := fnFraOkUptoRow, standIns := [], harness := (true, "dc54e999e7a9dbf05aad64a0393db607a193c8f3edab798435b940a9aaad6728"), looks := true }, kinds := [], alts := [], laidByText := true, laidKinds := [.data, .data, .data, .sentinel, .sentinel], laidTests := true, laidLooks := .later }
def FnFraOkUptoCardSaid : Prop := Claim7.holds Tryd.pinned (.plain (OpenSpec.upto fnFraOkSpec)) fnFraOkUptoCard

/-- THE SECOND FORM's CARD OF 'laws.FnMakEpoch'. -/
def fnMakEpochUptoCard : Claim7 := { stood := { row := fnMakEpochUptoRow, standIns := [], harness := (true, "dc54e999e7a9dbf05aad64a0393db607a193c8f3edab798435b940a9aaad6728"), looks := true }, kinds := [], alts := [], laidByText := true, laidKinds := [.data, .data, .data, .sentinel, .sentinel], laidTests := true, laidLooks := .later }
def FnMakEpochUptoCardSaid : Prop := Claim7.holds Tryd.pinned (.plain (OpenSpec.upto fnMakEpochSpec)) fnMakEpochUptoCard

/-- THE SECOND FORM's CARD OF 'laws.FnMakNext'. -/
def fnMakNextUptoCard : Claim7 := { stood := { row := fnMakNextUptoRow, standIns := [], harness := (true, "dc54e999e7a9dbf05aad64a0393db607a193c8f3edab798435b940a9aaad6728"), looks := true }, kinds := [], alts := [], laidByText := true, laidKinds := [.data, .data, .data, .sentinel, .sentinel], laidTests := true, laidLooks := .later }
def FnMakNextUptoCardSaid : Prop := Claim7.holds Tryd.pinned (.plain (OpenSpec.upto fnMakNextSpec)) fnMakNextUptoCard

/-- THE SECOND FORM's CARD OF 'laws.FnMakSay'. -/
def fnMakSayUptoCard : Claim7 := { stood := { row := fnMakSayUptoRow, standIns := [], harness := (true, "dc54e999e7a9dbf05aad64a0393db607a193c8f3edab798435b940a9aaad6728"), looks := true }, kinds := [], alts := [], laidByText := true, laidKinds := [.data, .data, .data, .sentinel, .sentinel], laidTests := true, laidLooks := .later }
def FnMakSayUptoCardSaid : Prop := Claim7.holds Tryd.pinned (.plain (OpenSpec.upto fnMakSaySpec)) fnMakSayUptoCard

/-- THE SECOND FORM's CARD OF 'laws.FnSecApart'. -/
def fnSecApartUptoCard : Claim7 := { stood := { row := fnSecApartUptoRow, standIns := [], harness := (true, "dc54e999e7a9dbf05aad64a0393db607a193c8f3edab798435b940a9aaad6728"), looks := true }, kinds := [], alts := [], laidByText := true, laidKinds := [.data, .data, .data, .sentinel, .sentinel], laidTests := true, laidLooks := .later }
def FnSecApartUptoCardSaid : Prop := Claim7.holds Tryd.pinned (.plain (OpenSpec.upto fnSecApartSpec)) fnSecApartUptoCard

/-- THE SECOND FORM's CARD OF 'laws.FnSecMade'. -/
def fnSecMadeUptoCard : Claim7 := { stood := { row := fnSecMadeUptoRow, standIns := [], harness := (true, "dc54e999e7a9dbf05aad64a0393db607a193c8f3edab798435b940a9aaad6728"), looks := true }, kinds := [], alts := [], laidByText := true, laidKinds := [.data, .data, .data, .sentinel, .sentinel], laidTests := true, laidLooks := .later }
def FnSecMadeUptoCardSaid : Prop := Claim7.holds Tryd.pinned (.plain (OpenSpec.upto fnSecMadeSpec)) fnSecMadeUptoCard

/-- THE SECOND FORM's CARD OF 'laws.FnTreOk'. -/
def fnTreOkUptoCard : Claim7 := { stood := { row := fnTreOkUptoRow, standIns := [], harness := (true, "dc54e999e7a9dbf05aad64a0393db607a193c8f3edab798435b940a9aaad6728"), looks := true }, kinds := [], alts := [], laidByText := true, laidKinds := [.data, .data, .data, .sentinel, .sentinel], laidTests := true, laidLooks := .later }
def FnTreOkUptoCardSaid : Prop := Claim7.holds Tryd.pinned (.plain (OpenSpec.upto fnTreOkSpec)) fnTreOkUptoCard

/-- THE SECOND FORM's CARD OF 'laws.FnTreIn'. -/
def fnTreInUptoCard : Claim7 := { stood := { row := fnTreInUptoRow, standIns := [], harness := (true, "dc54e999e7a9dbf05aad64a0393db607a193c8f3edab798435b940a9aaad6728"), looks := true }, kinds := [], alts := [], laidByText := true, laidKinds := [.data, .data, .data, .sentinel, .sentinel], laidTests := true, laidLooks := .later }
def FnTreInUptoCardSaid : Prop := Claim7.holds Tryd.pinned (.plain (OpenSpec.upto fnTreInSpec)) fnTreInUptoCard

/-- THE SECOND FORM's CARD OF 'laws.FnTreCover'. -/
def fnTreCoverUptoCard : Claim7 := { stood := { row := fnTreCoverUptoRow, standIns := [], harness := (true, "dc54e999e7a9dbf05aad64a0393db607a193c8f3edab798435b940a9aaad6728"), looks := true }, kinds := [], alts := [], laidByText := true, laidKinds := [.data, .data, .data, .sentinel, .sentinel], laidTests := true, laidLooks := .later }
def FnTreCoverUptoCardSaid : Prop := Claim7.holds Tryd.pinned (.plain (OpenSpec.upto fnTreCoverSpec)) fnTreCoverUptoCard
end Rows
end Go.Proofs.YtdcaipomjimplaaDoor
