/-
  DERIVED. GIVEN WITH THE SEED: THE CARDS: each row of YtpiapmmlppknbaaDoorRows.lean that lists a variable, with what it lists TIED to the program's text (the seventh form; the later family's looks); each row that meets fmt, with fmt's text TOLD by the authors' own Lean function (tested against real Go, not proved from fmt's source: count such statements apart). THE CARD IS WHAT COUNTS. Prove the row's statement (the work); the ties are given (YtpiapmmlppknbaaDoorTie.lean); close each card by the builder's one call (the guide's Derived/Test/ToyasCard.lean, 'card_holds'). Laid BY PROGRAM, IN A SANDBOX (cutbox-door.mjs). By AI agents, Wed Nov 11 2026. No macro, syntax, notation, axiom, sorry.
-/
import Derived.Test.YtpiapmmlppknbaaDoorRows
import GoSem.ClaimSeven
namespace Go.Proofs.YtpiapmmlppknbaaDoor
namespace Rows

/-- THE TIED CARD OF 'laws.FnExactSecOk'. -/
def fnExactSecOkCard : Claim7 := { stood := { row := fnExactSecOkRow, standIns := [], harness := (true, "bfe1695bd1fce729b7b4a5c90c63e8a0513010c203349361eb1dc04420d8bd73"), looks := true }, kinds := [], alts := [], laidByText := true, laidKinds := [.data, .data, .data, .sentinel, .sentinel], laidTests := true, laidLooks := .later }
def FnExactSecOkCardSaid : Prop := Claim7.holds Tryd.pinned (.plain (OpenSpec.ofChange fnExactSecOkSpec)) fnExactSecOkCard

/-- THE TIED CARD OF 'laws.FnExactSecMade'. -/
def fnExactSecMadeCard : Claim7 := { stood := { row := fnExactSecMadeRow, standIns := [], harness := (true, "bfe1695bd1fce729b7b4a5c90c63e8a0513010c203349361eb1dc04420d8bd73"), looks := true }, kinds := [], alts := [], laidByText := true, laidKinds := [.data, .data, .data, .sentinel, .sentinel], laidTests := true, laidLooks := .later }
def FnExactSecMadeCardSaid : Prop := Claim7.holds Tryd.pinned (.plain (OpenSpec.ofChange fnExactSecMadeSpec)) fnExactSecMadeCard

/-- THE TIED CARD OF 'laws.FnExactFraOk'. -/
def fnExactFraOkCard : Claim7 := { stood := { row := fnExactFraOkRow, standIns := [], harness := (true, "bfe1695bd1fce729b7b4a5c90c63e8a0513010c203349361eb1dc04420d8bd73"), looks := true }, kinds := [], alts := [], laidByText := true, laidKinds := [.data, .data, .data, .sentinel, .sentinel], laidTests := true, laidLooks := .later }
def FnExactFraOkCardSaid : Prop := Claim7.holds Tryd.pinned (.plain (OpenSpec.ofChange fnExactFraOkSpec)) fnExactFraOkCard

/-- THE TIED CARD OF 'laws.FnExactMakEpoch'. -/
def fnExactMakEpochCard : Claim7 := { stood := { row := fnExactMakEpochRow, standIns := [], harness := (true, "bfe1695bd1fce729b7b4a5c90c63e8a0513010c203349361eb1dc04420d8bd73"), looks := true }, kinds := [], alts := [], laidByText := true, laidKinds := [.data, .data, .data, .sentinel, .sentinel], laidTests := true, laidLooks := .later }
def FnExactMakEpochCardSaid : Prop := Claim7.holds Tryd.pinned (.plain (OpenSpec.ofChange fnExactMakEpochSpec)) fnExactMakEpochCard

/-- THE TIED CARD OF 'laws.FnExactMakKey'. -/
def fnExactMakKeyCard : Claim7 := { stood := { row := fnExactMakKeyRow, standIns := [], harness := (true, "bfe1695bd1fce729b7b4a5c90c63e8a0513010c203349361eb1dc04420d8bd73"), looks := true }, kinds := [], alts := [], laidByText := true, laidKinds := [.data, .data, .data, .sentinel, .sentinel], laidTests := true, laidLooks := .later }
def FnExactMakKeyCardSaid : Prop := Claim7.holds Tryd.pinned (.plain (OpenSpec.ofChange fnExactMakKeySpec)) fnExactMakKeyCard

/-- THE TIED CARD OF 'laws.FnExactMakNext'. -/
def fnExactMakNextCard : Claim7 := { stood := { row := fnExactMakNextRow, standIns := [], harness := (true, "bfe1695bd1fce729b7b4a5c90c63e8a0513010c203349361eb1dc04420d8bd73"), looks := true }, kinds := [], alts := [], laidByText := true, laidKinds := [.data, .data, .data, .sentinel, .sentinel], laidTests := true, laidLooks := .later }
def FnExactMakNextCardSaid : Prop := Claim7.holds Tryd.pinned (.plain (OpenSpec.ofChange fnExactMakNextSpec)) fnExactMakNextCard

/-- THE TIED CARD OF 'laws.FnExactTreOk'. -/
def fnExactTreOkCard : Claim7 := { stood := { row := fnExactTreOkRow, standIns := [], harness := (true, "bfe1695bd1fce729b7b4a5c90c63e8a0513010c203349361eb1dc04420d8bd73"), looks := true }, kinds := [], alts := [], laidByText := true, laidKinds := [.data, .data, .data, .sentinel, .sentinel], laidTests := true, laidLooks := .later }
def FnExactTreOkCardSaid : Prop := Claim7.holds Tryd.pinned (.plain (OpenSpec.ofChange fnExactTreOkSpec)) fnExactTreOkCard

/-- THE TIED CARD OF 'laws.FnExactWinOk'. -/
def fnExactWinOkCard : Claim7 := { stood := { row := fnExactWinOkRow, standIns := [], harness := (true, "bfe1695bd1fce729b7b4a5c90c63e8a0513010c203349361eb1dc04420d8bd73"), looks := true }, kinds := [], alts := [], laidByText := true, laidKinds := [.data, .data, .data, .sentinel, .sentinel], laidTests := true, laidLooks := .later }
def FnExactWinOkCardSaid : Prop := Claim7.holds Tryd.pinned (.plain (OpenSpec.ofChange fnExactWinOkSpec)) fnExactWinOkCard

/-- THE TIED CARD OF 'laws.FnExactMakRoom'. -/
def fnExactMakRoomCard : Claim7 := { stood := { row := fnExactMakRoomRow, standIns := [], harness := (true, "bfe1695bd1fce729b7b4a5c90c63e8a0513010c203349361eb1dc04420d8bd73"), looks := true }, kinds := [], alts := [], laidByText := true, laidKinds := [.data, .data, .data, .sentinel, .sentinel], laidTests := true, laidLooks := .later }
def FnExactMakRoomCardSaid : Prop := Claim7.holds Tryd.pinned (.plain (OpenSpec.ofChange fnExactMakRoomSpec)) fnExactMakRoomCard

/-- THE TIED CARD OF 'laws.FnExactMakSay'. -/
def fnExactMakSayCard : Claim7 := { stood := { row := fnExactMakSayRow, standIns := [], harness := (true, "bfe1695bd1fce729b7b4a5c90c63e8a0513010c203349361eb1dc04420d8bd73"), looks := true }, kinds := [], alts := [], laidByText := true, laidKinds := [.data, .data, .data, .sentinel, .sentinel], laidTests := true, laidLooks := .later }
def FnExactMakSayCardSaid : Prop := Claim7.holds Tryd.pinned (.plain (OpenSpec.ofChange fnExactMakSaySpec)) fnExactMakSayCard

/-- THE TIED CARD OF 'laws.FnExactTreCover'. -/
def fnExactTreCoverCard : Claim7 := { stood := { row := fnExactTreCoverRow, standIns := [], harness := (true, "bfe1695bd1fce729b7b4a5c90c63e8a0513010c203349361eb1dc04420d8bd73"), looks := true }, kinds := [], alts := [], laidByText := true, laidKinds := [.data, .data, .data, .sentinel, .sentinel], laidTests := true, laidLooks := .later }
def FnExactTreCoverCardSaid : Prop := Claim7.holds Tryd.pinned (.plain (OpenSpec.ofChange fnExactTreCoverSpec)) fnExactTreCoverCard

/-- THE TIED CARD OF 'laws.FnExactTreIn'. -/
def fnExactTreInCard : Claim7 := { stood := { row := fnExactTreInRow, standIns := [], harness := (true, "bfe1695bd1fce729b7b4a5c90c63e8a0513010c203349361eb1dc04420d8bd73"), looks := true }, kinds := [], alts := [], laidByText := true, laidKinds := [.data, .data, .data, .sentinel, .sentinel], laidTests := true, laidLooks := .later }
def FnExactTreInCardSaid : Prop := Claim7.holds Tryd.pinned (.plain (OpenSpec.ofChange fnExactTreInSpec)) fnExactTreInCard

/-- THE SECOND FORM's CARD OF 'laws.FnExactSecOk'. -/
def fnExactSecOkUptoCard : Claim7 := { stood := { row := fnExactSecOkUptoRow, standIns := [], harness := (true, "bfe1695bd1fce729b7b4a5c90c63e8a0513010c203349361eb1dc04420d8bd73"), looks := true }, kinds := [], alts := [], laidByText := true, laidKinds := [.data, .data, .data, .sentinel, .sentinel], laidTests := true, laidLooks := .later }
def FnExactSecOkUptoCardSaid : Prop := Claim7.holds Tryd.pinned (.plain (OpenSpec.upto fnExactSecOkSpec)) fnExactSecOkUptoCard

/-- THE SECOND FORM's CARD OF 'laws.FnExactSecMade'. -/
def fnExactSecMadeUptoCard : Claim7 := { stood := { row := fnExactSecMadeUptoRow, standIns := [], harness := (true, "bfe1695bd1fce729b7b4a5c90c63e8a0513010c203349361eb1dc04420d8bd73"), looks := true }, kinds := [], alts := [], laidByText := true, laidKinds := [.data, .data, .data, .sentinel, .sentinel], laidTests := true, laidLooks := .later }
def FnExactSecMadeUptoCardSaid : Prop := Claim7.holds Tryd.pinned (.plain (OpenSpec.upto fnExactSecMadeSpec)) fnExactSecMadeUptoCard

/-- THE SECOND FORM's CARD OF 'laws.FnExactFraOk'. -/
def fnExactFraOkUptoCard : Claim7 := { stood := { row := fnExactFraOkUptoRow, standIns := [], harness := (true, "bfe1695bd1fce729b7b4a5c90c63e8a0513010c203349361eb1dc04420d8bd73"), looks := true }, kinds := [], alts := [], laidByText := true, laidKinds := [.data, .data, .data, .sentinel, .sentinel], laidTests := true, laidLooks := .later }
def FnExactFraOkUptoCardSaid : Prop := Claim7.holds Tryd.pinned (.plain (OpenSpec.upto fnExactFraOkSpec)) fnExactFraOkUptoCard

/-- THE SECOND FORM's CARD OF 'laws.FnExactMakEpoch'. -/
def fnExactMakEpochUptoCard : Claim7 := { stood := { row := fnExactMakEpochUptoRow, standIns := [], harness := (true, "bfe1695bd1fce729b7b4a5c90c63e8a0513010c203349361eb1dc04420d8bd73"), looks := true }, kinds := [], alts := [], laidByText := true, laidKinds := [.data, .data, .data, .sentinel, .sentinel], laidTests := true, laidLooks := .later }
def FnExactMakEpochUptoCardSaid : Prop := Claim7.holds Tryd.pinned (.plain (OpenSpec.upto fnExactMakEpochSpec)) fnExactMakEpochUptoCard

/-- THE SECOND FORM's CARD OF 'laws.FnExactMakKey'. -/
def fnExactMakKeyUptoCard : Claim7 := { stood := { row := fnExactMakKeyUptoRow, standIns := [], harness := (true, "bfe1695bd1fce729b7b4a5c90c63e8a0513010c203349361eb1dc04420d8bd73"), looks := true }, kinds := [], alts := [], laidByText := true, laidKinds := [.data, .data, .data, .sentinel, .sentinel], laidTests := true, laidLooks := .later }
def FnExactMakKeyUptoCardSaid : Prop := Claim7.holds Tryd.pinned (.plain (OpenSpec.upto fnExactMakKeySpec)) fnExactMakKeyUptoCard

/-- THE SECOND FORM's CARD OF 'laws.FnExactMakNext'. -/
def fnExactMakNextUptoCard : Claim7 := { stood := { row := fnExactMakNextUptoRow, standIns := [], harness := (true, "bfe1695bd1fce729b7b4a5c90c63e8a0513010c203349361eb1dc04420d8bd73"), looks := true }, kinds := [], alts := [], laidByText := true, laidKinds := [.data, .data, .data, .sentinel, .sentinel], laidTests := true, laidLooks := .later }
def FnExactMakNextUptoCardSaid : Prop := Claim7.holds Tryd.pinned (.plain (OpenSpec.upto fnExactMakNextSpec)) fnExactMakNextUptoCard

/-- THE SECOND FORM's CARD OF 'laws.FnExactTreOk'. -/
def fnExactTreOkUptoCard : Claim7 := { stood := { row := fnExactTreOkUptoRow, standIns := [], harness := (true, "bfe1695bd1fce729b7b4a5c90c63e8a0513010c203349361eb1dc04420d8bd73"), looks := true }, kinds := [], alts := [], laidByText := true, laidKinds := [.data, .data, .data, .sentinel, .sentinel], laidTests := true, laidLooks := .later }
def FnExactTreOkUptoCardSaid : Prop := Claim7.holds Tryd.pinned (.plain (OpenSpec.upto fnExactTreOkSpec)) fnExactTreOkUptoCard

/-- THE SECOND FORM's CARD OF 'laws.FnExactWinOk'. -/
def fnExactWinOkUptoCard : Claim7 := { stood := { row := fnExactWinOkUptoRow, standIns := [], harness := (true, "bfe1695bd1fce729b7b4a5c90c63e8a0513010c203349361eb1dc04420d8bd73"), looks := true }, kinds := [], alts := [], laidByText := true, laidKinds := [.data, .data, .data, .sentinel, .sentinel], laidTests := true, laidLooks := .later }
def FnExactWinOkUptoCardSaid : Prop := Claim7.holds Tryd.pinned (.plain (OpenSpec.upto fnExactWinOkSpec)) fnExactWinOkUptoCard

/-- THE SECOND FORM's CARD OF 'laws.FnExactMakRoom'. -/
def fnExactMakRoomUptoCard : Claim7 := { stood := { row := fnExactMakRoomUptoRow, standIns := [], harness := (true, "bfe1695bd1fce729b7b4a5c90c63e8a0513010c203349361eb1dc04420d8bd73"), looks := true }, kinds := [], alts := [], laidByText := true, laidKinds := [.data, .data, .data, .sentinel, .sentinel], laidTests := true, laidLooks := .later }
def FnExactMakRoomUptoCardSaid : Prop := Claim7.holds Tryd.pinned (.plain (OpenSpec.upto fnExactMakRoomSpec)) fnExactMakRoomUptoCard

/-- THE SECOND FORM's CARD OF 'laws.FnExactMakSay'. -/
def fnExactMakSayUptoCard : Claim7 := { stood := { row := fnExactMakSayUptoRow, standIns := [], harness := (true, "bfe1695bd1fce729b7b4a5c90c63e8a0513010c203349361eb1dc04420d8bd73"), looks := true }, kinds := [], alts := [], laidByText := true, laidKinds := [.data, .data, .data, .sentinel, .sentinel], laidTests := true, laidLooks := .later }
def FnExactMakSayUptoCardSaid : Prop := Claim7.holds Tryd.pinned (.plain (OpenSpec.upto fnExactMakSaySpec)) fnExactMakSayUptoCard

/-- THE SECOND FORM's CARD OF 'laws.FnExactTreCover'. -/
def fnExactTreCoverUptoCard : Claim7 := { stood := { row := fnExactTreCoverUptoRow, standIns := [], harness := (true, "bfe1695bd1fce729b7b4a5c90c63e8a0513010c203349361eb1dc04420d8bd73"), looks := true }, kinds := [], alts := [], laidByText := true, laidKinds := [.data, .data, .data, .sentinel, .sentinel], laidTests := true, laidLooks := .later }
def FnExactTreCoverUptoCardSaid : Prop := Claim7.holds Tryd.pinned (.plain (OpenSpec.upto fnExactTreCoverSpec)) fnExactTreCoverUptoCard

/-- THE SECOND FORM's CARD OF 'laws.FnExactTreIn'. -/
def fnExactTreInUptoCard : Claim7 := { stood := { row := fnExactTreInUptoRow, standIns := [], harness := (true, "bfe1695bd1fce729b7b4a5c90c63e8a0513010c203349361eb1dc04420d8bd73"), looks := true }, kinds := [], alts := [], laidByText := true, laidKinds := [.data, .data, .data, .sentinel, .sentinel], laidTests := true, laidLooks := .later }
def FnExactTreInUptoCardSaid : Prop := Claim7.holds Tryd.pinned (.plain (OpenSpec.upto fnExactTreInSpec)) fnExactTreInUptoCard
end Rows
end Go.Proofs.YtpiapmmlppknbaaDoor
