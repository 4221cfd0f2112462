/-
  DERIVED. GIVEN WITH THE SEED: THE CARDS: each row of YtjbnfcljkmapeaaDoorRows.lean that lists a variable, with what it lists TIED to the program's text (the seventh form; the later family's looks); each row that meets fmt, with fmt's text TOLD by the authors' own Lean function (tested against real Go, not proved from fmt's source: count such statements apart). THE CARD IS WHAT COUNTS. Prove the row's statement (the work); the ties are given (YtjbnfcljkmapeaaDoorTie.lean); close each card by the builder's one call (the guide's Derived/Test/ToyasCard.lean, 'card_holds'). Laid BY PROGRAM, IN A SANDBOX (cutbox-door.mjs). By AI agents, Wed Nov 11 2026. No macro, syntax, notation, axiom, sorry.
-/
import Derived.Test.YtjbnfcljkmapeaaDoorRows
import GoSem.ClaimSeven
namespace Go.Proofs.YtjbnfcljkmapeaaDoor
namespace Rows

/-- THE TIED CARD OF 'laws.FnKnwNone'. -/
def fnKnwNoneCard : Claim7 := { stood := { row := fnKnwNoneRow, standIns := [], harness := (true, "0769d1ed22bb1dfcaccf9e52ec05a2a770ab5441c7aa732091d78b0bd71ced5e"), looks := true }, kinds := [], alts := [], laidByText := true, laidKinds := [.data, .data, .data, .sentinel, .sentinel], laidTests := true, laidLooks := .later }
def FnKnwNoneCardSaid : Prop := Claim7.holds Tryd.pinned (.plain (OpenSpec.ofChange fnKnwNoneSpec)) fnKnwNoneCard

/-- THE TIED CARD OF 'laws.FnKnwParts'. -/
def fnKnwPartsCard : Claim7 := { stood := { row := fnKnwPartsRow, standIns := [], harness := (true, "0769d1ed22bb1dfcaccf9e52ec05a2a770ab5441c7aa732091d78b0bd71ced5e"), looks := true }, kinds := [], alts := [], laidByText := true, laidKinds := [.data, .data, .data, .sentinel, .sentinel], laidTests := true, laidLooks := .later }
def FnKnwPartsCardSaid : Prop := Claim7.holds Tryd.pinned (.plain (OpenSpec.ofChange fnKnwPartsSpec)) fnKnwPartsCard

/-- THE TIED CARD OF 'laws.FnKnwBack'. -/
def fnKnwBackCard : Claim7 := { stood := { row := fnKnwBackRow, standIns := [], harness := (true, "0769d1ed22bb1dfcaccf9e52ec05a2a770ab5441c7aa732091d78b0bd71ced5e"), looks := true }, kinds := [], alts := [], laidByText := true, laidKinds := [.data, .data, .data, .sentinel, .sentinel], laidTests := true, laidLooks := .later }
def FnKnwBackCardSaid : Prop := Claim7.holds Tryd.pinned (.plain (OpenSpec.ofChange fnKnwBackSpec)) fnKnwBackCard

/-- THE TIED CARD OF 'laws.FnKnwChain'. -/
def fnKnwChainCard : Claim7 := { stood := { row := fnKnwChainRow, standIns := [], harness := (true, "0769d1ed22bb1dfcaccf9e52ec05a2a770ab5441c7aa732091d78b0bd71ced5e"), looks := true }, kinds := [], alts := [], laidByText := true, laidKinds := [.data, .data, .data, .sentinel, .sentinel], laidTests := true, laidLooks := .later }
def FnKnwChainCardSaid : Prop := Claim7.holds Tryd.pinned (.plain (OpenSpec.ofChange fnKnwChainSpec)) fnKnwChainCard

/-- THE TIED CARD OF 'laws.FnKnwHas'. -/
def fnKnwHasCard : Claim7 := { stood := { row := fnKnwHasRow, standIns := [], harness := (true, "0769d1ed22bb1dfcaccf9e52ec05a2a770ab5441c7aa732091d78b0bd71ced5e"), looks := true }, kinds := [], alts := [], laidByText := true, laidKinds := [.data, .data, .data, .sentinel, .sentinel], laidTests := true, laidLooks := .later }
def FnKnwHasCardSaid : Prop := Claim7.holds Tryd.pinned (.plain (OpenSpec.ofChange fnKnwHasSpec)) fnKnwHasCard

/-- THE TIED CARD OF 'laws.FnKnwMake'. -/
def fnKnwMakeCard : Claim7 := { stood := { row := fnKnwMakeRow, standIns := [], harness := (true, "0769d1ed22bb1dfcaccf9e52ec05a2a770ab5441c7aa732091d78b0bd71ced5e"), looks := true }, kinds := [], alts := [], laidByText := true, laidKinds := [.data, .data, .data, .sentinel, .sentinel], laidTests := true, laidLooks := .later }
def FnKnwMakeCardSaid : Prop := Claim7.holds Tryd.pinned (.plain (OpenSpec.ofChange fnKnwMakeSpec)) fnKnwMakeCard

/-- THE TIED CARD OF 'laws.FnKnwMore'. -/
def fnKnwMoreCard : Claim7 := { stood := { row := fnKnwMoreRow, standIns := [], harness := (true, "0769d1ed22bb1dfcaccf9e52ec05a2a770ab5441c7aa732091d78b0bd71ced5e"), looks := true }, kinds := [], alts := [], laidByText := true, laidKinds := [.data, .data, .data, .sentinel, .sentinel], laidTests := true, laidLooks := .later }
def FnKnwMoreCardSaid : Prop := Claim7.holds Tryd.pinned (.plain (OpenSpec.ofChange fnKnwMoreSpec)) fnKnwMoreCard

/-- THE TIED CARD OF 'laws.FnKnwOpen'. -/
def fnKnwOpenCard : Claim7 := { stood := { row := fnKnwOpenRow, standIns := [], harness := (true, "0769d1ed22bb1dfcaccf9e52ec05a2a770ab5441c7aa732091d78b0bd71ced5e"), looks := true }, kinds := [], alts := [], laidByText := true, laidKinds := [.data, .data, .data, .sentinel, .sentinel], laidTests := true, laidLooks := .later }
def FnKnwOpenCardSaid : Prop := Claim7.holds Tryd.pinned (.plain (OpenSpec.ofChange fnKnwOpenSpec)) fnKnwOpenCard

/-- THE SECOND FORM's CARD OF 'laws.FnKnwNone'. -/
def fnKnwNoneUptoCard : Claim7 := { stood := { row := fnKnwNoneUptoRow, standIns := [], harness := (true, "0769d1ed22bb1dfcaccf9e52ec05a2a770ab5441c7aa732091d78b0bd71ced5e"), looks := true }, kinds := [], alts := [], laidByText := true, laidKinds := [.data, .data, .data, .sentinel, .sentinel], laidTests := true, laidLooks := .later }
def FnKnwNoneUptoCardSaid : Prop := Claim7.holds Tryd.pinned (.plain (OpenSpec.upto fnKnwNoneSpec)) fnKnwNoneUptoCard

/-- THE SECOND FORM's CARD OF 'laws.FnKnwParts'. -/
def fnKnwPartsUptoCard : Claim7 := { stood := { row := fnKnwPartsUptoRow, standIns := [], harness := (true, "0769d1ed22bb1dfcaccf9e52ec05a2a770ab5441c7aa732091d78b0bd71ced5e"), looks := true }, kinds := [], alts := [], laidByText := true, laidKinds := [.data, .data, .data, .sentinel, .sentinel], laidTests := true, laidLooks := .later }
def FnKnwPartsUptoCardSaid : Prop := Claim7.holds Tryd.pinned (.plain (OpenSpec.upto fnKnwPartsSpec)) fnKnwPartsUptoCard

/-- THE SECOND FORM's CARD OF 'laws.FnKnwBack'. -/
def fnKnwBackUptoCard : Claim7 := { stood := { row := fnKnwBackUptoRow, standIns := [], harness := (true, "0769d1ed22bb1dfcaccf9e52ec05a2a770ab5441c7aa732091d78b0bd71ced5e"), looks := true }, kinds := [], alts := [], laidByText := true, laidKinds := [.data, .data, .data, .sentinel, .sentinel], laidTests := true, laidLooks := .later }
def FnKnwBackUptoCardSaid : Prop := Claim7.holds Tryd.pinned (.plain (OpenSpec.upto fnKnwBackSpec)) fnKnwBackUptoCard

/-- THE SECOND FORM's CARD OF 'laws.FnKnwChain'. -/
def fnKnwChainUptoCard : Claim7 := { stood := { row := fnKnwChainUptoRow, standIns := [], harness := (true, "0769d1ed22bb1dfcaccf9e52ec05a2a770ab5441c7aa732091d78b0bd71ced5e"), looks := true }, kinds := [], alts := [], laidByText := true, laidKinds := [.data, .data, .data, .sentinel, .sentinel], laidTests := true, laidLooks := .later }
def FnKnwChainUptoCardSaid : Prop := Claim7.holds Tryd.pinned (.plain (OpenSpec.upto fnKnwChainSpec)) fnKnwChainUptoCard

/-- THE SECOND FORM's CARD OF 'laws.FnKnwHas'. -/
def fnKnwHasUptoCard : Claim7 := { stood := { row := fnKnwHasUptoRow, standIns := [], harness := (true, "0769d1ed22bb1dfcaccf9e52ec05a2a770ab5441c7aa732091d78b0bd71ced5e"), looks := true }, kinds := [], alts := [], laidByText := true, laidKinds := [.data, .data, .data, .sentinel, .sentinel], laidTests := true, laidLooks := .later }
def FnKnwHasUptoCardSaid : Prop := Claim7.holds Tryd.pinned (.plain (OpenSpec.upto fnKnwHasSpec)) fnKnwHasUptoCard

/-- THE SECOND FORM's CARD OF 'laws.FnKnwMake'. -/
def fnKnwMakeUptoCard : Claim7 := { stood := { row := fnKnwMakeUptoRow, standIns := [], harness := (true, "0769d1ed22bb1dfcaccf9e52ec05a2a770ab5441c7aa732091d78b0bd71ced5e"), looks := true }, kinds := [], alts := [], laidByText := true, laidKinds := [.data, .data, .data, .sentinel, .sentinel], laidTests := true, laidLooks := .later }
def FnKnwMakeUptoCardSaid : Prop := Claim7.holds Tryd.pinned (.plain (OpenSpec.upto fnKnwMakeSpec)) fnKnwMakeUptoCard

/-- THE SECOND FORM's CARD OF 'laws.FnKnwMore'. -/
def fnKnwMoreUptoCard : Claim7 := { stood := { row := fnKnwMoreUptoRow, standIns := [], harness := (true, "0769d1ed22bb1dfcaccf9e52ec05a2a770ab5441c7aa732091d78b0bd71ced5e"), looks := true }, kinds := [], alts := [], laidByText := true, laidKinds := [.data, .data, .data, .sentinel, .sentinel], laidTests := true, laidLooks := .later }
def FnKnwMoreUptoCardSaid : Prop := Claim7.holds Tryd.pinned (.plain (OpenSpec.upto fnKnwMoreSpec)) fnKnwMoreUptoCard

/-- THE SECOND FORM's CARD OF 'laws.FnKnwOpen'. -/
def fnKnwOpenUptoCard : Claim7 := { stood := { row := fnKnwOpenUptoRow, standIns := [], harness := (true, "0769d1ed22bb1dfcaccf9e52ec05a2a770ab5441c7aa732091d78b0bd71ced5e"), looks := true }, kinds := [], alts := [], laidByText := true, laidKinds := [.data, .data, .data, .sentinel, .sentinel], laidTests := true, laidLooks := .later }
def FnKnwOpenUptoCardSaid : Prop := Claim7.holds Tryd.pinned (.plain (OpenSpec.upto fnKnwOpenSpec)) fnKnwOpenUptoCard
end Rows
end Go.Proofs.YtjbnfcljkmapeaaDoor
