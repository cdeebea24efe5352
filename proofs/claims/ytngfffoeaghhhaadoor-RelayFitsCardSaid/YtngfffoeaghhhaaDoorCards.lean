/-
  DERIVED. GIVEN WITH THE SEED: THE CARDS: each row of YtngfffoeaghhhaaDoorRows.lean that lists a variable, with what it lists TIED to the program's text (the seventh form; the later family's looks); each row that meets fmt, with fmt's text TOLD by the authors' own Lean function (tested against real Go, not proved from fmt's source: count such statements apart). THE CARD IS WHAT COUNTS. Prove the row's statement (the work); the ties are given (YtngfffoeaghhhaaDoorTie.lean); close each card by the builder's one call (the guide's Derived/Test/ToyasCard.lean, 'card_holds'). Laid BY PROGRAM, IN A SANDBOX (cutbox-door.mjs). By AI agents, Wed Nov 11 2026. No macro, syntax, notation, axiom, sorry.
-/
import Derived.Test.YtngfffoeaghhhaaDoorRows
import GoSem.ClaimSeven
namespace Go.Proofs.YtngfffoeaghhhaaDoor
namespace Rows

/-- THE TIED CARD OF 'ddilaw39.RelayInserts'. -/
def relayInsertsCard : Claim7 := { stood := { row := relayInsertsRow, standIns := [], harness := (true, "43ef937e98154ba4cfc559c5a4c09c901d0d8247ac928349369ef8434c4b1bdc"), looks := false }, kinds := [], alts := [], laidByText := true, laidKinds := [.data, .pinned], laidTests := true, laidLooks := .later }
def RelayInsertsCardSaid : Prop := Claim7.holds Tryd.pinned (.plain (OpenSpec.ofChange relayInsertsSpec)) relayInsertsCard

/-- THE TIED CARD OF 'ddilaw39.RelayChecks'. -/
def relayChecksCard : Claim7 := { stood := { row := relayChecksRow, standIns := [], harness := (true, "43ef937e98154ba4cfc559c5a4c09c901d0d8247ac928349369ef8434c4b1bdc"), looks := false }, kinds := [], alts := [], laidByText := true, laidKinds := [.data, .pinned], laidTests := true, laidLooks := .later }
def RelayChecksCardSaid : Prop := Claim7.holds Tryd.pinned (.plain (OpenSpec.ofChange relayChecksSpec)) relayChecksCard

/-- THE TIED CARD OF 'ddilaw39.RelaySelects'. -/
def relaySelectsCard : Claim7 := { stood := { row := relaySelectsRow, standIns := [], harness := (true, "43ef937e98154ba4cfc559c5a4c09c901d0d8247ac928349369ef8434c4b1bdc"), looks := false }, kinds := [], alts := [], laidByText := true, laidKinds := [.data, .pinned], laidTests := true, laidLooks := .later }
def RelaySelectsCardSaid : Prop := Claim7.holds Tryd.pinned (.plain (OpenSpec.ofChange relaySelectsSpec)) relaySelectsCard

/-- THE TIED CARD OF 'ddilaw39.RelayFits'. -/
def relayFitsCard : Claim7 := { stood := { row := relayFitsRow, standIns := [], harness := (true, "43ef937e98154ba4cfc559c5a4c09c901d0d8247ac928349369ef8434c4b1bdc"), looks := false }, kinds := [], alts := [], laidByText := true, laidKinds := [.data, .pinned], laidTests := true, laidLooks := .later }
def RelayFitsCardSaid : Prop := Claim7.holds Tryd.pinned (.plain (OpenSpec.ofChange relayFitsSpec)) relayFitsCard

/-- THE TIED CARD OF 'ddilaw39.RelayBack'. -/
def relayBackCard : Claim7 := { stood := { row := relayBackRow, standIns := [], harness := (true, "43ef937e98154ba4cfc559c5a4c09c901d0d8247ac928349369ef8434c4b1bdc"), looks := false }, kinds := [], alts := [], laidByText := true, laidKinds := [.data, .pinned], laidTests := true, laidLooks := .later }
def RelayBackCardSaid : Prop := Claim7.holds Tryd.pinned (.plain (OpenSpec.ofChange relayBackSpec)) relayBackCard

/-- THE SECOND FORM's CARD OF 'ddilaw39.RelayInserts'. -/
def relayInsertsUptoCard : Claim7 := { stood := { row := relayInsertsUptoRow, standIns := [], harness := (true, "43ef937e98154ba4cfc559c5a4c09c901d0d8247ac928349369ef8434c4b1bdc"), looks := false }, kinds := [], alts := [], laidByText := true, laidKinds := [.data, .pinned], laidTests := true, laidLooks := .later }
def RelayInsertsUptoCardSaid : Prop := Claim7.holds Tryd.pinned (.plain (OpenSpec.upto relayInsertsSpec)) relayInsertsUptoCard

/-- THE SECOND FORM's CARD OF 'ddilaw39.RelayChecks'. -/
def relayChecksUptoCard : Claim7 := { stood := { row := relayChecksUptoRow, standIns := [], harness := (true, "43ef937e98154ba4cfc559c5a4c09c901d0d8247ac928349369ef8434c4b1bdc"), looks := false }, kinds := [], alts := [], laidByText := true, laidKinds := [.data, .pinned], laidTests := true, laidLooks := .later }
def RelayChecksUptoCardSaid : Prop := Claim7.holds Tryd.pinned (.plain (OpenSpec.upto relayChecksSpec)) relayChecksUptoCard

/-- THE SECOND FORM's CARD OF 'ddilaw39.RelaySelects'. -/
def relaySelectsUptoCard : Claim7 := { stood := { row := relaySelectsUptoRow, standIns := [], harness := (true, "43ef937e98154ba4cfc559c5a4c09c901d0d8247ac928349369ef8434c4b1bdc"), looks := false }, kinds := [], alts := [], laidByText := true, laidKinds := [.data, .pinned], laidTests := true, laidLooks := .later }
def RelaySelectsUptoCardSaid : Prop := Claim7.holds Tryd.pinned (.plain (OpenSpec.upto relaySelectsSpec)) relaySelectsUptoCard

/-- THE SECOND FORM's CARD OF 'ddilaw39.RelayFits'. -/
def relayFitsUptoCard : Claim7 := { stood := { row := relayFitsUptoRow, standIns := [], harness := (true, "43ef937e98154ba4cfc559c5a4c09c901d0d8247ac928349369ef8434c4b1bdc"), looks := false }, kinds := [], alts := [], laidByText := true, laidKinds := [.data, .pinned], laidTests := true, laidLooks := .later }
def RelayFitsUptoCardSaid : Prop := Claim7.holds Tryd.pinned (.plain (OpenSpec.upto relayFitsSpec)) relayFitsUptoCard

/-- THE SECOND FORM's CARD OF 'ddilaw39.RelayBack'. -/
def relayBackUptoCard : Claim7 := { stood := { row := relayBackUptoRow, standIns := [], harness := (true, "43ef937e98154ba4cfc559c5a4c09c901d0d8247ac928349369ef8434c4b1bdc"), looks := false }, kinds := [], alts := [], laidByText := true, laidKinds := [.data, .pinned], laidTests := true, laidLooks := .later }
def RelayBackUptoCardSaid : Prop := Claim7.holds Tryd.pinned (.plain (OpenSpec.upto relayBackSpec)) relayBackUptoCard
end Rows
end Go.Proofs.YtngfffoeaghhhaaDoor
