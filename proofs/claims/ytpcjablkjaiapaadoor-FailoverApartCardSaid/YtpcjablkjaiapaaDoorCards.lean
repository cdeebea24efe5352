/-
  DERIVED. GIVEN WITH THE SEED: THE CARDS: each row of YtpcjablkjaiapaaDoorRows.lean that lists a variable, with what it lists TIED to the program's text (the seventh form; the later family's looks); each row that meets fmt, with fmt's text TOLD by the authors' own Lean function (tested against real Go, not proved from fmt's source: count such statements apart). THE CARD IS WHAT COUNTS. Prove the row's statement (the work); the ties are given (YtpcjablkjaiapaaDoorTie.lean); close each card by the builder's one call (the guide's Derived/Test/ToyasCard.lean, 'card_holds'). Laid BY PROGRAM, IN A SANDBOX (cutbox-door.mjs). By AI agents, Wed Nov 11 2026. No macro, syntax, notation, axiom, sorry.
-/
import Derived.Test.YtpcjablkjaiapaaDoorRows
import GoSem.ClaimSeven
namespace Go.Proofs.YtpcjablkjaiapaaDoor
namespace Rows

/-- THE TIED CARD OF 'ddilaw44.FailoverAgain'. -/
def failoverAgainCard : Claim7 := { stood := { row := failoverAgainRow, standIns := [], harness := (true, "aa8044f9b76838f6e8a00eb3e9055ef060b9e28e7db4643b466088c4dbcc1e0f"), looks := false }, kinds := [], alts := [], laidByText := true, laidKinds := [.data, .pinned], laidTests := true, laidLooks := .later }
def FailoverAgainCardSaid : Prop := Claim7.holds Tryd.pinned (.plain (OpenSpec.ofChange failoverAgainSpec)) failoverAgainCard

/-- THE TIED CARD OF 'ddilaw44.FailoverMerges'. -/
def failoverMergesCard : Claim7 := { stood := { row := failoverMergesRow, standIns := [], harness := (true, "aa8044f9b76838f6e8a00eb3e9055ef060b9e28e7db4643b466088c4dbcc1e0f"), looks := false }, kinds := [], alts := [], laidByText := true, laidKinds := [.data, .pinned], laidTests := true, laidLooks := .later }
def FailoverMergesCardSaid : Prop := Claim7.holds Tryd.pinned (.plain (OpenSpec.ofChange failoverMergesSpec)) failoverMergesCard

/-- THE TIED CARD OF 'ddilaw44.FailoverApart'. -/
def failoverApartCard : Claim7 := { stood := { row := failoverApartRow, standIns := [], harness := (true, "aa8044f9b76838f6e8a00eb3e9055ef060b9e28e7db4643b466088c4dbcc1e0f"), looks := false }, kinds := [], alts := [], laidByText := true, laidKinds := [.data, .pinned], laidTests := true, laidLooks := .later }
def FailoverApartCardSaid : Prop := Claim7.holds Tryd.pinned (.plain (OpenSpec.ofChange failoverApartSpec)) failoverApartCard

/-- THE TIED CARD OF 'ddilaw44.FailoverServes'. -/
def failoverServesCard : Claim7 := { stood := { row := failoverServesRow, standIns := [], harness := (true, "aa8044f9b76838f6e8a00eb3e9055ef060b9e28e7db4643b466088c4dbcc1e0f"), looks := false }, kinds := [], alts := [], laidByText := true, laidKinds := [.data, .pinned], laidTests := true, laidLooks := .later }
def FailoverServesCardSaid : Prop := Claim7.holds Tryd.pinned (.plain (OpenSpec.ofChange failoverServesSpec)) failoverServesCard

/-- THE SECOND FORM's CARD OF 'ddilaw44.FailoverAgain'. -/
def failoverAgainUptoCard : Claim7 := { stood := { row := failoverAgainUptoRow, standIns := [], harness := (true, "aa8044f9b76838f6e8a00eb3e9055ef060b9e28e7db4643b466088c4dbcc1e0f"), looks := false }, kinds := [], alts := [], laidByText := true, laidKinds := [.data, .pinned], laidTests := true, laidLooks := .later }
def FailoverAgainUptoCardSaid : Prop := Claim7.holds Tryd.pinned (.plain (OpenSpec.upto failoverAgainSpec)) failoverAgainUptoCard

/-- THE SECOND FORM's CARD OF 'ddilaw44.FailoverMerges'. -/
def failoverMergesUptoCard : Claim7 := { stood := { row := failoverMergesUptoRow, standIns := [], harness := (true, "aa8044f9b76838f6e8a00eb3e9055ef060b9e28e7db4643b466088c4dbcc1e0f"), looks := false }, kinds := [], alts := [], laidByText := true, laidKinds := [.data, .pinned], laidTests := true, laidLooks := .later }
def FailoverMergesUptoCardSaid : Prop := Claim7.holds Tryd.pinned (.plain (OpenSpec.upto failoverMergesSpec)) failoverMergesUptoCard

/-- THE SECOND FORM's CARD OF 'ddilaw44.FailoverApart'. -/
def failoverApartUptoCard : Claim7 := { stood := { row := failoverApartUptoRow, standIns := [], harness := (true, "aa8044f9b76838f6e8a00eb3e9055ef060b9e28e7db4643b466088c4dbcc1e0f"), looks := false }, kinds := [], alts := [], laidByText := true, laidKinds := [.data, .pinned], laidTests := true, laidLooks := .later }
def FailoverApartUptoCardSaid : Prop := Claim7.holds Tryd.pinned (.plain (OpenSpec.upto failoverApartSpec)) failoverApartUptoCard

/-- THE SECOND FORM's CARD OF 'ddilaw44.FailoverServes'. -/
def failoverServesUptoCard : Claim7 := { stood := { row := failoverServesUptoRow, standIns := [], harness := (true, "aa8044f9b76838f6e8a00eb3e9055ef060b9e28e7db4643b466088c4dbcc1e0f"), looks := false }, kinds := [], alts := [], laidByText := true, laidKinds := [.data, .pinned], laidTests := true, laidLooks := .later }
def FailoverServesUptoCardSaid : Prop := Claim7.holds Tryd.pinned (.plain (OpenSpec.upto failoverServesSpec)) failoverServesUptoCard
end Rows
end Go.Proofs.YtpcjablkjaiapaaDoor
