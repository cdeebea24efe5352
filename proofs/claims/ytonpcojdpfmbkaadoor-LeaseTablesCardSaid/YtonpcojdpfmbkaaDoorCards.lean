/-
  DERIVED. GIVEN WITH THE SEED: THE CARDS: each row of YtonpcojdpfmbkaaDoorRows.lean that lists a variable, with what it lists TIED to the program's text (the seventh form; the later family's looks); each row that meets fmt, with fmt's text TOLD by the authors' own Lean function (tested against real Go, not proved from fmt's source: count such statements apart). THE CARD IS WHAT COUNTS. Prove the row's statement (the work); the ties are given (YtonpcojdpfmbkaaDoorTie.lean); close each card by the builder's one call (the guide's Derived/Test/ToyasCard.lean, 'card_holds'). Laid BY PROGRAM, IN A SANDBOX (cutbox-door.mjs). By AI agents, Wed Nov 11 2026. No macro, syntax, notation, axiom, sorry.
-/
import Derived.Test.YtonpcojdpfmbkaaDoorRows
import GoSem.ClaimSeven
namespace Go.Proofs.YtonpcojdpfmbkaaDoor
namespace Rows

/-- THE TIED CARD OF 'ddilaw38.LeaseChecks'. -/
def leaseChecksCard : Claim7 := { stood := { row := leaseChecksRow, standIns := [], harness := (true, "7891b5e5b158c62a5577fd37bcff8771de78fb8b80210d0ce068dc761a23ab14"), looks := false }, kinds := [], alts := [], laidByText := true, laidKinds := [.data, .pinned], laidTests := true, laidLooks := .later }
def LeaseChecksCardSaid : Prop := Claim7.holds Tryd.pinned (.plain (OpenSpec.ofChange leaseChecksSpec)) leaseChecksCard

/-- THE TIED CARD OF 'ddilaw38.LeaseGrants'. -/
def leaseGrantsCard : Claim7 := { stood := { row := leaseGrantsRow, standIns := [], harness := (true, "7891b5e5b158c62a5577fd37bcff8771de78fb8b80210d0ce068dc761a23ab14"), looks := false }, kinds := [], alts := [], laidByText := true, laidKinds := [.data, .pinned], laidTests := true, laidLooks := .later }
def LeaseGrantsCardSaid : Prop := Claim7.holds Tryd.pinned (.plain (OpenSpec.ofChange leaseGrantsSpec)) leaseGrantsCard

/-- THE TIED CARD OF 'ddilaw38.LeaseTaken'. -/
def leaseTakenCard : Claim7 := { stood := { row := leaseTakenRow, standIns := [], harness := (true, "7891b5e5b158c62a5577fd37bcff8771de78fb8b80210d0ce068dc761a23ab14"), looks := false }, kinds := [], alts := [], laidByText := true, laidKinds := [.data, .pinned], laidTests := true, laidLooks := .later }
def LeaseTakenCardSaid : Prop := Claim7.holds Tryd.pinned (.plain (OpenSpec.ofChange leaseTakenSpec)) leaseTakenCard

/-- THE TIED CARD OF 'ddilaw38.LeaseFinds'. -/
def leaseFindsCard : Claim7 := { stood := { row := leaseFindsRow, standIns := [], harness := (true, "7891b5e5b158c62a5577fd37bcff8771de78fb8b80210d0ce068dc761a23ab14"), looks := false }, kinds := [], alts := [], laidByText := true, laidKinds := [.data, .pinned], laidTests := true, laidLooks := .later }
def LeaseFindsCardSaid : Prop := Claim7.holds Tryd.pinned (.plain (OpenSpec.ofChange leaseFindsSpec)) leaseFindsCard

/-- THE TIED CARD OF 'ddilaw38.LeaseEnds'. -/
def leaseEndsCard : Claim7 := { stood := { row := leaseEndsRow, standIns := [], harness := (true, "7891b5e5b158c62a5577fd37bcff8771de78fb8b80210d0ce068dc761a23ab14"), looks := false }, kinds := [], alts := [], laidByText := true, laidKinds := [.data, .pinned], laidTests := true, laidLooks := .later }
def LeaseEndsCardSaid : Prop := Claim7.holds Tryd.pinned (.plain (OpenSpec.ofChange leaseEndsSpec)) leaseEndsCard

/-- THE TIED CARD OF 'ddilaw38.LeaseTables'. -/
def leaseTablesCard : Claim7 := { stood := { row := leaseTablesRow, standIns := [], harness := (true, "7891b5e5b158c62a5577fd37bcff8771de78fb8b80210d0ce068dc761a23ab14"), looks := false }, kinds := [], alts := [], laidByText := true, laidKinds := [.data, .pinned], laidTests := true, laidLooks := .later }
def LeaseTablesCardSaid : Prop := Claim7.holds Tryd.pinned (.plain (OpenSpec.ofChange leaseTablesSpec)) leaseTablesCard

/-- THE TIED CARD OF 'ddilaw38.LeaseHolder'. -/
def leaseHolderCard : Claim7 := { stood := { row := leaseHolderRow, standIns := [], harness := (true, "7891b5e5b158c62a5577fd37bcff8771de78fb8b80210d0ce068dc761a23ab14"), looks := false }, kinds := [], alts := [], laidByText := true, laidKinds := [.data, .pinned], laidTests := true, laidLooks := .later }
def LeaseHolderCardSaid : Prop := Claim7.holds Tryd.pinned (.plain (OpenSpec.ofChange leaseHolderSpec)) leaseHolderCard

/-- THE SECOND FORM's CARD OF 'ddilaw38.LeaseChecks'. -/
def leaseChecksUptoCard : Claim7 := { stood := { row := leaseChecksUptoRow, standIns := [], harness := (true, "7891b5e5b158c62a5577fd37bcff8771de78fb8b80210d0ce068dc761a23ab14"), looks := false }, kinds := [], alts := [], laidByText := true, laidKinds := [.data, .pinned], laidTests := true, laidLooks := .later }
def LeaseChecksUptoCardSaid : Prop := Claim7.holds Tryd.pinned (.plain (OpenSpec.upto leaseChecksSpec)) leaseChecksUptoCard

/-- THE SECOND FORM's CARD OF 'ddilaw38.LeaseGrants'. -/
def leaseGrantsUptoCard : Claim7 := { stood := { row := leaseGrantsUptoRow, standIns := [], harness := (true, "7891b5e5b158c62a5577fd37bcff8771de78fb8b80210d0ce068dc761a23ab14"), looks := false }, kinds := [], alts := [], laidByText := true, laidKinds := [.data, .pinned], laidTests := true, laidLooks := .later }
def LeaseGrantsUptoCardSaid : Prop := Claim7.holds Tryd.pinned (.plain (OpenSpec.upto leaseGrantsSpec)) leaseGrantsUptoCard

/-- THE SECOND FORM's CARD OF 'ddilaw38.LeaseTaken'. -/
def leaseTakenUptoCard : Claim7 := { stood := { row := leaseTakenUptoRow, standIns := [], harness := (true, "7891b5e5b158c62a5577fd37bcff8771de78fb8b80210d0ce068dc761a23ab14"), looks := false }, kinds := [], alts := [], laidByText := true, laidKinds := [.data, .pinned], laidTests := true, laidLooks := .later }
def LeaseTakenUptoCardSaid : Prop := Claim7.holds Tryd.pinned (.plain (OpenSpec.upto leaseTakenSpec)) leaseTakenUptoCard

/-- THE SECOND FORM's CARD OF 'ddilaw38.LeaseFinds'. -/
def leaseFindsUptoCard : Claim7 := { stood := { row := leaseFindsUptoRow, standIns := [], harness := (true, "7891b5e5b158c62a5577fd37bcff8771de78fb8b80210d0ce068dc761a23ab14"), looks := false }, kinds := [], alts := [], laidByText := true, laidKinds := [.data, .pinned], laidTests := true, laidLooks := .later }
def LeaseFindsUptoCardSaid : Prop := Claim7.holds Tryd.pinned (.plain (OpenSpec.upto leaseFindsSpec)) leaseFindsUptoCard

/-- THE SECOND FORM's CARD OF 'ddilaw38.LeaseEnds'. -/
def leaseEndsUptoCard : Claim7 := { stood := { row := leaseEndsUptoRow, standIns := [], harness := (true, "7891b5e5b158c62a5577fd37bcff8771de78fb8b80210d0ce068dc761a23ab14"), looks := false }, kinds := [], alts := [], laidByText := true, laidKinds := [.data, .pinned], laidTests := true, laidLooks := .later }
def LeaseEndsUptoCardSaid : Prop := Claim7.holds Tryd.pinned (.plain (OpenSpec.upto leaseEndsSpec)) leaseEndsUptoCard

/-- THE SECOND FORM's CARD OF 'ddilaw38.LeaseTables'. -/
def leaseTablesUptoCard : Claim7 := { stood := { row := leaseTablesUptoRow, standIns := [], harness := (true, "7891b5e5b158c62a5577fd37bcff8771de78fb8b80210d0ce068dc761a23ab14"), looks := false }, kinds := [], alts := [], laidByText := true, laidKinds := [.data, .pinned], laidTests := true, laidLooks := .later }
def LeaseTablesUptoCardSaid : Prop := Claim7.holds Tryd.pinned (.plain (OpenSpec.upto leaseTablesSpec)) leaseTablesUptoCard

/-- THE SECOND FORM's CARD OF 'ddilaw38.LeaseHolder'. -/
def leaseHolderUptoCard : Claim7 := { stood := { row := leaseHolderUptoRow, standIns := [], harness := (true, "7891b5e5b158c62a5577fd37bcff8771de78fb8b80210d0ce068dc761a23ab14"), looks := false }, kinds := [], alts := [], laidByText := true, laidKinds := [.data, .pinned], laidTests := true, laidLooks := .later }
def LeaseHolderUptoCardSaid : Prop := Claim7.holds Tryd.pinned (.plain (OpenSpec.upto leaseHolderSpec)) leaseHolderUptoCard
end Rows
end Go.Proofs.YtonpcojdpfmbkaaDoor
