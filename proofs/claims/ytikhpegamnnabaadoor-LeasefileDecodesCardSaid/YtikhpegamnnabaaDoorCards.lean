/-
  DERIVED. GIVEN WITH THE SEED: THE CARDS: each row of YtikhpegamnnabaaDoorRows.lean that lists a variable, with what it lists TIED to the program's text (the seventh form; the later family's looks); each row that meets fmt, with fmt's text TOLD by the authors' own Lean function (tested against real Go, not proved from fmt's source: count such statements apart). THE CARD IS WHAT COUNTS. Prove the row's statement (the work); the ties are given (YtikhpegamnnabaaDoorTie.lean); close each card by the builder's one call (the guide's Derived/Test/ToyasCard.lean, 'card_holds'). Laid BY PROGRAM, IN A SANDBOX (cutbox-door.mjs). By AI agents, Wed Nov 11 2026. No macro, syntax, notation, axiom, sorry.
-/
import Derived.Test.YtikhpegamnnabaaDoorRows
import GoSem.ClaimSeven
namespace Go.Proofs.YtikhpegamnnabaaDoor
namespace Rows

/-- THE TIED CARD OF 'ddilaw45.LeasefileCodes'. -/
def leasefileCodesCard : Claim7 := { stood := { row := leasefileCodesRow, standIns := [], harness := (true, "53ab1c93e46a2901059bfa6eaa64e25b1e948e282f8ee6456541c0a9bcaa6209"), looks := false }, kinds := [], alts := [], laidByText := true, laidKinds := [.data, .pinned], laidTests := true, laidLooks := .later }
def LeasefileCodesCardSaid : Prop := Claim7.holds Tryd.pinned (.plain (OpenSpec.ofChange leasefileCodesSpec)) leasefileCodesCard

/-- THE TIED CARD OF 'ddilaw45.LeasefileDecodes'. -/
def leasefileDecodesCard : Claim7 := { stood := { row := leasefileDecodesRow, standIns := [], harness := (true, "53ab1c93e46a2901059bfa6eaa64e25b1e948e282f8ee6456541c0a9bcaa6209"), looks := false }, kinds := [], alts := [], laidByText := true, laidKinds := [.data, .pinned], laidTests := true, laidLooks := .later }
def LeasefileDecodesCardSaid : Prop := Claim7.holds Tryd.pinned (.plain (OpenSpec.ofChange leasefileDecodesSpec)) leasefileDecodesCard

/-- THE TIED CARD OF 'ddilaw45.LeasefilePuts'. -/
def leasefilePutsCard : Claim7 := { stood := { row := leasefilePutsRow, standIns := [], harness := (true, "53ab1c93e46a2901059bfa6eaa64e25b1e948e282f8ee6456541c0a9bcaa6209"), looks := false }, kinds := [], alts := [], laidByText := true, laidKinds := [.data, .pinned], laidTests := true, laidLooks := .later }
def LeasefilePutsCardSaid : Prop := Claim7.holds Tryd.pinned (.plain (OpenSpec.ofChange leasefilePutsSpec)) leasefilePutsCard

/-- THE TIED CARD OF 'ddilaw45.LeasefileOpens'. -/
def leasefileOpensCard : Claim7 := { stood := { row := leasefileOpensRow, standIns := [], harness := (true, "53ab1c93e46a2901059bfa6eaa64e25b1e948e282f8ee6456541c0a9bcaa6209"), looks := false }, kinds := [], alts := [], laidByText := true, laidKinds := [.data, .pinned], laidTests := true, laidLooks := .later }
def LeasefileOpensCardSaid : Prop := Claim7.holds Tryd.pinned (.plain (OpenSpec.ofChange leasefileOpensSpec)) leasefileOpensCard

/-- THE TIED CARD OF 'ddilaw45.LeasefileCompacts'. -/
def leasefileCompactsCard : Claim7 := { stood := { row := leasefileCompactsRow, standIns := [], harness := (true, "53ab1c93e46a2901059bfa6eaa64e25b1e948e282f8ee6456541c0a9bcaa6209"), looks := false }, kinds := [], alts := [], laidByText := true, laidKinds := [.data, .pinned], laidTests := true, laidLooks := .later }
def LeasefileCompactsCardSaid : Prop := Claim7.holds Tryd.pinned (.plain (OpenSpec.ofChange leasefileCompactsSpec)) leasefileCompactsCard

/-- THE TIED CARD OF 'ddilaw45.LeasefileCrash'. -/
def leasefileCrashCard : Claim7 := { stood := { row := leasefileCrashRow, standIns := [], harness := (true, "53ab1c93e46a2901059bfa6eaa64e25b1e948e282f8ee6456541c0a9bcaa6209"), looks := false }, kinds := [], alts := [], laidByText := true, laidKinds := [.data, .pinned], laidTests := true, laidLooks := .later }
def LeasefileCrashCardSaid : Prop := Claim7.holds Tryd.pinned (.plain (OpenSpec.ofChange leasefileCrashSpec)) leasefileCrashCard

/-- THE SECOND FORM's CARD OF 'ddilaw45.LeasefileCodes'. -/
def leasefileCodesUptoCard : Claim7 := { stood := { row := leasefileCodesUptoRow, standIns := [], harness := (true, "53ab1c93e46a2901059bfa6eaa64e25b1e948e282f8ee6456541c0a9bcaa6209"), looks := false }, kinds := [], alts := [], laidByText := true, laidKinds := [.data, .pinned], laidTests := true, laidLooks := .later }
def LeasefileCodesUptoCardSaid : Prop := Claim7.holds Tryd.pinned (.plain (OpenSpec.upto leasefileCodesSpec)) leasefileCodesUptoCard

/-- THE SECOND FORM's CARD OF 'ddilaw45.LeasefileDecodes'. -/
def leasefileDecodesUptoCard : Claim7 := { stood := { row := leasefileDecodesUptoRow, standIns := [], harness := (true, "53ab1c93e46a2901059bfa6eaa64e25b1e948e282f8ee6456541c0a9bcaa6209"), looks := false }, kinds := [], alts := [], laidByText := true, laidKinds := [.data, .pinned], laidTests := true, laidLooks := .later }
def LeasefileDecodesUptoCardSaid : Prop := Claim7.holds Tryd.pinned (.plain (OpenSpec.upto leasefileDecodesSpec)) leasefileDecodesUptoCard

/-- THE SECOND FORM's CARD OF 'ddilaw45.LeasefilePuts'. -/
def leasefilePutsUptoCard : Claim7 := { stood := { row := leasefilePutsUptoRow, standIns := [], harness := (true, "53ab1c93e46a2901059bfa6eaa64e25b1e948e282f8ee6456541c0a9bcaa6209"), looks := false }, kinds := [], alts := [], laidByText := true, laidKinds := [.data, .pinned], laidTests := true, laidLooks := .later }
def LeasefilePutsUptoCardSaid : Prop := Claim7.holds Tryd.pinned (.plain (OpenSpec.upto leasefilePutsSpec)) leasefilePutsUptoCard

/-- THE SECOND FORM's CARD OF 'ddilaw45.LeasefileOpens'. -/
def leasefileOpensUptoCard : Claim7 := { stood := { row := leasefileOpensUptoRow, standIns := [], harness := (true, "53ab1c93e46a2901059bfa6eaa64e25b1e948e282f8ee6456541c0a9bcaa6209"), looks := false }, kinds := [], alts := [], laidByText := true, laidKinds := [.data, .pinned], laidTests := true, laidLooks := .later }
def LeasefileOpensUptoCardSaid : Prop := Claim7.holds Tryd.pinned (.plain (OpenSpec.upto leasefileOpensSpec)) leasefileOpensUptoCard

/-- THE SECOND FORM's CARD OF 'ddilaw45.LeasefileCompacts'. -/
def leasefileCompactsUptoCard : Claim7 := { stood := { row := leasefileCompactsUptoRow, standIns := [], harness := (true, "53ab1c93e46a2901059bfa6eaa64e25b1e948e282f8ee6456541c0a9bcaa6209"), looks := false }, kinds := [], alts := [], laidByText := true, laidKinds := [.data, .pinned], laidTests := true, laidLooks := .later }
def LeasefileCompactsUptoCardSaid : Prop := Claim7.holds Tryd.pinned (.plain (OpenSpec.upto leasefileCompactsSpec)) leasefileCompactsUptoCard

/-- THE SECOND FORM's CARD OF 'ddilaw45.LeasefileCrash'. -/
def leasefileCrashUptoCard : Claim7 := { stood := { row := leasefileCrashUptoRow, standIns := [], harness := (true, "53ab1c93e46a2901059bfa6eaa64e25b1e948e282f8ee6456541c0a9bcaa6209"), looks := false }, kinds := [], alts := [], laidByText := true, laidKinds := [.data, .pinned], laidTests := true, laidLooks := .later }
def LeasefileCrashUptoCardSaid : Prop := Claim7.holds Tryd.pinned (.plain (OpenSpec.upto leasefileCrashSpec)) leasefileCrashUptoCard
end Rows
end Go.Proofs.YtikhpegamnnabaaDoor
