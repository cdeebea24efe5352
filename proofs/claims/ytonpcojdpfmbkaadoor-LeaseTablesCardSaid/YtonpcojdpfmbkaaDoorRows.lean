/-
  NARROWER THAN 'FOR EVERY INPUT', by the rows' own cells (each row's printed sentence says how): LeaseChecks: laid · LeaseGrants: laid · LeaseTaken: laid · LeaseFinds: laid · LeaseEnds: laid · LeaseTables: laid · LeaseHolder: laid.
  DERIVED. THE GIVEN ROWS OF THIS SEAT. 7 by the template 'for every input the law returns true; each argument reads behind the call as it read before'; 0 by the template 'total and deterministic' (their statements: YtonpcojdpfmbkaaDoorTotals.lean).
  GIVEN WITH THE SEED: the statements are not yours to turn. If you find one false, say at which input.
  Laid BY PROGRAM, IN A SANDBOX (cutbox-rows.mjs): the forced cells as the released guide's own fill.sh prints them over the translation 4708c6c3b8314f52… (all of the seat's roots in one cut). By AI agents, Wed Nov 11 2026. No macro, syntax, notation, axiom, sorry.
-/
import Derived.Test.YtonpcojdpfmbkaaDoorChecked
import GoSem.PinnedTables
import GoSem.Claim
import GoSem.ClaimJoined
import GoSem.ClaimMapViews
import Derived.JoinedTies
import Derived.KernelRfl
namespace Go.Proofs.YtonpcojdpfmbkaaDoor
/- THE CELL 'sum', in the pinned program and in every row, IS THE sha256 OF THE DUMP (.gsa) THAT YtonpcojdpfmbkaaDoorProg.lean LOADS. Nothing in Lean hashes anything: it is a label: what it is worth is what the hold of that sum in a sandbox is worth. -/
noncomputable def Tryd.pinned : Pinned := { name := "ytonpcojdpfmbkaadoor", sum := "4708c6c3b8314f52c09dc35a043e6c2a92c06dc3a56191b6254013e75987b0d0", checked := Tryd.checked }
namespace Rows
def none {H : Type} : Left H := { results := [], args := [] }

/- WHAT THE LISTED PACKAGE-LEVEL VARIABLES READ AS WHEN THE CALL BEGINS. Each datum BY PROGRAM (the guide's laid-datum.mjs) off the statement by which the dump's own 'gosem.cut.vars' lays the variable. In a bare row this is a premise. The card (YtonpcojdpfmbkaaDoorCards.lean) ties it to the program's text. -/
def laid_unicode_utf8_acceptRanges {H : Type} : DataW H := .agg [.agg [.lit (.int .u8 128), .lit (.int .u8 191)], .agg [.lit (.int .u8 160), .lit (.int .u8 191)], .agg [.lit (.int .u8 128), .lit (.int .u8 159)], .agg [.lit (.int .u8 144), .lit (.int .u8 191)], .agg [.lit (.int .u8 128), .lit (.int .u8 143)], .agg [.lit (.int .u8 0), .lit (.int .u8 0)], .agg [.lit (.int .u8 0), .lit (.int .u8 0)], .agg [.lit (.int .u8 0), .lit (.int .u8 0)], .agg [.lit (.int .u8 0), .lit (.int .u8 0)], .agg [.lit (.int .u8 0), .lit (.int .u8 0)], .agg [.lit (.int .u8 0), .lit (.int .u8 0)], .agg [.lit (.int .u8 0), .lit (.int .u8 0)], .agg [.lit (.int .u8 0), .lit (.int .u8 0)], .agg [.lit (.int .u8 0), .lit (.int .u8 0)], .agg [.lit (.int .u8 0), .lit (.int .u8 0)], .agg [.lit (.int .u8 0), .lit (.int .u8 0)]]
/-- One of Go's own tables, pinned by name: the form's constant. -/
def laid_unicode_utf8_first : DataW Unit := Go.Pinned.utf8First

/-- 'ddilaw38.LeaseChecks': WHATEVER THE INPUT: true; the input reads as it did. -/
def leaseChecksSpec : ChangeSpec := { name := "leaseChecks", fn := fun _ => fun
  | [d] => { results := [.lit (.bool true)], args := [d] }
  | _ => none }
def leaseChecksRow : OpenClaim := { program := "ytonpcojdpfmbkaadoor", sum := "4708c6c3b8314f52c09dc35a043e6c2a92c06dc3a56191b6254013e75987b0d0", func := "ddi/ddilaw38.LeaseChecks", spec := "leaseChecks", inPlace := ["internal/bytealg.CountString", "internal/bytealg.IndexByteString", "internal/bytealg.IndexString", "slices.overlaps[ddi/api.Lease]"], unfollowed := true, recurses := true, named := ["unicode/utf8.first", "unicode/utf8.acceptRanges", "internal/bytealg.MaxLen"], apart := false, laid := [("unicode/utf8.acceptRanges", laid_unicode_utf8_acceptRanges), ("unicode/utf8.first", laid_unicode_utf8_first)] }
def LeaseChecksSaid : Prop := leaseChecksRow.holds Tryd.pinned (OpenSpec.ofChange leaseChecksSpec)

/-- ITS FALSE NEIGHBOUR: 'it returns false'. Refute it at one input. -/
def leaseChecksWrong : ChangeSpec := { name := "leaseChecks", fn := fun _ => fun
  | [d] => { results := [.lit (.bool false)], args := [d] }
  | _ => none }
def LeaseChecksWrongFalsely : Prop := leaseChecksRow.holds Tryd.pinned (OpenSpec.ofChange leaseChecksWrong)

/-- 'ddilaw38.LeaseGrants': WHATEVER THE INPUT: true; the input reads as it did. -/
def leaseGrantsSpec : ChangeSpec := { name := "leaseGrants", fn := fun _ => fun
  | [d1, d2] => { results := [.lit (.bool true)], args := [d1, d2] }
  | _ => none }
def leaseGrantsRow : OpenClaim := { program := "ytonpcojdpfmbkaadoor", sum := "4708c6c3b8314f52c09dc35a043e6c2a92c06dc3a56191b6254013e75987b0d0", func := "ddi/ddilaw38.LeaseGrants", spec := "leaseGrants", inPlace := ["slices.overlaps[ddi/api.Lease]", "internal/bytealg.CountString", "internal/bytealg.IndexByteString", "internal/bytealg.IndexString"], unfollowed := true, recurses := true, named := ["unicode/utf8.first", "unicode/utf8.acceptRanges", "internal/bytealg.MaxLen"], apart := false, laid := [("unicode/utf8.acceptRanges", laid_unicode_utf8_acceptRanges), ("unicode/utf8.first", laid_unicode_utf8_first)] }
def LeaseGrantsSaid : Prop := leaseGrantsRow.holds Tryd.pinned (OpenSpec.ofChange leaseGrantsSpec)

/-- ITS FALSE NEIGHBOUR: 'it returns false'. Refute it at one input. -/
def leaseGrantsWrong : ChangeSpec := { name := "leaseGrants", fn := fun _ => fun
  | [d1, d2] => { results := [.lit (.bool false)], args := [d1, d2] }
  | _ => none }
def LeaseGrantsWrongFalsely : Prop := leaseGrantsRow.holds Tryd.pinned (OpenSpec.ofChange leaseGrantsWrong)

/-- 'ddilaw38.LeaseTaken': WHATEVER THE INPUT: true; the input reads as it did. -/
def leaseTakenSpec : ChangeSpec := { name := "leaseTaken", fn := fun _ => fun
  | [d1, d2] => { results := [.lit (.bool true)], args := [d1, d2] }
  | _ => none }
def leaseTakenRow : OpenClaim := { program := "ytonpcojdpfmbkaadoor", sum := "4708c6c3b8314f52c09dc35a043e6c2a92c06dc3a56191b6254013e75987b0d0", func := "ddi/ddilaw38.LeaseTaken", spec := "leaseTaken", inPlace := ["internal/bytealg.CountString", "internal/bytealg.IndexByteString", "internal/bytealg.IndexString", "slices.overlaps[ddi/api.Lease]"], unfollowed := true, recurses := true, named := ["unicode/utf8.first", "unicode/utf8.acceptRanges", "internal/bytealg.MaxLen"], apart := false, laid := [("unicode/utf8.acceptRanges", laid_unicode_utf8_acceptRanges), ("unicode/utf8.first", laid_unicode_utf8_first)] }
def LeaseTakenSaid : Prop := leaseTakenRow.holds Tryd.pinned (OpenSpec.ofChange leaseTakenSpec)

/-- ITS FALSE NEIGHBOUR: 'it returns false'. Refute it at one input. -/
def leaseTakenWrong : ChangeSpec := { name := "leaseTaken", fn := fun _ => fun
  | [d1, d2] => { results := [.lit (.bool false)], args := [d1, d2] }
  | _ => none }
def LeaseTakenWrongFalsely : Prop := leaseTakenRow.holds Tryd.pinned (OpenSpec.ofChange leaseTakenWrong)

/-- 'ddilaw38.LeaseFinds': WHATEVER THE INPUT: true; the input reads as it did. -/
def leaseFindsSpec : ChangeSpec := { name := "leaseFinds", fn := fun _ => fun
  | [d1, d2] => { results := [.lit (.bool true)], args := [d1, d2] }
  | _ => none }
def leaseFindsRow : OpenClaim := { program := "ytonpcojdpfmbkaadoor", sum := "4708c6c3b8314f52c09dc35a043e6c2a92c06dc3a56191b6254013e75987b0d0", func := "ddi/ddilaw38.LeaseFinds", spec := "leaseFinds", inPlace := ["slices.overlaps[ddi/api.Lease]", "internal/bytealg.CountString", "internal/bytealg.IndexByteString", "internal/bytealg.IndexString"], unfollowed := true, recurses := true, named := ["unicode/utf8.first", "unicode/utf8.acceptRanges", "internal/bytealg.MaxLen"], apart := false, laid := [("unicode/utf8.acceptRanges", laid_unicode_utf8_acceptRanges), ("unicode/utf8.first", laid_unicode_utf8_first)] }
def LeaseFindsSaid : Prop := leaseFindsRow.holds Tryd.pinned (OpenSpec.ofChange leaseFindsSpec)

/-- ITS FALSE NEIGHBOUR: 'it returns false'. Refute it at one input. -/
def leaseFindsWrong : ChangeSpec := { name := "leaseFinds", fn := fun _ => fun
  | [d1, d2] => { results := [.lit (.bool false)], args := [d1, d2] }
  | _ => none }
def LeaseFindsWrongFalsely : Prop := leaseFindsRow.holds Tryd.pinned (OpenSpec.ofChange leaseFindsWrong)

/-- 'ddilaw38.LeaseEnds': WHATEVER THE INPUT: true; the input reads as it did. -/
def leaseEndsSpec : ChangeSpec := { name := "leaseEnds", fn := fun _ => fun
  | [d1, d2] => { results := [.lit (.bool true)], args := [d1, d2] }
  | _ => none }
def leaseEndsRow : OpenClaim := { program := "ytonpcojdpfmbkaadoor", sum := "4708c6c3b8314f52c09dc35a043e6c2a92c06dc3a56191b6254013e75987b0d0", func := "ddi/ddilaw38.LeaseEnds", spec := "leaseEnds", inPlace := ["slices.overlaps[ddi/api.Lease]", "internal/bytealg.CountString", "internal/bytealg.IndexByteString", "internal/bytealg.IndexString"], unfollowed := true, recurses := true, named := ["unicode/utf8.first", "unicode/utf8.acceptRanges", "internal/bytealg.MaxLen"], apart := false, laid := [("unicode/utf8.acceptRanges", laid_unicode_utf8_acceptRanges), ("unicode/utf8.first", laid_unicode_utf8_first)] }
def LeaseEndsSaid : Prop := leaseEndsRow.holds Tryd.pinned (OpenSpec.ofChange leaseEndsSpec)

/-- ITS FALSE NEIGHBOUR: 'it returns false'. Refute it at one input. -/
def leaseEndsWrong : ChangeSpec := { name := "leaseEnds", fn := fun _ => fun
  | [d1, d2] => { results := [.lit (.bool false)], args := [d1, d2] }
  | _ => none }
def LeaseEndsWrongFalsely : Prop := leaseEndsRow.holds Tryd.pinned (OpenSpec.ofChange leaseEndsWrong)

/-- 'ddilaw38.LeaseTables': WHATEVER THE INPUT: true; the input reads as it did. -/
def leaseTablesSpec : ChangeSpec := { name := "leaseTables", fn := fun _ => fun
  | [d1, d2] => { results := [.lit (.bool true)], args := [d1, d2] }
  | _ => none }
def leaseTablesRow : OpenClaim := { program := "ytonpcojdpfmbkaadoor", sum := "4708c6c3b8314f52c09dc35a043e6c2a92c06dc3a56191b6254013e75987b0d0", func := "ddi/ddilaw38.LeaseTables", spec := "leaseTables", inPlace := ["internal/bytealg.CountString", "internal/bytealg.IndexByteString", "internal/bytealg.IndexString", "slices.overlaps[ddi/api.Lease]"], unfollowed := true, recurses := true, named := ["unicode/utf8.first", "unicode/utf8.acceptRanges", "internal/bytealg.MaxLen"], apart := false, laid := [("unicode/utf8.acceptRanges", laid_unicode_utf8_acceptRanges), ("unicode/utf8.first", laid_unicode_utf8_first)] }
def LeaseTablesSaid : Prop := leaseTablesRow.holds Tryd.pinned (OpenSpec.ofChange leaseTablesSpec)

/-- ITS FALSE NEIGHBOUR: 'it returns false'. Refute it at one input. -/
def leaseTablesWrong : ChangeSpec := { name := "leaseTables", fn := fun _ => fun
  | [d1, d2] => { results := [.lit (.bool false)], args := [d1, d2] }
  | _ => none }
def LeaseTablesWrongFalsely : Prop := leaseTablesRow.holds Tryd.pinned (OpenSpec.ofChange leaseTablesWrong)

/-- 'ddilaw38.LeaseHolder': WHATEVER THE INPUT: true; the input reads as it did. -/
def leaseHolderSpec : ChangeSpec := { name := "leaseHolder", fn := fun _ => fun
  | [d] => { results := [.lit (.bool true)], args := [d] }
  | _ => none }
def leaseHolderRow : OpenClaim := { program := "ytonpcojdpfmbkaadoor", sum := "4708c6c3b8314f52c09dc35a043e6c2a92c06dc3a56191b6254013e75987b0d0", func := "ddi/ddilaw38.LeaseHolder", spec := "leaseHolder", inPlace := ["slices.overlaps[ddi/api.Lease]", "internal/bytealg.CountString", "internal/bytealg.IndexByteString", "internal/bytealg.IndexString"], unfollowed := true, recurses := true, named := ["unicode/utf8.first", "unicode/utf8.acceptRanges", "internal/bytealg.MaxLen"], apart := false, laid := [("unicode/utf8.acceptRanges", laid_unicode_utf8_acceptRanges), ("unicode/utf8.first", laid_unicode_utf8_first)] }
def LeaseHolderSaid : Prop := leaseHolderRow.holds Tryd.pinned (OpenSpec.ofChange leaseHolderSpec)

/-- ITS FALSE NEIGHBOUR: 'it returns false'. Refute it at one input. -/
def leaseHolderWrong : ChangeSpec := { name := "leaseHolder", fn := fun _ => fun
  | [d] => { results := [.lit (.bool false)], args := [d] }
  | _ => none }
def LeaseHolderWrongFalsely : Prop := leaseHolderRow.holds Tryd.pinned (OpenSpec.ofChange leaseHolderWrong)

/- THE SECOND FORM. 'bulk': how many values and letters a reading holds, each counted each time it is reached (what is shared counts as often as it is met; a slice's spare places count too). A statement '..UptoSaid' is the law's where the arguments, and the package variables that the reading takes, are together of bulk at most 1048576: NARROWER than '..Said'. Prove '..Said' where nothing that the law and all that it calls make is longer than what came in: it says more and counts as full. Else prove '..UptoSaid'. A law counts once. -/
mutual
def uptoBulk {H : Type} : DataW H → Nat
  | .lit (.string bytes) => bytes.length + 1
  | .lit _ => 1
  | .nil => 1
  | .ptr d => uptoBulk d + 1
  | .slice elems spare => uptoBulkAll elems + uptoBulkAll spare + 1
  | .agg parts => uptoBulkAll parts + 1
  | .iface _ d => uptoBulk d + 1
  | .map entries => uptoBulkEntries entries + 1
  | .held _ => 1
def uptoBulkAll {H : Type} : List (DataW H) → Nat
  | [] => 0
  | d :: r => uptoBulk d + uptoBulkAll r
def uptoBulkEntries {H : Type} : List (Lit × DataW H) → Nat
  | [] => 0
  | x :: r => uptoBulkEntry x + uptoBulkEntries r
def uptoBulkEntry {H : Type} : Lit × DataW H → Nat
  | (.string bytes, d) => bytes.length + uptoBulk d + 1
  | (_, d) => uptoBulk d + 1
 end
def uptoSmall : (H : Type) → List (DataW H) → Bool := fun _ ds => decide (uptoBulkAll ds ≤ 1048576)
def OpenSpec.upto (s : _root_.Go.ChangeSpec) : _root_.Go.OpenSpec := { _root_.Go.OpenSpec.ofChange s with cond := some uptoSmall }

/-- 'ddilaw38.LeaseChecks', WHERE WHAT IT READS IS OF BULK AT MOST 1048576: true; the input reads as it did. -/
def leaseChecksUptoRow : OpenClaim := { program := "ytonpcojdpfmbkaadoor", sum := "4708c6c3b8314f52c09dc35a043e6c2a92c06dc3a56191b6254013e75987b0d0", func := "ddi/ddilaw38.LeaseChecks", spec := "leaseChecks", inPlace := ["internal/bytealg.CountString", "internal/bytealg.IndexByteString", "internal/bytealg.IndexString", "slices.overlaps[ddi/api.Lease]"], unfollowed := true, recurses := true, named := ["unicode/utf8.first", "unicode/utf8.acceptRanges", "internal/bytealg.MaxLen"], apart := false, laid := [("unicode/utf8.acceptRanges", laid_unicode_utf8_acceptRanges), ("unicode/utf8.first", laid_unicode_utf8_first)], narrowed := true }
def LeaseChecksUptoSaid : Prop := leaseChecksUptoRow.holds Tryd.pinned (OpenSpec.upto leaseChecksSpec)

/-- 'ddilaw38.LeaseGrants', WHERE WHAT IT READS IS OF BULK AT MOST 1048576: true; the input reads as it did. -/
def leaseGrantsUptoRow : OpenClaim := { program := "ytonpcojdpfmbkaadoor", sum := "4708c6c3b8314f52c09dc35a043e6c2a92c06dc3a56191b6254013e75987b0d0", func := "ddi/ddilaw38.LeaseGrants", spec := "leaseGrants", inPlace := ["slices.overlaps[ddi/api.Lease]", "internal/bytealg.CountString", "internal/bytealg.IndexByteString", "internal/bytealg.IndexString"], unfollowed := true, recurses := true, named := ["unicode/utf8.first", "unicode/utf8.acceptRanges", "internal/bytealg.MaxLen"], apart := false, laid := [("unicode/utf8.acceptRanges", laid_unicode_utf8_acceptRanges), ("unicode/utf8.first", laid_unicode_utf8_first)], narrowed := true }
def LeaseGrantsUptoSaid : Prop := leaseGrantsUptoRow.holds Tryd.pinned (OpenSpec.upto leaseGrantsSpec)

/-- 'ddilaw38.LeaseTaken', WHERE WHAT IT READS IS OF BULK AT MOST 1048576: true; the input reads as it did. -/
def leaseTakenUptoRow : OpenClaim := { program := "ytonpcojdpfmbkaadoor", sum := "4708c6c3b8314f52c09dc35a043e6c2a92c06dc3a56191b6254013e75987b0d0", func := "ddi/ddilaw38.LeaseTaken", spec := "leaseTaken", inPlace := ["internal/bytealg.CountString", "internal/bytealg.IndexByteString", "internal/bytealg.IndexString", "slices.overlaps[ddi/api.Lease]"], unfollowed := true, recurses := true, named := ["unicode/utf8.first", "unicode/utf8.acceptRanges", "internal/bytealg.MaxLen"], apart := false, laid := [("unicode/utf8.acceptRanges", laid_unicode_utf8_acceptRanges), ("unicode/utf8.first", laid_unicode_utf8_first)], narrowed := true }
def LeaseTakenUptoSaid : Prop := leaseTakenUptoRow.holds Tryd.pinned (OpenSpec.upto leaseTakenSpec)

/-- 'ddilaw38.LeaseFinds', WHERE WHAT IT READS IS OF BULK AT MOST 1048576: true; the input reads as it did. -/
def leaseFindsUptoRow : OpenClaim := { program := "ytonpcojdpfmbkaadoor", sum := "4708c6c3b8314f52c09dc35a043e6c2a92c06dc3a56191b6254013e75987b0d0", func := "ddi/ddilaw38.LeaseFinds", spec := "leaseFinds", inPlace := ["slices.overlaps[ddi/api.Lease]", "internal/bytealg.CountString", "internal/bytealg.IndexByteString", "internal/bytealg.IndexString"], unfollowed := true, recurses := true, named := ["unicode/utf8.first", "unicode/utf8.acceptRanges", "internal/bytealg.MaxLen"], apart := false, laid := [("unicode/utf8.acceptRanges", laid_unicode_utf8_acceptRanges), ("unicode/utf8.first", laid_unicode_utf8_first)], narrowed := true }
def LeaseFindsUptoSaid : Prop := leaseFindsUptoRow.holds Tryd.pinned (OpenSpec.upto leaseFindsSpec)

/-- 'ddilaw38.LeaseEnds', WHERE WHAT IT READS IS OF BULK AT MOST 1048576: true; the input reads as it did. -/
def leaseEndsUptoRow : OpenClaim := { program := "ytonpcojdpfmbkaadoor", sum := "4708c6c3b8314f52c09dc35a043e6c2a92c06dc3a56191b6254013e75987b0d0", func := "ddi/ddilaw38.LeaseEnds", spec := "leaseEnds", inPlace := ["slices.overlaps[ddi/api.Lease]", "internal/bytealg.CountString", "internal/bytealg.IndexByteString", "internal/bytealg.IndexString"], unfollowed := true, recurses := true, named := ["unicode/utf8.first", "unicode/utf8.acceptRanges", "internal/bytealg.MaxLen"], apart := false, laid := [("unicode/utf8.acceptRanges", laid_unicode_utf8_acceptRanges), ("unicode/utf8.first", laid_unicode_utf8_first)], narrowed := true }
def LeaseEndsUptoSaid : Prop := leaseEndsUptoRow.holds Tryd.pinned (OpenSpec.upto leaseEndsSpec)

/-- 'ddilaw38.LeaseTables', WHERE WHAT IT READS IS OF BULK AT MOST 1048576: true; the input reads as it did. -/
def leaseTablesUptoRow : OpenClaim := { program := "ytonpcojdpfmbkaadoor", sum := "4708c6c3b8314f52c09dc35a043e6c2a92c06dc3a56191b6254013e75987b0d0", func := "ddi/ddilaw38.LeaseTables", spec := "leaseTables", inPlace := ["internal/bytealg.CountString", "internal/bytealg.IndexByteString", "internal/bytealg.IndexString", "slices.overlaps[ddi/api.Lease]"], unfollowed := true, recurses := true, named := ["unicode/utf8.first", "unicode/utf8.acceptRanges", "internal/bytealg.MaxLen"], apart := false, laid := [("unicode/utf8.acceptRanges", laid_unicode_utf8_acceptRanges), ("unicode/utf8.first", laid_unicode_utf8_first)], narrowed := true }
def LeaseTablesUptoSaid : Prop := leaseTablesUptoRow.holds Tryd.pinned (OpenSpec.upto leaseTablesSpec)

/-- 'ddilaw38.LeaseHolder', WHERE WHAT IT READS IS OF BULK AT MOST 1048576: true; the input reads as it did. -/
def leaseHolderUptoRow : OpenClaim := { program := "ytonpcojdpfmbkaadoor", sum := "4708c6c3b8314f52c09dc35a043e6c2a92c06dc3a56191b6254013e75987b0d0", func := "ddi/ddilaw38.LeaseHolder", spec := "leaseHolder", inPlace := ["slices.overlaps[ddi/api.Lease]", "internal/bytealg.CountString", "internal/bytealg.IndexByteString", "internal/bytealg.IndexString"], unfollowed := true, recurses := true, named := ["unicode/utf8.first", "unicode/utf8.acceptRanges", "internal/bytealg.MaxLen"], apart := false, laid := [("unicode/utf8.acceptRanges", laid_unicode_utf8_acceptRanges), ("unicode/utf8.first", laid_unicode_utf8_first)], narrowed := true }
def LeaseHolderUptoSaid : Prop := leaseHolderUptoRow.holds Tryd.pinned (OpenSpec.upto leaseHolderSpec)

end Rows
end Go.Proofs.YtonpcojdpfmbkaaDoor
