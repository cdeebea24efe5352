/-
  NARROWER THAN 'FOR EVERY INPUT', by the rows' own cells (each row's printed sentence says how): LeasefileCodes: laid · LeasefileDecodes: laid · LeasefilePuts: laid · LeasefileOpens: laid · LeasefileCompacts: laid · LeasefileCrash: laid.
  DERIVED. THE GIVEN ROWS OF THIS SEAT. 6 by the template 'for every input the law returns true; each argument reads behind the call as it read before'; 0 by the template 'total and deterministic' (their statements: YtikhpegamnnabaaDoorTotals.lean).
  GIVEN WITH THE SEED: the statements are not yours to turn. If you find one false, say at which input.
  Laid BY PROGRAM, IN A SANDBOX (cutbox-rows.mjs): the forced cells as the released guide's own fill.sh prints them over the translation a65b7bb1536dba56… (all of the seat's roots in one cut). By AI agents, Wed Nov 11 2026. No macro, syntax, notation, axiom, sorry.
-/
import Derived.Test.YtikhpegamnnabaaDoorChecked
import GoSem.PinnedTables
import GoSem.Claim
import GoSem.ClaimJoined
import GoSem.ClaimMapViews
import Derived.JoinedTies
import Derived.KernelRfl
namespace Go.Proofs.YtikhpegamnnabaaDoor
/- THE CELL 'sum', in the pinned program and in every row, IS THE sha256 OF THE DUMP (.gsa) THAT YtikhpegamnnabaaDoorProg.lean LOADS. Nothing in Lean hashes anything: it is a label: what it is worth is what the hold of that sum in a sandbox is worth. -/
noncomputable def Tryd.pinned : Pinned := { name := "ytikhpegamnnabaadoor", sum := "a65b7bb1536dba56d966d0c4d631a0dd9e7b83863df4475d134c0c3fe1b668ea", checked := Tryd.checked }
namespace Rows
def none {H : Type} : Left H := { results := [], args := [] }

/- WHAT THE LISTED PACKAGE-LEVEL VARIABLES READ AS WHEN THE CALL BEGINS. Each datum BY PROGRAM (the guide's laid-datum.mjs) off the statement by which the dump's own 'gosem.cut.vars' lays the variable. In a bare row this is a premise. The card (YtikhpegamnnabaaDoorCards.lean) ties it to the program's text. -/
def laid_unicode_utf8_acceptRanges {H : Type} : DataW H := .agg [.agg [.lit (.int .u8 128), .lit (.int .u8 191)], .agg [.lit (.int .u8 160), .lit (.int .u8 191)], .agg [.lit (.int .u8 128), .lit (.int .u8 159)], .agg [.lit (.int .u8 144), .lit (.int .u8 191)], .agg [.lit (.int .u8 128), .lit (.int .u8 143)], .agg [.lit (.int .u8 0), .lit (.int .u8 0)], .agg [.lit (.int .u8 0), .lit (.int .u8 0)], .agg [.lit (.int .u8 0), .lit (.int .u8 0)], .agg [.lit (.int .u8 0), .lit (.int .u8 0)], .agg [.lit (.int .u8 0), .lit (.int .u8 0)], .agg [.lit (.int .u8 0), .lit (.int .u8 0)], .agg [.lit (.int .u8 0), .lit (.int .u8 0)], .agg [.lit (.int .u8 0), .lit (.int .u8 0)], .agg [.lit (.int .u8 0), .lit (.int .u8 0)], .agg [.lit (.int .u8 0), .lit (.int .u8 0)], .agg [.lit (.int .u8 0), .lit (.int .u8 0)]]
/-- One of Go's own tables, pinned by name: the form's constant. -/
def laid_unicode_utf8_first : DataW Unit := Go.Pinned.utf8First

/-- 'ddilaw45.LeasefileCodes': WHATEVER THE INPUT: true; the input reads as it did. -/
def leasefileCodesSpec : ChangeSpec := { name := "leasefileCodes", fn := fun _ => fun
  | [d] => { results := [.lit (.bool true)], args := [d] }
  | _ => none }
def leasefileCodesRow : OpenClaim := { program := "ytikhpegamnnabaadoor", sum := "a65b7bb1536dba56d966d0c4d631a0dd9e7b83863df4475d134c0c3fe1b668ea", func := "ddi/ddilaw45.LeasefileCodes", spec := "leasefileCodes", inPlace := ["internal/bytealg.CountString", "internal/bytealg.IndexByteString", "internal/bytealg.IndexString", "slices.overlaps[ddi/api.Lease]"], named := ["unicode/utf8.first", "unicode/utf8.acceptRanges", "internal/bytealg.MaxLen"], apart := false, laid := [("unicode/utf8.acceptRanges", laid_unicode_utf8_acceptRanges), ("unicode/utf8.first", laid_unicode_utf8_first)] }
def LeasefileCodesSaid : Prop := leasefileCodesRow.holds Tryd.pinned (OpenSpec.ofChange leasefileCodesSpec)

/-- ITS FALSE NEIGHBOUR: 'it returns false'. Refute it at one input. -/
def leasefileCodesWrong : ChangeSpec := { name := "leasefileCodes", fn := fun _ => fun
  | [d] => { results := [.lit (.bool false)], args := [d] }
  | _ => none }
def LeasefileCodesWrongFalsely : Prop := leasefileCodesRow.holds Tryd.pinned (OpenSpec.ofChange leasefileCodesWrong)

/-- 'ddilaw45.LeasefileDecodes': WHATEVER THE INPUT: true; the input reads as it did. -/
def leasefileDecodesSpec : ChangeSpec := { name := "leasefileDecodes", fn := fun _ => fun
  | [d] => { results := [.lit (.bool true)], args := [d] }
  | _ => none }
def leasefileDecodesRow : OpenClaim := { program := "ytikhpegamnnabaadoor", sum := "a65b7bb1536dba56d966d0c4d631a0dd9e7b83863df4475d134c0c3fe1b668ea", func := "ddi/ddilaw45.LeasefileDecodes", spec := "leasefileDecodes", inPlace := ["internal/bytealg.CountString", "internal/bytealg.IndexByteString", "internal/bytealg.IndexString", "slices.overlaps[ddi/api.Lease]"], named := ["unicode/utf8.first", "unicode/utf8.acceptRanges", "internal/bytealg.MaxLen"], apart := false, laid := [("unicode/utf8.acceptRanges", laid_unicode_utf8_acceptRanges), ("unicode/utf8.first", laid_unicode_utf8_first)] }
def LeasefileDecodesSaid : Prop := leasefileDecodesRow.holds Tryd.pinned (OpenSpec.ofChange leasefileDecodesSpec)

/-- ITS FALSE NEIGHBOUR: 'it returns false'. Refute it at one input. -/
def leasefileDecodesWrong : ChangeSpec := { name := "leasefileDecodes", fn := fun _ => fun
  | [d] => { results := [.lit (.bool false)], args := [d] }
  | _ => none }
def LeasefileDecodesWrongFalsely : Prop := leasefileDecodesRow.holds Tryd.pinned (OpenSpec.ofChange leasefileDecodesWrong)

/-- 'ddilaw45.LeasefilePuts': WHATEVER THE INPUT: true; the input reads as it did. -/
def leasefilePutsSpec : ChangeSpec := { name := "leasefilePuts", fn := fun _ => fun
  | [d1, d2] => { results := [.lit (.bool true)], args := [d1, d2] }
  | _ => none }
def leasefilePutsRow : OpenClaim := { program := "ytikhpegamnnabaadoor", sum := "a65b7bb1536dba56d966d0c4d631a0dd9e7b83863df4475d134c0c3fe1b668ea", func := "ddi/ddilaw45.LeasefilePuts", spec := "leasefilePuts", inPlace := ["internal/bytealg.CountString", "internal/bytealg.IndexByteString", "internal/bytealg.IndexString", "slices.overlaps[ddi/api.Lease]"], named := ["unicode/utf8.first", "unicode/utf8.acceptRanges", "internal/bytealg.MaxLen"], apart := false, laid := [("unicode/utf8.acceptRanges", laid_unicode_utf8_acceptRanges), ("unicode/utf8.first", laid_unicode_utf8_first)] }
def LeasefilePutsSaid : Prop := leasefilePutsRow.holds Tryd.pinned (OpenSpec.ofChange leasefilePutsSpec)

/-- ITS FALSE NEIGHBOUR: 'it returns false'. Refute it at one input. -/
def leasefilePutsWrong : ChangeSpec := { name := "leasefilePuts", fn := fun _ => fun
  | [d1, d2] => { results := [.lit (.bool false)], args := [d1, d2] }
  | _ => none }
def LeasefilePutsWrongFalsely : Prop := leasefilePutsRow.holds Tryd.pinned (OpenSpec.ofChange leasefilePutsWrong)

/-- 'ddilaw45.LeasefileOpens': WHATEVER THE INPUT: true; the input reads as it did. -/
def leasefileOpensSpec : ChangeSpec := { name := "leasefileOpens", fn := fun _ => fun
  | [d1, d2] => { results := [.lit (.bool true)], args := [d1, d2] }
  | _ => none }
def leasefileOpensRow : OpenClaim := { program := "ytikhpegamnnabaadoor", sum := "a65b7bb1536dba56d966d0c4d631a0dd9e7b83863df4475d134c0c3fe1b668ea", func := "ddi/ddilaw45.LeasefileOpens", spec := "leasefileOpens", inPlace := ["internal/bytealg.CountString", "internal/bytealg.IndexByteString", "internal/bytealg.IndexString", "slices.overlaps[ddi/api.Lease]"], named := ["unicode/utf8.first", "unicode/utf8.acceptRanges", "internal/bytealg.MaxLen"], apart := false, laid := [("unicode/utf8.acceptRanges", laid_unicode_utf8_acceptRanges), ("unicode/utf8.first", laid_unicode_utf8_first)] }
def LeasefileOpensSaid : Prop := leasefileOpensRow.holds Tryd.pinned (OpenSpec.ofChange leasefileOpensSpec)

/-- ITS FALSE NEIGHBOUR: 'it returns false'. Refute it at one input. -/
def leasefileOpensWrong : ChangeSpec := { name := "leasefileOpens", fn := fun _ => fun
  | [d1, d2] => { results := [.lit (.bool false)], args := [d1, d2] }
  | _ => none }
def LeasefileOpensWrongFalsely : Prop := leasefileOpensRow.holds Tryd.pinned (OpenSpec.ofChange leasefileOpensWrong)

/-- 'ddilaw45.LeasefileCompacts': WHATEVER THE INPUT: true; the input reads as it did. -/
def leasefileCompactsSpec : ChangeSpec := { name := "leasefileCompacts", fn := fun _ => fun
  | [d] => { results := [.lit (.bool true)], args := [d] }
  | _ => none }
def leasefileCompactsRow : OpenClaim := { program := "ytikhpegamnnabaadoor", sum := "a65b7bb1536dba56d966d0c4d631a0dd9e7b83863df4475d134c0c3fe1b668ea", func := "ddi/ddilaw45.LeasefileCompacts", spec := "leasefileCompacts", inPlace := ["internal/bytealg.CountString", "internal/bytealg.IndexByteString", "internal/bytealg.IndexString", "slices.overlaps[ddi/api.Lease]"], named := ["unicode/utf8.first", "unicode/utf8.acceptRanges", "internal/bytealg.MaxLen"], apart := false, laid := [("unicode/utf8.acceptRanges", laid_unicode_utf8_acceptRanges), ("unicode/utf8.first", laid_unicode_utf8_first)] }
def LeasefileCompactsSaid : Prop := leasefileCompactsRow.holds Tryd.pinned (OpenSpec.ofChange leasefileCompactsSpec)

/-- ITS FALSE NEIGHBOUR: 'it returns false'. Refute it at one input. -/
def leasefileCompactsWrong : ChangeSpec := { name := "leasefileCompacts", fn := fun _ => fun
  | [d] => { results := [.lit (.bool false)], args := [d] }
  | _ => none }
def LeasefileCompactsWrongFalsely : Prop := leasefileCompactsRow.holds Tryd.pinned (OpenSpec.ofChange leasefileCompactsWrong)

/-- 'ddilaw45.LeasefileCrash': WHATEVER THE INPUT: true; the input reads as it did. -/
def leasefileCrashSpec : ChangeSpec := { name := "leasefileCrash", fn := fun _ => fun
  | [d1, d2, d3] => { results := [.lit (.bool true)], args := [d1, d2, d3] }
  | _ => none }
def leasefileCrashRow : OpenClaim := { program := "ytikhpegamnnabaadoor", sum := "a65b7bb1536dba56d966d0c4d631a0dd9e7b83863df4475d134c0c3fe1b668ea", func := "ddi/ddilaw45.LeasefileCrash", spec := "leasefileCrash", inPlace := ["internal/bytealg.CountString", "internal/bytealg.IndexByteString", "internal/bytealg.IndexString", "slices.overlaps[ddi/api.Lease]"], named := ["unicode/utf8.first", "unicode/utf8.acceptRanges", "internal/bytealg.MaxLen"], apart := false, laid := [("unicode/utf8.acceptRanges", laid_unicode_utf8_acceptRanges), ("unicode/utf8.first", laid_unicode_utf8_first)] }
def LeasefileCrashSaid : Prop := leasefileCrashRow.holds Tryd.pinned (OpenSpec.ofChange leasefileCrashSpec)

/-- ITS FALSE NEIGHBOUR: 'it returns false'. Refute it at one input. -/
def leasefileCrashWrong : ChangeSpec := { name := "leasefileCrash", fn := fun _ => fun
  | [d1, d2, d3] => { results := [.lit (.bool false)], args := [d1, d2, d3] }
  | _ => none }
def LeasefileCrashWrongFalsely : Prop := leasefileCrashRow.holds Tryd.pinned (OpenSpec.ofChange leasefileCrashWrong)

/- THE SECOND FORM. 'bulk': how many values and letters a reading holds, each counted each time it is reached (what is shared counts as often as it is met; a slice's spare places count too). A statement '..UptoSaid' is the law's where the arguments, and the package variables that the reading takes, are together of bulk at most 1048576: NARROWER than '..Said'. Prove '..Said' where nothing that the law and all that it calls make is longer than what came in: it says more and counts as full. Else prove '..UptoSaid'. A law counts once. -/
mutual
def uptoBulk {H : Type} : DataW H → Nat
  | .lit (.string bytes) => bytes.length + 1
  | .lit _ => 1
  | .nil => 1
  | .ptr d => uptoBulk d + 1
  | .slice elems spare => uptoBulkAll elems + uptoBulkAll spare + 1
  | .agg parts => uptoBulkAll parts + 1
  | .iface _ d => uptoBulk d + 1
  | .map entries => uptoBulkEntries entries + 1
  | .held _ => 1
def uptoBulkAll {H : Type} : List (DataW H) → Nat
  | [] => 0
  | d :: r => uptoBulk d + uptoBulkAll r
def uptoBulkEntries {H : Type} : List (Lit × DataW H) → Nat
  | [] => 0
  | x :: r => uptoBulkEntry x + uptoBulkEntries r
def uptoBulkEntry {H : Type} : Lit × DataW H → Nat
  | (.string bytes, d) => bytes.length + uptoBulk d + 1
  | (_, d) => uptoBulk d + 1
 end
def uptoSmall : (H : Type) → List (DataW H) → Bool := fun _ ds => decide (uptoBulkAll ds ≤ 1048576)
def OpenSpec.upto (s : _root_.Go.ChangeSpec) : _root_.Go.OpenSpec := { _root_.Go.OpenSpec.ofChange s with cond := some uptoSmall }

/-- 'ddilaw45.LeasefileCodes', WHERE WHAT IT READS IS OF BULK AT MOST 1048576: true; the input reads as it did. -/
def leasefileCodesUptoRow : OpenClaim := { program := "ytikhpegamnnabaadoor", sum := "a65b7bb1536dba56d966d0c4d631a0dd9e7b83863df4475d134c0c3fe1b668ea", func := "ddi/ddilaw45.LeasefileCodes", spec := "leasefileCodes", inPlace := ["internal/bytealg.CountString", "internal/bytealg.IndexByteString", "internal/bytealg.IndexString", "slices.overlaps[ddi/api.Lease]"], named := ["unicode/utf8.first", "unicode/utf8.acceptRanges", "internal/bytealg.MaxLen"], apart := false, laid := [("unicode/utf8.acceptRanges", laid_unicode_utf8_acceptRanges), ("unicode/utf8.first", laid_unicode_utf8_first)], narrowed := true }
def LeasefileCodesUptoSaid : Prop := leasefileCodesUptoRow.holds Tryd.pinned (OpenSpec.upto leasefileCodesSpec)

/-- 'ddilaw45.LeasefileDecodes', WHERE WHAT IT READS IS OF BULK AT MOST 1048576: true; the input reads as it did. -/
def leasefileDecodesUptoRow : OpenClaim := { program := "ytikhpegamnnabaadoor", sum := "a65b7bb1536dba56d966d0c4d631a0dd9e7b83863df4475d134c0c3fe1b668ea", func := "ddi/ddilaw45.LeasefileDecodes", spec := "leasefileDecodes", inPlace := ["internal/bytealg.CountString", "internal/bytealg.IndexByteString", "internal/bytealg.IndexString", "slices.overlaps[ddi/api.Lease]"], named := ["unicode/utf8.first", "unicode/utf8.acceptRanges", "internal/bytealg.MaxLen"], apart := false, laid := [("unicode/utf8.acceptRanges", laid_unicode_utf8_acceptRanges), ("unicode/utf8.first", laid_unicode_utf8_first)], narrowed := true }
def LeasefileDecodesUptoSaid : Prop := leasefileDecodesUptoRow.holds Tryd.pinned (OpenSpec.upto leasefileDecodesSpec)

/-- 'ddilaw45.LeasefilePuts', WHERE WHAT IT READS IS OF BULK AT MOST 1048576: true; the input reads as it did. -/
def leasefilePutsUptoRow : OpenClaim := { program := "ytikhpegamnnabaadoor", sum := "a65b7bb1536dba56d966d0c4d631a0dd9e7b83863df4475d134c0c3fe1b668ea", func := "ddi/ddilaw45.LeasefilePuts", spec := "leasefilePuts", inPlace := ["internal/bytealg.CountString", "internal/bytealg.IndexByteString", "internal/bytealg.IndexString", "slices.overlaps[ddi/api.Lease]"], named := ["unicode/utf8.first", "unicode/utf8.acceptRanges", "internal/bytealg.MaxLen"], apart := false, laid := [("unicode/utf8.acceptRanges", laid_unicode_utf8_acceptRanges), ("unicode/utf8.first", laid_unicode_utf8_first)], narrowed := true }
def LeasefilePutsUptoSaid : Prop := leasefilePutsUptoRow.holds Tryd.pinned (OpenSpec.upto leasefilePutsSpec)

/-- 'ddilaw45.LeasefileOpens', WHERE WHAT IT READS IS OF BULK AT MOST 1048576: true; the input reads as it did. -/
def leasefileOpensUptoRow : OpenClaim := { program := "ytikhpegamnnabaadoor", sum := "a65b7bb1536dba56d966d0c4d631a0dd9e7b83863df4475d134c0c3fe1b668ea", func := "ddi/ddilaw45.LeasefileOpens", spec := "leasefileOpens", inPlace := ["internal/bytealg.CountString", "internal/bytealg.IndexByteString", "internal/bytealg.IndexString", "slices.overlaps[ddi/api.Lease]"], named := ["unicode/utf8.first", "unicode/utf8.acceptRanges", "internal/bytealg.MaxLen"], apart := false, laid := [("unicode/utf8.acceptRanges", laid_unicode_utf8_acceptRanges), ("unicode/utf8.first", laid_unicode_utf8_first)], narrowed := true }
def LeasefileOpensUptoSaid : Prop := leasefileOpensUptoRow.holds Tryd.pinned (OpenSpec.upto leasefileOpensSpec)

/-- 'ddilaw45.LeasefileCompacts', WHERE WHAT IT READS IS OF BULK AT MOST 1048576: true; the input reads as it did. -/
def leasefileCompactsUptoRow : OpenClaim := { program := "ytikhpegamnnabaadoor", sum := "a65b7bb1536dba56d966d0c4d631a0dd9e7b83863df4475d134c0c3fe1b668ea", func := "ddi/ddilaw45.LeasefileCompacts", spec := "leasefileCompacts", inPlace := ["internal/bytealg.CountString", "internal/bytealg.IndexByteString", "internal/bytealg.IndexString", "slices.overlaps[ddi/api.Lease]"], named := ["unicode/utf8.first", "unicode/utf8.acceptRanges", "internal/bytealg.MaxLen"], apart := false, laid := [("unicode/utf8.acceptRanges", laid_unicode_utf8_acceptRanges), ("unicode/utf8.first", laid_unicode_utf8_first)], narrowed := true }
def LeasefileCompactsUptoSaid : Prop := leasefileCompactsUptoRow.holds Tryd.pinned (OpenSpec.upto leasefileCompactsSpec)

/-- 'ddilaw45.LeasefileCrash', WHERE WHAT IT READS IS OF BULK AT MOST 1048576: true; the input reads as it did. -/
def leasefileCrashUptoRow : OpenClaim := { program := "ytikhpegamnnabaadoor", sum := "a65b7bb1536dba56d966d0c4d631a0dd9e7b83863df4475d134c0c3fe1b668ea", func := "ddi/ddilaw45.LeasefileCrash", spec := "leasefileCrash", inPlace := ["internal/bytealg.CountString", "internal/bytealg.IndexByteString", "internal/bytealg.IndexString", "slices.overlaps[ddi/api.Lease]"], named := ["unicode/utf8.first", "unicode/utf8.acceptRanges", "internal/bytealg.MaxLen"], apart := false, laid := [("unicode/utf8.acceptRanges", laid_unicode_utf8_acceptRanges), ("unicode/utf8.first", laid_unicode_utf8_first)], narrowed := true }
def LeasefileCrashUptoSaid : Prop := leasefileCrashUptoRow.holds Tryd.pinned (OpenSpec.upto leasefileCrashSpec)

end Rows
end Go.Proofs.YtikhpegamnnabaaDoor
