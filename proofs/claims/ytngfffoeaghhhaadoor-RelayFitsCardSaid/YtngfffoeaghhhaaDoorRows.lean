/-
  NARROWER THAN 'FOR EVERY INPUT', by the rows' own cells (each row's printed sentence says how): RelayInserts: laid · RelayChecks: laid · RelaySelects: laid · RelayFits: laid · RelayBack: laid.
  DERIVED. THE GIVEN ROWS OF THIS SEAT. 5 by the template 'for every input the law returns true; each argument reads behind the call as it read before'; 0 by the template 'total and deterministic' (their statements: YtngfffoeaghhhaaDoorTotals.lean).
  GIVEN WITH THE SEED: the statements are not yours to turn. If you find one false, say at which input.
  Laid BY PROGRAM, IN A SANDBOX (cutbox-rows.mjs): the forced cells as the released guide's own fill.sh prints them over the translation 124baec71812a2c4… (all of the seat's roots in one cut). By AI agents, Wed Nov 11 2026. No macro, syntax, notation, axiom, sorry.
-/
import Derived.Test.YtngfffoeaghhhaaDoorChecked
import GoSem.PinnedTables
import GoSem.Claim
import GoSem.ClaimJoined
import GoSem.ClaimMapViews
import Derived.JoinedTies
import Derived.KernelRfl
namespace Go.Proofs.YtngfffoeaghhhaaDoor
/- THE CELL 'sum', in the pinned program and in every row, IS THE sha256 OF THE DUMP (.gsa) THAT YtngfffoeaghhhaaDoorProg.lean LOADS. Nothing in Lean hashes anything: it is a label: what it is worth is what the hold of that sum in a sandbox is worth. -/
noncomputable def Tryd.pinned : Pinned := { name := "ytngfffoeaghhhaadoor", sum := "124baec71812a2c4abff2e6b6d2ba6fc5afe7fe12c509662725b968752059c80", checked := Tryd.checked }
namespace Rows
def none {H : Type} : Left H := { results := [], args := [] }

/- WHAT THE LISTED PACKAGE-LEVEL VARIABLES READ AS WHEN THE CALL BEGINS. Each datum BY PROGRAM (the guide's laid-datum.mjs) off the statement by which the dump's own 'gosem.cut.vars' lays the variable. In a bare row this is a premise. The card (YtngfffoeaghhhaaDoorCards.lean) ties it to the program's text. -/
def laid_unicode_utf8_acceptRanges {H : Type} : DataW H := .agg [.agg [.lit (.int .u8 128), .lit (.int .u8 191)], .agg [.lit (.int .u8 160), .lit (.int .u8 191)], .agg [.lit (.int .u8 128), .lit (.int .u8 159)], .agg [.lit (.int .u8 144), .lit (.int .u8 191)], .agg [.lit (.int .u8 128), .lit (.int .u8 143)], .agg [.lit (.int .u8 0), .lit (.int .u8 0)], .agg [.lit (.int .u8 0), .lit (.int .u8 0)], .agg [.lit (.int .u8 0), .lit (.int .u8 0)], .agg [.lit (.int .u8 0), .lit (.int .u8 0)], .agg [.lit (.int .u8 0), .lit (.int .u8 0)], .agg [.lit (.int .u8 0), .lit (.int .u8 0)], .agg [.lit (.int .u8 0), .lit (.int .u8 0)], .agg [.lit (.int .u8 0), .lit (.int .u8 0)], .agg [.lit (.int .u8 0), .lit (.int .u8 0)], .agg [.lit (.int .u8 0), .lit (.int .u8 0)], .agg [.lit (.int .u8 0), .lit (.int .u8 0)]]
/-- One of Go's own tables, pinned by name: the form's constant. -/
def laid_unicode_utf8_first : DataW Unit := Go.Pinned.utf8First

/-- 'ddilaw39.RelayInserts': WHATEVER THE INPUT: true; the input reads as it did. -/
def relayInsertsSpec : ChangeSpec := { name := "relayInserts", fn := fun _ => fun
  | [d1, d2, d3] => { results := [.lit (.bool true)], args := [d1, d2, d3] }
  | _ => none }
def relayInsertsRow : OpenClaim := { program := "ytngfffoeaghhhaadoor", sum := "124baec71812a2c4abff2e6b6d2ba6fc5afe7fe12c509662725b968752059c80", func := "ddi/ddilaw39.RelayInserts", spec := "relayInserts", inPlace := ["internal/bytealg.CountString", "internal/bytealg.IndexByteString", "internal/bytealg.IndexString"], unfollowed := true, recurses := true, named := ["unicode/utf8.first", "unicode/utf8.acceptRanges", "internal/bytealg.MaxLen"], apart := false, laid := [("unicode/utf8.acceptRanges", laid_unicode_utf8_acceptRanges), ("unicode/utf8.first", laid_unicode_utf8_first)] }
def RelayInsertsSaid : Prop := relayInsertsRow.holds Tryd.pinned (OpenSpec.ofChange relayInsertsSpec)

/-- ITS FALSE NEIGHBOUR: 'it returns false'. Refute it at one input. -/
def relayInsertsWrong : ChangeSpec := { name := "relayInserts", fn := fun _ => fun
  | [d1, d2, d3] => { results := [.lit (.bool false)], args := [d1, d2, d3] }
  | _ => none }
def RelayInsertsWrongFalsely : Prop := relayInsertsRow.holds Tryd.pinned (OpenSpec.ofChange relayInsertsWrong)

/-- 'ddilaw39.RelayChecks': WHATEVER THE INPUT: true; the input reads as it did. -/
def relayChecksSpec : ChangeSpec := { name := "relayChecks", fn := fun _ => fun
  | [d] => { results := [.lit (.bool true)], args := [d] }
  | _ => none }
def relayChecksRow : OpenClaim := { program := "ytngfffoeaghhhaadoor", sum := "124baec71812a2c4abff2e6b6d2ba6fc5afe7fe12c509662725b968752059c80", func := "ddi/ddilaw39.RelayChecks", spec := "relayChecks", inPlace := ["internal/bytealg.CountString", "internal/bytealg.IndexByteString", "internal/bytealg.IndexString"], unfollowed := true, recurses := true, named := ["unicode/utf8.first", "unicode/utf8.acceptRanges", "internal/bytealg.MaxLen"], apart := false, laid := [("unicode/utf8.acceptRanges", laid_unicode_utf8_acceptRanges), ("unicode/utf8.first", laid_unicode_utf8_first)] }
def RelayChecksSaid : Prop := relayChecksRow.holds Tryd.pinned (OpenSpec.ofChange relayChecksSpec)

/-- ITS FALSE NEIGHBOUR: 'it returns false'. Refute it at one input. -/
def relayChecksWrong : ChangeSpec := { name := "relayChecks", fn := fun _ => fun
  | [d] => { results := [.lit (.bool false)], args := [d] }
  | _ => none }
def RelayChecksWrongFalsely : Prop := relayChecksRow.holds Tryd.pinned (OpenSpec.ofChange relayChecksWrong)

/-- 'ddilaw39.RelaySelects': WHATEVER THE INPUT: true; the input reads as it did. -/
def relaySelectsSpec : ChangeSpec := { name := "relaySelects", fn := fun _ => fun
  | [d1, d2, d3] => { results := [.lit (.bool true)], args := [d1, d2, d3] }
  | _ => none }
def relaySelectsRow : OpenClaim := { program := "ytngfffoeaghhhaadoor", sum := "124baec71812a2c4abff2e6b6d2ba6fc5afe7fe12c509662725b968752059c80", func := "ddi/ddilaw39.RelaySelects", spec := "relaySelects", inPlace := ["internal/bytealg.CountString", "internal/bytealg.IndexByteString", "internal/bytealg.IndexString"], unfollowed := true, recurses := true, named := ["unicode/utf8.first", "unicode/utf8.acceptRanges", "internal/bytealg.MaxLen"], apart := false, laid := [("unicode/utf8.acceptRanges", laid_unicode_utf8_acceptRanges), ("unicode/utf8.first", laid_unicode_utf8_first)] }
def RelaySelectsSaid : Prop := relaySelectsRow.holds Tryd.pinned (OpenSpec.ofChange relaySelectsSpec)

/-- ITS FALSE NEIGHBOUR: 'it returns false'. Refute it at one input. -/
def relaySelectsWrong : ChangeSpec := { name := "relaySelects", fn := fun _ => fun
  | [d1, d2, d3] => { results := [.lit (.bool false)], args := [d1, d2, d3] }
  | _ => none }
def RelaySelectsWrongFalsely : Prop := relaySelectsRow.holds Tryd.pinned (OpenSpec.ofChange relaySelectsWrong)

/-- 'ddilaw39.RelayFits': WHATEVER THE INPUT: true; the input reads as it did. -/
def relayFitsSpec : ChangeSpec := { name := "relayFits", fn := fun _ => fun
  | [d1, d2, d3] => { results := [.lit (.bool true)], args := [d1, d2, d3] }
  | _ => none }
def relayFitsRow : OpenClaim := { program := "ytngfffoeaghhhaadoor", sum := "124baec71812a2c4abff2e6b6d2ba6fc5afe7fe12c509662725b968752059c80", func := "ddi/ddilaw39.RelayFits", spec := "relayFits", inPlace := ["internal/bytealg.CountString", "internal/bytealg.IndexByteString", "internal/bytealg.IndexString"], unfollowed := true, recurses := true, named := ["unicode/utf8.first", "unicode/utf8.acceptRanges", "internal/bytealg.MaxLen"], apart := false, laid := [("unicode/utf8.acceptRanges", laid_unicode_utf8_acceptRanges), ("unicode/utf8.first", laid_unicode_utf8_first)] }
def RelayFitsSaid : Prop := relayFitsRow.holds Tryd.pinned (OpenSpec.ofChange relayFitsSpec)

/-- ITS FALSE NEIGHBOUR: 'it returns false'. Refute it at one input. -/
def relayFitsWrong : ChangeSpec := { name := "relayFits", fn := fun _ => fun
  | [d1, d2, d3] => { results := [.lit (.bool false)], args := [d1, d2, d3] }
  | _ => none }
def RelayFitsWrongFalsely : Prop := relayFitsRow.holds Tryd.pinned (OpenSpec.ofChange relayFitsWrong)

/-- 'ddilaw39.RelayBack': WHATEVER THE INPUT: true; the input reads as it did. -/
def relayBackSpec : ChangeSpec := { name := "relayBack", fn := fun _ => fun
  | [d1, d2, d3] => { results := [.lit (.bool true)], args := [d1, d2, d3] }
  | _ => none }
def relayBackRow : OpenClaim := { program := "ytngfffoeaghhhaadoor", sum := "124baec71812a2c4abff2e6b6d2ba6fc5afe7fe12c509662725b968752059c80", func := "ddi/ddilaw39.RelayBack", spec := "relayBack", inPlace := ["internal/bytealg.CountString", "internal/bytealg.IndexByteString", "internal/bytealg.IndexString"], unfollowed := true, recurses := true, named := ["unicode/utf8.first", "unicode/utf8.acceptRanges", "internal/bytealg.MaxLen"], apart := false, laid := [("unicode/utf8.acceptRanges", laid_unicode_utf8_acceptRanges), ("unicode/utf8.first", laid_unicode_utf8_first)] }
def RelayBackSaid : Prop := relayBackRow.holds Tryd.pinned (OpenSpec.ofChange relayBackSpec)

/-- ITS FALSE NEIGHBOUR: 'it returns false'. Refute it at one input. -/
def relayBackWrong : ChangeSpec := { name := "relayBack", fn := fun _ => fun
  | [d1, d2, d3] => { results := [.lit (.bool false)], args := [d1, d2, d3] }
  | _ => none }
def RelayBackWrongFalsely : Prop := relayBackRow.holds Tryd.pinned (OpenSpec.ofChange relayBackWrong)

/- THE SECOND FORM. 'bulk': how many values and letters a reading holds, each counted each time it is reached (what is shared counts as often as it is met; a slice's spare places count too). A statement '..UptoSaid' is the law's where the arguments, and the package variables that the reading takes, are together of bulk at most 1048576: NARROWER than '..Said'. Prove '..Said' where nothing that the law and all that it calls make is longer than what came in: it says more and counts as full. Else prove '..UptoSaid'. A law counts once. -/
mutual
def uptoBulk {H : Type} : DataW H → Nat
  | .lit (.string bytes) => bytes.length + 1
  | .lit _ => 1
  | .nil => 1
  | .ptr d => uptoBulk d + 1
  | .slice elems spare => uptoBulkAll elems + uptoBulkAll spare + 1
  | .agg parts => uptoBulkAll parts + 1
  | .iface _ d => uptoBulk d + 1
  | .map entries => uptoBulkEntries entries + 1
  | .held _ => 1
def uptoBulkAll {H : Type} : List (DataW H) → Nat
  | [] => 0
  | d :: r => uptoBulk d + uptoBulkAll r
def uptoBulkEntries {H : Type} : List (Lit × DataW H) → Nat
  | [] => 0
  | x :: r => uptoBulkEntry x + uptoBulkEntries r
def uptoBulkEntry {H : Type} : Lit × DataW H → Nat
  | (.string bytes, d) => bytes.length + uptoBulk d + 1
  | (_, d) => uptoBulk d + 1
 end
def uptoSmall : (H : Type) → List (DataW H) → Bool := fun _ ds => decide (uptoBulkAll ds ≤ 1048576)
def OpenSpec.upto (s : _root_.Go.ChangeSpec) : _root_.Go.OpenSpec := { _root_.Go.OpenSpec.ofChange s with cond := some uptoSmall }

/-- 'ddilaw39.RelayInserts', WHERE WHAT IT READS IS OF BULK AT MOST 1048576: true; the input reads as it did. -/
def relayInsertsUptoRow : OpenClaim := { program := "ytngfffoeaghhhaadoor", sum := "124baec71812a2c4abff2e6b6d2ba6fc5afe7fe12c509662725b968752059c80", func := "ddi/ddilaw39.RelayInserts", spec := "relayInserts", inPlace := ["internal/bytealg.CountString", "internal/bytealg.IndexByteString", "internal/bytealg.IndexString"], unfollowed := true, recurses := true, named := ["unicode/utf8.first", "unicode/utf8.acceptRanges", "internal/bytealg.MaxLen"], apart := false, laid := [("unicode/utf8.acceptRanges", laid_unicode_utf8_acceptRanges), ("unicode/utf8.first", laid_unicode_utf8_first)], narrowed := true }
def RelayInsertsUptoSaid : Prop := relayInsertsUptoRow.holds Tryd.pinned (OpenSpec.upto relayInsertsSpec)

/-- 'ddilaw39.RelayChecks', WHERE WHAT IT READS IS OF BULK AT MOST 1048576: true; the input reads as it did. -/
def relayChecksUptoRow : OpenClaim := { program := "ytngfffoeaghhhaadoor", sum := "124baec71812a2c4abff2e6b6d2ba6fc5afe7fe12c509662725b968752059c80", func := "ddi/ddilaw39.RelayChecks", spec := "relayChecks", inPlace := ["internal/bytealg.CountString", "internal/bytealg.IndexByteString", "internal/bytealg.IndexString"], unfollowed := true, recurses := true, named := ["unicode/utf8.first", "unicode/utf8.acceptRanges", "internal/bytealg.MaxLen"], apart := false, laid := [("unicode/utf8.acceptRanges", laid_unicode_utf8_acceptRanges), ("unicode/utf8.first", laid_unicode_utf8_first)], narrowed := true }
def RelayChecksUptoSaid : Prop := relayChecksUptoRow.holds Tryd.pinned (OpenSpec.upto relayChecksSpec)

/-- 'ddilaw39.RelaySelects', WHERE WHAT IT READS IS OF BULK AT MOST 1048576: true; the input reads as it did. -/
def relaySelectsUptoRow : OpenClaim := { program := "ytngfffoeaghhhaadoor", sum := "124baec71812a2c4abff2e6b6d2ba6fc5afe7fe12c509662725b968752059c80", func := "ddi/ddilaw39.RelaySelects", spec := "relaySelects", inPlace := ["internal/bytealg.CountString", "internal/bytealg.IndexByteString", "internal/bytealg.IndexString"], unfollowed := true, recurses := true, named := ["unicode/utf8.first", "unicode/utf8.acceptRanges", "internal/bytealg.MaxLen"], apart := false, laid := [("unicode/utf8.acceptRanges", laid_unicode_utf8_acceptRanges), ("unicode/utf8.first", laid_unicode_utf8_first)], narrowed := true }
def RelaySelectsUptoSaid : Prop := relaySelectsUptoRow.holds Tryd.pinned (OpenSpec.upto relaySelectsSpec)

/-- 'ddilaw39.RelayFits', WHERE WHAT IT READS IS OF BULK AT MOST 1048576: true; the input reads as it did. -/
def relayFitsUptoRow : OpenClaim := { program := "ytngfffoeaghhhaadoor", sum := "124baec71812a2c4abff2e6b6d2ba6fc5afe7fe12c509662725b968752059c80", func := "ddi/ddilaw39.RelayFits", spec := "relayFits", inPlace := ["internal/bytealg.CountString", "internal/bytealg.IndexByteString", "internal/bytealg.IndexString"], unfollowed := true, recurses := true, named := ["unicode/utf8.first", "unicode/utf8.acceptRanges", "internal/bytealg.MaxLen"], apart := false, laid := [("unicode/utf8.acceptRanges", laid_unicode_utf8_acceptRanges), ("unicode/utf8.first", laid_unicode_utf8_first)], narrowed := true }
def RelayFitsUptoSaid : Prop := relayFitsUptoRow.holds Tryd.pinned (OpenSpec.upto relayFitsSpec)

/-- 'ddilaw39.RelayBack', WHERE WHAT IT READS IS OF BULK AT MOST 1048576: true; the input reads as it did. -/
def relayBackUptoRow : OpenClaim := { program := "ytngfffoeaghhhaadoor", sum := "124baec71812a2c4abff2e6b6d2ba6fc5afe7fe12c509662725b968752059c80", func := "ddi/ddilaw39.RelayBack", spec := "relayBack", inPlace := ["internal/bytealg.CountString", "internal/bytealg.IndexByteString", "internal/bytealg.IndexString"], unfollowed := true, recurses := true, named := ["unicode/utf8.first", "unicode/utf8.acceptRanges", "internal/bytealg.MaxLen"], apart := false, laid := [("unicode/utf8.acceptRanges", laid_unicode_utf8_acceptRanges), ("unicode/utf8.first", laid_unicode_utf8_first)], narrowed := true }
def RelayBackUptoSaid : Prop := relayBackUptoRow.holds Tryd.pinned (OpenSpec.upto relayBackSpec)

end Rows
end Go.Proofs.YtngfffoeaghhhaaDoor
