/-
  NARROWER THAN 'FOR EVERY INPUT', by the rows' own cells (each row's printed sentence says how): FailoverAgain: laid · FailoverMerges: laid · FailoverApart: laid · FailoverServes: laid.
  DERIVED. THE GIVEN ROWS OF THIS SEAT. 4 by the template 'for every input the law returns true; each argument reads behind the call as it read before'; 0 by the template 'total and deterministic' (their statements: YtpcjablkjaiapaaDoorTotals.lean).
  GIVEN WITH THE SEED: the statements are not yours to turn. If you find one false, say at which input.
  Laid BY PROGRAM, IN A SANDBOX (cutbox-rows.mjs): the forced cells as the released guide's own fill.sh prints them over the translation 3b6e35fa7b6a4d6f… (all of the seat's roots in one cut). By AI agents, Wed Nov 11 2026. No macro, syntax, notation, axiom, sorry.
-/
import Derived.Test.YtpcjablkjaiapaaDoorChecked
import GoSem.PinnedTables
import GoSem.Claim
import GoSem.ClaimJoined
import GoSem.ClaimMapViews
import Derived.JoinedTies
import Derived.KernelRfl
namespace Go.Proofs.YtpcjablkjaiapaaDoor
/- THE CELL 'sum', in the pinned program and in every row, IS THE sha256 OF THE DUMP (.gsa) THAT YtpcjablkjaiapaaDoorProg.lean LOADS. Nothing in Lean hashes anything: it is a label: what it is worth is what the hold of that sum in a sandbox is worth. -/
noncomputable def Tryd.pinned : Pinned := { name := "ytpcjablkjaiapaadoor", sum := "3b6e35fa7b6a4d6f19028cdd136cb67bbecb034ae989dfaa9d6cd2992ebbc79f", checked := Tryd.checked }
namespace Rows
def none {H : Type} : Left H := { results := [], args := [] }

/- WHAT THE LISTED PACKAGE-LEVEL VARIABLES READ AS WHEN THE CALL BEGINS. Each datum BY PROGRAM (the guide's laid-datum.mjs) off the statement by which the dump's own 'gosem.cut.vars' lays the variable. In a bare row this is a premise. The card (YtpcjablkjaiapaaDoorCards.lean) ties it to the program's text. -/
def laid_unicode_utf8_acceptRanges {H : Type} : DataW H := .agg [.agg [.lit (.int .u8 128), .lit (.int .u8 191)], .agg [.lit (.int .u8 160), .lit (.int .u8 191)], .agg [.lit (.int .u8 128), .lit (.int .u8 159)], .agg [.lit (.int .u8 144), .lit (.int .u8 191)], .agg [.lit (.int .u8 128), .lit (.int .u8 143)], .agg [.lit (.int .u8 0), .lit (.int .u8 0)], .agg [.lit (.int .u8 0), .lit (.int .u8 0)], .agg [.lit (.int .u8 0), .lit (.int .u8 0)], .agg [.lit (.int .u8 0), .lit (.int .u8 0)], .agg [.lit (.int .u8 0), .lit (.int .u8 0)], .agg [.lit (.int .u8 0), .lit (.int .u8 0)], .agg [.lit (.int .u8 0), .lit (.int .u8 0)], .agg [.lit (.int .u8 0), .lit (.int .u8 0)], .agg [.lit (.int .u8 0), .lit (.int .u8 0)], .agg [.lit (.int .u8 0), .lit (.int .u8 0)], .agg [.lit (.int .u8 0), .lit (.int .u8 0)]]
/-- One of Go's own tables, pinned by name: the form's constant. -/
def laid_unicode_utf8_first : DataW Unit := Go.Pinned.utf8First

/-- 'ddilaw44.FailoverAgain': WHATEVER THE INPUT: true; the input reads as it did. -/
def failoverAgainSpec : ChangeSpec := { name := "failoverAgain", fn := fun _ => fun
  | [d1, d2, d3] => { results := [.lit (.bool true)], args := [d1, d2, d3] }
  | _ => none }
def failoverAgainRow : OpenClaim := { program := "ytpcjablkjaiapaadoor", sum := "3b6e35fa7b6a4d6f19028cdd136cb67bbecb034ae989dfaa9d6cd2992ebbc79f", func := "ddi/ddilaw44.FailoverAgain", spec := "failoverAgain", inPlace := ["internal/bytealg.CountString", "internal/bytealg.IndexByteString", "internal/bytealg.IndexString", "slices.overlaps[ddi/api.Lease]"], unfollowed := true, recurses := true, named := ["unicode/utf8.first", "unicode/utf8.acceptRanges", "internal/bytealg.MaxLen"], apart := false, laid := [("unicode/utf8.acceptRanges", laid_unicode_utf8_acceptRanges), ("unicode/utf8.first", laid_unicode_utf8_first)] }
def FailoverAgainSaid : Prop := failoverAgainRow.holds Tryd.pinned (OpenSpec.ofChange failoverAgainSpec)

/-- ITS FALSE NEIGHBOUR: 'it returns false'. Refute it at one input. -/
def failoverAgainWrong : ChangeSpec := { name := "failoverAgain", fn := fun _ => fun
  | [d1, d2, d3] => { results := [.lit (.bool false)], args := [d1, d2, d3] }
  | _ => none }
def FailoverAgainWrongFalsely : Prop := failoverAgainRow.holds Tryd.pinned (OpenSpec.ofChange failoverAgainWrong)

/-- 'ddilaw44.FailoverMerges': WHATEVER THE INPUT: true; the input reads as it did. -/
def failoverMergesSpec : ChangeSpec := { name := "failoverMerges", fn := fun _ => fun
  | [d1, d2, d3] => { results := [.lit (.bool true)], args := [d1, d2, d3] }
  | _ => none }
def failoverMergesRow : OpenClaim := { program := "ytpcjablkjaiapaadoor", sum := "3b6e35fa7b6a4d6f19028cdd136cb67bbecb034ae989dfaa9d6cd2992ebbc79f", func := "ddi/ddilaw44.FailoverMerges", spec := "failoverMerges", inPlace := ["internal/bytealg.CountString", "internal/bytealg.IndexByteString", "internal/bytealg.IndexString", "slices.overlaps[ddi/api.Lease]"], unfollowed := true, recurses := true, named := ["unicode/utf8.first", "unicode/utf8.acceptRanges", "internal/bytealg.MaxLen"], apart := false, laid := [("unicode/utf8.acceptRanges", laid_unicode_utf8_acceptRanges), ("unicode/utf8.first", laid_unicode_utf8_first)] }
def FailoverMergesSaid : Prop := failoverMergesRow.holds Tryd.pinned (OpenSpec.ofChange failoverMergesSpec)

/-- ITS FALSE NEIGHBOUR: 'it returns false'. Refute it at one input. -/
def failoverMergesWrong : ChangeSpec := { name := "failoverMerges", fn := fun _ => fun
  | [d1, d2, d3] => { results := [.lit (.bool false)], args := [d1, d2, d3] }
  | _ => none }
def FailoverMergesWrongFalsely : Prop := failoverMergesRow.holds Tryd.pinned (OpenSpec.ofChange failoverMergesWrong)

/-- 'ddilaw44.FailoverApart': WHATEVER THE INPUT: true; the input reads as it did. -/
def failoverApartSpec : ChangeSpec := { name := "failoverApart", fn := fun _ => fun
  | [d1, d2, d3, d4] => { results := [.lit (.bool true)], args := [d1, d2, d3, d4] }
  | _ => none }
def failoverApartRow : OpenClaim := { program := "ytpcjablkjaiapaadoor", sum := "3b6e35fa7b6a4d6f19028cdd136cb67bbecb034ae989dfaa9d6cd2992ebbc79f", func := "ddi/ddilaw44.FailoverApart", spec := "failoverApart", inPlace := ["math/bits.Sub64", "math/bits.Add64", "internal/bytealg.CountString", "internal/bytealg.IndexByteString", "internal/bytealg.IndexString"], unfollowed := true, recurses := true, named := ["unicode/utf8.first", "unicode/utf8.acceptRanges", "internal/bytealg.MaxLen"], apart := false, laid := [("unicode/utf8.acceptRanges", laid_unicode_utf8_acceptRanges), ("unicode/utf8.first", laid_unicode_utf8_first)] }
def FailoverApartSaid : Prop := failoverApartRow.holds Tryd.pinned (OpenSpec.ofChange failoverApartSpec)

/-- ITS FALSE NEIGHBOUR: 'it returns false'. Refute it at one input. -/
def failoverApartWrong : ChangeSpec := { name := "failoverApart", fn := fun _ => fun
  | [d1, d2, d3, d4] => { results := [.lit (.bool false)], args := [d1, d2, d3, d4] }
  | _ => none }
def FailoverApartWrongFalsely : Prop := failoverApartRow.holds Tryd.pinned (OpenSpec.ofChange failoverApartWrong)

/-- 'ddilaw44.FailoverServes': WHATEVER THE INPUT: true; the input reads as it did. -/
def failoverServesSpec : ChangeSpec := { name := "failoverServes", fn := fun _ => fun
  | [d1, d2, d3, d4] => { results := [.lit (.bool true)], args := [d1, d2, d3, d4] }
  | _ => none }
def failoverServesRow : OpenClaim := { program := "ytpcjablkjaiapaadoor", sum := "3b6e35fa7b6a4d6f19028cdd136cb67bbecb034ae989dfaa9d6cd2992ebbc79f", func := "ddi/ddilaw44.FailoverServes", spec := "failoverServes", inPlace := ["math/bits.Sub64", "math/bits.Add64", "internal/bytealg.CountString", "internal/bytealg.IndexByteString", "internal/bytealg.IndexString"], unfollowed := true, recurses := true, named := ["unicode/utf8.first", "unicode/utf8.acceptRanges", "internal/bytealg.MaxLen"], apart := false, laid := [("unicode/utf8.acceptRanges", laid_unicode_utf8_acceptRanges), ("unicode/utf8.first", laid_unicode_utf8_first)] }
def FailoverServesSaid : Prop := failoverServesRow.holds Tryd.pinned (OpenSpec.ofChange failoverServesSpec)

/-- ITS FALSE NEIGHBOUR: 'it returns false'. Refute it at one input. -/
def failoverServesWrong : ChangeSpec := { name := "failoverServes", fn := fun _ => fun
  | [d1, d2, d3, d4] => { results := [.lit (.bool false)], args := [d1, d2, d3, d4] }
  | _ => none }
def FailoverServesWrongFalsely : Prop := failoverServesRow.holds Tryd.pinned (OpenSpec.ofChange failoverServesWrong)

/- THE SECOND FORM. 'bulk': how many values and letters a reading holds, each counted each time it is reached (what is shared counts as often as it is met; a slice's spare places count too). A statement '..UptoSaid' is the law's where the arguments, and the package variables that the reading takes, are together of bulk at most 1048576: NARROWER than '..Said'. Prove '..Said' where nothing that the law and all that it calls make is longer than what came in: it says more and counts as full. Else prove '..UptoSaid'. A law counts once. -/
mutual
def uptoBulk {H : Type} : DataW H → Nat
  | .lit (.string bytes) => bytes.length + 1
  | .lit _ => 1
  | .nil => 1
  | .ptr d => uptoBulk d + 1
  | .slice elems spare => uptoBulkAll elems + uptoBulkAll spare + 1
  | .agg parts => uptoBulkAll parts + 1
  | .iface _ d => uptoBulk d + 1
  | .map entries => uptoBulkEntries entries + 1
  | .held _ => 1
def uptoBulkAll {H : Type} : List (DataW H) → Nat
  | [] => 0
  | d :: r => uptoBulk d + uptoBulkAll r
def uptoBulkEntries {H : Type} : List (Lit × DataW H) → Nat
  | [] => 0
  | x :: r => uptoBulkEntry x + uptoBulkEntries r
def uptoBulkEntry {H : Type} : Lit × DataW H → Nat
  | (.string bytes, d) => bytes.length + uptoBulk d + 1
  | (_, d) => uptoBulk d + 1
 end
def uptoSmall : (H : Type) → List (DataW H) → Bool := fun _ ds => decide (uptoBulkAll ds ≤ 1048576)
def OpenSpec.upto (s : _root_.Go.ChangeSpec) : _root_.Go.OpenSpec := { _root_.Go.OpenSpec.ofChange s with cond := some uptoSmall }

/-- 'ddilaw44.FailoverAgain', WHERE WHAT IT READS IS OF BULK AT MOST 1048576: true; the input reads as it did. -/
def failoverAgainUptoRow : OpenClaim := { program := "ytpcjablkjaiapaadoor", sum := "3b6e35fa7b6a4d6f19028cdd136cb67bbecb034ae989dfaa9d6cd2992ebbc79f", func := "ddi/ddilaw44.FailoverAgain", spec := "failoverAgain", inPlace := ["internal/bytealg.CountString", "internal/bytealg.IndexByteString", "internal/bytealg.IndexString", "slices.overlaps[ddi/api.Lease]"], unfollowed := true, recurses := true, named := ["unicode/utf8.first", "unicode/utf8.acceptRanges", "internal/bytealg.MaxLen"], apart := false, laid := [("unicode/utf8.acceptRanges", laid_unicode_utf8_acceptRanges), ("unicode/utf8.first", laid_unicode_utf8_first)], narrowed := true }
def FailoverAgainUptoSaid : Prop := failoverAgainUptoRow.holds Tryd.pinned (OpenSpec.upto failoverAgainSpec)

/-- 'ddilaw44.FailoverMerges', WHERE WHAT IT READS IS OF BULK AT MOST 1048576: true; the input reads as it did. -/
def failoverMergesUptoRow : OpenClaim := { program := "ytpcjablkjaiapaadoor", sum := "3b6e35fa7b6a4d6f19028cdd136cb67bbecb034ae989dfaa9d6cd2992ebbc79f", func := "ddi/ddilaw44.FailoverMerges", spec := "failoverMerges", inPlace := ["internal/bytealg.CountString", "internal/bytealg.IndexByteString", "internal/bytealg.IndexString", "slices.overlaps[ddi/api.Lease]"], unfollowed := true, recurses := true, named := ["unicode/utf8.first", "unicode/utf8.acceptRanges", "internal/bytealg.MaxLen"], apart := false, laid := [("unicode/utf8.acceptRanges", laid_unicode_utf8_acceptRanges), ("unicode/utf8.first", laid_unicode_utf8_first)], narrowed := true }
def FailoverMergesUptoSaid : Prop := failoverMergesUptoRow.holds Tryd.pinned (OpenSpec.upto failoverMergesSpec)

/-- 'ddilaw44.FailoverApart', WHERE WHAT IT READS IS OF BULK AT MOST 1048576: true; the input reads as it did. -/
def failoverApartUptoRow : OpenClaim := { program := "ytpcjablkjaiapaadoor", sum := "3b6e35fa7b6a4d6f19028cdd136cb67bbecb034ae989dfaa9d6cd2992ebbc79f", func := "ddi/ddilaw44.FailoverApart", spec := "failoverApart", inPlace := ["math/bits.Sub64", "math/bits.Add64", "internal/bytealg.CountString", "internal/bytealg.IndexByteString", "internal/bytealg.IndexString"], unfollowed := true, recurses := true, named := ["unicode/utf8.first", "unicode/utf8.acceptRanges", "internal/bytealg.MaxLen"], apart := false, laid := [("unicode/utf8.acceptRanges", laid_unicode_utf8_acceptRanges), ("unicode/utf8.first", laid_unicode_utf8_first)], narrowed := true }
def FailoverApartUptoSaid : Prop := failoverApartUptoRow.holds Tryd.pinned (OpenSpec.upto failoverApartSpec)

/-- 'ddilaw44.FailoverServes', WHERE WHAT IT READS IS OF BULK AT MOST 1048576: true; the input reads as it did. -/
def failoverServesUptoRow : OpenClaim := { program := "ytpcjablkjaiapaadoor", sum := "3b6e35fa7b6a4d6f19028cdd136cb67bbecb034ae989dfaa9d6cd2992ebbc79f", func := "ddi/ddilaw44.FailoverServes", spec := "failoverServes", inPlace := ["math/bits.Sub64", "math/bits.Add64", "internal/bytealg.CountString", "internal/bytealg.IndexByteString", "internal/bytealg.IndexString"], unfollowed := true, recurses := true, named := ["unicode/utf8.first", "unicode/utf8.acceptRanges", "internal/bytealg.MaxLen"], apart := false, laid := [("unicode/utf8.acceptRanges", laid_unicode_utf8_acceptRanges), ("unicode/utf8.first", laid_unicode_utf8_first)], narrowed := true }
def FailoverServesUptoSaid : Prop := failoverServesUptoRow.holds Tryd.pinned (OpenSpec.upto failoverServesSpec)

end Rows
end Go.Proofs.YtpcjablkjaiapaaDoor
