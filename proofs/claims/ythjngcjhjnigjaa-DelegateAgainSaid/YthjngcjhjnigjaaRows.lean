/-
  No cell of these rows narrows 'for every input' (looked for: loops, veiled, ifaces, maps, wideKeys, modest, calm, conditions, laid).
  DERIVED. THE GIVEN ROWS OF THIS SEAT. 5 by the template 'for every input the law returns true; each argument reads behind the call as it read before'; 0 by the template 'total and deterministic' (their statements: YthjngcjhjnigjaaTotals.lean).
  GIVEN WITH THE SEED: the statements are not yours to turn. If you find one false, say at which input.
  Laid BY PROGRAM, IN A SANDBOX (cutbox-rows.mjs): the forced cells as the released guide's own fill.sh prints them over the translation 0eeee13a251de5ea… (all of the seat's roots in one cut). By AI agents, Wed Nov 11 2026. No macro, syntax, notation, axiom, sorry.
-/
import Derived.Test.YthjngcjhjnigjaaChecked
import GoSem.Claim
import GoSem.ClaimJoined
import GoSem.ClaimMapViews
import Derived.JoinedTies
import Derived.KernelRfl
namespace Go.Proofs.Ythjngcjhjnigjaa
/- THE CELL 'sum', in the pinned program and in every row, IS THE sha256 OF THE DUMP (.gsa) THAT YthjngcjhjnigjaaProg.lean LOADS. Nothing in Lean hashes anything: it is a label: what it is worth is what the hold of that sum in a sandbox is worth. -/
noncomputable def Try.pinned : Pinned := { name := "ythjngcjhjnigjaa", sum := "0eeee13a251de5eac2651f50ae15dcab86fa3150c44e0ac85904b6bc9beb3b88", checked := Try.checked }
namespace Rows
def none {H : Type} : Left H := { results := [], args := [] }

/-- 'ddilaw43.DelegateChecks': WHATEVER THE INPUT: true; the input reads as it did. -/
def delegateChecksSpec : ChangeSpec := { name := "delegateChecks", fn := fun _ => fun
  | [d1, d2, d3] => { results := [.lit (.bool true)], args := [d1, d2, d3] }
  | _ => none }
def delegateChecksRow : OpenClaim := { program := "ythjngcjhjnigjaa", sum := "0eeee13a251de5eac2651f50ae15dcab86fa3150c44e0ac85904b6bc9beb3b88", func := "ddi/ddilaw43.DelegateChecks", spec := "delegateChecks", inPlace := ["slices.overlaps[ddi/delegate.Grant]"], unfollowed := true, recurses := true, apart := false }
def DelegateChecksSaid : Prop := delegateChecksRow.holds Try.pinned (OpenSpec.ofChange delegateChecksSpec)

/-- ITS FALSE NEIGHBOUR: 'it returns false'. Refute it at one input. -/
def delegateChecksWrong : ChangeSpec := { name := "delegateChecks", fn := fun _ => fun
  | [d1, d2, d3] => { results := [.lit (.bool false)], args := [d1, d2, d3] }
  | _ => none }
def DelegateChecksWrongFalsely : Prop := delegateChecksRow.holds Try.pinned (OpenSpec.ofChange delegateChecksWrong)

/-- 'ddilaw43.DelegateAssigns': WHATEVER THE INPUT: true; the input reads as it did. -/
def delegateAssignsSpec : ChangeSpec := { name := "delegateAssigns", fn := fun _ => fun
  | [d1, d2, d3] => { results := [.lit (.bool true)], args := [d1, d2, d3] }
  | _ => none }
def delegateAssignsRow : OpenClaim := { program := "ythjngcjhjnigjaa", sum := "0eeee13a251de5eac2651f50ae15dcab86fa3150c44e0ac85904b6bc9beb3b88", func := "ddi/ddilaw43.DelegateAssigns", spec := "delegateAssigns", inPlace := ["slices.overlaps[ddi/delegate.Grant]"], unfollowed := true, recurses := true, apart := false }
def DelegateAssignsSaid : Prop := delegateAssignsRow.holds Try.pinned (OpenSpec.ofChange delegateAssignsSpec)

/-- ITS FALSE NEIGHBOUR: 'it returns false'. Refute it at one input. -/
def delegateAssignsWrong : ChangeSpec := { name := "delegateAssigns", fn := fun _ => fun
  | [d1, d2, d3] => { results := [.lit (.bool false)], args := [d1, d2, d3] }
  | _ => none }
def DelegateAssignsWrongFalsely : Prop := delegateAssignsRow.holds Try.pinned (OpenSpec.ofChange delegateAssignsWrong)

/-- 'ddilaw43.DelegateAgain': WHATEVER THE INPUT: true; the input reads as it did. -/
def delegateAgainSpec : ChangeSpec := { name := "delegateAgain", fn := fun _ => fun
  | [d1, d2, d3] => { results := [.lit (.bool true)], args := [d1, d2, d3] }
  | _ => none }
def delegateAgainRow : OpenClaim := { program := "ythjngcjhjnigjaa", sum := "0eeee13a251de5eac2651f50ae15dcab86fa3150c44e0ac85904b6bc9beb3b88", func := "ddi/ddilaw43.DelegateAgain", spec := "delegateAgain", inPlace := ["slices.overlaps[ddi/delegate.Grant]"], unfollowed := true, recurses := true, apart := false }
def DelegateAgainSaid : Prop := delegateAgainRow.holds Try.pinned (OpenSpec.ofChange delegateAgainSpec)

/-- ITS FALSE NEIGHBOUR: 'it returns false'. Refute it at one input. -/
def delegateAgainWrong : ChangeSpec := { name := "delegateAgain", fn := fun _ => fun
  | [d1, d2, d3] => { results := [.lit (.bool false)], args := [d1, d2, d3] }
  | _ => none }
def DelegateAgainWrongFalsely : Prop := delegateAgainRow.holds Try.pinned (OpenSpec.ofChange delegateAgainWrong)

/-- 'ddilaw43.DelegateEmpty': WHATEVER THE INPUT: true; the input reads as it did. -/
def delegateEmptySpec : ChangeSpec := { name := "delegateEmpty", fn := fun _ => fun
  | [d1, d2] => { results := [.lit (.bool true)], args := [d1, d2] }
  | _ => none }
def delegateEmptyRow : OpenClaim := { program := "ythjngcjhjnigjaa", sum := "0eeee13a251de5eac2651f50ae15dcab86fa3150c44e0ac85904b6bc9beb3b88", func := "ddi/ddilaw43.DelegateEmpty", spec := "delegateEmpty", inPlace := ["slices.overlaps[ddi/delegate.Grant]"], unfollowed := true, recurses := true, apart := false }
def DelegateEmptySaid : Prop := delegateEmptyRow.holds Try.pinned (OpenSpec.ofChange delegateEmptySpec)

/-- ITS FALSE NEIGHBOUR: 'it returns false'. Refute it at one input. -/
def delegateEmptyWrong : ChangeSpec := { name := "delegateEmpty", fn := fun _ => fun
  | [d1, d2] => { results := [.lit (.bool false)], args := [d1, d2] }
  | _ => none }
def DelegateEmptyWrongFalsely : Prop := delegateEmptyRow.holds Try.pinned (OpenSpec.ofChange delegateEmptyWrong)

/-- 'ddilaw43.DelegatePlays': WHATEVER THE INPUT: true; the input reads as it did. -/
def delegatePlaysSpec : ChangeSpec := { name := "delegatePlays", fn := fun _ => fun
  | [d] => { results := [.lit (.bool true)], args := [d] }
  | _ => none }
def delegatePlaysRow : OpenClaim := { program := "ythjngcjhjnigjaa", sum := "0eeee13a251de5eac2651f50ae15dcab86fa3150c44e0ac85904b6bc9beb3b88", func := "ddi/ddilaw43.DelegatePlays", spec := "delegatePlays", inPlace := ["slices.overlaps[ddi/delegate.Grant]"], unfollowed := true, recurses := true, apart := false }
def DelegatePlaysSaid : Prop := delegatePlaysRow.holds Try.pinned (OpenSpec.ofChange delegatePlaysSpec)

/-- ITS FALSE NEIGHBOUR: 'it returns false'. Refute it at one input. -/
def delegatePlaysWrong : ChangeSpec := { name := "delegatePlays", fn := fun _ => fun
  | [d] => { results := [.lit (.bool false)], args := [d] }
  | _ => none }
def DelegatePlaysWrongFalsely : Prop := delegatePlaysRow.holds Try.pinned (OpenSpec.ofChange delegatePlaysWrong)

/- THE SECOND FORM. 'bulk': how many values and letters a reading holds, each counted each time it is reached (what is shared counts as often as it is met; a slice's spare places count too). A statement '..UptoSaid' is the law's where the arguments, and the package variables that the reading takes, are together of bulk at most 1048576: NARROWER than '..Said'. Prove '..Said' where nothing that the law and all that it calls make is longer than what came in: it says more and counts as full. Else prove '..UptoSaid'. A law counts once. -/
mutual
def uptoBulk {H : Type} : DataW H → Nat
  | .lit (.string bytes) => bytes.length + 1
  | .lit _ => 1
  | .nil => 1
  | .ptr d => uptoBulk d + 1
  | .slice elems spare => uptoBulkAll elems + uptoBulkAll spare + 1
  | .agg parts => uptoBulkAll parts + 1
  | .iface _ d => uptoBulk d + 1
  | .map entries => uptoBulkEntries entries + 1
  | .held _ => 1
def uptoBulkAll {H : Type} : List (DataW H) → Nat
  | [] => 0
  | d :: r => uptoBulk d + uptoBulkAll r
def uptoBulkEntries {H : Type} : List (Lit × DataW H) → Nat
  | [] => 0
  | x :: r => uptoBulkEntry x + uptoBulkEntries r
def uptoBulkEntry {H : Type} : Lit × DataW H → Nat
  | (.string bytes, d) => bytes.length + uptoBulk d + 1
  | (_, d) => uptoBulk d + 1
 end
def uptoSmall : (H : Type) → List (DataW H) → Bool := fun _ ds => decide (uptoBulkAll ds ≤ 1048576)
def OpenSpec.upto (s : _root_.Go.ChangeSpec) : _root_.Go.OpenSpec := { _root_.Go.OpenSpec.ofChange s with cond := some uptoSmall }

/-- 'ddilaw43.DelegateChecks', WHERE WHAT IT READS IS OF BULK AT MOST 1048576: true; the input reads as it did. -/
def delegateChecksUptoRow : OpenClaim := { program := "ythjngcjhjnigjaa", sum := "0eeee13a251de5eac2651f50ae15dcab86fa3150c44e0ac85904b6bc9beb3b88", func := "ddi/ddilaw43.DelegateChecks", spec := "delegateChecks", inPlace := ["slices.overlaps[ddi/delegate.Grant]"], unfollowed := true, recurses := true, apart := false, narrowed := true }
def DelegateChecksUptoSaid : Prop := delegateChecksUptoRow.holds Try.pinned (OpenSpec.upto delegateChecksSpec)

/-- 'ddilaw43.DelegateAssigns', WHERE WHAT IT READS IS OF BULK AT MOST 1048576: true; the input reads as it did. -/
def delegateAssignsUptoRow : OpenClaim := { program := "ythjngcjhjnigjaa", sum := "0eeee13a251de5eac2651f50ae15dcab86fa3150c44e0ac85904b6bc9beb3b88", func := "ddi/ddilaw43.DelegateAssigns", spec := "delegateAssigns", inPlace := ["slices.overlaps[ddi/delegate.Grant]"], unfollowed := true, recurses := true, apart := false, narrowed := true }
def DelegateAssignsUptoSaid : Prop := delegateAssignsUptoRow.holds Try.pinned (OpenSpec.upto delegateAssignsSpec)

/-- 'ddilaw43.DelegateAgain', WHERE WHAT IT READS IS OF BULK AT MOST 1048576: true; the input reads as it did. -/
def delegateAgainUptoRow : OpenClaim := { program := "ythjngcjhjnigjaa", sum := "0eeee13a251de5eac2651f50ae15dcab86fa3150c44e0ac85904b6bc9beb3b88", func := "ddi/ddilaw43.DelegateAgain", spec := "delegateAgain", inPlace := ["slices.overlaps[ddi/delegate.Grant]"], unfollowed := true, recurses := true, apart := false, narrowed := true }
def DelegateAgainUptoSaid : Prop := delegateAgainUptoRow.holds Try.pinned (OpenSpec.upto delegateAgainSpec)

/-- 'ddilaw43.DelegateEmpty', WHERE WHAT IT READS IS OF BULK AT MOST 1048576: true; the input reads as it did. -/
def delegateEmptyUptoRow : OpenClaim := { program := "ythjngcjhjnigjaa", sum := "0eeee13a251de5eac2651f50ae15dcab86fa3150c44e0ac85904b6bc9beb3b88", func := "ddi/ddilaw43.DelegateEmpty", spec := "delegateEmpty", inPlace := ["slices.overlaps[ddi/delegate.Grant]"], unfollowed := true, recurses := true, apart := false, narrowed := true }
def DelegateEmptyUptoSaid : Prop := delegateEmptyUptoRow.holds Try.pinned (OpenSpec.upto delegateEmptySpec)

/-- 'ddilaw43.DelegatePlays', WHERE WHAT IT READS IS OF BULK AT MOST 1048576: true; the input reads as it did. -/
def delegatePlaysUptoRow : OpenClaim := { program := "ythjngcjhjnigjaa", sum := "0eeee13a251de5eac2651f50ae15dcab86fa3150c44e0ac85904b6bc9beb3b88", func := "ddi/ddilaw43.DelegatePlays", spec := "delegatePlays", inPlace := ["slices.overlaps[ddi/delegate.Grant]"], unfollowed := true, recurses := true, apart := false, narrowed := true }
def DelegatePlaysUptoSaid : Prop := delegatePlaysUptoRow.holds Try.pinned (OpenSpec.upto delegatePlaysSpec)

end Rows
end Go.Proofs.Ythjngcjhjnigjaa
