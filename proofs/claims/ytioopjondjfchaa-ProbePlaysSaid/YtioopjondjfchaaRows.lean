/-
  No cell of these rows narrows 'for every input' (looked for: loops, veiled, ifaces, maps, wideKeys, modest, calm, conditions, laid).
  DERIVED. THE GIVEN ROWS OF THIS SEAT. 4 by the template 'for every input the law returns true; each argument reads behind the call as it read before'; 0 by the template 'total and deterministic' (their statements: YtioopjondjfchaaTotals.lean).
  GIVEN WITH THE SEED: the statements are not yours to turn. If you find one false, say at which input.
  Laid BY PROGRAM, IN A SANDBOX (cutbox-rows.mjs): the forced cells as the released guide's own fill.sh prints them over the translation d38ac2948e461c51… (all of the seat's roots in one cut). By AI agents, Wed Nov 11 2026. No macro, syntax, notation, axiom, sorry.
-/
import Derived.Test.YtioopjondjfchaaChecked
import GoSem.Claim
import GoSem.ClaimJoined
import GoSem.ClaimMapViews
import Derived.JoinedTies
import Derived.KernelRfl
namespace Go.Proofs.Ytioopjondjfchaa
/- THE CELL 'sum', in the pinned program and in every row, IS THE sha256 OF THE DUMP (.gsa) THAT YtioopjondjfchaaProg.lean LOADS. Nothing in Lean hashes anything: it is a label: what it is worth is what the hold of that sum in a sandbox is worth. -/
noncomputable def Try.pinned : Pinned := { name := "ytioopjondjfchaa", sum := "d38ac2948e461c51c12164de675c67a63fcfbb438b4e2816de4d37f31f6942de", checked := Try.checked }
namespace Rows
def none {H : Type} : Left H := { results := [], args := [] }

/-- 'ddilaw40.ProbeChecks': WHATEVER THE INPUT: true; the input reads as it did. -/
def probeChecksSpec : ChangeSpec := { name := "probeChecks", fn := fun _ => fun
  | [d] => { results := [.lit (.bool true)], args := [d] }
  | _ => none }
def probeChecksRow : OpenClaim := { program := "ytioopjondjfchaa", sum := "d38ac2948e461c51c12164de675c67a63fcfbb438b4e2816de4d37f31f6942de", func := "ddi/ddilaw40.ProbeChecks", spec := "probeChecks", inPlace := ["slices.overlaps[ddi/probe.Probe]"], unfollowed := true, recurses := true, apart := false }
def ProbeChecksSaid : Prop := probeChecksRow.holds Try.pinned (OpenSpec.ofChange probeChecksSpec)

/-- ITS FALSE NEIGHBOUR: 'it returns false'. Refute it at one input. -/
def probeChecksWrong : ChangeSpec := { name := "probeChecks", fn := fun _ => fun
  | [d] => { results := [.lit (.bool false)], args := [d] }
  | _ => none }
def ProbeChecksWrongFalsely : Prop := probeChecksRow.holds Try.pinned (OpenSpec.ofChange probeChecksWrong)

/-- 'ddilaw40.ProbeParts': WHATEVER THE INPUT: true; the input reads as it did. -/
def probePartsSpec : ChangeSpec := { name := "probeParts", fn := fun _ => fun
  | [d1, d2] => { results := [.lit (.bool true)], args := [d1, d2] }
  | _ => none }
def probePartsRow : OpenClaim := { program := "ytioopjondjfchaa", sum := "d38ac2948e461c51c12164de675c67a63fcfbb438b4e2816de4d37f31f6942de", func := "ddi/ddilaw40.ProbeParts", spec := "probeParts", inPlace := ["slices.overlaps[ddi/probe.Probe]"], unfollowed := true, recurses := true, apart := false }
def ProbePartsSaid : Prop := probePartsRow.holds Try.pinned (OpenSpec.ofChange probePartsSpec)

/-- ITS FALSE NEIGHBOUR: 'it returns false'. Refute it at one input. -/
def probePartsWrong : ChangeSpec := { name := "probeParts", fn := fun _ => fun
  | [d1, d2] => { results := [.lit (.bool false)], args := [d1, d2] }
  | _ => none }
def ProbePartsWrongFalsely : Prop := probePartsRow.holds Try.pinned (OpenSpec.ofChange probePartsWrong)

/-- 'ddilaw40.ProbeStarts': WHATEVER THE INPUT: true; the input reads as it did. -/
def probeStartsSpec : ChangeSpec := { name := "probeStarts", fn := fun _ => fun
  | [d1, d2, d3] => { results := [.lit (.bool true)], args := [d1, d2, d3] }
  | _ => none }
def probeStartsRow : OpenClaim := { program := "ytioopjondjfchaa", sum := "d38ac2948e461c51c12164de675c67a63fcfbb438b4e2816de4d37f31f6942de", func := "ddi/ddilaw40.ProbeStarts", spec := "probeStarts", inPlace := ["slices.overlaps[ddi/probe.Probe]"], unfollowed := true, recurses := true, apart := false }
def ProbeStartsSaid : Prop := probeStartsRow.holds Try.pinned (OpenSpec.ofChange probeStartsSpec)

/-- ITS FALSE NEIGHBOUR: 'it returns false'. Refute it at one input. -/
def probeStartsWrong : ChangeSpec := { name := "probeStarts", fn := fun _ => fun
  | [d1, d2, d3] => { results := [.lit (.bool false)], args := [d1, d2, d3] }
  | _ => none }
def ProbeStartsWrongFalsely : Prop := probeStartsRow.holds Try.pinned (OpenSpec.ofChange probeStartsWrong)

/-- 'ddilaw40.ProbePlays': WHATEVER THE INPUT: true; the input reads as it did. -/
def probePlaysSpec : ChangeSpec := { name := "probePlays", fn := fun _ => fun
  | [d1, d2] => { results := [.lit (.bool true)], args := [d1, d2] }
  | _ => none }
def probePlaysRow : OpenClaim := { program := "ytioopjondjfchaa", sum := "d38ac2948e461c51c12164de675c67a63fcfbb438b4e2816de4d37f31f6942de", func := "ddi/ddilaw40.ProbePlays", spec := "probePlays", inPlace := ["slices.overlaps[ddi/probe.Probe]"], unfollowed := true, recurses := true, apart := false }
def ProbePlaysSaid : Prop := probePlaysRow.holds Try.pinned (OpenSpec.ofChange probePlaysSpec)

/-- ITS FALSE NEIGHBOUR: 'it returns false'. Refute it at one input. -/
def probePlaysWrong : ChangeSpec := { name := "probePlays", fn := fun _ => fun
  | [d1, d2] => { results := [.lit (.bool false)], args := [d1, d2] }
  | _ => none }
def ProbePlaysWrongFalsely : Prop := probePlaysRow.holds Try.pinned (OpenSpec.ofChange probePlaysWrong)

/- THE SECOND FORM. 'bulk': how many values and letters a reading holds, each counted each time it is reached (what is shared counts as often as it is met; a slice's spare places count too). A statement '..UptoSaid' is the law's where the arguments, and the package variables that the reading takes, are together of bulk at most 1048576: NARROWER than '..Said'. Prove '..Said' where nothing that the law and all that it calls make is longer than what came in: it says more and counts as full. Else prove '..UptoSaid'. A law counts once. -/
mutual
def uptoBulk {H : Type} : DataW H → Nat
  | .lit (.string bytes) => bytes.length + 1
  | .lit _ => 1
  | .nil => 1
  | .ptr d => uptoBulk d + 1
  | .slice elems spare => uptoBulkAll elems + uptoBulkAll spare + 1
  | .agg parts => uptoBulkAll parts + 1
  | .iface _ d => uptoBulk d + 1
  | .map entries => uptoBulkEntries entries + 1
  | .held _ => 1
def uptoBulkAll {H : Type} : List (DataW H) → Nat
  | [] => 0
  | d :: r => uptoBulk d + uptoBulkAll r
def uptoBulkEntries {H : Type} : List (Lit × DataW H) → Nat
  | [] => 0
  | x :: r => uptoBulkEntry x + uptoBulkEntries r
def uptoBulkEntry {H : Type} : Lit × DataW H → Nat
  | (.string bytes, d) => bytes.length + uptoBulk d + 1
  | (_, d) => uptoBulk d + 1
 end
def uptoSmall : (H : Type) → List (DataW H) → Bool := fun _ ds => decide (uptoBulkAll ds ≤ 1048576)
def OpenSpec.upto (s : _root_.Go.ChangeSpec) : _root_.Go.OpenSpec := { _root_.Go.OpenSpec.ofChange s with cond := some uptoSmall }

/-- 'ddilaw40.ProbeChecks', WHERE WHAT IT READS IS OF BULK AT MOST 1048576: true; the input reads as it did. -/
def probeChecksUptoRow : OpenClaim := { program := "ytioopjondjfchaa", sum := "d38ac2948e461c51c12164de675c67a63fcfbb438b4e2816de4d37f31f6942de", func := "ddi/ddilaw40.ProbeChecks", spec := "probeChecks", inPlace := ["slices.overlaps[ddi/probe.Probe]"], unfollowed := true, recurses := true, apart := false, narrowed := true }
def ProbeChecksUptoSaid : Prop := probeChecksUptoRow.holds Try.pinned (OpenSpec.upto probeChecksSpec)

/-- 'ddilaw40.ProbeParts', WHERE WHAT IT READS IS OF BULK AT MOST 1048576: true; the input reads as it did. -/
def probePartsUptoRow : OpenClaim := { program := "ytioopjondjfchaa", sum := "d38ac2948e461c51c12164de675c67a63fcfbb438b4e2816de4d37f31f6942de", func := "ddi/ddilaw40.ProbeParts", spec := "probeParts", inPlace := ["slices.overlaps[ddi/probe.Probe]"], unfollowed := true, recurses := true, apart := false, narrowed := true }
def ProbePartsUptoSaid : Prop := probePartsUptoRow.holds Try.pinned (OpenSpec.upto probePartsSpec)

/-- 'ddilaw40.ProbeStarts', WHERE WHAT IT READS IS OF BULK AT MOST 1048576: true; the input reads as it did. -/
def probeStartsUptoRow : OpenClaim := { program := "ytioopjondjfchaa", sum := "d38ac2948e461c51c12164de675c67a63fcfbb438b4e2816de4d37f31f6942de", func := "ddi/ddilaw40.ProbeStarts", spec := "probeStarts", inPlace := ["slices.overlaps[ddi/probe.Probe]"], unfollowed := true, recurses := true, apart := false, narrowed := true }
def ProbeStartsUptoSaid : Prop := probeStartsUptoRow.holds Try.pinned (OpenSpec.upto probeStartsSpec)

/-- 'ddilaw40.ProbePlays', WHERE WHAT IT READS IS OF BULK AT MOST 1048576: true; the input reads as it did. -/
def probePlaysUptoRow : OpenClaim := { program := "ytioopjondjfchaa", sum := "d38ac2948e461c51c12164de675c67a63fcfbb438b4e2816de4d37f31f6942de", func := "ddi/ddilaw40.ProbePlays", spec := "probePlays", inPlace := ["slices.overlaps[ddi/probe.Probe]"], unfollowed := true, recurses := true, apart := false, narrowed := true }
def ProbePlaysUptoSaid : Prop := probePlaysUptoRow.holds Try.pinned (OpenSpec.upto probePlaysSpec)

end Rows
end Go.Proofs.Ytioopjondjfchaa
