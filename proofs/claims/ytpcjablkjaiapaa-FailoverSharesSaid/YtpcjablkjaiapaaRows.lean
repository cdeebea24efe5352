/-
  No cell of these rows narrows 'for every input' (looked for: loops, veiled, ifaces, maps, wideKeys, modest, calm, conditions, laid).
  DERIVED. THE GIVEN ROWS OF THIS SEAT. 2 by the template 'for every input the law returns true; each argument reads behind the call as it read before'; 0 by the template 'total and deterministic' (their statements: YtpcjablkjaiapaaTotals.lean).
  GIVEN WITH THE SEED: the statements are not yours to turn. If you find one false, say at which input.
  Laid BY PROGRAM, IN A SANDBOX (cutbox-rows.mjs): the forced cells as the released guide's own fill.sh prints them over the translation 7733ea4f51717b4b… (all of the seat's roots in one cut). By AI agents, Wed Nov 11 2026. No macro, syntax, notation, axiom, sorry.
-/
import Derived.Test.YtpcjablkjaiapaaChecked
import GoSem.Claim
import GoSem.ClaimJoined
import GoSem.ClaimMapViews
import Derived.JoinedTies
import Derived.KernelRfl
namespace Go.Proofs.Ytpcjablkjaiapaa
/- THE CELL 'sum', in the pinned program and in every row, IS THE sha256 OF THE DUMP (.gsa) THAT YtpcjablkjaiapaaProg.lean LOADS. Nothing in Lean hashes anything: it is a label: what it is worth is what the hold of that sum in a sandbox is worth. -/
noncomputable def Try.pinned : Pinned := { name := "ytpcjablkjaiapaa", sum := "7733ea4f51717b4b5df602034939eff53700605dbc6dc491e040e91084484156", checked := Try.checked }
namespace Rows
def none {H : Type} : Left H := { results := [], args := [] }

/-- 'ddilaw44.FailoverShares': WHATEVER THE INPUT: true; the input reads as it did. -/
def failoverSharesSpec : ChangeSpec := { name := "failoverShares", fn := fun _ => fun
  | [d1, d2, d3] => { results := [.lit (.bool true)], args := [d1, d2, d3] }
  | _ => none }
def failoverSharesRow : OpenClaim := { program := "ytpcjablkjaiapaa", sum := "7733ea4f51717b4b5df602034939eff53700605dbc6dc491e040e91084484156", func := "ddi/ddilaw44.FailoverShares", spec := "failoverShares", inPlace := ["math/bits.Sub64", "math/bits.Add64"], unfollowed := true, recurses := true, apart := false }
def FailoverSharesSaid : Prop := failoverSharesRow.holds Try.pinned (OpenSpec.ofChange failoverSharesSpec)

/-- ITS FALSE NEIGHBOUR: 'it returns false'. Refute it at one input. -/
def failoverSharesWrong : ChangeSpec := { name := "failoverShares", fn := fun _ => fun
  | [d1, d2, d3] => { results := [.lit (.bool false)], args := [d1, d2, d3] }
  | _ => none }
def FailoverSharesWrongFalsely : Prop := failoverSharesRow.holds Try.pinned (OpenSpec.ofChange failoverSharesWrong)

/-- 'ddilaw44.FailoverPlays': WHATEVER THE INPUT: true; the input reads as it did. -/
def failoverPlaysSpec : ChangeSpec := { name := "failoverPlays", fn := fun _ => fun
  | [d1, d2] => { results := [.lit (.bool true)], args := [d1, d2] }
  | _ => none }
def failoverPlaysRow : OpenClaim := { program := "ytpcjablkjaiapaa", sum := "7733ea4f51717b4b5df602034939eff53700605dbc6dc491e040e91084484156", func := "ddi/ddilaw44.FailoverPlays", spec := "failoverPlays", inPlace := ["math/bits.Sub64", "math/bits.Add64"], unfollowed := true, recurses := true, apart := false }
def FailoverPlaysSaid : Prop := failoverPlaysRow.holds Try.pinned (OpenSpec.ofChange failoverPlaysSpec)

/-- ITS FALSE NEIGHBOUR: 'it returns false'. Refute it at one input. -/
def failoverPlaysWrong : ChangeSpec := { name := "failoverPlays", fn := fun _ => fun
  | [d1, d2] => { results := [.lit (.bool false)], args := [d1, d2] }
  | _ => none }
def FailoverPlaysWrongFalsely : Prop := failoverPlaysRow.holds Try.pinned (OpenSpec.ofChange failoverPlaysWrong)

/- THE SECOND FORM. 'bulk': how many values and letters a reading holds, each counted each time it is reached (what is shared counts as often as it is met; a slice's spare places count too). A statement '..UptoSaid' is the law's where the arguments, and the package variables that the reading takes, are together of bulk at most 1048576: NARROWER than '..Said'. Prove '..Said' where nothing that the law and all that it calls make is longer than what came in: it says more and counts as full. Else prove '..UptoSaid'. A law counts once. -/
mutual
def uptoBulk {H : Type} : DataW H → Nat
  | .lit (.string bytes) => bytes.length + 1
  | .lit _ => 1
  | .nil => 1
  | .ptr d => uptoBulk d + 1
  | .slice elems spare => uptoBulkAll elems + uptoBulkAll spare + 1
  | .agg parts => uptoBulkAll parts + 1
  | .iface _ d => uptoBulk d + 1
  | .map entries => uptoBulkEntries entries + 1
  | .held _ => 1
def uptoBulkAll {H : Type} : List (DataW H) → Nat
  | [] => 0
  | d :: r => uptoBulk d + uptoBulkAll r
def uptoBulkEntries {H : Type} : List (Lit × DataW H) → Nat
  | [] => 0
  | x :: r => uptoBulkEntry x + uptoBulkEntries r
def uptoBulkEntry {H : Type} : Lit × DataW H → Nat
  | (.string bytes, d) => bytes.length + uptoBulk d + 1
  | (_, d) => uptoBulk d + 1
 end
def uptoSmall : (H : Type) → List (DataW H) → Bool := fun _ ds => decide (uptoBulkAll ds ≤ 1048576)
def OpenSpec.upto (s : _root_.Go.ChangeSpec) : _root_.Go.OpenSpec := { _root_.Go.OpenSpec.ofChange s with cond := some uptoSmall }

/-- 'ddilaw44.FailoverShares', WHERE WHAT IT READS IS OF BULK AT MOST 1048576: true; the input reads as it did. -/
def failoverSharesUptoRow : OpenClaim := { program := "ytpcjablkjaiapaa", sum := "7733ea4f51717b4b5df602034939eff53700605dbc6dc491e040e91084484156", func := "ddi/ddilaw44.FailoverShares", spec := "failoverShares", inPlace := ["math/bits.Sub64", "math/bits.Add64"], unfollowed := true, recurses := true, apart := false, narrowed := true }
def FailoverSharesUptoSaid : Prop := failoverSharesUptoRow.holds Try.pinned (OpenSpec.upto failoverSharesSpec)

/-- 'ddilaw44.FailoverPlays', WHERE WHAT IT READS IS OF BULK AT MOST 1048576: true; the input reads as it did. -/
def failoverPlaysUptoRow : OpenClaim := { program := "ytpcjablkjaiapaa", sum := "7733ea4f51717b4b5df602034939eff53700605dbc6dc491e040e91084484156", func := "ddi/ddilaw44.FailoverPlays", spec := "failoverPlays", inPlace := ["math/bits.Sub64", "math/bits.Add64"], unfollowed := true, recurses := true, apart := false, narrowed := true }
def FailoverPlaysUptoSaid : Prop := failoverPlaysUptoRow.holds Try.pinned (OpenSpec.upto failoverPlaysSpec)

end Rows
end Go.Proofs.Ytpcjablkjaiapaa
