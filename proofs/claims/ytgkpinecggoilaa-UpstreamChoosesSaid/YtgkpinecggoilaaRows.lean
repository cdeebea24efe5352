/-
  No cell of these rows narrows 'for every input' (looked for: loops, veiled, ifaces, maps, wideKeys, modest, calm, conditions, laid).
  DERIVED. THE GIVEN ROWS OF THIS SEAT. 6 by the template 'for every input the law returns true; each argument reads behind the call as it read before'; 0 by the template 'total and deterministic' (their statements: YtgkpinecggoilaaTotals.lean).
  GIVEN WITH THE SEED: the statements are not yours to turn. If you find one false, say at which input.
  Laid BY PROGRAM, IN A SANDBOX (cutbox-rows.mjs): the forced cells as the released guide's own fill.sh prints them over the translation be500636e7f9b7cf… (all of the seat's roots in one cut). By AI agents, Wed Nov 11 2026. No macro, syntax, notation, axiom, sorry.
-/
import Derived.Test.YtgkpinecggoilaaChecked
import GoSem.Claim
import GoSem.ClaimJoined
import GoSem.ClaimMapViews
import Derived.JoinedTies
import Derived.KernelRfl
namespace Go.Proofs.Ytgkpinecggoilaa
/- THE CELL 'sum', in the pinned program and in every row, IS THE sha256 OF THE DUMP (.gsa) THAT YtgkpinecggoilaaProg.lean LOADS. Nothing in Lean hashes anything: it is a label: what it is worth is what the hold of that sum in a sandbox is worth. -/
noncomputable def Try.pinned : Pinned := { name := "ytgkpinecggoilaa", sum := "be500636e7f9b7cf94428e95e7a4932a9c2ce25eb1795f10580732b0647d8981", checked := Try.checked }
namespace Rows
def none {H : Type} : Left H := { results := [], args := [] }

/-- 'ddilaw32.UpstreamStores': WHATEVER THE INPUT: true; the input reads as it did. -/
def upstreamStoresSpec : ChangeSpec := { name := "upstreamStores", fn := fun _ => fun
  | [d1, d2] => { results := [.lit (.bool true)], args := [d1, d2] }
  | _ => none }
def upstreamStoresRow : OpenClaim := { program := "ytgkpinecggoilaa", sum := "be500636e7f9b7cf94428e95e7a4932a9c2ce25eb1795f10580732b0647d8981", func := "ddi/ddilaw32.UpstreamStores", spec := "upstreamStores", inPlace := ["slices.overlaps[ddi/upstream.Peer]"], unfollowed := true, recurses := true, apart := false }
def UpstreamStoresSaid : Prop := upstreamStoresRow.holds Try.pinned (OpenSpec.ofChange upstreamStoresSpec)

/-- ITS FALSE NEIGHBOUR: 'it returns false'. Refute it at one input. -/
def upstreamStoresWrong : ChangeSpec := { name := "upstreamStores", fn := fun _ => fun
  | [d1, d2] => { results := [.lit (.bool false)], args := [d1, d2] }
  | _ => none }
def UpstreamStoresWrongFalsely : Prop := upstreamStoresRow.holds Try.pinned (OpenSpec.ofChange upstreamStoresWrong)

/-- 'ddilaw32.UpstreamPicks': WHATEVER THE INPUT: true; the input reads as it did. -/
def upstreamPicksSpec : ChangeSpec := { name := "upstreamPicks", fn := fun _ => fun
  | [d1, d2] => { results := [.lit (.bool true)], args := [d1, d2] }
  | _ => none }
def upstreamPicksRow : OpenClaim := { program := "ytgkpinecggoilaa", sum := "be500636e7f9b7cf94428e95e7a4932a9c2ce25eb1795f10580732b0647d8981", func := "ddi/ddilaw32.UpstreamPicks", spec := "upstreamPicks", inPlace := ["slices.overlaps[ddi/upstream.Peer]"], unfollowed := true, recurses := true, apart := false }
def UpstreamPicksSaid : Prop := upstreamPicksRow.holds Try.pinned (OpenSpec.ofChange upstreamPicksSpec)

/-- ITS FALSE NEIGHBOUR: 'it returns false'. Refute it at one input. -/
def upstreamPicksWrong : ChangeSpec := { name := "upstreamPicks", fn := fun _ => fun
  | [d1, d2] => { results := [.lit (.bool false)], args := [d1, d2] }
  | _ => none }
def UpstreamPicksWrongFalsely : Prop := upstreamPicksRow.holds Try.pinned (OpenSpec.ofChange upstreamPicksWrong)

/-- 'ddilaw32.UpstreamWaits': WHATEVER THE INPUT: true; the input reads as it did. -/
def upstreamWaitsSpec : ChangeSpec := { name := "upstreamWaits", fn := fun _ => fun
  | [d] => { results := [.lit (.bool true)], args := [d] }
  | _ => none }
def upstreamWaitsRow : OpenClaim := { program := "ytgkpinecggoilaa", sum := "be500636e7f9b7cf94428e95e7a4932a9c2ce25eb1795f10580732b0647d8981", func := "ddi/ddilaw32.UpstreamWaits", spec := "upstreamWaits", inPlace := ["slices.overlaps[ddi/upstream.Peer]"], unfollowed := true, recurses := true, apart := false }
def UpstreamWaitsSaid : Prop := upstreamWaitsRow.holds Try.pinned (OpenSpec.ofChange upstreamWaitsSpec)

/-- ITS FALSE NEIGHBOUR: 'it returns false'. Refute it at one input. -/
def upstreamWaitsWrong : ChangeSpec := { name := "upstreamWaits", fn := fun _ => fun
  | [d] => { results := [.lit (.bool false)], args := [d] }
  | _ => none }
def UpstreamWaitsWrongFalsely : Prop := upstreamWaitsRow.holds Try.pinned (OpenSpec.ofChange upstreamWaitsWrong)

/-- 'ddilaw32.UpstreamKnows': WHATEVER THE INPUT: true; the input reads as it did. -/
def upstreamKnowsSpec : ChangeSpec := { name := "upstreamKnows", fn := fun _ => fun
  | [d1, d2] => { results := [.lit (.bool true)], args := [d1, d2] }
  | _ => none }
def upstreamKnowsRow : OpenClaim := { program := "ytgkpinecggoilaa", sum := "be500636e7f9b7cf94428e95e7a4932a9c2ce25eb1795f10580732b0647d8981", func := "ddi/ddilaw32.UpstreamKnows", spec := "upstreamKnows", inPlace := ["slices.overlaps[ddi/upstream.Peer]"], unfollowed := true, recurses := true, apart := false }
def UpstreamKnowsSaid : Prop := upstreamKnowsRow.holds Try.pinned (OpenSpec.ofChange upstreamKnowsSpec)

/-- ITS FALSE NEIGHBOUR: 'it returns false'. Refute it at one input. -/
def upstreamKnowsWrong : ChangeSpec := { name := "upstreamKnows", fn := fun _ => fun
  | [d1, d2] => { results := [.lit (.bool false)], args := [d1, d2] }
  | _ => none }
def UpstreamKnowsWrongFalsely : Prop := upstreamKnowsRow.holds Try.pinned (OpenSpec.ofChange upstreamKnowsWrong)

/-- 'ddilaw32.UpstreamChooses': WHATEVER THE INPUT: true; the input reads as it did. -/
def upstreamChoosesSpec : ChangeSpec := { name := "upstreamChooses", fn := fun _ => fun
  | [d1, d2] => { results := [.lit (.bool true)], args := [d1, d2] }
  | _ => none }
def upstreamChoosesRow : OpenClaim := { program := "ytgkpinecggoilaa", sum := "be500636e7f9b7cf94428e95e7a4932a9c2ce25eb1795f10580732b0647d8981", func := "ddi/ddilaw32.UpstreamChooses", spec := "upstreamChooses", inPlace := ["slices.overlaps[ddi/upstream.Peer]"], unfollowed := true, recurses := true, apart := false }
def UpstreamChoosesSaid : Prop := upstreamChoosesRow.holds Try.pinned (OpenSpec.ofChange upstreamChoosesSpec)

/-- ITS FALSE NEIGHBOUR: 'it returns false'. Refute it at one input. -/
def upstreamChoosesWrong : ChangeSpec := { name := "upstreamChooses", fn := fun _ => fun
  | [d1, d2] => { results := [.lit (.bool false)], args := [d1, d2] }
  | _ => none }
def UpstreamChoosesWrongFalsely : Prop := upstreamChoosesRow.holds Try.pinned (OpenSpec.ofChange upstreamChoosesWrong)

/-- 'ddilaw32.UpstreamFails': WHATEVER THE INPUT: true; the input reads as it did. -/
def upstreamFailsSpec : ChangeSpec := { name := "upstreamFails", fn := fun _ => fun
  | [d1, d2, d3] => { results := [.lit (.bool true)], args := [d1, d2, d3] }
  | _ => none }
def upstreamFailsRow : OpenClaim := { program := "ytgkpinecggoilaa", sum := "be500636e7f9b7cf94428e95e7a4932a9c2ce25eb1795f10580732b0647d8981", func := "ddi/ddilaw32.UpstreamFails", spec := "upstreamFails", inPlace := ["slices.overlaps[ddi/upstream.Peer]"], unfollowed := true, recurses := true, apart := false }
def UpstreamFailsSaid : Prop := upstreamFailsRow.holds Try.pinned (OpenSpec.ofChange upstreamFailsSpec)

/-- ITS FALSE NEIGHBOUR: 'it returns false'. Refute it at one input. -/
def upstreamFailsWrong : ChangeSpec := { name := "upstreamFails", fn := fun _ => fun
  | [d1, d2, d3] => { results := [.lit (.bool false)], args := [d1, d2, d3] }
  | _ => none }
def UpstreamFailsWrongFalsely : Prop := upstreamFailsRow.holds Try.pinned (OpenSpec.ofChange upstreamFailsWrong)

/- THE SECOND FORM. 'bulk': how many values and letters a reading holds, each counted each time it is reached (what is shared counts as often as it is met; a slice's spare places count too). A statement '..UptoSaid' is the law's where the arguments, and the package variables that the reading takes, are together of bulk at most 1048576: NARROWER than '..Said'. Prove '..Said' where nothing that the law and all that it calls make is longer than what came in: it says more and counts as full. Else prove '..UptoSaid'. A law counts once. -/
mutual
def uptoBulk {H : Type} : DataW H → Nat
  | .lit (.string bytes) => bytes.length + 1
  | .lit _ => 1
  | .nil => 1
  | .ptr d => uptoBulk d + 1
  | .slice elems spare => uptoBulkAll elems + uptoBulkAll spare + 1
  | .agg parts => uptoBulkAll parts + 1
  | .iface _ d => uptoBulk d + 1
  | .map entries => uptoBulkEntries entries + 1
  | .held _ => 1
def uptoBulkAll {H : Type} : List (DataW H) → Nat
  | [] => 0
  | d :: r => uptoBulk d + uptoBulkAll r
def uptoBulkEntries {H : Type} : List (Lit × DataW H) → Nat
  | [] => 0
  | x :: r => uptoBulkEntry x + uptoBulkEntries r
def uptoBulkEntry {H : Type} : Lit × DataW H → Nat
  | (.string bytes, d) => bytes.length + uptoBulk d + 1
  | (_, d) => uptoBulk d + 1
 end
def uptoSmall : (H : Type) → List (DataW H) → Bool := fun _ ds => decide (uptoBulkAll ds ≤ 1048576)
def OpenSpec.upto (s : _root_.Go.ChangeSpec) : _root_.Go.OpenSpec := { _root_.Go.OpenSpec.ofChange s with cond := some uptoSmall }

/-- 'ddilaw32.UpstreamStores', WHERE WHAT IT READS IS OF BULK AT MOST 1048576: true; the input reads as it did. -/
def upstreamStoresUptoRow : OpenClaim := { program := "ytgkpinecggoilaa", sum := "be500636e7f9b7cf94428e95e7a4932a9c2ce25eb1795f10580732b0647d8981", func := "ddi/ddilaw32.UpstreamStores", spec := "upstreamStores", inPlace := ["slices.overlaps[ddi/upstream.Peer]"], unfollowed := true, recurses := true, apart := false, narrowed := true }
def UpstreamStoresUptoSaid : Prop := upstreamStoresUptoRow.holds Try.pinned (OpenSpec.upto upstreamStoresSpec)

/-- 'ddilaw32.UpstreamPicks', WHERE WHAT IT READS IS OF BULK AT MOST 1048576: true; the input reads as it did. -/
def upstreamPicksUptoRow : OpenClaim := { program := "ytgkpinecggoilaa", sum := "be500636e7f9b7cf94428e95e7a4932a9c2ce25eb1795f10580732b0647d8981", func := "ddi/ddilaw32.UpstreamPicks", spec := "upstreamPicks", inPlace := ["slices.overlaps[ddi/upstream.Peer]"], unfollowed := true, recurses := true, apart := false, narrowed := true }
def UpstreamPicksUptoSaid : Prop := upstreamPicksUptoRow.holds Try.pinned (OpenSpec.upto upstreamPicksSpec)

/-- 'ddilaw32.UpstreamWaits', WHERE WHAT IT READS IS OF BULK AT MOST 1048576: true; the input reads as it did. -/
def upstreamWaitsUptoRow : OpenClaim := { program := "ytgkpinecggoilaa", sum := "be500636e7f9b7cf94428e95e7a4932a9c2ce25eb1795f10580732b0647d8981", func := "ddi/ddilaw32.UpstreamWaits", spec := "upstreamWaits", inPlace := ["slices.overlaps[ddi/upstream.Peer]"], unfollowed := true, recurses := true, apart := false, narrowed := true }
def UpstreamWaitsUptoSaid : Prop := upstreamWaitsUptoRow.holds Try.pinned (OpenSpec.upto upstreamWaitsSpec)

/-- 'ddilaw32.UpstreamKnows', WHERE WHAT IT READS IS OF BULK AT MOST 1048576: true; the input reads as it did. -/
def upstreamKnowsUptoRow : OpenClaim := { program := "ytgkpinecggoilaa", sum := "be500636e7f9b7cf94428e95e7a4932a9c2ce25eb1795f10580732b0647d8981", func := "ddi/ddilaw32.UpstreamKnows", spec := "upstreamKnows", inPlace := ["slices.overlaps[ddi/upstream.Peer]"], unfollowed := true, recurses := true, apart := false, narrowed := true }
def UpstreamKnowsUptoSaid : Prop := upstreamKnowsUptoRow.holds Try.pinned (OpenSpec.upto upstreamKnowsSpec)

/-- 'ddilaw32.UpstreamChooses', WHERE WHAT IT READS IS OF BULK AT MOST 1048576: true; the input reads as it did. -/
def upstreamChoosesUptoRow : OpenClaim := { program := "ytgkpinecggoilaa", sum := "be500636e7f9b7cf94428e95e7a4932a9c2ce25eb1795f10580732b0647d8981", func := "ddi/ddilaw32.UpstreamChooses", spec := "upstreamChooses", inPlace := ["slices.overlaps[ddi/upstream.Peer]"], unfollowed := true, recurses := true, apart := false, narrowed := true }
def UpstreamChoosesUptoSaid : Prop := upstreamChoosesUptoRow.holds Try.pinned (OpenSpec.upto upstreamChoosesSpec)

/-- 'ddilaw32.UpstreamFails', WHERE WHAT IT READS IS OF BULK AT MOST 1048576: true; the input reads as it did. -/
def upstreamFailsUptoRow : OpenClaim := { program := "ytgkpinecggoilaa", sum := "be500636e7f9b7cf94428e95e7a4932a9c2ce25eb1795f10580732b0647d8981", func := "ddi/ddilaw32.UpstreamFails", spec := "upstreamFails", inPlace := ["slices.overlaps[ddi/upstream.Peer]"], unfollowed := true, recurses := true, apart := false, narrowed := true }
def UpstreamFailsUptoSaid : Prop := upstreamFailsUptoRow.holds Try.pinned (OpenSpec.upto upstreamFailsSpec)

end Rows
end Go.Proofs.Ytgkpinecggoilaa
