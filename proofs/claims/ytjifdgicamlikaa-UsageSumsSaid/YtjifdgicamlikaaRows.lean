/-
  No cell of these rows narrows 'for every input' (looked for: loops, veiled, ifaces, maps, wideKeys, modest, calm, conditions, laid).
  DERIVED. THE GIVEN ROWS OF THIS SEAT. 5 by the template 'for every input the law returns true; each argument reads behind the call as it read before'; 0 by the template 'total and deterministic' (their statements: YtjifdgicamlikaaTotals.lean).
  GIVEN WITH THE SEED: the statements are not yours to turn. If you find one false, say at which input.
  Laid BY PROGRAM, IN A SANDBOX (cutbox-rows.mjs): the forced cells as the released guide's own fill.sh prints them over the translation 68b4359bc901ac9b… (all of the seat's roots in one cut). By AI agents, Wed Nov 11 2026. No macro, syntax, notation, axiom, sorry.
-/
import Derived.Test.YtjifdgicamlikaaChecked
import GoSem.Claim
import GoSem.ClaimJoined
import GoSem.ClaimMapViews
import Derived.JoinedTies
import Derived.KernelRfl
namespace Go.Proofs.Ytjifdgicamlikaa
/- THE CELL 'sum', in the pinned program and in every row, IS THE sha256 OF THE DUMP (.gsa) THAT YtjifdgicamlikaaProg.lean LOADS. Nothing in Lean hashes anything: it is a label: what it is worth is what the hold of that sum in a sandbox is worth. -/
noncomputable def Try.pinned : Pinned := { name := "ytjifdgicamlikaa", sum := "68b4359bc901ac9b707a347bf1c89d5c06355c498e0129bf855f14c3b3c972b4", checked := Try.checked }
namespace Rows
def none {H : Type} : Left H := { results := [], args := [] }

/-- 'ddilaw48.UsageReports': WHATEVER THE INPUT: true; the input reads as it did. -/
def usageReportsSpec : ChangeSpec := { name := "usageReports", fn := fun _ => fun
  | [d1, d2, d3] => { results := [.lit (.bool true)], args := [d1, d2, d3] }
  | _ => none }
def usageReportsRow : OpenClaim := { program := "ytjifdgicamlikaa", sum := "68b4359bc901ac9b707a347bf1c89d5c06355c498e0129bf855f14c3b3c972b4", func := "ddi/ddilaw48.UsageReports", spec := "usageReports", unfollowed := true, recurses := true, plainKeys := false, apart := false }
def UsageReportsSaid : Prop := usageReportsRow.holds Try.pinned (OpenSpec.ofChange usageReportsSpec)

/-- ITS FALSE NEIGHBOUR: 'it returns false'. Refute it at one input. -/
def usageReportsWrong : ChangeSpec := { name := "usageReports", fn := fun _ => fun
  | [d1, d2, d3] => { results := [.lit (.bool false)], args := [d1, d2, d3] }
  | _ => none }
def UsageReportsWrongFalsely : Prop := usageReportsRow.holds Try.pinned (OpenSpec.ofChange usageReportsWrong)

/-- 'ddilaw48.UsageOver': WHATEVER THE INPUT: true; the input reads as it did. -/
def usageOverSpec : ChangeSpec := { name := "usageOver", fn := fun _ => fun
  | [d1, d2] => { results := [.lit (.bool true)], args := [d1, d2] }
  | _ => none }
def usageOverRow : OpenClaim := { program := "ytjifdgicamlikaa", sum := "68b4359bc901ac9b707a347bf1c89d5c06355c498e0129bf855f14c3b3c972b4", func := "ddi/ddilaw48.UsageOver", spec := "usageOver", unfollowed := true, recurses := true, plainKeys := false, apart := false }
def UsageOverSaid : Prop := usageOverRow.holds Try.pinned (OpenSpec.ofChange usageOverSpec)

/-- ITS FALSE NEIGHBOUR: 'it returns false'. Refute it at one input. -/
def usageOverWrong : ChangeSpec := { name := "usageOver", fn := fun _ => fun
  | [d1, d2] => { results := [.lit (.bool false)], args := [d1, d2] }
  | _ => none }
def UsageOverWrongFalsely : Prop := usageOverRow.holds Try.pinned (OpenSpec.ofChange usageOverWrong)

/-- 'ddilaw48.UsageReclaims': WHATEVER THE INPUT: true; the input reads as it did. -/
def usageReclaimsSpec : ChangeSpec := { name := "usageReclaims", fn := fun _ => fun
  | [d1, d2] => { results := [.lit (.bool true)], args := [d1, d2] }
  | _ => none }
def usageReclaimsRow : OpenClaim := { program := "ytjifdgicamlikaa", sum := "68b4359bc901ac9b707a347bf1c89d5c06355c498e0129bf855f14c3b3c972b4", func := "ddi/ddilaw48.UsageReclaims", spec := "usageReclaims", unfollowed := true, recurses := true, plainKeys := false, apart := false }
def UsageReclaimsSaid : Prop := usageReclaimsRow.holds Try.pinned (OpenSpec.ofChange usageReclaimsSpec)

/-- ITS FALSE NEIGHBOUR: 'it returns false'. Refute it at one input. -/
def usageReclaimsWrong : ChangeSpec := { name := "usageReclaims", fn := fun _ => fun
  | [d1, d2] => { results := [.lit (.bool false)], args := [d1, d2] }
  | _ => none }
def UsageReclaimsWrongFalsely : Prop := usageReclaimsRow.holds Try.pinned (OpenSpec.ofChange usageReclaimsWrong)

/-- 'ddilaw48.UsageDone': WHATEVER THE INPUT: true; the input reads as it did. -/
def usageDoneSpec : ChangeSpec := { name := "usageDone", fn := fun _ => fun
  | [d1, d2, d3] => { results := [.lit (.bool true)], args := [d1, d2, d3] }
  | _ => none }
def usageDoneRow : OpenClaim := { program := "ytjifdgicamlikaa", sum := "68b4359bc901ac9b707a347bf1c89d5c06355c498e0129bf855f14c3b3c972b4", func := "ddi/ddilaw48.UsageDone", spec := "usageDone", unfollowed := true, recurses := true, plainKeys := false, apart := false }
def UsageDoneSaid : Prop := usageDoneRow.holds Try.pinned (OpenSpec.ofChange usageDoneSpec)

/-- ITS FALSE NEIGHBOUR: 'it returns false'. Refute it at one input. -/
def usageDoneWrong : ChangeSpec := { name := "usageDone", fn := fun _ => fun
  | [d1, d2, d3] => { results := [.lit (.bool false)], args := [d1, d2, d3] }
  | _ => none }
def UsageDoneWrongFalsely : Prop := usageDoneRow.holds Try.pinned (OpenSpec.ofChange usageDoneWrong)

/-- 'ddilaw48.UsageSums': WHATEVER THE INPUT: true; the input reads as it did. -/
def usageSumsSpec : ChangeSpec := { name := "usageSums", fn := fun _ => fun
  | [d1, d2] => { results := [.lit (.bool true)], args := [d1, d2] }
  | _ => none }
def usageSumsRow : OpenClaim := { program := "ytjifdgicamlikaa", sum := "68b4359bc901ac9b707a347bf1c89d5c06355c498e0129bf855f14c3b3c972b4", func := "ddi/ddilaw48.UsageSums", spec := "usageSums", unfollowed := true, recurses := true, plainKeys := false, apart := false }
def UsageSumsSaid : Prop := usageSumsRow.holds Try.pinned (OpenSpec.ofChange usageSumsSpec)

/-- ITS FALSE NEIGHBOUR: 'it returns false'. Refute it at one input. -/
def usageSumsWrong : ChangeSpec := { name := "usageSums", fn := fun _ => fun
  | [d1, d2] => { results := [.lit (.bool false)], args := [d1, d2] }
  | _ => none }
def UsageSumsWrongFalsely : Prop := usageSumsRow.holds Try.pinned (OpenSpec.ofChange usageSumsWrong)

/- THE SECOND FORM. 'bulk': how many values and letters a reading holds, each counted each time it is reached (what is shared counts as often as it is met; a slice's spare places count too). A statement '..UptoSaid' is the law's where the arguments, and the package variables that the reading takes, are together of bulk at most 1048576: NARROWER than '..Said'. Prove '..Said' where nothing that the law and all that it calls make is longer than what came in: it says more and counts as full. Else prove '..UptoSaid'. A law counts once. -/
mutual
def uptoBulk {H : Type} : DataW H → Nat
  | .lit (.string bytes) => bytes.length + 1
  | .lit _ => 1
  | .nil => 1
  | .ptr d => uptoBulk d + 1
  | .slice elems spare => uptoBulkAll elems + uptoBulkAll spare + 1
  | .agg parts => uptoBulkAll parts + 1
  | .iface _ d => uptoBulk d + 1
  | .map entries => uptoBulkEntries entries + 1
  | .held _ => 1
def uptoBulkAll {H : Type} : List (DataW H) → Nat
  | [] => 0
  | d :: r => uptoBulk d + uptoBulkAll r
def uptoBulkEntries {H : Type} : List (Lit × DataW H) → Nat
  | [] => 0
  | x :: r => uptoBulkEntry x + uptoBulkEntries r
def uptoBulkEntry {H : Type} : Lit × DataW H → Nat
  | (.string bytes, d) => bytes.length + uptoBulk d + 1
  | (_, d) => uptoBulk d + 1
 end
def uptoSmall : (H : Type) → List (DataW H) → Bool := fun _ ds => decide (uptoBulkAll ds ≤ 1048576)
def OpenSpec.upto (s : _root_.Go.ChangeSpec) : _root_.Go.OpenSpec := { _root_.Go.OpenSpec.ofChange s with cond := some uptoSmall }

/-- 'ddilaw48.UsageReports', WHERE WHAT IT READS IS OF BULK AT MOST 1048576: true; the input reads as it did. -/
def usageReportsUptoRow : OpenClaim := { program := "ytjifdgicamlikaa", sum := "68b4359bc901ac9b707a347bf1c89d5c06355c498e0129bf855f14c3b3c972b4", func := "ddi/ddilaw48.UsageReports", spec := "usageReports", unfollowed := true, recurses := true, plainKeys := false, apart := false, narrowed := true }
def UsageReportsUptoSaid : Prop := usageReportsUptoRow.holds Try.pinned (OpenSpec.upto usageReportsSpec)

/-- 'ddilaw48.UsageOver', WHERE WHAT IT READS IS OF BULK AT MOST 1048576: true; the input reads as it did. -/
def usageOverUptoRow : OpenClaim := { program := "ytjifdgicamlikaa", sum := "68b4359bc901ac9b707a347bf1c89d5c06355c498e0129bf855f14c3b3c972b4", func := "ddi/ddilaw48.UsageOver", spec := "usageOver", unfollowed := true, recurses := true, plainKeys := false, apart := false, narrowed := true }
def UsageOverUptoSaid : Prop := usageOverUptoRow.holds Try.pinned (OpenSpec.upto usageOverSpec)

/-- 'ddilaw48.UsageReclaims', WHERE WHAT IT READS IS OF BULK AT MOST 1048576: true; the input reads as it did. -/
def usageReclaimsUptoRow : OpenClaim := { program := "ytjifdgicamlikaa", sum := "68b4359bc901ac9b707a347bf1c89d5c06355c498e0129bf855f14c3b3c972b4", func := "ddi/ddilaw48.UsageReclaims", spec := "usageReclaims", unfollowed := true, recurses := true, plainKeys := false, apart := false, narrowed := true }
def UsageReclaimsUptoSaid : Prop := usageReclaimsUptoRow.holds Try.pinned (OpenSpec.upto usageReclaimsSpec)

/-- 'ddilaw48.UsageDone', WHERE WHAT IT READS IS OF BULK AT MOST 1048576: true; the input reads as it did. -/
def usageDoneUptoRow : OpenClaim := { program := "ytjifdgicamlikaa", sum := "68b4359bc901ac9b707a347bf1c89d5c06355c498e0129bf855f14c3b3c972b4", func := "ddi/ddilaw48.UsageDone", spec := "usageDone", unfollowed := true, recurses := true, plainKeys := false, apart := false, narrowed := true }
def UsageDoneUptoSaid : Prop := usageDoneUptoRow.holds Try.pinned (OpenSpec.upto usageDoneSpec)

/-- 'ddilaw48.UsageSums', WHERE WHAT IT READS IS OF BULK AT MOST 1048576: true; the input reads as it did. -/
def usageSumsUptoRow : OpenClaim := { program := "ytjifdgicamlikaa", sum := "68b4359bc901ac9b707a347bf1c89d5c06355c498e0129bf855f14c3b3c972b4", func := "ddi/ddilaw48.UsageSums", spec := "usageSums", unfollowed := true, recurses := true, plainKeys := false, apart := false, narrowed := true }
def UsageSumsUptoSaid : Prop := usageSumsUptoRow.holds Try.pinned (OpenSpec.upto usageSumsSpec)

end Rows
end Go.Proofs.Ytjifdgicamlikaa
