/- A table is in order just when the document says so: the pure statement of LeaseChecks (no condition but the sizes that every argument has). -/
import Derived.Test.YtonpcojdpfmbkaaDoorMc
namespace Go.Proofs.YtonpcojdpfmbkaaDoor.Pure
theorem LeaseChecks : QA.ddilaw38_LeaseChecks.Pure := Ma.leaseChecks
end Go.Proofs.YtonpcojdpfmbkaaDoor.Pure
