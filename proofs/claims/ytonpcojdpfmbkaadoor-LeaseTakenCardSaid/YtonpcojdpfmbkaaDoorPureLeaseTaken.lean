/- Taken and Free agree, and Offer answers as the document says: the pure statement of LeaseTaken (no condition but the sizes that every argument has). -/
import Derived.Test.YtonpcojdpfmbkaaDoorMf
namespace Go.Proofs.YtonpcojdpfmbkaaDoor.Pure
theorem LeaseTaken : QA.ddilaw38_LeaseTaken.Pure := Ma.leaseTaken
end Go.Proofs.YtonpcojdpfmbkaaDoor.Pure
