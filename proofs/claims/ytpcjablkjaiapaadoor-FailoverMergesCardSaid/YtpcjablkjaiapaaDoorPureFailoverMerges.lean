/- FailoverMerges: the pure statement of FailoverMerges (no condition but the sizes that every argument has). -/
import Derived.Test.YtpcjablkjaiapaaDoorMg
namespace Go.Proofs.YtpcjablkjaiapaaDoor.Pure
theorem FailoverMerges : QA.ddilaw44_FailoverMerges.Pure := Ma.failoverMerges
end Go.Proofs.YtpcjablkjaiapaaDoor.Pure
