/- FailoverServes: the pure statement of FailoverServes (no condition but the sizes that every argument has). -/
import Derived.Test.YtpcjablkjaiapaaDoorMk
namespace Go.Proofs.YtpcjablkjaiapaaDoor.Pure
theorem FailoverServes : QA.ddilaw44_FailoverServes.Pure := Ma.failoverServes
end Go.Proofs.YtpcjablkjaiapaaDoor.Pure
