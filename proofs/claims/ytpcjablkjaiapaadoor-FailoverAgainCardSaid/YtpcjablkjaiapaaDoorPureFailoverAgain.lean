/- FailoverAgain: the pure statement of FailoverAgain (no condition but the sizes that every argument has). -/
import Derived.Test.YtpcjablkjaiapaaDoorMh
namespace Go.Proofs.YtpcjablkjaiapaaDoor.Pure
theorem FailoverAgain : QA.ddilaw44_FailoverAgain.Pure := Ma.failoverAgain
end Go.Proofs.YtpcjablkjaiapaaDoor.Pure
