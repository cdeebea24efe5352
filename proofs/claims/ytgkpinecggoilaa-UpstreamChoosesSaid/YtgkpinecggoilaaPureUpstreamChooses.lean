/- Behind any answers and failures, one of the servers is chosen that were not tried, if there is one; one that is avoided only if all of them are; and behind an answer of a server it is not avoided: the pure statement of UpstreamChooses (no condition but the sizes that every argument has). -/
import Derived.Test.YtgkpinecggoilaaMm
namespace Go.Proofs.Ytgkpinecggoilaa.Pure
theorem UpstreamChooses : QA.ddilaw32_UpstreamChooses.Pure := Ma.upstreamChooses
end Go.Proofs.Ytgkpinecggoilaa.Pure
