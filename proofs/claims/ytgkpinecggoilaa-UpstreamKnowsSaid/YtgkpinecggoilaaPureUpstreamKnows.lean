/- Behind any answers and failures the peers rise by their addresses, each server is known once, and by what has happened to it alone: the pure statement of UpstreamKnows (no condition but the sizes that every argument has). -/
import Derived.Test.YtgkpinecggoilaaMl
namespace Go.Proofs.Ytgkpinecggoilaa.Pure
theorem UpstreamKnows : QA.ddilaw32_UpstreamKnows.Pure := Ma.upstreamKnows
end Go.Proofs.Ytgkpinecggoilaa.Pure
