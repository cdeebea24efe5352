/- The server that is chosen among any ones, by any list of peers, is as the document says: the pure statement of UpstreamPicks (no condition but the sizes that every argument has). -/
import Derived.Test.YtgkpinecggoilaaMj
namespace Go.Proofs.Ytgkpinecggoilaa.Pure
theorem UpstreamPicks : QA.ddilaw32_UpstreamPicks.Pure := Ma.upstreamPicks
end Go.Proofs.Ytgkpinecggoilaa.Pure
