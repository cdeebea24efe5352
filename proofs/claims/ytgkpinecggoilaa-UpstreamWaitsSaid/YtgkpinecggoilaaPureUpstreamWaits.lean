/- How long one waits for any server is as the document says: the pure statement of UpstreamWaits (no condition but the sizes that every argument has). -/
import Derived.Test.YtgkpinecggoilaaMg
namespace Go.Proofs.Ytgkpinecggoilaa.Pure
theorem UpstreamWaits : QA.ddilaw32_UpstreamWaits.Pure := Ma.upstreamWaits
end Go.Proofs.Ytgkpinecggoilaa.Pure
