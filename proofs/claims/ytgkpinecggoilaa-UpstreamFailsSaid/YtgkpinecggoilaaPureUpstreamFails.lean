/- Each failure in a row doubles how long a server is avoided, and an answer ends that: the pure statement of UpstreamFails (no condition but the sizes that every argument has). -/
import Derived.Test.YtgkpinecggoilaaMh
namespace Go.Proofs.Ytgkpinecggoilaa.Pure
theorem UpstreamFails : QA.ddilaw32_UpstreamFails.Pure := Ma.upstreamFails
end Go.Proofs.Ytgkpinecggoilaa.Pure
