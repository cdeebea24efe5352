/- Any list of peers behind an answer, or none, of any server is as the document says: the pure statement of UpstreamStores (no condition but the sizes that every argument has). -/
import Derived.Test.YtgkpinecggoilaaMf
namespace Go.Proofs.Ytgkpinecggoilaa.Pure
theorem UpstreamStores : QA.ddilaw32_UpstreamStores.Pure := Ma.upstreamStores
end Go.Proofs.Ytgkpinecggoilaa.Pure
