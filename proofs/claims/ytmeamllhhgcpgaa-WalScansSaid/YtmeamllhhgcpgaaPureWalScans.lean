/- What is complete at the beginning of any bytes is read as the document says: the pure statement of WalScans (no condition but the sizes that every argument has). -/
import Derived.Test.YtmeamllhhgcpgaaMd
namespace Go.Proofs.Ytmeamllhhgcpgaa.Pure
theorem WalScans : QA.ddilaw16_WalScans.Pure := Ma.walScans
end Go.Proofs.Ytmeamllhhgcpgaa.Pure
