/- A disk takes as many bytes as it has room for, and not one more: the pure statement of WalFull (no condition). -/
import Derived.Test.YtmeamllhhgcpgaaMh
namespace Go.Proofs.Ytmeamllhhgcpgaa.Pure
theorem WalFull : QA.ddilaw16_WalFull.Pure := Ma.walFull
end Go.Proofs.Ytmeamllhhgcpgaa.Pure
