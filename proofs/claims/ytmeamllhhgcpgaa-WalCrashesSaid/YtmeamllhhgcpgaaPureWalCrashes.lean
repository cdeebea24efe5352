/- Behind any calls of Append on an empty disk, with a write that fails at any time, and a crash at which any part is kept: the pure statement of WalCrashes (no condition but the sizes that every argument has). -/
import Derived.Test.YtmeamllhhgcpgaaMi
namespace Go.Proofs.Ytmeamllhhgcpgaa.Pure
theorem WalCrashes : QA.ddilaw16_WalCrashes.Pure := Ma.walCrashes
end Go.Proofs.Ytmeamllhhgcpgaa.Pure
