/- The checksum and the frame of any text are as the document says: the pure statement of WalSums (no condition but the sizes that every argument has). -/
import Derived.Test.YtmeamllhhgcpgaaMb
namespace Go.Proofs.Ytmeamllhhgcpgaa.Pure
theorem WalSums : QA.ddilaw16_WalSums.Pure := Ma.walSums
end Go.Proofs.Ytmeamllhhgcpgaa.Pure
