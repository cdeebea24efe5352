/- A disk takes as many bytes as it has room for, and a disk written, synced, crashed and opened in any order is as the document says: the pure statements of WalFull and WalPlays (no condition but the sizes that every argument has). -/
import Derived.Test.YtmeamllhhgcpgaaMg
namespace Go.Proofs.Ytmeamllhhgcpgaa.Pure
theorem WalPlays : QA.ddilaw16_WalPlays.Pure := Ma.walPlays
end Go.Proofs.Ytmeamllhhgcpgaa.Pure
