/- Payloads that are framed one behind the other are read, whatever stands behind them; cut anywhere, those that are whole are read: the pure statement of WalBack (no condition but the sizes that every argument has). -/
import Derived.Test.YtmeamllhhgcpgaaMj
namespace Go.Proofs.Ytmeamllhhgcpgaa.Pure
theorem WalBack : QA.ddilaw16_WalBack.Pure := Ma.walBack
end Go.Proofs.Ytmeamllhhgcpgaa.Pure
