/- RelayBack holds: what the program's relay functions do is what the document says: the pure statement of RelayBack (no condition but the sizes that every argument has). -/
import Derived.Test.YtngfffoeaghhhaaDoorMd
namespace Go.Proofs.YtngfffoeaghhhaaDoor.Pure
theorem RelayBack : QA.ddilaw39_RelayBack.Pure := Ma.relayBack
end Go.Proofs.YtngfffoeaghhhaaDoor.Pure
