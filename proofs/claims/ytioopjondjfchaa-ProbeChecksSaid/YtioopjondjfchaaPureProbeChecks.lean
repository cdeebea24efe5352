/- any list of probes is checked as the document says: the pure statement of ProbeChecks (no condition but the sizes that every argument has). -/
import Derived.Test.YtioopjondjfchaaMd
namespace Go.Proofs.Ytioopjondjfchaa.Pure
theorem ProbeChecks : QA.ddilaw40_ProbeChecks.Pure := Ma.probeChecks
end Go.Proofs.Ytioopjondjfchaa.Pure
