/- New, and each of at most 40 calls from any peer on, return the peer that the document specifies: the pure statement of FailoverPlays (no condition but the sizes that every argument has). -/
import Derived.Test.YtpcjablkjaiapaaMa
namespace Go.Proofs.Ytpcjablkjaiapaa.Pure
theorem FailoverPlays : QA.ddilaw44_FailoverPlays.Pure := Ma.failoverPlays
end Go.Proofs.Ytpcjablkjaiapaa.Pure
