/- FailoverShares: the pure statement of FailoverShares (no condition but the sizes that every argument has). -/
import Derived.Test.YtpcjablkjaiapaaMe
namespace Go.Proofs.Ytpcjablkjaiapaa.Pure
theorem FailoverShares : QA.ddilaw44_FailoverShares.Pure := Mz.failoverShares
end Go.Proofs.Ytpcjablkjaiapaa.Pure
