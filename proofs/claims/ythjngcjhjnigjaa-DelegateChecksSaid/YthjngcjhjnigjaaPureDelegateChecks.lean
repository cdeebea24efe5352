/- whether any grants of any pool may be, how many prefixes are free, and whose an address is, are as the document says: the pure statement of DelegateChecks (no condition but the sizes that every argument has). -/
import Derived.Test.YthjngcjhjnigjaaMc
namespace Go.Proofs.Ythjngcjhjnigjaa.Pure
theorem DelegateChecks : QA.ddilaw43_DelegateChecks.Pure := Ma.delegateChecks
end Go.Proofs.Ythjngcjhjnigjaa.Pure
