/- each probe is in one of the results of Finish, in order, by its time: the pure statement of ProbeParts (no condition but the sizes that every argument has). -/
import Derived.Test.YtioopjondjfchaaMe
namespace Go.Proofs.Ytioopjondjfchaa.Pure
theorem ProbeParts : QA.ddilaw40_ProbeParts.Pure := Ma.probeParts
end Go.Proofs.Ytioopjondjfchaa.Pure
