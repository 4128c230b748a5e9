/- The law of Constants tells true. -/
import Derived.Test.YtgljkechjkllgaaQ3
namespace Go.Proofs.Ytgljkechjkllgaa.G
open Go Go.Sx Go.Proofs
theorem plain_FnExactConstants : laws_FnExactConstants.f = some true := rfl
end Go.Proofs.Ytgljkechjkllgaa.G
