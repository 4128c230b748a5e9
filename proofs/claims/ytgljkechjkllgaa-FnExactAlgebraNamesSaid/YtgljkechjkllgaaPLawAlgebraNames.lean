/- The law of AlgebraNames tells true: all of it is a reckoning. -/
import Derived.Test.YtgljkechjkllgaaQ4
namespace Go.Proofs.Ytgljkechjkllgaa.G
open Go Go.Sx Go.Proofs
set_option maxRecDepth 100000 in
theorem plain_FnExactAlgebraNames : laws_FnExactAlgebraNames.f = some true := by decide +kernel
end Go.Proofs.Ytgljkechjkllgaa.G
