/- The law of IsGroup tells true. -/
import Derived.Test.YtgljkechjkllgaaPIsGroup
import Derived.Test.YtgljkechjkllgaaPCopy
import Derived.Test.YtgljkechjkllgaaQ6
namespace Go.Proofs.Ytgljkechjkllgaa.G
open Go Go.Sx Go.Proofs
theorem plain_FnExactIsGroup (g : Int) (t : Nat → UInt8) (_w : IntKind.i64.has g) : laws_FnExactIsGroup.f g t = some true := by
  obtain ⟨b, h1, h2, _⟩ := isGroup_same g (cut0 36 t)
  unfold laws_FnExactIsGroup.f spec_IsGroup.f
  simp only [toGroup_eq, Option.bind_some, h1, h2]
  simp
end Go.Proofs.Ytgljkechjkllgaa.G
