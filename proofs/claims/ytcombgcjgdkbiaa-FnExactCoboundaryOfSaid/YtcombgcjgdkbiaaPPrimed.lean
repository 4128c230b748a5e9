/- The code of a prime and a group, told by both. -/
import Derived.Test.YtcombgcjgdkbiaaPIsGroup
import Derived.Test.YtcombgcjgdkbiaaPInverse
import Derived.Test.YtcombgcjgdkbiaaQ97
import Derived.Test.YtcombgcjgdkbiaaQ95
namespace Go.Proofs.Ytcombgcjgdkbiaa.G
open Go Go.Sx Go.Proofs
theorem primed_same (p g : Int) (t : Nat → UInt8) : ∃ c : Int, spec_l06Code.f p g t = some c ∧ impl_primed.f p g t = some c ∧ (c = 0 ∨ c = 1 ∨ c = 2) ∧ (c = 0 → ∃ n q : Nat, g = n ∧ 1 ≤ n ∧ n ≤ 6 ∧ groupB n t = true ∧ p = q ∧ primeN q = true ∧ 2 ≤ q ∧ q ≤ 13) := by
  obtain ⟨b, h1, h2, h3⟩ := isGroup_same g t
  unfold spec_l06Code.f impl_primed.f
  rw [h1, h2, specPrime, implPrime]
  cases b with
  | false => exact ⟨1, rfl, rfl, by omega, by omega⟩
  | true =>
    cases hp : primeB p with
    | false => exact ⟨2, rfl, rfl, by omega, by omega⟩
    | true =>
      obtain ⟨n, e1, e2, e3, e4⟩ := h3 rfl
      obtain ⟨q, f1, f2, f3, f4⟩ := prime_nat hp
      exact ⟨0, rfl, rfl, by omega, fun _ => ⟨n, q, e1, e2, e3, e4, f1, f2, f3, f4⟩⟩
end Go.Proofs.Ytcombgcjgdkbiaa.G
