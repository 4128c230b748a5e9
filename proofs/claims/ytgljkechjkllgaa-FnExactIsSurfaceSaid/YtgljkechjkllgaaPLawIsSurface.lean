/- The law of IsSurface tells true. -/
import Derived.Test.YtgljkechjkllgaaPSurface
import Derived.Test.YtgljkechjkllgaaPMarkDeep
import Derived.Test.YtgljkechjkllgaaQ10
namespace Go.Proofs.Ytgljkechjkllgaa.G
open Go Go.Sx Go.Proofs
theorem plain_FnExactIsSurface (s : List (List Int)) (_w : ∀ r ∈ s, ∀ x ∈ r, IntKind.i64.has x) (z : ∀ r ∈ s, r.length ≤ 9223372036854775807) (y : s.length ≤ 9223372036854775807) : laws_FnExactIsSurface.f s = some true := by
  unfold laws_FnExactIsSurface.f
  obtain ⟨q, hq, h⟩ := szSS s 1048576 (by omega) y z
  have hq' : laws_szInt64SS.f s 1048576 = some q := hq
  rw [hq', Option.bind_some]
  rcases h with h | ⟨h0, h1, h2⟩
  · rw [decide_eq_true h]; rfl
  · rw [decide_eq_false (by omega), cond_false, toSS s h1 h2]
    unfold spec_IsSurface.f
    simp only [Option.bind_some]
    rw [specSurf h1, implSurf h1]
    simp only [Option.bind_some, eqSS_refl s (by omega) (fun r hr => by have := h2 r hr; omega)]
    simp
end Go.Proofs.Ytgljkechjkllgaa.G
