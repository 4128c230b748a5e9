/- The law of IsOriented tells true. -/
import Derived.Test.YtnppkcemnjkboaaPOriented
import Derived.Test.YtnppkcemnjkboaaPMarkDeep
import Derived.Test.YtnppkcemnjkboaaQ3
namespace Go.Proofs.Ytnppkcemnjkboaa.G
open Go Go.Sx Go.Proofs
theorem or_same {s : List (List Int)} (h1 : s.length ≤ 1048576) : ∃ r, spec_IsOriented.f s = some r ∧ impl_IsOriented.f s = some r := by
  unfold spec_IsOriented.f impl_IsOriented.f
  rw [specSurf h1, implSurf h1]
  cases hb : surfB s with
  | false => exact ⟨_, rfl, rfl⟩
  | true =>
    have h := surf_of hb
    simp only [Option.bind_some, Bool.not_true, cond_false]
    rw [specOr h, implOr h]
    exact ⟨_, rfl, rfl⟩
theorem plain_FnExactIsOriented (s : List (List Int)) (_w : ∀ r ∈ s, ∀ x ∈ r, IntKind.i64.has x) (z : ∀ r ∈ s, r.length ≤ 9223372036854775807) (y : s.length ≤ 9223372036854775807) : laws_FnExactIsOriented.f s = some true := by
  unfold laws_FnExactIsOriented.f
  obtain ⟨q, hq, h⟩ := szSS s 1048576 (by omega) y z
  have hq' : laws_szInt64SS.f s 1048576 = some q := hq
  rw [hq', Option.bind_some]
  rcases h with h | ⟨h0, h1, h2⟩
  · rw [decide_eq_true h]; rfl
  · rw [decide_eq_false (by omega), cond_false, toSS s h1 h2]
    obtain ⟨r, e1, e2⟩ := or_same h1
    simp only [Option.bind_some, e1, e2, eqSS_refl s (by omega) (fun r hr => by have := h2 r hr; omega)]
    simp
end Go.Proofs.Ytnppkcemnjkboaa.G
