/- The law of IsTensor tells true. -/
import Derived.Test.YtgljkechjkllgaaPTensor
import Derived.Test.YtgljkechjkllgaaPMarkInts
import Derived.Test.YtgljkechjkllgaaPCopyInts
import Derived.Test.YtgljkechjkllgaaQ12
namespace Go.Proofs.Ytgljkechjkllgaa.G
open Go Go.Sx Go.Proofs
theorem szT (p n i o : Int) (l : List Int) (h : l.length ≤ 9223372036854775807) : (∃ q, laws_szTensor.f p n i o l 1048576 = some q ∧ q < 0) ∨ (∃ q, laws_szTensor.f p n i o l 1048576 = some q ∧ 0 ≤ q ∧ l.length ≤ 1048576) := by
  unfold laws_szTensor.f
  rcases szS l 1048576 (by omega) h with ⟨h1, h2⟩ | ⟨h1, h2⟩
  · have h1' : laws_szInt64S.f l 1048576 = some (-1) := h1
    exact .inl ⟨-1, by rw [h1']; rfl, by omega⟩
  · have h1' : laws_szInt64S.f l 1048576 = some ((1048576 - l.length : Nat) : Int) := h1
    refine .inr ⟨((1048576 - l.length : Nat) : Int), ?_, by omega, h2⟩
    rw [h1', Option.bind_some, decide_eq_false (by omega)]; rfl
theorem plain_FnExactIsTensor (p n i o : Int) (l : List Int) (wp : IntKind.i64.has p) (_wn : IntKind.i64.has n) (_wi : IntKind.i64.has i) (_wo : IntKind.i64.has o) (_wl : ∀ x ∈ l, IntKind.i64.has x) (hl : l.length ≤ 9223372036854775807) : laws_FnExactIsTensor.f p n i o l = some true := by
  unfold laws_FnExactIsTensor.f
  rcases szT p n i o l hl with ⟨q, h1, h2⟩ | ⟨q, h1, h2, h3⟩
  · rw [h1, Option.bind_some, decide_eq_true h2]; rfl
  · rw [h1, Option.bind_some, decide_eq_false (by omega), cond_false]
    obtain ⟨b, e1, e2⟩ := tensor_same p n i o l h3 wp
    have ht : laws_toTensor.f p n i o l = some (p, n, i, o, l) := by
      unfold laws_toTensor.f
      rw [toS l h3]; rfl
    have hs : spec_IsTensor.f p n i o l = some b := by
      unfold spec_IsTensor.f
      rw [e1]; rfl
    have he : laws_eqTensor.f p n i o l p n i o l = some true := by
      unfold laws_eqTensor.f
      simp only [bne_self_eq_false, cond_false, eqS_refl l (by omega), Option.bind_some, Bool.not_true]
    simp only [ht, hs, e2, he, Option.bind_some, bne_self_eq_false, cond_false, Bool.not_true]
end Go.Proofs.Ytgljkechjkllgaa.G
