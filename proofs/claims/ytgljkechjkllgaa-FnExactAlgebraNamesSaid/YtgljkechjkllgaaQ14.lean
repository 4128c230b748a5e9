/- spec.AlgebraNames, as a pure function. -/
import Derived.Test.YtgljkechjkllgaaProg
import Derived.Test.YtgljkechjkllgaaSx9
import Derived.Test.YtgljkechjkllgaaQ51
set_option linter.unusedVariables false
namespace Go.Proofs.Ytgljkechjkllgaa.G
open Go Go.Sx Go.Proofs

def spec_AlgebraNames.f : Option (List Str) := (G.spec_l01Names.f).bind (fun r_1 => some r_1)

def spec_AlgebraNames.R (r : List Str) (v : Value) (L : List Asn) : Prop := ∃ s0 : SV, v = SV.v s0 ∧ L = [row Es 9 s0 r]

set_option maxRecDepth 100000 in
set_option maxHeartbeats 4000000 in
theorem spec_AlgebraNames.calls (w : World) :
    ∀ r, spec_AlgebraNames.f = some r → Calls Try.prog 14 #[] w (Ret w (spec_AlgebraNames.R r)) := by

  refine calls_T (n := 2) (Γ := []) (R := spec_AlgebraNames.R) Try.func14 rfl rfl (Nat.le_of_ble_eq_true rfl) trivial ?_
  unfold spec_AlgebraNames.f
  refine TC.seq ?_
  refine TC.region ?_
  refine TL.assign rfl rfl (v := SV.v ⟨none, 0, 0⟩) rfl ?_
  refine TL.done ?_
  refine TC.seq ?_
  refine TC.region ?_
  refine TL.call (R := G.spec_l01Names.R) Try.call51 rfl rfl rfl (fun w hS => G.spec_l01Names.calls w) ?_
  rintro r_1 _ _ ⟨s1, rfl, rfl⟩
  refine TL.assign rfl rfl (v := SV.v s1) rfl ?_
  refine TL.done ?_
  exact TC.retF (Fin.body (fin1 (.inr rfl) rfl (.tmp rfl) [0] rfl ⟨s1, rfl, rfl⟩))

end Go.Proofs.Ytgljkechjkllgaa.G
