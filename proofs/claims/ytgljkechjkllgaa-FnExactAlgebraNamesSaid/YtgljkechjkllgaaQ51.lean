/- spec.l01Names, as a pure function. -/
import Derived.Test.YtgljkechjkllgaaProg
import Derived.Test.YtgljkechjkllgaaSx9
set_option linter.unusedVariables false
namespace Go.Proofs.Ytgljkechjkllgaa.G
open Go Go.Sx Go.Proofs

def spec_l01Names.f : Option (List Str) := some ([([102, 105, 101, 108, 100] : Str), ([100, 117, 97, 108] : Str), ([112, 97, 105, 114] : Str), ([99, 121, 99, 108, 105, 99, 51] : Str), ([115, 121, 109, 109, 101, 116, 114, 105, 99] : Str), ([109, 97, 116, 114, 105, 120] : Str)] : List Str)

def spec_l01Names.R (r : List Str) (v : Value) (L : List Asn) : Prop := ∃ s0 : SV, v = SV.v s0 ∧ L = [row Es 9 s0 r]

set_option maxRecDepth 100000 in
set_option maxHeartbeats 4000000 in
theorem spec_l01Names.calls (w : World) :
    ∀ r, spec_l01Names.f = some r → Calls Try.prog 51 #[] w (Ret w (spec_l01Names.R r)) := by

  refine calls_T (n := 2) (Γ := []) (R := spec_l01Names.R) Try.func51 rfl rfl (Nat.le_of_ble_eq_true rfl) trivial ?_
  unfold spec_l01Names.f
  refine TC.seq ?_
  refine TC.region ?_
  refine TL.assign rfl rfl (v := SV.v ⟨none, 0, 0⟩) rfl ?_
  refine TL.done ?_
  refine TC.seq ?_
  refine TC.region ?_
  refine TL.blit Es ([([102, 105, 101, 108, 100] : Str), ([100, 117, 97, 108] : Str), ([112, 97, 105, 114] : Str), ([99, 121, 99, 108, 105, 99, 51] : Str), ([115, 121, 109, 109, 101, 116, 114, 105, 99] : Str), ([109, 97, 116, 114, 105, 120] : Str)] : List Str) Try.underlying23 Try.sizeOf9 Try.zeroValue9 rfl rfl rfl [(0, strv ([102, 105, 101, 108, 100] : Str)), (1, strv ([100, 117, 97, 108] : Str)), (2, strv ([112, 97, 105, 114] : Str)), (3, strv ([99, 121, 99, 108, 105, 99, 51] : Str)), (4, strv ([115, 121, 109, 109, 101, 116, 114, 105, 99] : Str)), (5, strv ([109, 97, 116, 114, 105, 120] : Str))] rfl ⟨rfl, rfl, rfl, rfl, rfl, rfl, rfl, rfl, rfl, rfl, rfl, rfl, trivial⟩ rfl rfl fun s1 => ?_
  refine TL.assign rfl rfl (v := SV.v s1) rfl ?_
  refine TL.done ?_
  exact TC.retF (Fin.body (fin1 (.inr rfl) rfl (.tmp rfl) [0] rfl ⟨s1, rfl, rfl⟩))

end Go.Proofs.Ytgljkechjkllgaa.G
