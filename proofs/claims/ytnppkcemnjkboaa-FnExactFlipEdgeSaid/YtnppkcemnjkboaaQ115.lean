/- spec.l01Own, as a pure function. -/
import Derived.Test.YtnppkcemnjkboaaProg
import Derived.Test.YtnppkcemnjkboaaSx9
set_option linter.unusedVariables false
namespace Go.Proofs.Ytnppkcemnjkboaa.G
open Go Go.Sx Go.Proofs

def spec_l01Own.f (list_1 : List Int) : Option (List Int) := small (([] : List Int).length + list_1.length) (some (([] : List Int) ++ list_1))

def spec_l01Own.R (r : List Int) (v : Value) (L : List Asn) : Prop := ∃ (s0 : SV), v = SV.v s0 ∧ L = [row Ei 2 s0 r]

set_option maxRecDepth 100000 in
set_option maxHeartbeats 4000000 in
theorem spec_l01Own.calls (w : World) (s1 : SV) (list_1 : List Int) (h1 : Reads Ei (hp w) s1 list_1) :
    ∀ r, spec_l01Own.f list_1 = some r → Calls Try.prog 115 #[SV.v s1] w (Ret w (spec_l01Own.R r)) := by

  refine calls_T (n := 6) (Γ := [(0, SV.v s1)]) (R := spec_l01Own.R) Try.func115 rfl rfl (Nat.le_of_ble_eq_true rfl) ⟨rfl, trivial⟩ ?_
  unfold spec_l01Own.f
  refine TC.seq ?_
  refine TC.region ?_
  refine TL.assign rfl rfl (v := SV.v ⟨none, 0, 0⟩) rfl ?_
  refine TL.done ?_
  refine TC.seq ?_
  refine TC.region ?_
  refine TL.bslice0 Ei Try.underlying53 Try.sizeOf2 rfl rfl fun s2 => ?_
  refine TL.move rfl rfl (v := SV.v s1) rfl ?_
  refine TL.small fun h2 => ?_
  refine TL.append 0 rfl (Rd.old h1) Try.underlying53 (info_of Try.type2) (zv := (Try.t2.zero.getD (.bool false))) rfl rfl rfl (by decide) h2 rfl rfl rfl rfl fun s3 => ?_
  refine TL.assign rfl rfl (v := SV.v s3) rfl ?_
  refine TL.done ?_
  exact TC.retF (Fin.body (fin1 (.inr rfl) rfl (.tmp rfl) [0] rfl ⟨s3, rfl, rfl⟩))

end Go.Proofs.Ytnppkcemnjkboaa.G
