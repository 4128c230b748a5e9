/- slices.Clone[[]int64,int64], as a pure function. -/
import Derived.Test.YtnppkcemnjkboaaProg
import Derived.Test.YtnppkcemnjkboaaSx9
set_option linter.unusedVariables false
namespace Go.Proofs.Ytnppkcemnjkboaa.G
open Go Go.Sx Go.Proofs

def slices_Clone_int64_int64.f (s1 : List Int) : Option (List Int) := small (([] : List Int).length + s1.length) (some (([] : List Int) ++ s1))

def slices_Clone_int64_int64.R (r : List Int) (v : Value) (L : List Asn) : Prop := ∃ (s0 : SV), v = SV.v s0 ∧ L = [row Ei 2 s0 r]

set_option maxRecDepth 100000 in
set_option maxHeartbeats 4000000 in
theorem slices_Clone_int64_int64.calls (w : World) (s2 : SV) (s1 : List Int) (h1 : Reads Ei (hp w) s2 s1) :
    ∀ r, slices_Clone_int64_int64.f s1 = some r → Calls Try.prog 100 #[SV.v s2] w (Ret w (slices_Clone_int64_int64.R r)) := by

  refine calls_T (n := 8) (Γ := [(0, SV.v s2)]) (R := slices_Clone_int64_int64.R) Try.func100 rfl rfl (Nat.le_of_ble_eq_true rfl) ⟨rfl, trivial⟩ ?_
  unfold slices_Clone_int64_int64.f
  refine TC.seq ?_
  refine TC.region ?_
  refine TL.assign rfl rfl (v := SV.v ⟨none, 0, 0⟩) rfl ?_
  refine TL.done ?_
  refine TC.seq ?_
  refine TC.seq ?_
  refine TC.region ?_
  refine TL.move rfl rfl (v := SV.v s2) rfl ?_
  refine TL.isNil s2 Try.underlying53 rfl rfl rfl rfl ?_
  refine TL.done ?_
  refine TC.condN (b := s2.a.isNone) rfl (fun c1 => ?_) (fun c2 => ?_)
  · have e_ := h1.isnil c1
    refine TC.as (m' := some ([] : List Int)) (by rw [e_]; rfl) ?_
    refine TC.seq ?_
    refine TC.region ?_
    refine TL.assign rfl rfl (v := SV.v ⟨none, 0, 0⟩) rfl ?_
    refine TL.done ?_
    refine TC.nilrow Ei 2 ?_
    exact TC.retF (Fin.body (fin1 (.inr rfl) rfl (.tmp rfl) [0] rfl ⟨⟨none, 0, 0⟩, rfl, rfl⟩))
  · refine TC.skip ?_
    refine TC.seq ?_
    refine TC.region ?_
    refine TL.bslice0 Ei Try.underlying53 Try.sizeOf2 rfl rfl fun s3 => ?_
    refine TL.move rfl rfl (v := SV.v s2) rfl ?_
    refine TL.small fun h2 => ?_
    refine TL.append 0 rfl (Rd.old h1) Try.underlying53 (info_of Try.type2) (zv := (Try.t2.zero.getD (.bool false))) rfl rfl rfl (by decide) h2 rfl rfl rfl rfl fun s4 => ?_
    refine TL.assign rfl rfl (v := SV.v s4) rfl ?_
    refine TL.done ?_
    exact TC.retF (Fin.body (fin1 (.inr rfl) rfl (.tmp rfl) [0] rfl ⟨s4, rfl, rfl⟩))

end Go.Proofs.Ytnppkcemnjkboaa.G
