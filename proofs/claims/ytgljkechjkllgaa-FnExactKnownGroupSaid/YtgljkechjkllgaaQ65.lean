/- impl.KnownGroup$2, as a pure function. -/
import Derived.Test.YtgljkechjkllgaaProg
import Derived.Test.YtgljkechjkllgaaSx9
set_option linter.unusedVariables false
namespace Go.Proofs.Ytgljkechjkllgaa.G
open Go Go.Sx Go.Proofs

def impl_KnownGroup_2.f (i1 : Int) (j1 : Int) : Option Int := some (bits .xor .i64 i1 j1)

def impl_KnownGroup_2.R (r : Int) (v : Value) (L : List Asn) : Prop := v = .int .i64 r ∧ L = []

set_option maxRecDepth 100000 in
set_option maxHeartbeats 4000000 in
theorem impl_KnownGroup_2.calls (w : World) (i1 : Int) (j1 : Int) :
    ∀ r, impl_KnownGroup_2.f i1 j1 = some r → Calls Try.prog 65 #[.int .i64 i1, .int .i64 j1] w (Ret w (impl_KnownGroup_2.R r)) := by

  refine calls_T (n := 8) (Γ := [(0, .int .i64 i1), (1, .int .i64 j1)]) (R := impl_KnownGroup_2.R) Try.func65 rfl rfl (Nat.le_of_ble_eq_true rfl) ⟨rfl, rfl, trivial⟩ ?_
  unfold impl_KnownGroup_2.f
  refine TC.seq ?_
  refine TC.region ?_
  refine TL.assign rfl rfl (v := .int .i64 0) rfl ?_
  refine TL.done ?_
  refine TC.seq ?_
  refine TC.region ?_
  refine TL.move rfl rfl (v := .int .i64 i1) rfl ?_
  refine TL.move rfl rfl (v := .int .i64 j1) rfl ?_
  refine TL.bin .i64 i1 j1 rfl rfl rfl rfl (v := .int .i64 (bits .xor .i64 i1 j1)) rfl ?_
  refine TL.assign rfl rfl (v := .int .i64 (bits .xor .i64 i1 j1)) rfl ?_
  refine TL.done ?_
  exact TC.retF (Fin.body (fin1 (.inr rfl) rfl (.tmp rfl) [] rfl ⟨rfl, rfl⟩))

end Go.Proofs.Ytgljkechjkllgaa.G
