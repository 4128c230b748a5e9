/- impl.size, as a pure function. -/
import Derived.Test.YtnppkcemnjkboaaProg
import Derived.Test.YtnppkcemnjkboaaSx9
set_option linter.unusedVariables false
namespace Go.Proofs.Ytnppkcemnjkboaa.G
open Go Go.Sx Go.Proofs

def impl_size.f (k_1 : Int) : Option Int := some (if (w64 (0 - k_1)) > k_1 then (w64 (0 - k_1)) else k_1)

def impl_size.R (r : Int) (v : Value) (L : List Asn) : Prop := v = .int .i64 r ∧ L = []

set_option maxRecDepth 100000 in
set_option maxHeartbeats 4000000 in
theorem impl_size.calls (w : World) (k_1 : Int) :
    ∀ r, impl_size.f k_1 = some r → Calls Try.prog 110 #[.int .i64 k_1] w (Ret w (impl_size.R r)) := by

  refine calls_T (n := 7) (Γ := [(0, .int .i64 k_1)]) (R := impl_size.R) Try.func110 rfl rfl (Nat.le_of_ble_eq_true rfl) ⟨rfl, trivial⟩ ?_
  unfold impl_size.f
  refine TC.seq ?_
  refine TC.region ?_
  refine TL.assign rfl rfl (v := .int .i64 0) rfl ?_
  refine TL.done ?_
  refine TC.seq ?_
  refine TC.region ?_
  refine TL.move rfl rfl (v := .int .i64 k_1) rfl ?_
  refine TL.move rfl rfl (v := .int .i64 k_1) rfl ?_
  refine TL.neg .i64 k_1 rfl rfl rfl ?_
  refine TL.max2 rfl rfl rfl rfl ?_
  refine TL.assign rfl rfl (v := .int .i64 (if (w64 (0 - k_1)) > k_1 then (w64 (0 - k_1)) else k_1)) rfl ?_
  refine TL.done ?_
  exact TC.retF (Fin.body (fin1 (.inr rfl) rfl (.tmp rfl) [] rfl ⟨rfl, rfl⟩))

end Go.Proofs.Ytnppkcemnjkboaa.G
