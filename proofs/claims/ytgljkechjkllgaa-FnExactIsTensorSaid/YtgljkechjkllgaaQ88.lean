/- impl.endsOk, as a pure function. -/
import Derived.Test.YtgljkechjkllgaaProg
import Derived.Test.YtgljkechjkllgaaSx9
import Derived.Test.YtgljkechjkllgaaQ56
set_option linter.unusedVariables false
namespace Go.Proofs.Ytgljkechjkllgaa.G
open Go Go.Sx Go.Proofs

def impl_endsOk.f (k_1 : Int) : Option Bool := (G.impl_in.f k_1 0 8).bind (fun r_1 => some r_1)

def impl_endsOk.R (r : Bool) (v : Value) (L : List Asn) : Prop := v = .bool r ∧ L = []

set_option maxRecDepth 100000 in
set_option maxHeartbeats 4000000 in
theorem impl_endsOk.calls (w : World) (k_1 : Int) :
    ∀ r, impl_endsOk.f k_1 = some r → Calls Try.prog 88 #[.int .i64 k_1] w (Ret w (impl_endsOk.R r)) := by

  refine calls_T (n := 5) (Γ := [(0, .int .i64 k_1)]) (R := impl_endsOk.R) Try.func88 rfl rfl (Nat.le_of_ble_eq_true rfl) ⟨rfl, trivial⟩ ?_
  unfold impl_endsOk.f
  refine TC.seq ?_
  refine TC.region ?_
  refine TL.assign rfl rfl (v := .bool false) rfl ?_
  refine TL.done ?_
  refine TC.seq ?_
  refine TC.region ?_
  refine TL.move rfl rfl (v := .int .i64 k_1) rfl ?_
  refine TL.call (R := G.impl_in.R) Try.call56 rfl rfl rfl (fun w hS => G.impl_in.calls w k_1 0 8) ?_
  rintro r_1 _ _ ⟨rfl, rfl⟩
  refine TL.assign rfl rfl (v := .bool r_1) rfl ?_
  refine TL.done ?_
  exact TC.retF (Fin.body (fin1 (.inr rfl) rfl (.tmp rfl) [] rfl ⟨rfl, rfl⟩))

end Go.Proofs.Ytgljkechjkllgaa.G
