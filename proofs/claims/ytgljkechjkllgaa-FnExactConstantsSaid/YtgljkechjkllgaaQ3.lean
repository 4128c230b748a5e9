/- laws.FnExactConstants, as a pure function. -/
import Derived.Test.YtgljkechjkllgaaProg
import Derived.Test.YtgljkechjkllgaaSx9
set_option linter.unusedVariables false
namespace Go.Proofs.Ytgljkechjkllgaa.G
open Go Go.Sx Go.Proofs

def laws_FnExactConstants.f : Option Bool := some true

def laws_FnExactConstants.R (r : Bool) (v : Value) (L : List Asn) : Prop := v = .bool r ∧ L = []

set_option maxRecDepth 100000 in
set_option maxHeartbeats 4000000 in
theorem laws_FnExactConstants.calls (w : World) :
    ∀ r, laws_FnExactConstants.f = some r → Calls Try.prog 3 #[] w (Ret w (laws_FnExactConstants.R r)) := by

  refine calls_T (n := 1) (Γ := []) (R := laws_FnExactConstants.R) Try.func3 rfl rfl (Nat.le_of_ble_eq_true rfl) trivial ?_
  unfold laws_FnExactConstants.f
  refine TC.seq ?_
  refine TC.region ?_
  refine TL.assign rfl rfl (v := .bool false) rfl ?_
  refine TL.done ?_
  refine TC.seq ?_
  refine TC.cond_false rfl ?_
  refine TC.skip ?_
  refine TC.seq ?_
  refine TC.cond_false rfl ?_
  refine TC.skip ?_
  refine TC.seq ?_
  refine TC.cond_false rfl ?_
  refine TC.skip ?_
  refine TC.seq ?_
  refine TC.cond_false rfl ?_
  refine TC.skip ?_
  refine TC.seq ?_
  refine TC.cond_false rfl ?_
  refine TC.skip ?_
  refine TC.seq ?_
  refine TC.cond_false rfl ?_
  refine TC.skip ?_
  refine TC.seq ?_
  refine TC.cond_false rfl ?_
  refine TC.skip ?_
  refine TC.seq ?_
  refine TC.cond_false rfl ?_
  refine TC.skip ?_
  refine TC.seq ?_
  refine TC.cond_false rfl ?_
  refine TC.skip ?_
  refine TC.seq ?_
  refine TC.cond_false rfl ?_
  refine TC.skip ?_
  refine TC.seq ?_
  refine TC.cond_false rfl ?_
  refine TC.skip ?_
  refine TC.seq ?_
  refine TC.cond_false rfl ?_
  refine TC.skip ?_
  refine TC.seq ?_
  refine TC.cond_false rfl ?_
  refine TC.skip ?_
  refine TC.seq ?_
  refine TC.cond_false rfl ?_
  refine TC.skip ?_
  refine TC.seq ?_
  refine TC.cond_false rfl ?_
  refine TC.skip ?_
  refine TC.seq ?_
  refine TC.cond_false rfl ?_
  refine TC.skip ?_
  refine TC.seq ?_
  refine TC.cond_false rfl ?_
  refine TC.skip ?_
  refine TC.seq ?_
  refine TC.cond_false rfl ?_
  refine TC.skip ?_
  refine TC.seq ?_
  refine TC.cond_false rfl ?_
  refine TC.skip ?_
  refine TC.seq ?_
  refine TC.cond_false rfl ?_
  refine TC.skip ?_
  refine TC.seq ?_
  refine TC.cond_false rfl ?_
  refine TC.skip ?_
  refine TC.seq ?_
  refine TC.region ?_
  refine TL.assign rfl rfl (v := .bool true) rfl ?_
  refine TL.done ?_
  exact TC.retF (Fin.body (fin1 (.inr rfl) rfl (.tmp rfl) [] rfl ⟨rfl, rfl⟩))

end Go.Proofs.Ytgljkechjkllgaa.G
