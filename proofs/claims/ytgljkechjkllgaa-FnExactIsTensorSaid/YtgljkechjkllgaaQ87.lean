/- impl.shapeOk, as a pure function. -/
import Derived.Test.YtgljkechjkllgaaProg
import Derived.Test.YtgljkechjkllgaaSx9
import Derived.Test.YtgljkechjkllgaaQ56
import Derived.Test.YtgljkechjkllgaaQ71
set_option linter.unusedVariables false
namespace Go.Proofs.Ytgljkechjkllgaa.G
open Go Go.Sx Go.Proofs

def impl_shapeOk.f (p1 : Int) (n_1 : Int) : Option Bool := (G.impl_isPrime.f p1).bind (fun r_1 => (bif r_1 then (G.impl_in.f n_1 1 6).bind (fun r_2 => some r_2) else some false).bind (fun b_1 => some b_1))

def impl_shapeOk.R (r : Bool) (v : Value) (L : List Asn) : Prop := v = .bool r ∧ L = []

set_option maxRecDepth 100000 in
set_option maxHeartbeats 4000000 in
theorem impl_shapeOk.calls (w : World) (p1 : Int) (n_1 : Int) :
    ∀ r, impl_shapeOk.f p1 n_1 = some r → Calls Try.prog 87 #[.int .i64 p1, .int .i64 n_1] w (Ret w (impl_shapeOk.R r)) := by

  refine calls_T (n := 11) (Γ := [(0, .int .i64 p1), (1, .int .i64 n_1)]) (R := impl_shapeOk.R) Try.func87 rfl rfl (Nat.le_of_ble_eq_true rfl) ⟨rfl, rfl, trivial⟩ ?_
  unfold impl_shapeOk.f
  refine TC.seq ?_
  refine TC.region ?_
  refine TL.assign rfl rfl (v := .bool false) rfl ?_
  refine TL.done ?_
  refine TC.seq ?_
  refine TC.region ?_
  refine TL.move rfl rfl (v := .int .i64 p1) rfl ?_
  refine TL.call (R := G.impl_isPrime.R) Try.call71 rfl rfl rfl (fun w hS => G.impl_isPrime.calls w p1) ?_
  rintro r_1 _ _ ⟨rfl, rfl⟩
  refine TL.move rfl rfl (v := .bool r_1) rfl ?_
  refine TL.cutJ (σ := Bool) (γ := Unit) (Γ' := fun b_1 _ => [(10, .bool b_1), (0, .int .i64 p1), (1, .int .i64 n_1), (4, .bool false), (5, .int .i64 p1), (6, .bool r_1), (7, .bool r_1)]) (L' := fun _ _ => []) 3 ?_ ?_
  · refine TL.ifb (t := 7) (b := r_1) rfl (fun c1 => ?_) (fun c2 => ?_)
    · refine TL.move rfl rfl (v := .int .i64 n_1) rfl ?_
      refine TL.call (R := G.impl_in.R) Try.call56 rfl rfl rfl (fun w hS => G.impl_in.calls w n_1 1 6) ?_
      rintro r_2 _ _ ⟨rfl, rfl⟩
      refine TL.pick rfl rfl (b := true) rfl (r := .bool r_2) rfl ?_
      refine TL.done ?_
      exact TC.nrm (r_2) () ⟨rfl, rfl, rfl, rfl, rfl, rfl, (by rw [c1]; rfl), trivial⟩ [] rfl
    · refine TL.skip rfl rfl (by decide) ?_
      refine TL.skip rfl rfl (by decide) ?_
      refine TL.pick rfl rfl (b := false) rfl (r := .bool false) rfl ?_
      refine TL.done ?_
      exact TC.nrm (false) () ⟨rfl, rfl, rfl, rfl, rfl, rfl, (by rw [c2]; rfl), trivial⟩ [] rfl
  · rintro b_1 _
    refine TL.assign rfl rfl (v := .bool b_1) rfl ?_
    refine TL.done ?_
    exact TC.retF (Fin.body (fin1 (.inr rfl) rfl (.tmp rfl) [] rfl ⟨rfl, rfl⟩))

end Go.Proofs.Ytgljkechjkllgaa.G
