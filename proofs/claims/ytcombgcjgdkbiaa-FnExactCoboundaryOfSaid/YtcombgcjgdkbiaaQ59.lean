/- impl.inverse, as a pure function. -/
import Derived.Test.YtcombgcjgdkbiaaProg
import Derived.Test.YtcombgcjgdkbiaaSx9
import Derived.Test.YtcombgcjgdkbiaaQ60
set_option linter.unusedVariables false
namespace Go.Proofs.Ytcombgcjgdkbiaa.G
open Go Go.Sx Go.Proofs

def impl_inverse.f (n_1 : Int) (p1 : Int) : Option Int := (G.impl_power.f n_1 (w64 (p1 - 2)) p1).bind (fun r_1 => some r_1)

def impl_inverse.R (r : Int) (v : Value) (L : List Asn) : Prop := v = .int .i64 r ∧ L = []

set_option maxRecDepth 100000 in
set_option maxHeartbeats 4000000 in
theorem impl_inverse.calls (w : World) (n_1 : Int) (p1 : Int) :
    ∀ r, impl_inverse.f n_1 p1 = some r → Calls Try.prog 59 #[.int .i64 n_1, .int .i64 p1] w (Ret w (impl_inverse.R r)) := by

  refine calls_T (n := 10) (Γ := [(0, .int .i64 n_1), (1, .int .i64 p1)]) (R := impl_inverse.R) Try.func59 rfl rfl (Nat.le_of_ble_eq_true rfl) ⟨rfl, rfl, trivial⟩ ?_
  unfold impl_inverse.f
  refine TC.seq ?_
  refine TC.region ?_
  refine TL.assign rfl rfl (v := .int .i64 0) rfl ?_
  refine TL.done ?_
  refine TC.seq ?_
  refine TC.region ?_
  refine TL.move rfl rfl (v := .int .i64 n_1) rfl ?_
  refine TL.move rfl rfl (v := .int .i64 p1) rfl ?_
  refine TL.bin .i64 p1 2 rfl rfl rfl rfl (v := .int .i64 (w64 (p1 - 2))) rfl ?_
  refine TL.move rfl rfl (v := .int .i64 p1) rfl ?_
  refine TL.call (R := G.impl_power.R) Try.call60 rfl rfl rfl (fun w hS => G.impl_power.calls w n_1 (w64 (p1 - 2)) p1) ?_
  rintro r_1 _ _ ⟨rfl, rfl⟩
  refine TL.assign rfl rfl (v := .int .i64 r_1) rfl ?_
  refine TL.done ?_
  exact TC.retF (Fin.body (fin1 (.inr rfl) rfl (.tmp rfl) [] rfl ⟨rfl, rfl⟩))

end Go.Proofs.Ytcombgcjgdkbiaa.G
