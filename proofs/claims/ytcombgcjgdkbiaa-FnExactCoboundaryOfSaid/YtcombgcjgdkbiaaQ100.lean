/- impl.CoboundaryOf$1, as a pure function. -/
import Derived.Test.YtcombgcjgdkbiaaProg
import Derived.Test.YtcombgcjgdkbiaaSx9
import Derived.Test.YtcombgcjgdkbiaaQ57
set_option linter.unusedVariables false
namespace Go.Proofs.Ytcombgcjgdkbiaa.G
open Go Go.Sx Go.Proofs

def impl_CoboundaryOf_1.f (x1 : Int) (c1 : Int) : Option Bool := (G.impl_in.f x1 1 (w64 (c1 - 1))).bind (fun r_1 => some (!r_1))

def impl_CoboundaryOf_1.R (r : Bool) (v : Value) (L : List Asn) : Prop := v = .bool r ∧ L = []

set_option maxRecDepth 100000 in
set_option maxHeartbeats 4000000 in
theorem impl_CoboundaryOf_1.calls (w : World) (x1 : Int) (b_1 : Nat) (c1 : Int) (h1 : At (hp w) b_1 [.one (.int .i64 c1)]) :
    ∀ r, impl_CoboundaryOf_1.f x1 c1 = some r → Calls Try.prog 100 #[.int .i64 x1, bp b_1 0] w (Ret w (impl_CoboundaryOf_1.R r)) := by

  refine calls_T (n := 9) (Γ := [(0, .int .i64 x1), (1, bp b_1 0)]) (R := impl_CoboundaryOf_1.R) Try.func100 rfl rfl (Nat.le_of_ble_eq_true rfl) ⟨rfl, rfl, trivial⟩ ?_
  unfold impl_CoboundaryOf_1.f
  refine TC.seq ?_
  refine TC.region ?_
  refine TL.assign rfl rfl (v := .bool false) rfl ?_
  refine TL.done ?_
  refine TC.seq ?_
  refine TC.region ?_
  refine TL.move rfl rfl (v := .int .i64 x1) rfl ?_
  refine TL.load1 0 (Src.at h1) Try.isAgg2 rfl rfl rfl rfl rfl ?_
  refine TL.bin .i64 c1 1 rfl rfl rfl rfl (v := .int .i64 (w64 (c1 - 1))) rfl ?_
  refine TL.call (R := G.impl_in.R) Try.call57 rfl rfl rfl (fun w hS => G.impl_in.calls w x1 1 (w64 (c1 - 1))) ?_
  rintro r_1 _ _ ⟨rfl, rfl⟩
  refine TL.not r_1 rfl rfl rfl ?_
  refine TL.assign rfl rfl (v := .bool (!r_1)) rfl ?_
  refine TL.done ?_
  exact TC.retF (Fin.body (fin1 (.inr rfl) rfl (.tmp rfl) [] rfl ⟨rfl, rfl⟩))

end Go.Proofs.Ytcombgcjgdkbiaa.G
