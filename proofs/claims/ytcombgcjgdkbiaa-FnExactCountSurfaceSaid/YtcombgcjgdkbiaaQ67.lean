/- impl.counted, as a pure function. -/
import Derived.Test.YtcombgcjgdkbiaaProg
import Derived.Test.YtcombgcjgdkbiaaSx9
set_option linter.unusedVariables false
namespace Go.Proofs.Ytcombgcjgdkbiaa.G
open Go Go.Sx Go.Proofs

def impl_counted.f (n_1 : Int) : Option (Int × Int) := (bif (decide (n_1 > 1000000000000)) then some (0, 3) else some (n_1, 0))

def impl_counted.R (r : Int × Int) (v : Value) (L : List Asn) : Prop := v = .tuple #[.int .i64 r.1, .int .i64 r.2] ∧ L = []

set_option maxRecDepth 100000 in
set_option maxHeartbeats 4000000 in
theorem impl_counted.calls (w : World) (n_1 : Int) :
    ∀ r, impl_counted.f n_1 = some r → Calls Try.prog 67 #[.int .i64 n_1] w (Ret w (impl_counted.R r)) := by

  refine calls_T (n := 7) (Γ := [(0, .int .i64 n_1)]) (R := impl_counted.R) Try.func67 rfl rfl (Nat.le_of_ble_eq_true rfl) ⟨rfl, trivial⟩ ?_
  unfold impl_counted.f
  refine TC.seq ?_
  refine TC.region ?_
  refine TL.assign rfl rfl (v := .int .i64 0) rfl ?_
  refine TL.assign rfl rfl (v := .int .i64 0) rfl ?_
  refine TL.done ?_
  refine TC.seq ?_
  refine TC.seq ?_
  refine TC.region ?_
  refine TL.move rfl rfl (v := .int .i64 n_1) rfl ?_
  refine TL.bin .i64 n_1 1000000000000 rfl rfl rfl rfl (v := .bool (decide (n_1 > 1000000000000))) rfl ?_
  refine TL.done ?_
  refine TC.cond (b := (decide (n_1 > 1000000000000))) rfl (fun c1 => ?_) (fun c2 => ?_)
  · refine TC.seq ?_
    refine TC.region ?_
    refine TL.assign rfl rfl (v := .int .i64 0) rfl ?_
    refine TL.assign rfl rfl (v := .int .i64 3) rfl ?_
    refine TL.done ?_
    exact TC.retF (Fin.body (fin2 (.inr rfl) rfl (.tmp rfl) (.tmp rfl) [] rfl ⟨rfl, rfl⟩))
  · refine TC.skip ?_
    refine TC.seq ?_
    refine TC.region ?_
    refine TL.move rfl rfl (v := .int .i64 n_1) rfl ?_
    refine TL.assign rfl rfl (v := .int .i64 n_1) rfl ?_
    refine TL.assign rfl rfl (v := .int .i64 0) rfl ?_
    refine TL.done ?_
    exact TC.retF (Fin.body (fin2 (.inr rfl) rfl (.tmp rfl) (.tmp rfl) [] rfl ⟨rfl, rfl⟩))

end Go.Proofs.Ytcombgcjgdkbiaa.G
