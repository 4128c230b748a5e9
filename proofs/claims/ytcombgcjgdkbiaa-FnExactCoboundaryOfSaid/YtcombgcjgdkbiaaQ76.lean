/- impl.isPrime, as a pure function. -/
import Derived.Test.YtcombgcjgdkbiaaProg
import Derived.Test.YtcombgcjgdkbiaaSx9
import Derived.Test.YtcombgcjgdkbiaaQ117
set_option linter.unusedVariables false
namespace Go.Proofs.Ytcombgcjgdkbiaa.G
open Go Go.Sx Go.Proofs

def impl_isPrime.f (p1 : Int) : Option Bool := (G.slices_Contains_int64_int64.f ([2, 3, 5, 7, 11, 13] : List Int) p1).bind (fun r_1 => some r_1)

def impl_isPrime.R (r : Bool) (v : Value) (L : List Asn) : Prop := v = .bool r ∧ L = []

set_option maxRecDepth 100000 in
set_option maxHeartbeats 4000000 in
theorem impl_isPrime.calls (w : World) (p1 : Int) :
    ∀ r, impl_isPrime.f p1 = some r → Calls Try.prog 76 #[.int .i64 p1] w (Ret w (impl_isPrime.R r)) := by

  refine calls_T (n := 6) (Γ := [(0, .int .i64 p1)]) (R := impl_isPrime.R) Try.func76 rfl rfl (Nat.le_of_ble_eq_true rfl) ⟨rfl, trivial⟩ ?_
  unfold impl_isPrime.f
  refine TC.seq ?_
  refine TC.region ?_
  refine TL.assign rfl rfl (v := .bool false) rfl ?_
  refine TL.done ?_
  refine TC.seq ?_
  refine TC.region ?_
  refine TL.blit Ei ([2, 3, 5, 7, 11, 13] : List Int) Try.underlying22 Try.sizeOf2 Try.zeroValue2 rfl rfl rfl [(0, .int .i64 2), (1, .int .i64 3), (2, .int .i64 5), (3, .int .i64 7), (4, .int .i64 11), (5, .int .i64 13)] rfl ⟨rfl, rfl, rfl, rfl, rfl, rfl, rfl, rfl, rfl, rfl, rfl, rfl, trivial⟩ rfl rfl fun s1 => ?_
  refine TL.move rfl rfl (v := .int .i64 p1) rfl ?_
  refine TL.call (R := G.slices_Contains_int64_int64.R) Try.call117 rfl rfl rfl (fun w hS => G.slices_Contains_int64_int64.calls w s1 ([2, 3, 5, 7, 11, 13] : List Int) p1 ((Rd.row 0 rfl) w hS)) ?_
  rintro r_1 _ _ ⟨rfl, rfl⟩
  refine TL.assign rfl rfl (v := .bool r_1) rfl ?_
  refine TL.done ?_
  exact TC.retF (Fin.body (fin1 (.inr rfl) rfl (.tmp rfl) [] rfl ⟨rfl, rfl⟩))

end Go.Proofs.Ytcombgcjgdkbiaa.G
