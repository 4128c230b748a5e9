/- impl.Group).n, as a pure function. -/
import Derived.Test.YtcombgcjgdkbiaaProg
import Derived.Test.YtcombgcjgdkbiaaSx9
set_option linter.unusedVariables false
namespace Go.Proofs.Ytcombgcjgdkbiaa.G
open Go Go.Sx Go.Proofs

def impl_Group_n.f (g1 : Int) (g2 : Nat → UInt8) : Option Int := some g1

def impl_Group_n.R (r : Int) (v : Value) (L : List Asn) : Prop := v = .int .i64 r ∧ L = []

set_option maxRecDepth 100000 in
set_option maxHeartbeats 4000000 in
theorem impl_Group_n.calls (w : World) (b_1 : Nat) (g1 : Int) (g2 : Nat → UInt8) (h1 : At (hp w) b_1 [.one (.int .i64 g1), .arr 36 (enf u8v g2)]) :
    ∀ r, impl_Group_n.f g1 g2 = some r → Calls Try.prog 65 #[bp b_1 0] w (Ret w (impl_Group_n.R r)) := by

  refine calls_T (n := 7) (Γ := [(0, bp b_1 0)]) (R := impl_Group_n.R) Try.func65 rfl rfl (Nat.le_of_ble_eq_true rfl) ⟨rfl, trivial⟩ ?_
  unfold impl_Group_n.f
  refine TC.seq ?_
  refine TC.region ?_
  refine TL.assign rfl rfl (v := .int .i64 0) rfl ?_
  refine TL.done ?_
  refine TC.seq ?_
  refine TC.region ?_
  refine TL.move rfl rfl (v := bp b_1 0) rfl ?_
  refine TL.nilCheck rfl rfl rfl ?_
  refine TL.fa Try.underlying37 rfl Try.sizeOf2 rfl 0 rfl rfl rfl rfl ?_
  refine TL.load1 0 (Src.at h1) Try.isAgg2 rfl rfl rfl rfl rfl ?_
  refine TL.assign rfl rfl (v := .int .i64 g1) rfl ?_
  refine TL.done ?_
  exact TC.retF (Fin.body (fin1 (.inr rfl) rfl (.tmp rfl) [] rfl ⟨rfl, rfl⟩))

end Go.Proofs.Ytcombgcjgdkbiaa.G
