/- impl.KnownGroup$1, as a pure function. -/
import Derived.Test.YtgljkechjkllgaaProg
import Derived.Test.YtgljkechjkllgaaSx9
set_option linter.unusedVariables false
namespace Go.Proofs.Ytgljkechjkllgaa.G
open Go Go.Sx Go.Proofs

def impl_KnownGroup_1.f (i1 : Int) (j1 : Int) (c1 : Int) : Option Int := nz c1 (some (Int.tmod (w64 (i1 + j1)) c1))

def impl_KnownGroup_1.R (r : Int) (v : Value) (L : List Asn) : Prop := v = .int .i64 r ∧ L = []

set_option maxRecDepth 100000 in
set_option maxHeartbeats 4000000 in
theorem impl_KnownGroup_1.calls (w : World) (i1 : Int) (j1 : Int) (b_1 : Nat) (c1 : Int) (h1 : At (hp w) b_1 [.one (.int .i64 c1)]) :
    ∀ r, impl_KnownGroup_1.f i1 j1 c1 = some r → Calls Try.prog 64 #[.int .i64 i1, .int .i64 j1, bp b_1 0] w (Ret w (impl_KnownGroup_1.R r)) := by

  refine calls_T (n := 11) (Γ := [(0, .int .i64 i1), (1, .int .i64 j1), (2, bp b_1 0)]) (R := impl_KnownGroup_1.R) Try.func64 rfl rfl (Nat.le_of_ble_eq_true rfl) ⟨rfl, rfl, rfl, trivial⟩ ?_
  unfold impl_KnownGroup_1.f
  refine TC.seq ?_
  refine TC.region ?_
  refine TL.assign rfl rfl (v := .int .i64 0) rfl ?_
  refine TL.done ?_
  refine TC.seq ?_
  refine TC.region ?_
  refine TL.move rfl rfl (v := .int .i64 i1) rfl ?_
  refine TL.move rfl rfl (v := .int .i64 j1) rfl ?_
  refine TL.bin .i64 i1 j1 rfl rfl rfl rfl (v := .int .i64 (w64 (i1 + j1))) rfl ?_
  refine TL.load1 0 (Src.at h1) Try.isAgg3 rfl rfl rfl rfl rfl ?_
  refine TL.nz fun z1 => ?_
  refine TL.rem .i64 (w64 (i1 + j1)) c1 z1 rfl rfl rfl rfl ?_
  refine TL.assign rfl rfl (v := .int .i64 (Int.tmod (w64 (i1 + j1)) c1)) rfl ?_
  refine TL.done ?_
  exact TC.retF (Fin.body (fin1 (.inr rfl) rfl (.tmp rfl) [] rfl ⟨rfl, rfl⟩))

end Go.Proofs.Ytgljkechjkllgaa.G
