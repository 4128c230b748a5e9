/- impl.edgesOf, as a pure function. -/
import Derived.Test.YtnppkcemnjkboaaProg
import Derived.Test.YtnppkcemnjkboaaSx9
set_option linter.unusedVariables false
namespace Go.Proofs.Ytnppkcemnjkboaa.G
open Go Go.Sx Go.Proofs

def impl_edgesOf.f (s1 : List (List Int)) : Option Int := some (w64 (Int.tdiv (w64 ((s1.length : Int) * 3)) 2))

def impl_edgesOf.R (r : Int) (v : Value) (L : List Asn) : Prop := v = .int .i64 r ∧ L = []

set_option maxRecDepth 100000 in
set_option maxHeartbeats 4000000 in
theorem impl_edgesOf.calls (w : World) (s2 : SV) (ss1 : List SV) (s1 : List (List Int)) (h1 : ReadsM Ei (hp w) s2 ss1 s1) :
    ∀ r, impl_edgesOf.f s1 = some r → Calls Try.prog 62 #[SV.v s2] w (Ret w (impl_edgesOf.R r)) := by

  refine calls_T (n := 7) (Γ := [(0, SV.v s2)]) (R := impl_edgesOf.R) Try.func62 rfl rfl (Nat.le_of_ble_eq_true rfl) ⟨rfl, trivial⟩ ?_
  unfold impl_edgesOf.f
  refine TC.seq ?_
  refine TC.region ?_
  refine TL.assign rfl rfl (v := .int .i64 0) rfl ?_
  refine TL.done ?_
  refine TC.seq ?_
  refine TC.region ?_
  refine TL.move rfl rfl (v := SV.v s2) rfl ?_
  refine TL.lenM (RdM.old h1) Try.underlying22 rfl rfl rfl ?_
  refine TL.bin .i64 (s1.length : Int) 3 rfl rfl rfl rfl (v := .int .i64 (w64 ((s1.length : Int) * 3))) rfl ?_
  refine TL.quo .i64 (w64 ((s1.length : Int) * 3)) 2 (by decide) rfl rfl rfl rfl ?_
  refine TL.assign rfl rfl (v := .int .i64 (w64 (Int.tdiv (w64 ((s1.length : Int) * 3)) 2))) rfl ?_
  refine TL.done ?_
  exact TC.retF (Fin.body (fin1 (.inr rfl) rfl (.tmp rfl) [] rfl ⟨rfl, rfl⟩))

end Go.Proofs.Ytnppkcemnjkboaa.G
