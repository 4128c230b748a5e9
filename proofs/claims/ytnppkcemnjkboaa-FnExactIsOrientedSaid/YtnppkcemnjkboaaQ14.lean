/- spec.IsOriented, as a pure function. -/
import Derived.Test.YtnppkcemnjkboaaProg
import Derived.Test.YtnppkcemnjkboaaSx9
import Derived.Test.YtnppkcemnjkboaaQ53
import Derived.Test.YtnppkcemnjkboaaQ54
set_option linter.unusedVariables false
namespace Go.Proofs.Ytnppkcemnjkboaa.G
open Go Go.Sx Go.Proofs

def spec_IsOriented.f (s1 : List (List Int)) : Option (Bool × Int) := (G.spec_l07Is.f s1).bind (fun r_1 => (bif (!r_1) then some (false, 1) else (G.spec_l07Oriented.f s1).bind (fun r_2 => some (r_2, 0))))

def spec_IsOriented.R (r : Bool × Int) (v : Value) (L : List Asn) : Prop := v = .tuple #[.bool r.1, .int .i64 r.2] ∧ L = []

set_option maxRecDepth 100000 in
set_option maxHeartbeats 4000000 in
theorem spec_IsOriented.calls (w : World) (s2 : SV) (ss1 : List SV) (s1 : List (List Int)) (h1 : ReadsM Ei (hp w) s2 ss1 s1) :
    ∀ r, spec_IsOriented.f s1 = some r → Calls Try.prog 14 #[SV.v s2] w (Ret w (spec_IsOriented.R r)) := by

  refine calls_T (n := 9) (Γ := [(0, SV.v s2)]) (R := spec_IsOriented.R) Try.func14 rfl rfl (Nat.le_of_ble_eq_true rfl) ⟨rfl, trivial⟩ ?_
  unfold spec_IsOriented.f
  refine TC.seq ?_
  refine TC.region ?_
  refine TL.assign rfl rfl (v := .bool false) rfl ?_
  refine TL.assign rfl rfl (v := .int .i64 0) rfl ?_
  refine TL.done ?_
  refine TC.seq ?_
  refine TC.seq ?_
  refine TC.region ?_
  refine TL.move rfl rfl (v := SV.v s2) rfl ?_
  refine TL.call (R := G.spec_l07Is.R) Try.call53 rfl rfl rfl (fun w hS => G.spec_l07Is.calls w s2 ss1 s1 ((RdM.old h1) w hS)) ?_
  rintro r_1 _ _ ⟨rfl, rfl⟩
  refine TL.not r_1 rfl rfl rfl ?_
  refine TL.done ?_
  refine TC.cond (b := (!r_1)) rfl (fun c1 => ?_) (fun c2 => ?_)
  · refine TC.seq ?_
    refine TC.region ?_
    refine TL.assign rfl rfl (v := .bool false) rfl ?_
    refine TL.assign rfl rfl (v := .int .i64 1) rfl ?_
    refine TL.done ?_
    exact TC.retF (Fin.body (fin2 (.inr rfl) rfl (.tmp rfl) (.tmp rfl) [] rfl ⟨rfl, rfl⟩))
  · refine TC.skip ?_
    refine TC.seq ?_
    refine TC.region ?_
    refine TL.move rfl rfl (v := SV.v s2) rfl ?_
    refine TL.call (R := G.spec_l07Oriented.R) Try.call54 rfl rfl rfl (fun w hS => G.spec_l07Oriented.calls w s2 ss1 s1 ((RdM.old h1) w hS)) ?_
    rintro r_2 _ _ ⟨rfl, rfl⟩
    refine TL.assign rfl rfl (v := .bool r_2) rfl ?_
    refine TL.assign rfl rfl (v := .int .i64 0) rfl ?_
    refine TL.done ?_
    exact TC.retF (Fin.body (fin2 (.inr rfl) rfl (.tmp rfl) (.tmp rfl) [] rfl ⟨rfl, rfl⟩))

end Go.Proofs.Ytnppkcemnjkboaa.G
