/- spec.NamedSurface, as a pure function. -/
import Derived.Test.YtgljkechjkllgaaProg
import Derived.Test.YtgljkechjkllgaaSx9
import Derived.Test.YtgljkechjkllgaaQ53
set_option linter.unusedVariables false
namespace Go.Proofs.Ytgljkechjkllgaa.G
open Go Go.Sx Go.Proofs

def spec_NamedSurface.f (name1 : Str) : Option ((List (List Int)) × Int) := (G.spec_l07Named.f name1).bind (fun p => match p with | (r_1, r_2) => (bif (!r_2) then some (([] : List (List Int)), 4) else some (r_1, 0)))

def spec_NamedSurface.R (r : (List (List Int)) × Int) (v : Value) (L : List Asn) : Prop := ∃ (s0 : SV) (ss0 : List SV), v = .tuple #[SV.v s0, .int .i64 r.2] ∧ L = [mat Ei 2 44 s0 ss0 r.1]

set_option maxRecDepth 100000 in
set_option maxHeartbeats 4000000 in
theorem spec_NamedSurface.calls (w : World) (name1 : Str) :
    ∀ r, spec_NamedSurface.f name1 = some r → Calls Try.prog 19 #[strv name1] w (Ret w (spec_NamedSurface.R r)) := by

  refine calls_T (n := 14) (Γ := [(0, strv name1)]) (R := spec_NamedSurface.R) Try.func19 rfl rfl (Nat.le_of_ble_eq_true rfl) ⟨rfl, trivial⟩ ?_
  unfold spec_NamedSurface.f
  refine TC.seq ?_
  refine TC.region ?_
  refine TL.assign rfl rfl (v := SV.v ⟨none, 0, 0⟩) rfl ?_
  refine TL.assign rfl rfl (v := .int .i64 0) rfl ?_
  refine TL.done ?_
  refine TC.seq ?_
  refine TC.region ?_
  refine TL.move rfl rfl (v := strv name1) rfl ?_
  refine TL.call (R := G.spec_l07Named.R) Try.call53 rfl rfl rfl (fun w hS => G.spec_l07Named.calls w name1) ?_
  rintro ⟨r_1, r_2⟩ _ _ ⟨s1, ss1, rfl, rfl⟩
  refine TL.move rfl rfl (v := .tuple #[SV.v s1, .bool r_2]) rfl ?_
  refine TL.extract rfl rfl rfl (v := SV.v s1) rfl ?_
  refine TL.extract rfl rfl rfl (v := .bool r_2) rfl ?_
  refine TL.assign rfl rfl (v := SV.v s1) rfl ?_
  refine TL.assign rfl rfl (v := .bool r_2) rfl ?_
  refine TL.done ?_
  refine TC.seq ?_
  refine TC.seq ?_
  refine TC.region ?_
  refine TL.move rfl rfl (v := .bool r_2) rfl ?_
  refine TL.not r_2 rfl rfl rfl ?_
  refine TL.done ?_
  refine TC.cond (b := (!r_2)) rfl (fun c1 => ?_) (fun c2 => ?_)
  · refine TC.seq ?_
    refine TC.region ?_
    refine TL.assign rfl rfl (v := SV.v ⟨none, 0, 0⟩) rfl ?_
    refine TL.assign rfl rfl (v := .int .i64 4) rfl ?_
    refine TL.done ?_
    refine TC.nilmat Ei 2 44 ?_
    exact TC.retF (Fin.body (fin2 (.inr rfl) rfl (.tmp rfl) (.tmp rfl) [0] rfl ⟨⟨none, 0, 0⟩, [], rfl, rfl⟩))
  · refine TC.skip ?_
    refine TC.seq ?_
    refine TC.region ?_
    refine TL.move rfl rfl (v := SV.v s1) rfl ?_
    refine TL.assign rfl rfl (v := SV.v s1) rfl ?_
    refine TL.assign rfl rfl (v := .int .i64 0) rfl ?_
    refine TL.done ?_
    exact TC.retF (Fin.body (fin2 (.inr rfl) rfl (.tmp rfl) (.tmp rfl) [0] rfl ⟨s1, ss1, rfl, rfl⟩))

end Go.Proofs.Ytgljkechjkllgaa.G
