/- impl.IsSurface$1, as a pure function. -/
import Derived.Test.YtnppkcemnjkboaaProg
import Derived.Test.YtnppkcemnjkboaaSx9
import Derived.Test.YtnppkcemnjkboaaQ60
import Derived.Test.YtnppkcemnjkboaaQ62
set_option linter.unusedVariables false
namespace Go.Proofs.Ytnppkcemnjkboaa.G
open Go Go.Sx Go.Proofs

def impl_IsSurface_1.f (k_1 : Int) (c1 : List (List Int)) : Option Bool := (bif (k_1 == 0) then some true else (G.impl_edgesOf.f c1).bind (fun r_1 => (G.impl_in.f k_1 (w64 (0 - r_1)) r_1).bind (fun r_3 => some (!r_3))))

def impl_IsSurface_1.R (r : Bool) (v : Value) (L : List Asn) : Prop := v = .bool r ∧ L = []

set_option maxRecDepth 100000 in
set_option maxHeartbeats 4000000 in
theorem impl_IsSurface_1.calls (w : World) (k_1 : Int) (b_1 : Nat) (s1 : SV) (ss1 : List SV) (c1 : List (List Int)) (h2 : At (hp w) b_1 [.one (SV.v s1)]) (h1 : ReadsM Ei (hp w) s1 ss1 c1) :
    ∀ r, impl_IsSurface_1.f k_1 c1 = some r → Calls Try.prog 86 #[.int .i64 k_1, bp b_1 0] w (Ret w (impl_IsSurface_1.R r)) := by

  refine calls_T (n := 16) (Γ := [(0, .int .i64 k_1), (1, bp b_1 0)]) (R := impl_IsSurface_1.R) Try.func86 rfl rfl (Nat.le_of_ble_eq_true rfl) ⟨rfl, rfl, trivial⟩ ?_
  unfold impl_IsSurface_1.f
  refine TC.seq ?_
  refine TC.region ?_
  refine TL.assign rfl rfl (v := .bool false) rfl ?_
  refine TL.done ?_
  refine TC.seq ?_
  refine TC.ifB (k_1 == 0) (fun c2 => ?_) (fun c2 => ?_)
  · refine TC.wk (Γ' := [(0, .int .i64 k_1), (1, bp b_1 0)]) ⟨rfl, rfl, trivial⟩ ?_
    refine TC.drawG [(0, .int .i64 k_1), (1, bp b_1 0)] [] ⟨rfl, rfl, trivial⟩ trivial (fun l_ g2 => []) (fun g2 => [.int .i64 k_1, .bool true, .bool true, undef, undef, undef, undef, undef, undef, undef, undef, .bool true, .bool true]) [[], [0], [0, 1], [0, 1, 2], [0, 1, 2], [0, 1, 2, 4], [0, 1, 2, 4, 5], [0, 1, 2], [0, 1, 2, 4, 5, 7], [0, 1, 2, 3, 4, 5, 6, 7, 8], [0, 1, 2, 3, 4, 5, 6, 7, 8, 9], [0, 1, 2, 3, 4, 5, 6, 7, 8, 9, 10], [0, 1, 2, 3, 4, 5, 6, 7, 8, 9, 10, 11]] [[some false, some false, some false, some false, some false, some false, some false, some false, some false, some false, some false, some false, some false], [some true, some false, some false, some false, some false, some false, some false, some false, some false, some false, some false, some false, some false], [some true, some true, some false, some false, some false, some false, some false, some false, some false, some false, some false, some false, some false], [some true, some true, some true, some false, none, none, none, none, none, some false, some false, some false, some false], [some true, some true, some true, none, some false, some false, some false, none, some false, some false, some false, some false, some false], [some true, some true, some true, none, some true, some false, some false, none, some false, some false, some false, some false, some false], [some true, some true, some true, none, some true, some true, some false, none, none, some false, some false, some false, some false], [some true, some true, some true, none, none, none, none, some false, some false, some false, some false, some false, some false], [some true, some true, some true, none, some true, some true, none, some true, some false, some false, some false, some false, some false], [some true, some true, some true, some true, some true, some true, some true, some true, some true, some false, some false, some false, some false], [some true, some true, some true, some true, some true, some true, some true, some true, some true, some true, some false, some false, some false], [some true, some true, some true, some true, some true, some true, some true, some true, some true, some true, some true, some false, some false], [some true, some true, some true, some true, some true, some true, some true, some true, some true, some true, some true, some true, some false]] (by kernel_rfl) (fun _ => rfl) rfl rfl rfl rfl rfl (fun _ _ => ⟨⟨⟨⟨⟨⟨⟨⟨⟨⟨⟨⟨⟨trivial, rfl⟩, rfl⟩, rfl⟩, rfl⟩, rfl⟩, rfl⟩, rfl⟩, rfl⟩, rfl⟩, rfl⟩, rfl⟩, rfl⟩, rfl⟩) 0 [] (fun _ => rfl) ?_ ?_
    · refine ⟨rfl, ?_, rfl, ?_, rfl, ?_, rfl, ?_, rfl, ?_, rfl, ?_, rfl, ?_, rfl, ?_, rfl, ?_, rfl, ?_, rfl, ?_, rfl, ?_, rfl, ?_, trivial⟩
      · intro g2
        refine TL.move rfl rfl (v := .int .i64 k_1) rfl ?_
        refine TL.done ?_
        exact TC.nrm () [] ⟨rfl, trivial⟩ [] rfl
      · intro g2
        refine TL.bin .i64 k_1 0 rfl rfl rfl rfl (v := .bool (k_1 == 0)) rfl ?_
        refine TL.done ?_
        exact TC.nrm () [] ⟨(by rw [c2]; rfl), trivial⟩ [] rfl
      · intro g2
        refine TL.move rfl rfl (v := .bool true) rfl ?_
        refine TL.done ?_
        exact TC.nrm () [] ⟨rfl, trivial⟩ [] rfl
      · intro b4_ b5_ b6_ b7_ b8_ g2
        refine TL.skip rfl rfl (by decide) ?_
        refine TL.done ?_
        exact TC.nrm () [] ⟨rfl, trivial⟩ [] rfl
      · intro b3_ b7_ g2
        refine TL.asL [] rfl ?_
        refine TL.skip rfl rfl (by decide) ?_
        refine TL.done ?_
        exact TC.nrm () [] ⟨rfl, trivial⟩ [] rfl
      · intro b3_ b7_ g2
        refine TL.asL [] rfl ?_
        refine TL.skip rfl rfl (by decide) ?_
        refine TL.done ?_
        exact TC.nrm () [] ⟨rfl, trivial⟩ [] rfl
      · intro b3_ b7_ b8_ g2
        refine TL.skip rfl rfl (by decide) ?_
        refine TL.done ?_
        exact TC.nrm () [] ⟨rfl, trivial⟩ [] rfl
      · intro b3_ b4_ b5_ b6_ g2
        refine TL.asL [] rfl ?_
        refine TL.skip rfl rfl (by decide) ?_
        refine TL.done ?_
        exact TC.nrm () [] ⟨rfl, trivial⟩ [] rfl
      · intro b3_ b6_ g2
        refine TL.asL [] rfl ?_
        refine TL.skip rfl rfl (by decide) ?_
        refine TL.done ?_
        exact TC.nrm () [] ⟨rfl, trivial⟩ [] rfl
      · intro g2
        refine TL.asL [] rfl ?_
        refine TL.skip rfl rfl (by decide) ?_
        refine TL.done ?_
        exact TC.nrm () [] ⟨rfl, trivial⟩ [] rfl
      · intro g2
        refine TL.skip rfl rfl (by decide) ?_
        refine TL.done ?_
        exact TC.nrm () [] ⟨rfl, trivial⟩ [] rfl
      · intro g2
        refine TL.pick rfl rfl (b := true) rfl (r := .bool true) rfl ?_
        refine TL.done ?_
        exact TC.nrm () [] ⟨rfl, trivial⟩ [] rfl
      · intro g2
        refine TL.assign rfl rfl (v := .bool true) rfl ?_
        refine TL.done ?_
        exact TC.nrm () [] ⟨rfl, trivial⟩ [] rfl
    · intro g2
      refine TC.asL [] rfl ?_
      exact TC.retF (Fin.body (fin1 (.inr rfl) rfl (.tmp rfl) [] rfl ⟨rfl, rfl⟩))
  · refine TC.wk (Γ' := [(0, .int .i64 k_1), (1, bp b_1 0)]) ⟨rfl, rfl, trivial⟩ ?_
    refine TC.bindE ?_
    rintro r_1 hr1
    refine TC.bindE ?_
    rintro r_3 hr2
    refine TC.drawG [(0, .int .i64 k_1), (1, bp b_1 0)] [] ⟨rfl, rfl, trivial⟩ trivial (fun l_ g3 => []) (fun g3 => [.int .i64 k_1, .bool false, .bool false, .int .i64 k_1, SV.v s1, .int .i64 r_1, .int .i64 (w64 (0 - r_1)), SV.v s1, .int .i64 r_1, .bool r_3, .bool (!r_3), .bool (!r_3), .bool (!r_3)]) [[], [0], [0, 1], [0, 1, 2], [0, 1, 2], [0, 1, 2, 4], [0, 1, 2, 4, 5], [0, 1, 2], [0, 1, 2, 4, 5, 7], [0, 1, 2, 3, 4, 5, 6, 7, 8], [0, 1, 2, 3, 4, 5, 6, 7, 8, 9], [0, 1, 2, 3, 4, 5, 6, 7, 8, 9, 10], [0, 1, 2, 3, 4, 5, 6, 7, 8, 9, 10, 11]] [[some false, some false, some false, some false, some false, some false, some false, some false, some false, some false, some false, some false, some false], [some true, some false, some false, some false, some false, some false, some false, some false, some false, some false, some false, some false, some false], [some true, some true, some false, some false, some false, some false, some false, some false, some false, some false, some false, some false, some false], [some true, some true, some true, some false, none, none, none, none, none, some false, some false, some false, some false], [some true, some true, some true, none, some false, some false, some false, none, some false, some false, some false, some false, some false], [some true, some true, some true, none, some true, some false, some false, none, some false, some false, some false, some false, some false], [some true, some true, some true, none, some true, some true, some false, none, none, some false, some false, some false, some false], [some true, some true, some true, none, none, none, none, some false, some false, some false, some false, some false, some false], [some true, some true, some true, none, some true, some true, none, some true, some false, some false, some false, some false, some false], [some true, some true, some true, some true, some true, some true, some true, some true, some true, some false, some false, some false, some false], [some true, some true, some true, some true, some true, some true, some true, some true, some true, some true, some false, some false, some false], [some true, some true, some true, some true, some true, some true, some true, some true, some true, some true, some true, some false, some false], [some true, some true, some true, some true, some true, some true, some true, some true, some true, some true, some true, some true, some false]] (by kernel_rfl) (fun _ => rfl) rfl rfl rfl rfl rfl (fun _ _ => ⟨⟨⟨⟨⟨⟨⟨⟨⟨⟨⟨⟨⟨trivial, rfl⟩, rfl⟩, rfl⟩, rfl⟩, rfl⟩, rfl⟩, rfl⟩, rfl⟩, rfl⟩, rfl⟩, rfl⟩, rfl⟩, rfl⟩) 0 [] (fun _ => rfl) ?_ ?_
    · refine ⟨rfl, ?_, rfl, ?_, rfl, ?_, rfl, ?_, rfl, ?_, rfl, ?_, rfl, ?_, rfl, ?_, rfl, ?_, rfl, ?_, rfl, ?_, rfl, ?_, rfl, ?_, trivial⟩
      · intro g3
        refine TL.move rfl rfl (v := .int .i64 k_1) rfl ?_
        refine TL.done ?_
        exact TC.nrm () [] ⟨rfl, trivial⟩ [] rfl
      · intro g3
        refine TL.bin .i64 k_1 0 rfl rfl rfl rfl (v := .bool (k_1 == 0)) rfl ?_
        refine TL.done ?_
        exact TC.nrm () [] ⟨(by rw [c2]; rfl), trivial⟩ [] rfl
      · intro g3
        refine TL.move rfl rfl (v := .bool false) rfl ?_
        refine TL.done ?_
        exact TC.nrm () [] ⟨rfl, trivial⟩ [] rfl
      · intro b4_ b5_ b6_ b7_ b8_ g3
        refine TL.move rfl rfl (v := .int .i64 k_1) rfl ?_
        refine TL.done ?_
        exact TC.nrm () [] ⟨rfl, trivial⟩ [] rfl
      · intro b3_ b7_ g3
        refine TL.asL [] rfl ?_
        refine TL.load1 0 (Src.at h2) Try.isAgg22 rfl rfl rfl rfl rfl ?_
        refine TL.done ?_
        exact TC.nrm () [] ⟨rfl, trivial⟩ [] rfl
      · intro b3_ b7_ g3
        refine TL.asL [] rfl ?_
        refine TL.callH (R := G.impl_edgesOf.R) hr1 Try.call62 rfl rfl rfl (fun w hS => G.impl_edgesOf.calls w s1 ss1 c1 ((RdM.old h1) w hS)) ?_
        rintro _ _ ⟨rfl, rfl⟩
        refine TL.done ?_
        exact TC.nrm () [] ⟨rfl, trivial⟩ [] rfl
      · intro b3_ b7_ b8_ g3
        refine TL.neg .i64 r_1 rfl rfl rfl ?_
        refine TL.done ?_
        exact TC.nrm () [] ⟨rfl, trivial⟩ [] rfl
      · intro b3_ b4_ b5_ b6_ g3
        refine TL.asL [] rfl ?_
        refine TL.load1 0 (Src.at h2) Try.isAgg22 rfl rfl rfl rfl rfl ?_
        refine TL.done ?_
        exact TC.nrm () [] ⟨rfl, trivial⟩ [] rfl
      · intro b3_ b6_ g3
        refine TL.asL [] rfl ?_
        refine TL.callH (R := G.impl_edgesOf.R) hr1 Try.call62 rfl rfl rfl (fun w hS => G.impl_edgesOf.calls w s1 ss1 c1 ((RdM.old h1) w hS)) ?_
        rintro _ _ ⟨rfl, rfl⟩
        refine TL.done ?_
        exact TC.nrm () [] ⟨rfl, trivial⟩ [] rfl
      · intro g3
        refine TL.asL [] rfl ?_
        refine TL.callH (R := G.impl_in.R) hr2 Try.call60 rfl rfl rfl (fun w hS => G.impl_in.calls w k_1 (w64 (0 - r_1)) r_1) ?_
        rintro _ _ ⟨rfl, rfl⟩
        refine TL.done ?_
        exact TC.nrm () [] ⟨rfl, trivial⟩ [] rfl
      · intro g3
        refine TL.not r_3 rfl rfl rfl ?_
        refine TL.done ?_
        exact TC.nrm () [] ⟨rfl, trivial⟩ [] rfl
      · intro g3
        refine TL.pick rfl rfl (b := false) rfl (r := .bool (!r_3)) rfl ?_
        refine TL.done ?_
        exact TC.nrm () [] ⟨rfl, trivial⟩ [] rfl
      · intro g3
        refine TL.assign rfl rfl (v := .bool (!r_3)) rfl ?_
        refine TL.done ?_
        exact TC.nrm () [] ⟨rfl, trivial⟩ [] rfl
    · intro g3
      refine TC.asL [] rfl ?_
      exact TC.retF (Fin.body (fin1 (.inr rfl) rfl (.tmp rfl) [] rfl ⟨rfl, rfl⟩))

end Go.Proofs.Ytnppkcemnjkboaa.G
