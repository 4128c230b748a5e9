/- spec.FlipEdge, as a pure function. -/
import Derived.Test.YtnppkcemnjkboaaProg
import Derived.Test.YtnppkcemnjkboaaSx9
import Derived.Test.YtnppkcemnjkboaaQ53
import Derived.Test.YtnppkcemnjkboaaQ54
import Derived.Test.YtnppkcemnjkboaaQ58
import Derived.Test.YtnppkcemnjkboaaQ73
set_option linter.unusedVariables false
namespace Go.Proofs.Ytnppkcemnjkboaa.G
open Go Go.Sx Go.Proofs

def spec_FlipEdge.f (s1 : List (List Int)) (k_1 : Int) : Option ((List (List Int)) × Int) := (G.spec_l07Is.f s1).bind (fun r_1 => (bif (!r_1) then some (([] : List (List Int)), 1) else (G.spec_l01In.f k_1 1 (w64 (Int.tdiv (w64 ((s1.length : Int) * 3)) 2))).bind (fun r_2 => (bif (!r_2) then some (([] : List (List Int)), 2) else (G.spec_l07Oriented.f s1).bind (fun r_3 => (bif (!r_3) then some (([] : List (List Int)), 5) else (G.spec_l07Flip.f s1 k_1).bind (fun p => match p with | (r_4, r_5) => (bif (!r_5) then some (([] : List (List Int)), 5) else some (r_4, 0)))))))))

def spec_FlipEdge.R (r : (List (List Int)) × Int) (v : Value) (L : List Asn) : Prop := ∃ (s0 : SV) (ss0 : List SV), v = .tuple #[SV.v s0, .int .i64 r.2] ∧ L = [mat Ei 2 53 s0 ss0 r.1]

set_option maxRecDepth 100000 in
set_option maxHeartbeats 4000000 in
theorem spec_FlipEdge.calls (w : World) (s2 : SV) (ss1 : List SV) (s1 : List (List Int)) (k_1 : Int) (h1 : ReadsM Ei (hp w) s2 ss1 s1) :
    ∀ r, spec_FlipEdge.f s1 k_1 = some r → Calls Try.prog 28 #[SV.v s2, .int .i64 k_1] w (Ret w (spec_FlipEdge.R r)) := by

  refine calls_T (n := 33) (Γ := [(0, SV.v s2), (1, .int .i64 k_1)]) (R := spec_FlipEdge.R) Try.func28 rfl rfl (Nat.le_of_ble_eq_true rfl) ⟨rfl, rfl, trivial⟩ ?_
  unfold spec_FlipEdge.f
  refine TC.seq ?_
  refine TC.region ?_
  refine TL.assign rfl rfl (v := SV.v ⟨none, 0, 0⟩) rfl ?_
  refine TL.assign rfl rfl (v := .int .i64 0) rfl ?_
  refine TL.done ?_
  refine TC.seq ?_
  refine TC.block NoEx.body ?_
  refine TC.seq ?_
  refine TC.region ?_
  refine TL.move rfl rfl (v := SV.v s2) rfl ?_
  refine TL.call (R := G.spec_l07Is.R) Try.call53 rfl rfl rfl (fun w hS => G.spec_l07Is.calls w s2 ss1 s1 ((RdM.old h1) w hS)) ?_
  rintro r_1 _ _ ⟨rfl, rfl⟩
  refine TL.not r_1 rfl rfl rfl ?_
  refine TL.assign rfl rfl (v := .bool (!r_1)) rfl ?_
  refine TL.done ?_
  refine TC.cond (b := (!r_1)) rfl (fun c1 => ?_) (fun c2 => ?_)
  · refine TC.seq ?_
    refine TC.region ?_
    refine TL.assign rfl rfl (v := SV.v ⟨none, 0, 0⟩) rfl ?_
    refine TL.assign rfl rfl (v := .int .i64 1) rfl ?_
    refine TL.done ?_
    refine TC.nilmat Ei 2 53 ?_
    exact TC.retF (Fin.body (fin2 (.inr rfl) rfl (.tmp rfl) (.tmp rfl) [0] rfl ⟨⟨none, 0, 0⟩, [], rfl, rfl⟩))
  · refine TC.seq ?_
    refine TC.region ?_
    refine TL.move rfl rfl (v := .int .i64 k_1) rfl ?_
    refine TL.move rfl rfl (v := SV.v s2) rfl ?_
    refine TL.lenM (RdM.old h1) Try.underlying22 rfl rfl rfl ?_
    refine TL.bin .i64 (s1.length : Int) 3 rfl rfl rfl rfl (v := .int .i64 (w64 ((s1.length : Int) * 3))) rfl ?_
    refine TL.quo .i64 (w64 ((s1.length : Int) * 3)) 2 (by decide) rfl rfl rfl rfl ?_
    refine TL.call (R := G.spec_l01In.R) Try.call58 rfl rfl rfl (fun w hS => G.spec_l01In.calls w k_1 1 (w64 (Int.tdiv (w64 ((s1.length : Int) * 3)) 2))) ?_
    rintro r_2 _ _ ⟨rfl, rfl⟩
    refine TL.not r_2 rfl rfl rfl ?_
    refine TL.assign rfl rfl (v := .bool (!r_2)) rfl ?_
    refine TL.done ?_
    refine TC.cond (b := (!r_2)) rfl (fun c3 => ?_) (fun c4 => ?_)
    · refine TC.seq ?_
      refine TC.region ?_
      refine TL.assign rfl rfl (v := SV.v ⟨none, 0, 0⟩) rfl ?_
      refine TL.assign rfl rfl (v := .int .i64 2) rfl ?_
      refine TL.done ?_
      refine TC.nilmat Ei 2 53 ?_
      exact TC.retF (Fin.body (fin2 (.inr rfl) rfl (.tmp rfl) (.tmp rfl) [0] rfl ⟨⟨none, 0, 0⟩, [], rfl, rfl⟩))
    · refine TC.seq ?_
      refine TC.region ?_
      refine TL.move rfl rfl (v := SV.v s2) rfl ?_
      refine TL.call (R := G.spec_l07Oriented.R) Try.call54 rfl rfl rfl (fun w hS => G.spec_l07Oriented.calls w s2 ss1 s1 ((RdM.old h1) w hS)) ?_
      rintro r_3 _ _ ⟨rfl, rfl⟩
      refine TL.not r_3 rfl rfl rfl ?_
      refine TL.assign rfl rfl (v := .bool (!r_3)) rfl ?_
      refine TL.done ?_
      refine TC.cond (b := (!r_3)) rfl (fun c5 => ?_) (fun c6 => ?_)
      · refine TC.seq ?_
        refine TC.region ?_
        refine TL.assign rfl rfl (v := SV.v ⟨none, 0, 0⟩) rfl ?_
        refine TL.assign rfl rfl (v := .int .i64 5) rfl ?_
        refine TL.done ?_
        refine TC.nilmat Ei 2 53 ?_
        exact TC.retF (Fin.body (fin2 (.inr rfl) rfl (.tmp rfl) (.tmp rfl) [0] rfl ⟨⟨none, 0, 0⟩, [], rfl, rfl⟩))
      · refine TC.skip ?_
        refine TC.seq ?_
        refine TC.region ?_
        refine TL.move rfl rfl (v := SV.v s2) rfl ?_
        refine TL.move rfl rfl (v := .int .i64 k_1) rfl ?_
        refine TL.call (R := G.spec_l07Flip.R) Try.call73 rfl rfl rfl (fun w hS => G.spec_l07Flip.calls w s2 ss1 s1 k_1 ((RdM.old h1) w hS)) ?_
        rintro ⟨r_4, r_5⟩ _ _ ⟨s3, ss2, rfl, rfl⟩
        refine TL.move rfl rfl (v := .tuple #[SV.v s3, .bool r_5]) rfl ?_
        refine TL.extract rfl rfl rfl (v := SV.v s3) rfl ?_
        refine TL.extract rfl rfl rfl (v := .bool r_5) rfl ?_
        refine TL.assign rfl rfl (v := SV.v s3) rfl ?_
        refine TL.assign rfl rfl (v := .bool r_5) rfl ?_
        refine TL.done ?_
        refine TC.seq ?_
        refine TC.seq ?_
        refine TC.region ?_
        refine TL.move rfl rfl (v := .bool r_5) rfl ?_
        refine TL.not r_5 rfl rfl rfl ?_
        refine TL.done ?_
        refine TC.cond (b := (!r_5)) rfl (fun c7 => ?_) (fun c8 => ?_)
        · refine TC.seq ?_
          refine TC.region ?_
          refine TL.assign rfl rfl (v := SV.v ⟨none, 0, 0⟩) rfl ?_
          refine TL.assign rfl rfl (v := .int .i64 5) rfl ?_
          refine TL.done ?_
          refine TC.nilmat Ei 2 53 ?_
          exact TC.retF (Fin.body (fin2 (.inr rfl) rfl (.tmp rfl) (.tmp rfl) [0] rfl ⟨⟨none, 0, 0⟩, [], rfl, rfl⟩))
        · refine TC.skip ?_
          refine TC.seq ?_
          refine TC.region ?_
          refine TL.move rfl rfl (v := SV.v s3) rfl ?_
          refine TL.assign rfl rfl (v := SV.v s3) rfl ?_
          refine TL.assign rfl rfl (v := .int .i64 0) rfl ?_
          refine TL.done ?_
          exact TC.retF (Fin.body (fin2 (.inr rfl) rfl (.tmp rfl) (.tmp rfl) [0] rfl ⟨s3, ss2, rfl, rfl⟩))

end Go.Proofs.Ytnppkcemnjkboaa.G
