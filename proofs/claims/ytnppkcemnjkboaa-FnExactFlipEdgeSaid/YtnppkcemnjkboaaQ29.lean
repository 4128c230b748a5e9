/- impl.FlipEdge, as a pure function. -/
import Derived.Test.YtnppkcemnjkboaaProg
import Derived.Test.YtnppkcemnjkboaaSx9
import Derived.Test.YtnppkcemnjkboaaQ37
import Derived.Test.YtnppkcemnjkboaaQ56
import Derived.Test.YtnppkcemnjkboaaQ60
import Derived.Test.YtnppkcemnjkboaaQ61
import Derived.Test.YtnppkcemnjkboaaQ62
import Derived.Test.YtnppkcemnjkboaaQ74
import Derived.Test.YtnppkcemnjkboaaQ75
set_option linter.unusedVariables false
namespace Go.Proofs.Ytnppkcemnjkboaa.G
open Go Go.Sx Go.Proofs

def impl_FlipEdge.f (x1 : List (List Int)) (x2 : Int) : Option ((List (List Int)) × Int) := (G.impl_IsSurface.f x1).bind (fun r_1 => (bif (!r_1) then some (([] : List (List Int)), 1) else (G.impl_edgesOf.f x1).bind (fun r_2 => (G.impl_in.f x2 1 r_2).bind (fun r_3 => (bif (!r_3) then some (([] : List (List Int)), 2) else (G.impl_sidesOfEdges.f x1).bind (fun r_4 => chk x2 r_4.length ((G.impl_oriented.f x1).bind (fun r_5 => (bif (!r_5) then some (([] : List (List Int)), 5) else chk 0 ((gt r_4 x2).length) (chk 1 ((gt r_4 x2).length) ((bif ((gt (gt r_4 x2) 0).1 == (gt (gt r_4 x2) 1).1) then some (([] : List (List Int)), 5) else chk ((gt (gt r_4 x2) 0).1) x1.length (chk ((gt (gt r_4 x2) 0).2) ((gt x1 ((gt (gt r_4 x2) 0).1)).length) (((bif (decide ((gt (gt x1 ((gt (gt r_4 x2) 0).1)) ((gt (gt r_4 x2) 0).2)) < 0)) then some ((gt (gt r_4 x2) 1).1, (gt (gt r_4 x2) 1).2, (gt (gt r_4 x2) 0).1, (gt (gt r_4 x2) 0).2) else some ((gt (gt r_4 x2) 0).1, (gt (gt r_4 x2) 0).2, (gt (gt r_4 x2) 1).1, (gt (gt r_4 x2) 1).2))).bind (fun p => match p with | (y7, y8, y9, y10) => chk y7 x1.length ((G.impl_from.f (gt x1 y7) y8).bind (fun p => match p with | (r_8, r_9) => chk y9 x1.length ((G.impl_from.f (gt x1 y9) y10).bind (fun p => match p with | (r_10, r_11) => (G.impl_cloneSurface.f x1).bind (fun r_12 => chk y7 r_12.length (chk y9 ((r_12.set y7.toNat ([x2, r_9, r_10] : List Int)).length) (some (((r_12.set y7.toNat ([x2, r_9, r_10] : List Int)).set y9.toNat ([(w64 (0 - x2)), r_11, r_8] : List Int)), 0)))))))))))))))))))))))

def impl_FlipEdge.R (r : (List (List Int)) × Int) (v : Value) (L : List Asn) : Prop := ∃ (s0 : SV) (ss0 : List SV), v = .tuple #[SV.v s0, .int .i64 r.2] ∧ L = [mat Ei 2 53 s0 ss0 r.1]

set_option maxRecDepth 100000 in
set_option maxHeartbeats 4000000 in
theorem impl_FlipEdge.calls (w : World) (s1 : SV) (ss1 : List SV) (x1 : List (List Int)) (x2 : Int) (h1 : ReadsM Ei (hp w) s1 ss1 x1) :
    ∀ r, impl_FlipEdge.f x1 x2 = some r → Calls Try.prog 29 #[SV.v s1, .int .i64 x2] w (Ret w (impl_FlipEdge.R r)) := by

  refine calls_T (n := 103) (Γ := [(0, SV.v s1), (1, .int .i64 x2)]) (R := impl_FlipEdge.R) Try.func29 rfl rfl (Nat.le_of_ble_eq_true rfl) ⟨rfl, rfl, trivial⟩ ?_
  unfold impl_FlipEdge.f
  refine TC.seq ?_
  refine TC.region ?_
  refine TL.assign rfl rfl (v := SV.v ⟨none, 0, 0⟩) rfl ?_
  refine TL.assign rfl rfl (v := .int .i64 0) rfl ?_
  refine TL.done ?_
  refine TC.seq ?_
  refine TC.block NoEx.body ?_
  refine TC.seq ?_
  refine TC.region ?_
  refine TL.move rfl rfl (v := SV.v s1) rfl ?_
  refine TL.call (R := G.impl_IsSurface.R) Try.call37 rfl rfl rfl (fun w hS => G.impl_IsSurface.calls w s1 ss1 x1 ((RdM.old h1) w hS)) ?_
  rintro r_1 _ _ ⟨rfl, rfl⟩
  refine TL.not r_1 rfl rfl rfl ?_
  refine TL.assign rfl rfl (v := .bool (!r_1)) rfl ?_
  refine TL.done ?_
  refine TC.cond (b := (!r_1)) rfl (fun c1 => ?_) (fun c2 => ?_)
  · refine TC.seq ?_
    refine TC.region ?_
    refine TL.assign rfl rfl (v := SV.v ⟨none, 0, 0⟩) rfl ?_
    refine TL.assign rfl rfl (v := .int .i64 1) rfl ?_
    refine TL.done ?_
    refine TC.nilmat Ei 2 53 ?_
    exact TC.retF (Fin.body (fin2 (.inr rfl) rfl (.tmp rfl) (.tmp rfl) [0] rfl ⟨⟨none, 0, 0⟩, [], rfl, rfl⟩))
  · refine TC.seq ?_
    refine TC.region ?_
    refine TL.move rfl rfl (v := .int .i64 x2) rfl ?_
    refine TL.move rfl rfl (v := SV.v s1) rfl ?_
    refine TL.call (R := G.impl_edgesOf.R) Try.call62 rfl rfl rfl (fun w hS => G.impl_edgesOf.calls w s1 ss1 x1 ((RdM.old h1) w hS)) ?_
    rintro r_2 _ _ ⟨rfl, rfl⟩
    refine TL.call (R := G.impl_in.R) Try.call60 rfl rfl rfl (fun w hS => G.impl_in.calls w x2 1 r_2) ?_
    rintro r_3 _ _ ⟨rfl, rfl⟩
    refine TL.not r_3 rfl rfl rfl ?_
    refine TL.assign rfl rfl (v := .bool (!r_3)) rfl ?_
    refine TL.done ?_
    refine TC.cond (b := (!r_3)) rfl (fun c3 => ?_) (fun c4 => ?_)
    · refine TC.seq ?_
      refine TC.region ?_
      refine TL.assign rfl rfl (v := SV.v ⟨none, 0, 0⟩) rfl ?_
      refine TL.assign rfl rfl (v := .int .i64 2) rfl ?_
      refine TL.done ?_
      refine TC.nilmat Ei 2 53 ?_
      exact TC.retF (Fin.body (fin2 (.inr rfl) rfl (.tmp rfl) (.tmp rfl) [0] rfl ⟨⟨none, 0, 0⟩, [], rfl, rfl⟩))
    · refine TC.skip ?_
      refine TC.seq ?_
      refine TC.region ?_
      refine TL.move rfl rfl (v := SV.v s1) rfl ?_
      refine TL.call (R := G.impl_sidesOfEdges.R) Try.call74 rfl rfl rfl (fun w hS => G.impl_sidesOfEdges.calls w s1 ss1 x1 ((RdM.old h1) w hS)) ?_
      rintro r_4 _ _ ⟨s2, ss2, rfl, rfl⟩
      refine TL.move rfl rfl (v := .int .i64 x2) rfl ?_
      refine TL.chk fun h2 => ?_
      refine TL.ixsM x2 x2.toNat (RdM.mat 0 rfl) h2 Try.underlying65 Try.sizeOf64 rfl rfl rfl rfl (by omega) ?_
      refine TL.loadM2 (RdM.mat 0 rfl) Try.isAgg64 x2 h2 (by omega) rfl rfl rfl ?_
      refine TL.assign rfl rfl (v := SV.v (gt ss2 x2)) rfl ?_
      refine TL.done ?_
      refine TC.seq ?_
      refine TC.seq ?_
      refine TC.bindE ?_
      rintro r_5 hr1
      refine TC.ifB (!r_5) (fun c5 => ?_) (fun c5 => ?_)
      · refine TC.wk (Γ' := [(0, SV.v s1), (1, .int .i64 x2), (4, SV.v ⟨none, 0, 0⟩), (5, .int .i64 0), (15, SV.v s1), (16, .bool r_1), (17, .bool (!r_1)), (14, .bool (!r_1)), (19, .int .i64 x2), (20, SV.v s1), (21, .int .i64 r_2), (22, .bool r_3), (23, .bool (!r_3)), (18, .bool (!r_3)), (24, SV.v s1), (25, SV.v s2), (26, .int .i64 x2), (27, ep s2 x2.toNat), (28, SV.v (gt ss2 x2)), (6, SV.v (gt ss2 x2))]) ⟨rfl, rfl, rfl, rfl, rfl, rfl, rfl, rfl, rfl, rfl, rfl, rfl, rfl, rfl, rfl, rfl, rfl, rfl, rfl, rfl, trivial⟩ ?_
        refine TC.drawG [(0, SV.v s1), (1, .int .i64 x2), (4, SV.v ⟨none, 0, 0⟩), (5, .int .i64 0), (15, SV.v s1), (16, .bool r_1), (17, .bool (!r_1)), (14, .bool (!r_1)), (19, .int .i64 x2), (20, SV.v s1), (21, .int .i64 r_2), (22, .bool r_3), (23, .bool (!r_3)), (18, .bool (!r_3)), (24, SV.v s1), (25, SV.v s2), (26, .int .i64 x2), (27, ep s2 x2.toNat), (28, SV.v (gt ss2 x2)), (6, SV.v (gt ss2 x2))] [] ⟨rfl, rfl, rfl, rfl, rfl, rfl, rfl, rfl, rfl, rfl, rfl, rfl, rfl, rfl, rfl, rfl, rfl, rfl, rfl, rfl, trivial⟩ trivial (fun l_ g2 => [mat Eii 68 64 s2 ss2 r_4]) (fun g2 => [SV.v s1, .bool r_5, .bool true, .bool true, undef, undef, undef, undef, undef, undef, undef, undef, undef, .bool true]) [[], [0], [0, 1], [0, 1, 2], [0, 1, 2, 3], [0, 1, 2, 3, 4], [0, 1, 2, 3, 4, 5], [0, 1, 2, 3, 4, 5, 6], [0, 1, 2, 3], [0, 1, 2, 3, 8], [0, 1, 2, 3, 8, 9], [0, 1, 2, 3, 8, 9, 10], [0, 1, 2, 3, 4, 5, 6, 7, 8, 9, 10, 11], [0, 1, 2, 3, 4, 5, 6, 7, 8, 9, 10, 11, 12]] [[some false, some false, some false, some false, some false, some false, some false, some false, some false, some false, some false, some false, some false, some false], [some true, some false, some false, some false, some false, some false, some false, some false, some false, some false, some false, some false, some false, some false], [some true, some true, some false, some false, some false, some false, some false, some false, some false, some false, some false, some false, some false, some false], [some true, some true, some true, some false, some false, some false, some false, some false, some false, some false, some false, some false, some false, some false], [some true, some true, some true, some true, some false, some false, some false, some false, none, none, none, none, some false, some false], [some true, some true, some true, some true, some true, some false, some false, some false, none, none, none, none, some false, some false], [some true, some true, some true, some true, some true, some true, some false, some false, none, none, none, none, some false, some false], [some true, some true, some true, some true, some true, some true, some true, some false, none, none, none, none, some false, some false], [some true, some true, some true, some true, none, none, none, none, some false, some false, some false, some false, some false, some false], [some true, some true, some true, some true, none, none, none, none, some true, some false, some false, some false, some false, some false], [some true, some true, some true, some true, none, none, none, none, some true, some true, some false, some false, some false, some false], [some true, some true, some true, some true, none, none, none, none, some true, some true, some true, some false, some false, some false], [some true, some true, some true, some true, some true, some true, some true, some true, some true, some true, some true, some true, some false, some false], [some true, some true, some true, some true, some true, some true, some true, some true, some true, some true, some true, some true, some true, some false]] (by kernel_rfl) (fun _ => rfl) rfl rfl rfl rfl rfl (fun _ _ => ⟨⟨⟨⟨⟨⟨⟨⟨⟨⟨⟨⟨⟨⟨trivial, rfl⟩, rfl⟩, rfl⟩, rfl⟩, rfl⟩, rfl⟩, rfl⟩, rfl⟩, rfl⟩, rfl⟩, rfl⟩, rfl⟩, rfl⟩, rfl⟩) 0 [0] (fun _ => rfl) ?_ ?_
        · refine ⟨rfl, ?_, rfl, ?_, rfl, ?_, rfl, ?_, rfl, ?_, rfl, ?_, rfl, ?_, rfl, ?_, rfl, ?_, rfl, ?_, rfl, ?_, rfl, ?_, rfl, ?_, rfl, ?_, trivial⟩
          · intro g2
            refine TL.move rfl rfl (v := SV.v s1) rfl ?_
            refine TL.done ?_
            exact TC.nrm () [] ⟨rfl, trivial⟩ [0] rfl
          · intro g2
            refine TL.asL [mat Eii 68 64 s2 ss2 r_4] rfl ?_
            refine TL.callH (R := G.impl_oriented.R) hr1 Try.call56 rfl rfl rfl (fun w hS => G.impl_oriented.calls w s1 ss1 x1 ((RdM.old h1) w hS)) ?_
            rintro _ _ ⟨rfl, rfl⟩
            refine TL.done ?_
            exact TC.nrm () [] ⟨rfl, trivial⟩ [0] rfl
          · intro g2
            refine TL.not r_5 rfl rfl rfl ?_
            refine TL.done ?_
            exact TC.nrm () [] ⟨(by rw [c5]; rfl), trivial⟩ [0] rfl
          · intro g2
            refine TL.move rfl rfl (v := .bool true) rfl ?_
            refine TL.done ?_
            exact TC.nrm () [] ⟨rfl, trivial⟩ [0] rfl
          · intro b8_ b9_ b10_ b11_ g2
            refine TL.skip rfl rfl (by decide) ?_
            refine TL.done ?_
            exact TC.nrm () [] ⟨rfl, trivial⟩ [0] rfl
          · intro b8_ b9_ b10_ b11_ g2
            refine TL.asL [mat Eii 68 64 s2 ss2 r_4] rfl ?_
            refine TL.skip rfl rfl (by decide) ?_
            refine TL.done ?_
            exact TC.nrm () [] ⟨rfl, trivial⟩ [0] rfl
          · intro b8_ b9_ b10_ b11_ g2
            refine TL.asL [mat Eii 68 64 s2 ss2 r_4] rfl ?_
            refine TL.skip rfl rfl (by decide) ?_
            refine TL.done ?_
            exact TC.nrm () [] ⟨rfl, trivial⟩ [0] rfl
          · intro b8_ b9_ b10_ b11_ g2
            refine TL.asL [mat Eii 68 64 s2 ss2 r_4] rfl ?_
            refine TL.skip rfl rfl (by decide) ?_
            refine TL.done ?_
            exact TC.nrm () [] ⟨rfl, trivial⟩ [0] rfl
          · intro b4_ b5_ b6_ b7_ g2
            refine TL.skip rfl rfl (by decide) ?_
            refine TL.done ?_
            exact TC.nrm () [] ⟨rfl, trivial⟩ [0] rfl
          · intro b4_ b5_ b6_ b7_ g2
            refine TL.asL [mat Eii 68 64 s2 ss2 r_4] rfl ?_
            refine TL.skip rfl rfl (by decide) ?_
            refine TL.done ?_
            exact TC.nrm () [] ⟨rfl, trivial⟩ [0] rfl
          · intro b4_ b5_ b6_ b7_ g2
            refine TL.asL [mat Eii 68 64 s2 ss2 r_4] rfl ?_
            refine TL.skip rfl rfl (by decide) ?_
            refine TL.done ?_
            exact TC.nrm () [] ⟨rfl, trivial⟩ [0] rfl
          · intro b4_ b5_ b6_ b7_ g2
            refine TL.asL [mat Eii 68 64 s2 ss2 r_4] rfl ?_
            refine TL.skip rfl rfl (by decide) ?_
            refine TL.done ?_
            exact TC.nrm () [] ⟨rfl, trivial⟩ [0] rfl
          · intro g2
            refine TL.skip rfl rfl (by decide) ?_
            refine TL.done ?_
            exact TC.nrm () [] ⟨rfl, trivial⟩ [0] rfl
          · intro g2
            refine TL.pick rfl rfl (b := true) rfl (r := .bool true) rfl ?_
            refine TL.done ?_
            exact TC.nrm () [] ⟨rfl, trivial⟩ [0] rfl
        · intro g2
          refine TC.asL [mat Eii 68 64 s2 ss2 r_4] rfl ?_
          refine TC.cond_true rfl ?_
          refine TC.seq ?_
          refine TC.region ?_
          refine TL.assign rfl rfl (v := SV.v ⟨none, 0, 0⟩) rfl ?_
          refine TL.assign rfl rfl (v := .int .i64 5) rfl ?_
          refine TL.done ?_
          refine TC.nilmat Ei 2 53 ?_
          exact TC.retF (Fin.body (fin2 (.inr rfl) rfl (.tmp rfl) (.tmp rfl) [0] rfl ⟨⟨none, 0, 0⟩, [], rfl, rfl⟩))
      · refine TC.wk (Γ' := [(0, SV.v s1), (1, .int .i64 x2), (4, SV.v ⟨none, 0, 0⟩), (5, .int .i64 0), (15, SV.v s1), (16, .bool r_1), (17, .bool (!r_1)), (14, .bool (!r_1)), (19, .int .i64 x2), (20, SV.v s1), (21, .int .i64 r_2), (22, .bool r_3), (23, .bool (!r_3)), (18, .bool (!r_3)), (24, SV.v s1), (25, SV.v s2), (26, .int .i64 x2), (27, ep s2 x2.toNat), (28, SV.v (gt ss2 x2)), (6, SV.v (gt ss2 x2))]) ⟨rfl, rfl, rfl, rfl, rfl, rfl, rfl, rfl, rfl, rfl, rfl, rfl, rfl, rfl, rfl, rfl, rfl, rfl, rfl, rfl, trivial⟩ ?_
        refine TC.chk fun h3 => ?_
        refine TC.chk fun h4 => ?_
        refine TC.drawG [(0, SV.v s1), (1, .int .i64 x2), (4, SV.v ⟨none, 0, 0⟩), (5, .int .i64 0), (15, SV.v s1), (16, .bool r_1), (17, .bool (!r_1)), (14, .bool (!r_1)), (19, .int .i64 x2), (20, SV.v s1), (21, .int .i64 r_2), (22, .bool r_3), (23, .bool (!r_3)), (18, .bool (!r_3)), (24, SV.v s1), (25, SV.v s2), (26, .int .i64 x2), (27, ep s2 x2.toNat), (28, SV.v (gt ss2 x2)), (6, SV.v (gt ss2 x2))] [] ⟨rfl, rfl, rfl, rfl, rfl, rfl, rfl, rfl, rfl, rfl, rfl, rfl, rfl, rfl, rfl, rfl, rfl, rfl, rfl, rfl, trivial⟩ trivial (fun l_ g3 => [mat Eii 68 64 s2 ss2 r_4]) (fun g3 => [SV.v s1, .bool r_5, .bool false, .bool false, SV.v (gt ss2 x2), ep (gt ss2 x2) 0, ep (gt ss2 x2) 0, .int .i64 ((gt (gt r_4 x2) 0).1), SV.v (gt ss2 x2), ep (gt ss2 x2) 2, ep (gt ss2 x2) 2, .int .i64 ((gt (gt r_4 x2) 1).1), .bool ((gt (gt r_4 x2) 0).1 == (gt (gt r_4 x2) 1).1), .bool ((gt (gt r_4 x2) 0).1 == (gt (gt r_4 x2) 1).1)]) [[], [0], [0, 1], [0, 1, 2], [0, 1, 2, 3], [0, 1, 2, 3, 4], [0, 1, 2, 3, 4, 5], [0, 1, 2, 3, 4, 5, 6], [0, 1, 2, 3], [0, 1, 2, 3, 8], [0, 1, 2, 3, 8, 9], [0, 1, 2, 3, 8, 9, 10], [0, 1, 2, 3, 4, 5, 6, 7, 8, 9, 10, 11], [0, 1, 2, 3, 4, 5, 6, 7, 8, 9, 10, 11, 12]] [[some false, some false, some false, some false, some false, some false, some false, some false, some false, some false, some false, some false, some false, some false], [some true, some false, some false, some false, some false, some false, some false, some false, some false, some false, some false, some false, some false, some false], [some true, some true, some false, some false, some false, some false, some false, some false, some false, some false, some false, some false, some false, some false], [some true, some true, some true, some false, some false, some false, some false, some false, some false, some false, some false, some false, some false, some false], [some true, some true, some true, some true, some false, some false, some false, some false, none, none, none, none, some false, some false], [some true, some true, some true, some true, some true, some false, some false, some false, none, none, none, none, some false, some false], [some true, some true, some true, some true, some true, some true, some false, some false, none, none, none, none, some false, some false], [some true, some true, some true, some true, some true, some true, some true, some false, none, none, none, none, some false, some false], [some true, some true, some true, some true, none, none, none, none, some false, some false, some false, some false, some false, some false], [some true, some true, some true, some true, none, none, none, none, some true, some false, some false, some false, some false, some false], [some true, some true, some true, some true, none, none, none, none, some true, some true, some false, some false, some false, some false], [some true, some true, some true, some true, none, none, none, none, some true, some true, some true, some false, some false, some false], [some true, some true, some true, some true, some true, some true, some true, some true, some true, some true, some true, some true, some false, some false], [some true, some true, some true, some true, some true, some true, some true, some true, some true, some true, some true, some true, some true, some false]] (by kernel_rfl) (fun _ => rfl) rfl rfl rfl rfl rfl (fun _ _ => ⟨⟨⟨⟨⟨⟨⟨⟨⟨⟨⟨⟨⟨⟨trivial, rfl⟩, rfl⟩, rfl⟩, rfl⟩, rfl⟩, rfl⟩, rfl⟩, rfl⟩, rfl⟩, rfl⟩, rfl⟩, rfl⟩, rfl⟩, rfl⟩) 0 [0] (fun _ => rfl) ?_ ?_
        · refine ⟨rfl, ?_, rfl, ?_, rfl, ?_, rfl, ?_, rfl, ?_, rfl, ?_, rfl, ?_, rfl, ?_, rfl, ?_, rfl, ?_, rfl, ?_, rfl, ?_, rfl, ?_, rfl, ?_, trivial⟩
          · intro g3
            refine TL.move rfl rfl (v := SV.v s1) rfl ?_
            refine TL.done ?_
            exact TC.nrm () [] ⟨rfl, trivial⟩ [0] rfl
          · intro g3
            refine TL.asL [mat Eii 68 64 s2 ss2 r_4] rfl ?_
            refine TL.callH (R := G.impl_oriented.R) hr1 Try.call56 rfl rfl rfl (fun w hS => G.impl_oriented.calls w s1 ss1 x1 ((RdM.old h1) w hS)) ?_
            rintro _ _ ⟨rfl, rfl⟩
            refine TL.done ?_
            exact TC.nrm () [] ⟨rfl, trivial⟩ [0] rfl
          · intro g3
            refine TL.not r_5 rfl rfl rfl ?_
            refine TL.done ?_
            exact TC.nrm () [] ⟨(by rw [c5]; rfl), trivial⟩ [0] rfl
          · intro g3
            refine TL.move rfl rfl (v := .bool false) rfl ?_
            refine TL.done ?_
            exact TC.nrm () [] ⟨rfl, trivial⟩ [0] rfl
          · intro b8_ b9_ b10_ b11_ g3
            refine TL.move rfl rfl (v := SV.v (gt ss2 x2)) rfl ?_
            refine TL.done ?_
            exact TC.nrm () [] ⟨rfl, trivial⟩ [0] rfl
          · intro b8_ b9_ b10_ b11_ g3
            refine TL.asL [mat Eii 68 64 s2 ss2 r_4] rfl ?_
            refine TL.ixs 0 0 (RdM.inn (RdM.mat 0 rfl) h2) h3 Try.underlying64 Try.sizeOf68 rfl rfl rfl rfl rfl ?_
            refine TL.done ?_
            exact TC.nrm () [] ⟨rfl, trivial⟩ [0] rfl
          · intro b8_ b9_ b10_ b11_ g3
            refine TL.asL [mat Eii 68 64 s2 ss2 r_4] rfl ?_
            refine TL.fae (RdM.inn (RdM.mat 0 rfl) h2) (by have := h3; omega) Try.underlying68 rfl Try.sizeOf3 rfl 0 rfl rfl rfl rfl ?_
            refine TL.done ?_
            exact TC.nrm () [] ⟨rfl, trivial⟩ [0] rfl
          · intro b8_ b9_ b10_ b11_ g3
            refine TL.asL [mat Eii 68 64 s2 ss2 r_4] rfl ?_
            refine TL.loadE (RdM.inn (RdM.mat 0 rfl) h2) Try.isAgg3 0 0 (gt_spec h3) (v := .int .i64 ((gt (gt r_4 x2) 0).1)) rfl rfl rfl rfl rfl ?_
            refine TL.done ?_
            exact TC.nrm () [] ⟨rfl, trivial⟩ [0] rfl
          · intro b4_ b5_ b6_ b7_ g3
            refine TL.move rfl rfl (v := SV.v (gt ss2 x2)) rfl ?_
            refine TL.done ?_
            exact TC.nrm () [] ⟨rfl, trivial⟩ [0] rfl
          · intro b4_ b5_ b6_ b7_ g3
            refine TL.asL [mat Eii 68 64 s2 ss2 r_4] rfl ?_
            refine TL.ixs 1 2 (RdM.inn (RdM.mat 0 rfl) h2) h4 Try.underlying64 Try.sizeOf68 rfl rfl rfl rfl rfl ?_
            refine TL.done ?_
            exact TC.nrm () [] ⟨rfl, trivial⟩ [0] rfl
          · intro b4_ b5_ b6_ b7_ g3
            refine TL.asL [mat Eii 68 64 s2 ss2 r_4] rfl ?_
            refine TL.fae (RdM.inn (RdM.mat 0 rfl) h2) (by have := h4; omega) Try.underlying68 rfl Try.sizeOf3 rfl 2 rfl rfl rfl rfl ?_
            refine TL.done ?_
            exact TC.nrm () [] ⟨rfl, trivial⟩ [0] rfl
          · intro b4_ b5_ b6_ b7_ g3
            refine TL.asL [mat Eii 68 64 s2 ss2 r_4] rfl ?_
            refine TL.loadE (RdM.inn (RdM.mat 0 rfl) h2) Try.isAgg3 1 0 (gt_spec h4) (v := .int .i64 ((gt (gt r_4 x2) 1).1)) rfl rfl rfl rfl rfl ?_
            refine TL.done ?_
            exact TC.nrm () [] ⟨rfl, trivial⟩ [0] rfl
          · intro g3
            refine TL.bin .i64 ((gt (gt r_4 x2) 0).1) ((gt (gt r_4 x2) 1).1) rfl rfl rfl rfl (v := .bool ((gt (gt r_4 x2) 0).1 == (gt (gt r_4 x2) 1).1)) rfl ?_
            refine TL.done ?_
            exact TC.nrm () [] ⟨rfl, trivial⟩ [0] rfl
          · intro g3
            refine TL.pick rfl rfl (b := false) rfl (r := .bool ((gt (gt r_4 x2) 0).1 == (gt (gt r_4 x2) 1).1)) rfl ?_
            refine TL.done ?_
            exact TC.nrm () [] ⟨rfl, trivial⟩ [0] rfl
        · intro g3
          refine TC.asL [mat Eii 68 64 s2 ss2 r_4] rfl ?_
          refine TC.cond (b := ((gt (gt r_4 x2) 0).1 == (gt (gt r_4 x2) 1).1)) rfl (fun c6 => ?_) (fun c7 => ?_)
          · refine TC.seq ?_
            refine TC.region ?_
            refine TL.assign rfl rfl (v := SV.v ⟨none, 0, 0⟩) rfl ?_
            refine TL.assign rfl rfl (v := .int .i64 5) rfl ?_
            refine TL.done ?_
            refine TC.nilmat Ei 2 53 ?_
            exact TC.retF (Fin.body (fin2 (.inr rfl) rfl (.tmp rfl) (.tmp rfl) [0] rfl ⟨⟨none, 0, 0⟩, [], rfl, rfl⟩))
          · refine TC.skip ?_
            refine TC.seq ?_
            refine TC.wk (Γ' := [(0, SV.v s1), (1, .int .i64 x2), (4, SV.v ⟨none, 0, 0⟩), (5, .int .i64 0), (15, SV.v s1), (16, .bool r_1), (17, .bool (!r_1)), (14, .bool (!r_1)), (19, .int .i64 x2), (20, SV.v s1), (21, .int .i64 r_2), (22, .bool r_3), (23, .bool (!r_3)), (18, .bool (!r_3)), (24, SV.v s1), (25, SV.v s2), (26, .int .i64 x2), (27, ep s2 x2.toNat), (28, SV.v (gt ss2 x2)), (6, SV.v (gt ss2 x2)), (29, SV.v s1), (30, .bool r_5), (31, .bool false), (32, .bool false), (33, SV.v (gt ss2 x2)), (34, ep (gt ss2 x2) 0), (35, ep (gt ss2 x2) 0), (36, .int .i64 ((gt (gt r_4 x2) 0).1)), (37, SV.v (gt ss2 x2)), (38, ep (gt ss2 x2) 2), (39, ep (gt ss2 x2) 2), (40, .int .i64 ((gt (gt r_4 x2) 1).1)), (41, .bool ((gt (gt r_4 x2) 0).1 == (gt (gt r_4 x2) 1).1)), (42, .bool ((gt (gt r_4 x2) 0).1 == (gt (gt r_4 x2) 1).1))]) ⟨rfl, rfl, rfl, rfl, rfl, rfl, rfl, rfl, rfl, rfl, rfl, rfl, rfl, rfl, rfl, rfl, rfl, rfl, rfl, rfl, rfl, rfl, rfl, rfl, rfl, rfl, rfl, rfl, rfl, rfl, rfl, rfl, rfl, rfl, trivial⟩ ?_
            refine TC.drawG [(0, SV.v s1), (1, .int .i64 x2), (4, SV.v ⟨none, 0, 0⟩), (5, .int .i64 0), (15, SV.v s1), (16, .bool r_1), (17, .bool (!r_1)), (14, .bool (!r_1)), (19, .int .i64 x2), (20, SV.v s1), (21, .int .i64 r_2), (22, .bool r_3), (23, .bool (!r_3)), (18, .bool (!r_3)), (24, SV.v s1), (25, SV.v s2), (26, .int .i64 x2), (27, ep s2 x2.toNat), (28, SV.v (gt ss2 x2)), (6, SV.v (gt ss2 x2)), (29, SV.v s1), (30, .bool r_5), (31, .bool false), (32, .bool false), (33, SV.v (gt ss2 x2)), (34, ep (gt ss2 x2) 0), (35, ep (gt ss2 x2) 0), (36, .int .i64 ((gt (gt r_4 x2) 0).1)), (37, SV.v (gt ss2 x2)), (38, ep (gt ss2 x2) 2), (39, ep (gt ss2 x2) 2), (40, .int .i64 ((gt (gt r_4 x2) 1).1)), (41, .bool ((gt (gt r_4 x2) 0).1 == (gt (gt r_4 x2) 1).1)), (42, .bool ((gt (gt r_4 x2) 0).1 == (gt (gt r_4 x2) 1).1))] [] ⟨rfl, rfl, rfl, rfl, rfl, rfl, rfl, rfl, rfl, rfl, rfl, rfl, rfl, rfl, rfl, rfl, rfl, rfl, rfl, rfl, rfl, rfl, rfl, rfl, rfl, rfl, rfl, rfl, rfl, rfl, rfl, rfl, rfl, rfl, trivial⟩ trivial (fun l_ g4 => [mat Eii 68 64 s2 ss2 r_4, (bif nb l_ 8 then box (gs (g4 48)).n 68 [.one (.int .i64 ((gt (gt r_4 x2) 0).1)), .one (.int .i64 ((gt (gt r_4 x2) 0).2))] else (bif nb l_ 6 then box (gs (g4 48)).n 68 [.one (.int .i64 0), .one (.int .i64 0)] else emp)), (bif nb l_ 9 then box (gs (g4 56)).n 68 [.one (.int .i64 ((gt (gt r_4 x2) 1).1)), .one (.int .i64 ((gt (gt r_4 x2) 1).2))] else (bif nb l_ 7 then box (gs (g4 56)).n 68 [.one (.int .i64 0), .one (.int .i64 0)] else emp))]) (fun g4 => [SV.v (gt ss2 x2), ep (gt ss2 x2) 0, sval [.one (.int .i64 ((gt (gt r_4 x2) 0).1)), .one (.int .i64 ((gt (gt r_4 x2) 0).2))], SV.v (gt ss2 x2), ep (gt ss2 x2) 2, sval [.one (.int .i64 ((gt (gt r_4 x2) 1).1)), .one (.int .i64 ((gt (gt r_4 x2) 1).2))], bp (gs (g4 48)).n 0, bp (gs (g4 56)).n 0, undef, undef]) [[], [0], [0, 1], [], [3], [3, 4], [], [], [0, 1, 2, 6, 7], [0, 1, 2, 3, 4, 5, 6, 7, 8]] [[some false, some false, some false, none, none, none, none, none, some false, some false], [some true, some false, some false, none, none, none, none, none, some false, some false], [some true, some true, some false, none, none, none, none, none, some false, some false], [none, none, none, some false, some false, some false, none, none, none, some false], [none, none, none, some true, some false, some false, none, none, none, some false], [none, none, none, some true, some true, some false, none, none, none, some false], [none, none, none, none, none, none, some false, none, some false, some false], [none, none, none, none, none, none, none, some false, some false, some false], [some true, some true, some true, none, none, none, some true, some true, some false, some false], [some true, some true, some true, some true, some true, some true, some true, some true, some true, some false]] (by kernel_rfl) (fun _ => rfl) rfl rfl rfl rfl rfl (fun _ _ => ⟨⟨⟨⟨⟨⟨⟨⟨⟨⟨trivial, rfl⟩, rfl⟩, rfl⟩, rfl⟩, rfl⟩, rfl⟩, rfl⟩, rfl⟩, rfl⟩, rfl⟩) 2 [2, 0, 0] (fun _ => rfl) ?_ ?_
            · refine ⟨rfl, ?_, rfl, ?_, rfl, ?_, rfl, ?_, rfl, ?_, rfl, ?_, rfl, ?_, rfl, ?_, rfl, ?_, rfl, ?_, trivial⟩
              · intro b3_ b4_ b5_ b6_ b7_ g4
                refine TL.move rfl rfl (v := SV.v (gt ss2 x2)) rfl ?_
                refine TL.done ?_
                exact TC.nrm () [] ⟨rfl, trivial⟩ [0, 0, 0] rfl
              · intro b3_ b4_ b5_ b6_ b7_ g4
                refine TL.asL [mat Eii 68 64 s2 ss2 r_4, (bif b6_ then box (gs (g4 48)).n 68 [.one (.int .i64 0), .one (.int .i64 0)] else emp), (bif b7_ then box (gs (g4 56)).n 68 [.one (.int .i64 0), .one (.int .i64 0)] else emp)] rfl ?_
                refine TL.ixs 0 0 (RdM.inn (RdM.mat 0 rfl) h2) h3 Try.underlying64 Try.sizeOf68 rfl rfl rfl rfl rfl ?_
                refine TL.done ?_
                exact TC.nrm () [] ⟨rfl, trivial⟩ [0, 0, 0] rfl
              · intro b3_ b4_ b5_ b6_ b7_ g4
                refine TL.asL [mat Eii 68 64 s2 ss2 r_4, (bif b6_ then box (gs (g4 48)).n 68 [.one (.int .i64 0), .one (.int .i64 0)] else emp), (bif b7_ then box (gs (g4 56)).n 68 [.one (.int .i64 0), .one (.int .i64 0)] else emp)] rfl ?_
                refine TL.loadEA (RdM.inn (RdM.mat 0 rfl) h2) Try.isAgg68 Try.sizeOf68 0 (gt_spec h3) (v := sval [.one (.int .i64 ((gt (gt r_4 x2) 0).1)), .one (.int .i64 ((gt (gt r_4 x2) 0).2))]) rfl rfl rfl rfl rfl ?_
                refine TL.done ?_
                exact TC.nrm () [] ⟨rfl, trivial⟩ [0, 0, 0] rfl
              · intro b0_ b1_ b2_ b6_ b7_ b8_ g4
                refine TL.move rfl rfl (v := SV.v (gt ss2 x2)) rfl ?_
                refine TL.done ?_
                exact TC.nrm () [] ⟨rfl, trivial⟩ [0, 0, 0] rfl
              · intro b0_ b1_ b2_ b6_ b7_ b8_ g4
                refine TL.asL [mat Eii 68 64 s2 ss2 r_4, (bif b8_ then box (gs (g4 48)).n 68 [.one (.int .i64 ((gt (gt r_4 x2) 0).1)), .one (.int .i64 ((gt (gt r_4 x2) 0).2))] else (bif b6_ then box (gs (g4 48)).n 68 [.one (.int .i64 0), .one (.int .i64 0)] else emp)), (bif b7_ then box (gs (g4 56)).n 68 [.one (.int .i64 0), .one (.int .i64 0)] else emp)] rfl ?_
                refine TL.ixs 1 2 (RdM.inn (RdM.mat 0 rfl) h2) h4 Try.underlying64 Try.sizeOf68 rfl rfl rfl rfl rfl ?_
                refine TL.done ?_
                exact TC.nrm () [] ⟨rfl, trivial⟩ [0, 0, 0] rfl
              · intro b0_ b1_ b2_ b6_ b7_ b8_ g4
                refine TL.asL [mat Eii 68 64 s2 ss2 r_4, (bif b8_ then box (gs (g4 48)).n 68 [.one (.int .i64 ((gt (gt r_4 x2) 0).1)), .one (.int .i64 ((gt (gt r_4 x2) 0).2))] else (bif b6_ then box (gs (g4 48)).n 68 [.one (.int .i64 0), .one (.int .i64 0)] else emp)), (bif b7_ then box (gs (g4 56)).n 68 [.one (.int .i64 0), .one (.int .i64 0)] else emp)] rfl ?_
                refine TL.loadEA (RdM.inn (RdM.mat 0 rfl) h2) Try.isAgg68 Try.sizeOf68 1 (gt_spec h4) (v := sval [.one (.int .i64 ((gt (gt r_4 x2) 1).1)), .one (.int .i64 ((gt (gt r_4 x2) 1).2))]) rfl rfl rfl rfl rfl ?_
                refine TL.done ?_
                exact TC.nrm () [] ⟨rfl, trivial⟩ [0, 0, 0] rfl
              · intro b0_ b1_ b2_ b3_ b4_ b5_ b7_ g4
                refine TL.asL [mat Eii 68 64 s2 ss2 r_4, emp, (bif b7_ then box (gs (g4 56)).n 68 [.one (.int .i64 0), .one (.int .i64 0)] else emp)] rfl ?_
                refine TL.alloc [.one (.int .i64 0), .one (.int .i64 0)] rfl rfl Try.zeroValue68 rfl fun b_1 => ?_
                refine TL.done ?_
                exact TC.nrm () [[⟨none, b_1, 0⟩]] ⟨rfl, trivial⟩ [1, 0, 1] rfl
              · intro b0_ b1_ b2_ b3_ b4_ b5_ b6_ g4
                refine TL.asL [mat Eii 68 64 s2 ss2 r_4, (bif b6_ then box (gs (g4 48)).n 68 [.one (.int .i64 0), .one (.int .i64 0)] else emp), emp] rfl ?_
                refine TL.alloc [.one (.int .i64 0), .one (.int .i64 0)] rfl rfl Try.zeroValue68 rfl fun b_2 => ?_
                refine TL.done ?_
                exact TC.nrm () [[⟨none, b_2, 0⟩]] ⟨rfl, trivial⟩ [1, 1, 0] rfl
              · intro b3_ b4_ b5_ g4
                refine TL.asL [mat Eii 68 64 s2 ss2 r_4, box (gs (g4 48)).n 68 [.one (.int .i64 0), .one (.int .i64 0)], box (gs (g4 56)).n 68 [.one (.int .i64 0), .one (.int .i64 0)]] rfl ?_
                refine TL.stM (news := [.one (.int .i64 ((gt (gt r_4 x2) 0).1)), .one (.int .i64 ((gt (gt r_4 x2) 0).2))]) 1 0 2 rfl Try.sizeOf68 (ones_one rfl (ones_one rfl ones_nil)) rfl rfl rfl rfl rfl rfl ?_
                refine TL.done ?_
                exact TC.nrm () [] trivial [0, 0, 0] rfl
              · intro g4
                refine TL.asL [mat Eii 68 64 s2 ss2 r_4, box (gs (g4 48)).n 68 [.one (.int .i64 ((gt (gt r_4 x2) 0).1)), .one (.int .i64 ((gt (gt r_4 x2) 0).2))], box (gs (g4 56)).n 68 [.one (.int .i64 0), .one (.int .i64 0)]] rfl ?_
                refine TL.stM (news := [.one (.int .i64 ((gt (gt r_4 x2) 1).1)), .one (.int .i64 ((gt (gt r_4 x2) 1).2))]) 2 0 2 rfl Try.sizeOf68 (ones_one rfl (ones_one rfl ones_nil)) rfl rfl rfl rfl rfl rfl ?_
                refine TL.done ?_
                exact TC.nrm () [] trivial [0, 0, 0] rfl
            · intro g4
              refine TC.asL [mat Eii 68 64 s2 ss2 r_4, box (gs (g4 48)).n 68 [.one (.int .i64 ((gt (gt r_4 x2) 0).1)), .one (.int .i64 ((gt (gt r_4 x2) 0).2))], box (gs (g4 56)).n 68 [.one (.int .i64 ((gt (gt r_4 x2) 1).1)), .one (.int .i64 ((gt (gt r_4 x2) 1).2))]] rfl ?_
              refine TC.seq ?_
              refine TC.seq ?_
              refine TC.wk (Γ' := [(0, SV.v s1), (1, .int .i64 x2), (4, SV.v ⟨none, 0, 0⟩), (5, .int .i64 0), (15, SV.v s1), (16, .bool r_1), (17, .bool (!r_1)), (14, .bool (!r_1)), (19, .int .i64 x2), (20, SV.v s1), (21, .int .i64 r_2), (22, .bool r_3), (23, .bool (!r_3)), (18, .bool (!r_3)), (24, SV.v s1), (25, SV.v s2), (26, .int .i64 x2), (27, ep s2 x2.toNat), (28, SV.v (gt ss2 x2)), (6, SV.v (gt ss2 x2)), (29, SV.v s1), (30, .bool r_5), (31, .bool false), (32, .bool false), (33, SV.v (gt ss2 x2)), (34, ep (gt ss2 x2) 0), (35, ep (gt ss2 x2) 0), (36, .int .i64 ((gt (gt r_4 x2) 0).1)), (37, SV.v (gt ss2 x2)), (38, ep (gt ss2 x2) 2), (39, ep (gt ss2 x2) 2), (40, .int .i64 ((gt (gt r_4 x2) 1).1)), (41, .bool ((gt (gt r_4 x2) 0).1 == (gt (gt r_4 x2) 1).1)), (42, .bool ((gt (gt r_4 x2) 0).1 == (gt (gt r_4 x2) 1).1)), (43, SV.v (gt ss2 x2)), (44, ep (gt ss2 x2) 0), (45, sval [.one (.int .i64 ((gt (gt r_4 x2) 0).1)), .one (.int .i64 ((gt (gt r_4 x2) 0).2))]), (46, SV.v (gt ss2 x2)), (47, ep (gt ss2 x2) 2), (48, sval [.one (.int .i64 ((gt (gt r_4 x2) 1).1)), .one (.int .i64 ((gt (gt r_4 x2) 1).2))]), (7, bp (gs (g4 48)).n 0), (8, bp (gs (g4 56)).n 0)]) ⟨rfl, rfl, rfl, rfl, rfl, rfl, rfl, rfl, rfl, rfl, rfl, rfl, rfl, rfl, rfl, rfl, rfl, rfl, rfl, rfl, rfl, rfl, rfl, rfl, rfl, rfl, rfl, rfl, rfl, rfl, rfl, rfl, rfl, rfl, rfl, rfl, rfl, rfl, rfl, rfl, rfl, rfl, trivial⟩ ?_
              refine TC.chk fun h5 => ?_
              refine TC.chk fun h6 => ?_
              refine TC.draw [SV.v s1, bp (gs (g4 48)).n 0, .int .i64 ((gt (gt r_4 x2) 0).1), ep s1 (((gt (gt r_4 x2) 0).1).toNat), SV.v (gt ss1 ((gt (gt r_4 x2) 0).1)), bp (gs (g4 48)).n 1, .int .i64 ((gt (gt r_4 x2) 0).2), ep (gt ss1 ((gt (gt r_4 x2) 0).1)) (((gt (gt r_4 x2) 0).2).toNat), .int .i64 (gt (gt x1 ((gt (gt r_4 x2) 0).1)) ((gt (gt r_4 x2) 0).2)), .bool (decide ((gt (gt x1 ((gt (gt r_4 x2) 0).1)) ((gt (gt r_4 x2) 0).2)) < 0))] 10 [mat Eii 68 64 s2 ss2 r_4, box (gs (g4 48)).n 68 [.one (.int .i64 ((gt (gt r_4 x2) 0).1)), .one (.int .i64 ((gt (gt r_4 x2) 0).2))], box (gs (g4 56)).n 68 [.one (.int .i64 ((gt (gt r_4 x2) 1).1)), .one (.int .i64 ((gt (gt r_4 x2) 1).2))]] (by kernel_rfl) rfl rfl rfl rfl ?_ ?_
              · refine ⟨?_, ?_, ?_, ?_, ?_, ?_, ?_, ?_, ?_, ?_, trivial⟩
                · refine TL.move rfl rfl (v := SV.v s1) rfl ?_
                  refine TL.done ?_
                  exact TC.nrm () () ⟨rfl, trivial⟩ [0, 0, 0] rfl
                · refine TL.fa Try.underlying68 rfl Try.sizeOf3 rfl 0 rfl rfl rfl rfl ?_
                  refine TL.done ?_
                  exact TC.nrm () () ⟨rfl, trivial⟩ [0, 0, 0] rfl
                · refine TL.load1 0 (Src.box 1 rfl) Try.isAgg3 rfl rfl rfl rfl rfl ?_
                  refine TL.done ?_
                  exact TC.nrm () () ⟨rfl, trivial⟩ [0, 0, 0] rfl
                · refine TL.ixsM ((gt (gt r_4 x2) 0).1) (((gt (gt r_4 x2) 0).1).toNat) (RdM.old h1) h5 Try.underlying22 Try.sizeOf53 rfl rfl rfl rfl (by omega) ?_
                  refine TL.done ?_
                  exact TC.nrm () () ⟨rfl, trivial⟩ [0, 0, 0] rfl
                · refine TL.loadM2 (RdM.old h1) Try.isAgg53 ((gt (gt r_4 x2) 0).1) h5 (by omega) rfl rfl rfl ?_
                  refine TL.done ?_
                  exact TC.nrm () () ⟨rfl, trivial⟩ [0, 0, 0] rfl
                · refine TL.fa Try.underlying68 rfl Try.sizeOf3 rfl 1 rfl rfl rfl rfl ?_
                  refine TL.done ?_
                  exact TC.nrm () () ⟨rfl, trivial⟩ [0, 0, 0] rfl
                · refine TL.load1 1 (Src.box 1 rfl) Try.isAgg3 rfl rfl rfl rfl rfl ?_
                  refine TL.done ?_
                  exact TC.nrm () () ⟨rfl, trivial⟩ [0, 0, 0] rfl
                · refine TL.ixs ((gt (gt r_4 x2) 0).2) (((gt (gt r_4 x2) 0).2).toNat) (RdM.inn (RdM.old h1) h5) h6 Try.underlying53 Try.sizeOf2 rfl rfl rfl rfl (by omega) ?_
                  refine TL.done ?_
                  exact TC.nrm () () ⟨rfl, trivial⟩ [0, 0, 0] rfl
                · refine TL.loadE (RdM.inn (RdM.old h1) h5) Try.isAgg2 ((gt (gt r_4 x2) 0).2).toNat 0 (gt_spec h6) (v := .int .i64 (gt (gt x1 ((gt (gt r_4 x2) 0).1)) ((gt (gt r_4 x2) 0).2))) rfl (by simp only [show Ei.sz = 1 from rfl]; omega) rfl rfl rfl ?_
                  refine TL.done ?_
                  exact TC.nrm () () ⟨rfl, trivial⟩ [0, 0, 0] rfl
                · refine TL.bin .i64 (gt (gt x1 ((gt (gt r_4 x2) 0).1)) ((gt (gt r_4 x2) 0).2)) 0 rfl rfl rfl rfl (v := .bool (decide ((gt (gt x1 ((gt (gt r_4 x2) 0).1)) ((gt (gt r_4 x2) 0).2)) < 0))) rfl ?_
                  refine TL.done ?_
                  exact TC.nrm () () ⟨rfl, trivial⟩ [0, 0, 0] rfl
              · refine TC.join1 (σ := Int × Int × Int × Int) (γ := Unit) (Γ' := (fun p q => match p, q with | (y7, y8, y9, y10), _ => [(0, SV.v s1), (1, .int .i64 x2), (7, bp (gs (g4 48)).n 0), (8, bp (gs (g4 56)).n 0)])) (L' := (fun p q => match p, q with | (y7, y8, y9, y10), _ => [box (gs (g4 48)).n 68 [.one (.int .i64 y7), .one (.int .i64 y8)], box (gs (g4 56)).n 68 [.one (.int .i64 y9), .one (.int .i64 y10)]])) ?_ ?_
                · refine TC.cond (b := (decide ((gt (gt x1 ((gt (gt r_4 x2) 0).1)) ((gt (gt r_4 x2) 0).2)) < 0))) rfl (fun c8 => ?_) (fun c9 => ?_)
                  · refine TC.region ?_
                    refine TL.loadM 0 2 (Src.box 2 rfl) Try.isAgg68 Try.sizeOf68 (mid := [.one (.int .i64 ((gt (gt r_4 x2) 1).1)), .one (.int .i64 ((gt (gt r_4 x2) 1).2))]) rfl rfl rfl rfl rfl rfl ?_
                    refine TL.loadM 0 2 (Src.box 1 rfl) Try.isAgg68 Try.sizeOf68 (mid := [.one (.int .i64 ((gt (gt r_4 x2) 0).1)), .one (.int .i64 ((gt (gt r_4 x2) 0).2))]) rfl rfl rfl rfl rfl rfl ?_
                    refine TL.stM (news := [.one (.int .i64 ((gt (gt r_4 x2) 1).1)), .one (.int .i64 ((gt (gt r_4 x2) 1).2))]) 1 0 2 rfl Try.sizeOf68 (ones_one rfl (ones_one rfl ones_nil)) rfl rfl rfl rfl rfl rfl ?_
                    refine TL.stM (news := [.one (.int .i64 ((gt (gt r_4 x2) 0).1)), .one (.int .i64 ((gt (gt r_4 x2) 0).2))]) 2 0 2 rfl Try.sizeOf68 (ones_one rfl (ones_one rfl ones_nil)) rfl rfl rfl rfl rfl rfl ?_
                    refine TL.done ?_
                    exact TC.nrm (((gt (gt r_4 x2) 1).1, (gt (gt r_4 x2) 1).2, (gt (gt r_4 x2) 0).1, (gt (gt r_4 x2) 0).2)) (()) ⟨rfl, rfl, rfl, rfl, trivial⟩ [1, 1] rfl
                  · refine TC.skip ?_
                    exact TC.nrm (((gt (gt r_4 x2) 0).1, (gt (gt r_4 x2) 0).2, (gt (gt r_4 x2) 1).1, (gt (gt r_4 x2) 1).2)) (()) ⟨rfl, rfl, rfl, rfl, trivial⟩ [1, 1] rfl
                · rintro ⟨y7, y8, y9, y10⟩ _
                  refine TC.seq ?_
                  refine TC.wk (Γ' := [(0, SV.v s1), (1, .int .i64 x2), (7, bp (gs (g4 48)).n 0), (8, bp (gs (g4 56)).n 0)]) ⟨rfl, rfl, rfl, rfl, trivial⟩ ?_
                  refine TC.chk fun h7 => ?_
                  refine TC.bindE ?_
                  rintro ⟨r_8, r_9⟩ hr2
                  refine TC.drawG [(0, SV.v s1), (1, .int .i64 x2), (7, bp (gs (g4 48)).n 0), (8, bp (gs (g4 56)).n 0)] [] ⟨rfl, rfl, rfl, rfl, trivial⟩ trivial (fun l_ g5 => [box (gs (g4 48)).n 68 [.one (.int .i64 y7), .one (.int .i64 y8)], box (gs (g4 56)).n 68 [.one (.int .i64 y9), .one (.int .i64 y10)]]) (fun g5 => [SV.v s1, bp (gs (g4 48)).n 0, .int .i64 y7, ep s1 y7.toNat, SV.v (gt ss1 y7), bp (gs (g4 48)).n 1, .int .i64 y8, .tuple #[.int .i64 r_8, .int .i64 r_9], .tuple #[.int .i64 r_8, .int .i64 r_9], .int .i64 r_8, .int .i64 r_9, .int .i64 r_8, .int .i64 r_9]) [[], [], [1], [0, 1, 2], [0, 1, 2, 3], [], [5], [0, 1, 2, 3, 4, 5, 6], [0, 1, 2, 3, 4, 5, 6, 7], [0, 1, 2, 3, 4, 5, 6, 7, 8], [0, 1, 2, 3, 4, 5, 6, 7, 8], [0, 1, 2, 3, 4, 5, 6, 7, 8, 9], [0, 1, 2, 3, 4, 5, 6, 7, 8, 9, 10, 11]] [[some false, none, none, some false, some false, none, none, some false, some false, some false, some false, some false, some false], [none, some false, some false, some false, some false, none, none, some false, some false, some false, some false, some false, some false], [none, some true, some false, some false, some false, none, none, some false, some false, some false, some false, some false, some false], [some true, some true, some true, some false, some false, none, none, some false, some false, some false, some false, some false, some false], [some true, some true, some true, some true, some false, none, none, some false, some false, some false, some false, some false, some false], [none, none, none, none, none, some false, some false, some false, some false, some false, some false, some false, some false], [none, none, none, none, none, some true, some false, some false, some false, some false, some false, some false, some false], [some true, some true, some true, some true, some true, some true, some true, some false, some false, some false, some false, some false, some false], [some true, some true, some true, some true, some true, some true, some true, some true, some false, some false, some false, some false, some false], [some true, some true, some true, some true, some true, some true, some true, some true, some true, some false, none, some false, some false], [some true, some true, some true, some true, some true, some true, some true, some true, some true, none, some false, none, some false], [some true, some true, some true, some true, some true, some true, some true, some true, some true, some true, none, some false, some false], [some true, some true, some true, some true, some true, some true, some true, some true, some true, some true, some true, some true, some false]] (by kernel_rfl) (fun _ => rfl) rfl rfl rfl rfl rfl (fun _ _ => ⟨⟨⟨⟨⟨⟨⟨⟨⟨⟨⟨⟨⟨trivial, rfl⟩, rfl⟩, rfl⟩, rfl⟩, rfl⟩, rfl⟩, rfl⟩, rfl⟩, rfl⟩, rfl⟩, rfl⟩, rfl⟩, rfl⟩) 0 [0, 0] (fun _ => rfl) ?_ ?_
                  · refine ⟨rfl, ?_, rfl, ?_, rfl, ?_, rfl, ?_, rfl, ?_, rfl, ?_, rfl, ?_, rfl, ?_, rfl, ?_, rfl, ?_, rfl, ?_, rfl, ?_, rfl, ?_, trivial⟩
                    · intro b1_ b2_ b5_ b6_ g5
                      refine TL.move rfl rfl (v := SV.v s1) rfl ?_
                      refine TL.done ?_
                      exact TC.nrm () [] ⟨rfl, trivial⟩ [0, 0] rfl
                    · intro b0_ b5_ b6_ g5
                      refine TL.asL [box (gs (g4 48)).n 68 [.one (.int .i64 y7), .one (.int .i64 y8)], box (gs (g4 56)).n 68 [.one (.int .i64 y9), .one (.int .i64 y10)]] rfl ?_
                      refine TL.fa Try.underlying68 rfl Try.sizeOf3 rfl 0 rfl rfl rfl rfl ?_
                      refine TL.done ?_
                      exact TC.nrm () [] ⟨rfl, trivial⟩ [0, 0] rfl
                    · intro b0_ b5_ b6_ g5
                      refine TL.asL [box (gs (g4 48)).n 68 [.one (.int .i64 y7), .one (.int .i64 y8)], box (gs (g4 56)).n 68 [.one (.int .i64 y9), .one (.int .i64 y10)]] rfl ?_
                      refine TL.load1 0 (Src.box 0 rfl) Try.isAgg3 rfl rfl rfl rfl rfl ?_
                      refine TL.done ?_
                      exact TC.nrm () [] ⟨rfl, trivial⟩ [0, 0] rfl
                    · intro b5_ b6_ g5
                      refine TL.asL [box (gs (g4 48)).n 68 [.one (.int .i64 y7), .one (.int .i64 y8)], box (gs (g4 56)).n 68 [.one (.int .i64 y9), .one (.int .i64 y10)]] rfl ?_
                      refine TL.ixsM y7 y7.toNat (RdM.old h1) h7 Try.underlying22 Try.sizeOf53 rfl rfl rfl rfl (by omega) ?_
                      refine TL.done ?_
                      exact TC.nrm () [] ⟨rfl, trivial⟩ [0, 0] rfl
                    · intro b5_ b6_ g5
                      refine TL.asL [box (gs (g4 48)).n 68 [.one (.int .i64 y7), .one (.int .i64 y8)], box (gs (g4 56)).n 68 [.one (.int .i64 y9), .one (.int .i64 y10)]] rfl ?_
                      refine TL.loadM2 (RdM.old h1) Try.isAgg53 y7 h7 (by omega) rfl rfl rfl ?_
                      refine TL.done ?_
                      exact TC.nrm () [] ⟨rfl, trivial⟩ [0, 0] rfl
                    · intro b0_ b1_ b2_ b3_ b4_ g5
                      refine TL.asL [box (gs (g4 48)).n 68 [.one (.int .i64 y7), .one (.int .i64 y8)], box (gs (g4 56)).n 68 [.one (.int .i64 y9), .one (.int .i64 y10)]] rfl ?_
                      refine TL.fa Try.underlying68 rfl Try.sizeOf3 rfl 1 rfl rfl rfl rfl ?_
                      refine TL.done ?_
                      exact TC.nrm () [] ⟨rfl, trivial⟩ [0, 0] rfl
                    · intro b0_ b1_ b2_ b3_ b4_ g5
                      refine TL.asL [box (gs (g4 48)).n 68 [.one (.int .i64 y7), .one (.int .i64 y8)], box (gs (g4 56)).n 68 [.one (.int .i64 y9), .one (.int .i64 y10)]] rfl ?_
                      refine TL.load1 1 (Src.box 0 rfl) Try.isAgg3 rfl rfl rfl rfl rfl ?_
                      refine TL.done ?_
                      exact TC.nrm () [] ⟨rfl, trivial⟩ [0, 0] rfl
                    · intro g5
                      refine TL.asL [box (gs (g4 48)).n 68 [.one (.int .i64 y7), .one (.int .i64 y8)], box (gs (g4 56)).n 68 [.one (.int .i64 y9), .one (.int .i64 y10)]] rfl ?_
                      refine TL.callH (R := G.impl_from.R) hr2 Try.call75 rfl rfl rfl (fun w hS => G.impl_from.calls w (gt ss1 y7) (gt x1 y7) y8 ((RdM.inn (RdM.old h1) h7) w hS)) ?_
                      rintro _ _ ⟨rfl, rfl⟩
                      refine TL.done ?_
                      exact TC.nrm () [] ⟨rfl, trivial⟩ [0, 0] rfl
                    · intro g5
                      refine TL.move rfl rfl (v := .tuple #[.int .i64 r_8, .int .i64 r_9]) rfl ?_
                      refine TL.done ?_
                      exact TC.nrm () [] ⟨rfl, trivial⟩ [0, 0] rfl
                    · intro b10_ g5
                      refine TL.extract rfl rfl rfl (v := .int .i64 r_8) rfl ?_
                      refine TL.done ?_
                      exact TC.nrm () [] ⟨rfl, trivial⟩ [0, 0] rfl
                    · intro b9_ b11_ g5
                      refine TL.extract rfl rfl rfl (v := .int .i64 r_9) rfl ?_
                      refine TL.done ?_
                      exact TC.nrm () [] ⟨rfl, trivial⟩ [0, 0] rfl
                    · intro b10_ g5
                      refine TL.assign rfl rfl (v := .int .i64 r_8) rfl ?_
                      refine TL.done ?_
                      exact TC.nrm () [] ⟨rfl, trivial⟩ [0, 0] rfl
                    · intro g5
                      refine TL.assign rfl rfl (v := .int .i64 r_9) rfl ?_
                      refine TL.done ?_
                      exact TC.nrm () [] ⟨rfl, trivial⟩ [0, 0] rfl
                  · intro g5
                    refine TC.asL [box (gs (g4 48)).n 68 [.one (.int .i64 y7), .one (.int .i64 y8)], box (gs (g4 56)).n 68 [.one (.int .i64 y9), .one (.int .i64 y10)]] rfl ?_
                    refine TC.seq ?_
                    refine TC.wk (Γ' := [(0, SV.v s1), (1, .int .i64 x2), (7, bp (gs (g4 48)).n 0), (8, bp (gs (g4 56)).n 0), (62, SV.v s1), (63, bp (gs (g4 48)).n 0), (64, .int .i64 y7), (65, ep s1 y7.toNat), (66, SV.v (gt ss1 y7)), (67, bp (gs (g4 48)).n 1), (68, .int .i64 y8), (69, .tuple #[.int .i64 r_8, .int .i64 r_9]), (61, .tuple #[.int .i64 r_8, .int .i64 r_9]), (70, .int .i64 r_8), (71, .int .i64 r_9), (9, .int .i64 r_8), (10, .int .i64 r_9)]) ⟨rfl, rfl, rfl, rfl, rfl, rfl, rfl, rfl, rfl, rfl, rfl, rfl, rfl, rfl, rfl, rfl, rfl, trivial⟩ ?_
                    refine TC.chk fun h8 => ?_
                    refine TC.bindE ?_
                    rintro ⟨r_10, r_11⟩ hr3
                    refine TC.drawG [(0, SV.v s1), (1, .int .i64 x2), (7, bp (gs (g4 48)).n 0), (8, bp (gs (g4 56)).n 0), (62, SV.v s1), (63, bp (gs (g4 48)).n 0), (64, .int .i64 y7), (65, ep s1 y7.toNat), (66, SV.v (gt ss1 y7)), (67, bp (gs (g4 48)).n 1), (68, .int .i64 y8), (69, .tuple #[.int .i64 r_8, .int .i64 r_9]), (61, .tuple #[.int .i64 r_8, .int .i64 r_9]), (70, .int .i64 r_8), (71, .int .i64 r_9), (9, .int .i64 r_8), (10, .int .i64 r_9)] [] ⟨rfl, rfl, rfl, rfl, rfl, rfl, rfl, rfl, rfl, rfl, rfl, rfl, rfl, rfl, rfl, rfl, rfl, trivial⟩ trivial (fun l_ g6 => [box (gs (g4 48)).n 68 [.one (.int .i64 y7), .one (.int .i64 y8)], box (gs (g4 56)).n 68 [.one (.int .i64 y9), .one (.int .i64 y10)]]) (fun g6 => [SV.v s1, bp (gs (g4 56)).n 0, .int .i64 y9, ep s1 y9.toNat, SV.v (gt ss1 y9), bp (gs (g4 56)).n 1, .int .i64 y10, .tuple #[.int .i64 r_10, .int .i64 r_11], .tuple #[.int .i64 r_10, .int .i64 r_11], .int .i64 r_10, .int .i64 r_11, .int .i64 r_10, .int .i64 r_11]) [[], [], [1], [0, 1, 2], [0, 1, 2, 3], [], [5], [0, 1, 2, 3, 4, 5, 6], [0, 1, 2, 3, 4, 5, 6, 7], [0, 1, 2, 3, 4, 5, 6, 7, 8], [0, 1, 2, 3, 4, 5, 6, 7, 8], [0, 1, 2, 3, 4, 5, 6, 7, 8, 9], [0, 1, 2, 3, 4, 5, 6, 7, 8, 9, 10, 11]] [[some false, none, none, some false, some false, none, none, some false, some false, some false, some false, some false, some false], [none, some false, some false, some false, some false, none, none, some false, some false, some false, some false, some false, some false], [none, some true, some false, some false, some false, none, none, some false, some false, some false, some false, some false, some false], [some true, some true, some true, some false, some false, none, none, some false, some false, some false, some false, some false, some false], [some true, some true, some true, some true, some false, none, none, some false, some false, some false, some false, some false, some false], [none, none, none, none, none, some false, some false, some false, some false, some false, some false, some false, some false], [none, none, none, none, none, some true, some false, some false, some false, some false, some false, some false, some false], [some true, some true, some true, some true, some true, some true, some true, some false, some false, some false, some false, some false, some false], [some true, some true, some true, some true, some true, some true, some true, some true, some false, some false, some false, some false, some false], [some true, some true, some true, some true, some true, some true, some true, some true, some true, some false, none, some false, some false], [some true, some true, some true, some true, some true, some true, some true, some true, some true, none, some false, none, some false], [some true, some true, some true, some true, some true, some true, some true, some true, some true, some true, none, some false, some false], [some true, some true, some true, some true, some true, some true, some true, some true, some true, some true, some true, some true, some false]] (by kernel_rfl) (fun _ => rfl) rfl rfl rfl rfl rfl (fun _ _ => ⟨⟨⟨⟨⟨⟨⟨⟨⟨⟨⟨⟨⟨trivial, rfl⟩, rfl⟩, rfl⟩, rfl⟩, rfl⟩, rfl⟩, rfl⟩, rfl⟩, rfl⟩, rfl⟩, rfl⟩, rfl⟩, rfl⟩) 0 [0, 0] (fun _ => rfl) ?_ ?_
                    · refine ⟨rfl, ?_, rfl, ?_, rfl, ?_, rfl, ?_, rfl, ?_, rfl, ?_, rfl, ?_, rfl, ?_, rfl, ?_, rfl, ?_, rfl, ?_, rfl, ?_, rfl, ?_, trivial⟩
                      · intro b1_ b2_ b5_ b6_ g6
                        refine TL.move rfl rfl (v := SV.v s1) rfl ?_
                        refine TL.done ?_
                        exact TC.nrm () [] ⟨rfl, trivial⟩ [0, 0] rfl
                      · intro b0_ b5_ b6_ g6
                        refine TL.asL [box (gs (g4 48)).n 68 [.one (.int .i64 y7), .one (.int .i64 y8)], box (gs (g4 56)).n 68 [.one (.int .i64 y9), .one (.int .i64 y10)]] rfl ?_
                        refine TL.fa Try.underlying68 rfl Try.sizeOf3 rfl 0 rfl rfl rfl rfl ?_
                        refine TL.done ?_
                        exact TC.nrm () [] ⟨rfl, trivial⟩ [0, 0] rfl
                      · intro b0_ b5_ b6_ g6
                        refine TL.asL [box (gs (g4 48)).n 68 [.one (.int .i64 y7), .one (.int .i64 y8)], box (gs (g4 56)).n 68 [.one (.int .i64 y9), .one (.int .i64 y10)]] rfl ?_
                        refine TL.load1 0 (Src.box 1 rfl) Try.isAgg3 rfl rfl rfl rfl rfl ?_
                        refine TL.done ?_
                        exact TC.nrm () [] ⟨rfl, trivial⟩ [0, 0] rfl
                      · intro b5_ b6_ g6
                        refine TL.asL [box (gs (g4 48)).n 68 [.one (.int .i64 y7), .one (.int .i64 y8)], box (gs (g4 56)).n 68 [.one (.int .i64 y9), .one (.int .i64 y10)]] rfl ?_
                        refine TL.ixsM y9 y9.toNat (RdM.old h1) h8 Try.underlying22 Try.sizeOf53 rfl rfl rfl rfl (by omega) ?_
                        refine TL.done ?_
                        exact TC.nrm () [] ⟨rfl, trivial⟩ [0, 0] rfl
                      · intro b5_ b6_ g6
                        refine TL.asL [box (gs (g4 48)).n 68 [.one (.int .i64 y7), .one (.int .i64 y8)], box (gs (g4 56)).n 68 [.one (.int .i64 y9), .one (.int .i64 y10)]] rfl ?_
                        refine TL.loadM2 (RdM.old h1) Try.isAgg53 y9 h8 (by omega) rfl rfl rfl ?_
                        refine TL.done ?_
                        exact TC.nrm () [] ⟨rfl, trivial⟩ [0, 0] rfl
                      · intro b0_ b1_ b2_ b3_ b4_ g6
                        refine TL.asL [box (gs (g4 48)).n 68 [.one (.int .i64 y7), .one (.int .i64 y8)], box (gs (g4 56)).n 68 [.one (.int .i64 y9), .one (.int .i64 y10)]] rfl ?_
                        refine TL.fa Try.underlying68 rfl Try.sizeOf3 rfl 1 rfl rfl rfl rfl ?_
                        refine TL.done ?_
                        exact TC.nrm () [] ⟨rfl, trivial⟩ [0, 0] rfl
                      · intro b0_ b1_ b2_ b3_ b4_ g6
                        refine TL.asL [box (gs (g4 48)).n 68 [.one (.int .i64 y7), .one (.int .i64 y8)], box (gs (g4 56)).n 68 [.one (.int .i64 y9), .one (.int .i64 y10)]] rfl ?_
                        refine TL.load1 1 (Src.box 1 rfl) Try.isAgg3 rfl rfl rfl rfl rfl ?_
                        refine TL.done ?_
                        exact TC.nrm () [] ⟨rfl, trivial⟩ [0, 0] rfl
                      · intro g6
                        refine TL.asL [box (gs (g4 48)).n 68 [.one (.int .i64 y7), .one (.int .i64 y8)], box (gs (g4 56)).n 68 [.one (.int .i64 y9), .one (.int .i64 y10)]] rfl ?_
                        refine TL.callH (R := G.impl_from.R) hr3 Try.call75 rfl rfl rfl (fun w hS => G.impl_from.calls w (gt ss1 y9) (gt x1 y9) y10 ((RdM.inn (RdM.old h1) h8) w hS)) ?_
                        rintro _ _ ⟨rfl, rfl⟩
                        refine TL.done ?_
                        exact TC.nrm () [] ⟨rfl, trivial⟩ [0, 0] rfl
                      · intro g6
                        refine TL.move rfl rfl (v := .tuple #[.int .i64 r_10, .int .i64 r_11]) rfl ?_
                        refine TL.done ?_
                        exact TC.nrm () [] ⟨rfl, trivial⟩ [0, 0] rfl
                      · intro b10_ g6
                        refine TL.extract rfl rfl rfl (v := .int .i64 r_10) rfl ?_
                        refine TL.done ?_
                        exact TC.nrm () [] ⟨rfl, trivial⟩ [0, 0] rfl
                      · intro b9_ b11_ g6
                        refine TL.extract rfl rfl rfl (v := .int .i64 r_11) rfl ?_
                        refine TL.done ?_
                        exact TC.nrm () [] ⟨rfl, trivial⟩ [0, 0] rfl
                      · intro b10_ g6
                        refine TL.assign rfl rfl (v := .int .i64 r_10) rfl ?_
                        refine TL.done ?_
                        exact TC.nrm () [] ⟨rfl, trivial⟩ [0, 0] rfl
                      · intro g6
                        refine TL.assign rfl rfl (v := .int .i64 r_11) rfl ?_
                        refine TL.done ?_
                        exact TC.nrm () [] ⟨rfl, trivial⟩ [0, 0] rfl
                    · intro g6
                      refine TC.asL [box (gs (g4 48)).n 68 [.one (.int .i64 y7), .one (.int .i64 y8)], box (gs (g4 56)).n 68 [.one (.int .i64 y9), .one (.int .i64 y10)]] rfl ?_
                      refine TC.seq ?_
                      refine TC.region ?_
                      refine TL.move rfl rfl (v := SV.v s1) rfl ?_
                      refine TL.call (R := G.impl_cloneSurface.R) Try.call61 rfl rfl rfl (fun w hS => G.impl_cloneSurface.calls w s1 ss1 x1 ((RdM.old h1) w hS)) ?_
                      rintro r_12 _ _ ⟨s3, ss3, rfl, rfl⟩
                      refine TL.assign rfl rfl (v := SV.v s3) rfl ?_
                      refine TL.done ?_
                      refine TC.seq ?_
                      refine TC.wk (Γ' := [(0, SV.v s1), (1, .int .i64 x2), (7, bp (gs (g4 48)).n 0), (8, bp (gs (g4 56)).n 0), (62, SV.v s1), (63, bp (gs (g4 48)).n 0), (64, .int .i64 y7), (65, ep s1 y7.toNat), (66, SV.v (gt ss1 y7)), (67, bp (gs (g4 48)).n 1), (68, .int .i64 y8), (69, .tuple #[.int .i64 r_8, .int .i64 r_9]), (61, .tuple #[.int .i64 r_8, .int .i64 r_9]), (70, .int .i64 r_8), (71, .int .i64 r_9), (9, .int .i64 r_8), (10, .int .i64 r_9), (73, SV.v s1), (74, bp (gs (g4 56)).n 0), (75, .int .i64 y9), (76, ep s1 y9.toNat), (77, SV.v (gt ss1 y9)), (78, bp (gs (g4 56)).n 1), (79, .int .i64 y10), (80, .tuple #[.int .i64 r_10, .int .i64 r_11]), (72, .tuple #[.int .i64 r_10, .int .i64 r_11]), (81, .int .i64 r_10), (82, .int .i64 r_11), (11, .int .i64 r_10), (12, .int .i64 r_11), (83, SV.v s1), (84, SV.v s3), (13, SV.v s3)]) ⟨rfl, rfl, rfl, rfl, rfl, rfl, rfl, rfl, rfl, rfl, rfl, rfl, rfl, rfl, rfl, rfl, rfl, rfl, rfl, rfl, rfl, rfl, rfl, rfl, rfl, rfl, rfl, rfl, rfl, rfl, rfl, rfl, rfl, trivial⟩ ?_
                      refine TC.chk fun h9 => ?_
                      refine TC.chk fun h11 => ?_
                      refine TC.drawG [(0, SV.v s1), (1, .int .i64 x2), (7, bp (gs (g4 48)).n 0), (8, bp (gs (g4 56)).n 0), (62, SV.v s1), (63, bp (gs (g4 48)).n 0), (64, .int .i64 y7), (65, ep s1 y7.toNat), (66, SV.v (gt ss1 y7)), (67, bp (gs (g4 48)).n 1), (68, .int .i64 y8), (69, .tuple #[.int .i64 r_8, .int .i64 r_9]), (61, .tuple #[.int .i64 r_8, .int .i64 r_9]), (70, .int .i64 r_8), (71, .int .i64 r_9), (9, .int .i64 r_8), (10, .int .i64 r_9), (73, SV.v s1), (74, bp (gs (g4 56)).n 0), (75, .int .i64 y9), (76, ep s1 y9.toNat), (77, SV.v (gt ss1 y9)), (78, bp (gs (g4 56)).n 1), (79, .int .i64 y10), (80, .tuple #[.int .i64 r_10, .int .i64 r_11]), (72, .tuple #[.int .i64 r_10, .int .i64 r_11]), (81, .int .i64 r_10), (82, .int .i64 r_11), (11, .int .i64 r_10), (12, .int .i64 r_11), (83, SV.v s1), (84, SV.v s3), (13, SV.v s3)] [] ⟨rfl, rfl, rfl, rfl, rfl, rfl, rfl, rfl, rfl, rfl, rfl, rfl, rfl, rfl, rfl, rfl, rfl, rfl, rfl, rfl, rfl, rfl, rfl, rfl, rfl, rfl, rfl, rfl, rfl, rfl, rfl, rfl, rfl, trivial⟩ trivial (fun l_ g7 => [(bif nb l_ 18 then mat Ei 2 53 s3 ((ss3.set y7.toNat (gs (g7 72))).set y9.toNat (gs (g7 112))) ((r_12.set y7.toNat ([x2, r_9, r_10] : List Int)).set y9.toNat ([(w64 (0 - x2)), r_11, r_8] : List Int)) else (bif nb l_ 16 then mat Ei 2 53 s3 (ss3.set y7.toNat (gs (g7 72))) (r_12.set y7.toNat ([x2, r_9, r_10] : List Int)) else mat Ei 2 53 s3 ss3 r_12)), box (gs (g4 48)).n 68 [.one (.int .i64 y7), .one (.int .i64 y8)], box (gs (g4 56)).n 68 [.one (.int .i64 y9), .one (.int .i64 y10)], (bif nb l_ 16 then emp else (bif nb l_ 9 then row Ei 2 (gs (g7 72)) ([x2, r_9, r_10] : List Int) else emp)), (bif nb l_ 18 then emp else (bif nb l_ 14 then row Ei 2 (gs (g7 112)) ([(w64 (0 - x2)), r_11, r_8] : List Int) else emp))]) (fun g7 => [SV.v s3, bp (gs (g4 48)).n 0, .int .i64 y7, SV.v s3, bp (gs (g4 56)).n 0, .int .i64 y9, .int .i64 x2, .int .i64 r_9, .int .i64 r_10, SV.v (gs (g7 72)), .int .i64 x2, .int .i64 (w64 (0 - x2)), .int .i64 r_11, .int .i64 r_8, SV.v (gs (g7 112)), ep s3 y7.toNat, undef, ep s3 y9.toNat, undef]) [[], [], [1], [], [], [4], [], [], [], [6, 7, 8], [], [10], [], [], [10, 11, 12, 13], [0, 1, 2, 6, 7, 8, 9], [0, 1, 2, 6, 7, 8, 9, 15], [0, 1, 2, 3, 4, 5, 6, 7, 8, 9, 10, 11, 12, 13, 14, 15, 16], [0, 1, 2, 3, 4, 5, 6, 7, 8, 9, 10, 11, 12, 13, 14, 15, 16, 17]] [[some false, none, none, none, none, none, none, none, none, none, none, none, none, none, none, some false, some false, some false, some false], [none, some false, some false, none, none, none, none, none, none, none, none, none, none, none, none, some false, some false, some false, some false], [none, some true, some false, none, none, none, none, none, none, none, none, none, none, none, none, some false, some false, some false, some false], [none, none, none, some false, none, none, none, none, none, none, none, none, none, none, none, none, none, some false, some false], [none, none, none, none, some false, some false, none, none, none, none, none, none, none, none, none, none, none, some false, some false], [none, none, none, none, some true, some false, none, none, none, none, none, none, none, none, none, none, none, some false, some false], [none, none, none, none, none, none, some false, none, none, some false, none, none, none, none, none, some false, some false, some false, some false], [none, none, none, none, none, none, none, some false, none, some false, none, none, none, none, none, some false, some false, some false, some false], [none, none, none, none, none, none, none, none, some false, some false, none, none, none, none, none, some false, some false, some false, some false], [none, none, none, none, none, none, some true, some true, some true, some false, none, none, none, none, none, some false, some false, some false, some false], [none, none, none, none, none, none, none, none, none, none, some false, some false, none, none, some false, none, none, some false, some false], [none, none, none, none, none, none, none, none, none, none, some true, some false, none, none, some false, none, none, some false, some false], [none, none, none, none, none, none, none, none, none, none, none, none, some false, none, some false, none, none, some false, some false], [none, none, none, none, none, none, none, none, none, none, none, none, none, some false, some false, none, none, some false, some false], [none, none, none, none, none, none, none, none, none, none, some true, some true, some true, some true, some false, none, none, some false, some false], [some true, some true, some true, none, none, none, some true, some true, some true, some true, none, none, none, none, none, some false, some false, some false, some false], [some true, some true, some true, none, none, none, some true, some true, some true, some true, none, none, none, none, none, some true, some false, some false, some false], [some true, some true, some true, some true, some true, some true, some true, some true, some true, some true, some true, some true, some true, some true, some true, some true, some true, some false, some false], [some true, some true, some true, some true, some true, some true, some true, some true, some true, some true, some true, some true, some true, some true, some true, some true, some true, some true, some false]] (by kernel_rfl) (fun _ => rfl) rfl rfl rfl rfl rfl (fun _ _ => ⟨⟨⟨⟨⟨⟨⟨⟨⟨⟨⟨⟨⟨⟨⟨⟨⟨⟨⟨trivial, rfl⟩, rfl⟩, rfl⟩, rfl⟩, rfl⟩, rfl⟩, rfl⟩, rfl⟩, rfl⟩, rfl⟩, rfl⟩, rfl⟩, rfl⟩, rfl⟩, rfl⟩, rfl⟩, rfl⟩, rfl⟩, rfl⟩) 2 [2, 2, 2, 0, 0] (fun _ => rfl) ?_ ?_
                      · refine ⟨rfl, ?_, rfl, ?_, rfl, ?_, rfl, ?_, rfl, ?_, rfl, ?_, rfl, ?_, rfl, ?_, rfl, ?_, rfl, ?_, rfl, ?_, rfl, ?_, rfl, ?_, rfl, ?_, rfl, ?_, rfl, ?_, rfl, ?_, rfl, ?_, rfl, ?_, trivial⟩
                        · intro b1_ b2_ b3_ b4_ b5_ b6_ b7_ b8_ b9_ b10_ b11_ b12_ b13_ b14_ g7
                          refine TL.move rfl rfl (v := SV.v s3) rfl ?_
                          refine TL.done ?_
                          exact TC.nrm () [] ⟨rfl, trivial⟩ [0, 0, 0, 0, 0] rfl
                        · intro b0_ b3_ b4_ b5_ b6_ b7_ b8_ b9_ b10_ b11_ b12_ b13_ b14_ g7
                          refine TL.asL [mat Ei 2 53 s3 ss3 r_12, box (gs (g4 48)).n 68 [.one (.int .i64 y7), .one (.int .i64 y8)], box (gs (g4 56)).n 68 [.one (.int .i64 y9), .one (.int .i64 y10)], (bif b9_ then row Ei 2 (gs (g7 72)) ([x2, r_9, r_10] : List Int) else emp), (bif b14_ then row Ei 2 (gs (g7 112)) ([(w64 (0 - x2)), r_11, r_8] : List Int) else emp)] rfl ?_
                          refine TL.fa Try.underlying68 rfl Try.sizeOf3 rfl 0 rfl rfl rfl rfl ?_
                          refine TL.done ?_
                          exact TC.nrm () [] ⟨rfl, trivial⟩ [0, 0, 0, 0, 0] rfl
                        · intro b0_ b3_ b4_ b5_ b6_ b7_ b8_ b9_ b10_ b11_ b12_ b13_ b14_ g7
                          refine TL.asL [mat Ei 2 53 s3 ss3 r_12, box (gs (g4 48)).n 68 [.one (.int .i64 y7), .one (.int .i64 y8)], box (gs (g4 56)).n 68 [.one (.int .i64 y9), .one (.int .i64 y10)], (bif b9_ then row Ei 2 (gs (g7 72)) ([x2, r_9, r_10] : List Int) else emp), (bif b14_ then row Ei 2 (gs (g7 112)) ([(w64 (0 - x2)), r_11, r_8] : List Int) else emp)] rfl ?_
                          refine TL.load1 0 (Src.box 1 rfl) Try.isAgg3 rfl rfl rfl rfl rfl ?_
                          refine TL.done ?_
                          exact TC.nrm () [] ⟨rfl, trivial⟩ [0, 0, 0, 0, 0] rfl
                        · intro b0_ b1_ b2_ b4_ b5_ b6_ b7_ b8_ b9_ b10_ b11_ b12_ b13_ b14_ b15_ b16_ g7
                          refine TL.move rfl rfl (v := SV.v s3) rfl ?_
                          refine TL.done ?_
                          exact TC.nrm () [] ⟨rfl, trivial⟩ [0, 0, 0, 0, 0] rfl
                        · intro b0_ b1_ b2_ b3_ b6_ b7_ b8_ b9_ b10_ b11_ b12_ b13_ b14_ b15_ b16_ g7
                          refine TL.asL [(bif b16_ then mat Ei 2 53 s3 (ss3.set y7.toNat (gs (g7 72))) (r_12.set y7.toNat ([x2, r_9, r_10] : List Int)) else mat Ei 2 53 s3 ss3 r_12), box (gs (g4 48)).n 68 [.one (.int .i64 y7), .one (.int .i64 y8)], box (gs (g4 56)).n 68 [.one (.int .i64 y9), .one (.int .i64 y10)], (bif b16_ then emp else (bif b9_ then row Ei 2 (gs (g7 72)) ([x2, r_9, r_10] : List Int) else emp)), (bif b14_ then row Ei 2 (gs (g7 112)) ([(w64 (0 - x2)), r_11, r_8] : List Int) else emp)] rfl ?_
                          refine TL.fa Try.underlying68 rfl Try.sizeOf3 rfl 0 rfl rfl rfl rfl ?_
                          refine TL.done ?_
                          exact TC.nrm () [] ⟨rfl, trivial⟩ [0, 0, 0, 0, 0] rfl
                        · intro b0_ b1_ b2_ b3_ b6_ b7_ b8_ b9_ b10_ b11_ b12_ b13_ b14_ b15_ b16_ g7
                          refine TL.asL [(bif b16_ then mat Ei 2 53 s3 (ss3.set y7.toNat (gs (g7 72))) (r_12.set y7.toNat ([x2, r_9, r_10] : List Int)) else mat Ei 2 53 s3 ss3 r_12), box (gs (g4 48)).n 68 [.one (.int .i64 y7), .one (.int .i64 y8)], box (gs (g4 56)).n 68 [.one (.int .i64 y9), .one (.int .i64 y10)], (bif b16_ then emp else (bif b9_ then row Ei 2 (gs (g7 72)) ([x2, r_9, r_10] : List Int) else emp)), (bif b14_ then row Ei 2 (gs (g7 112)) ([(w64 (0 - x2)), r_11, r_8] : List Int) else emp)] rfl ?_
                          refine TL.load1 0 (Src.box 2 rfl) Try.isAgg3 rfl rfl rfl rfl rfl ?_
                          refine TL.done ?_
                          exact TC.nrm () [] ⟨rfl, trivial⟩ [0, 0, 0, 0, 0] rfl
                        · intro b0_ b1_ b2_ b3_ b4_ b5_ b7_ b8_ b10_ b11_ b12_ b13_ b14_ g7
                          refine TL.move rfl rfl (v := .int .i64 x2) rfl ?_
                          refine TL.done ?_
                          exact TC.nrm () [] ⟨rfl, trivial⟩ [0, 0, 0, 0, 0] rfl
                        · intro b0_ b1_ b2_ b3_ b4_ b5_ b6_ b8_ b10_ b11_ b12_ b13_ b14_ g7
                          refine TL.move rfl rfl (v := .int .i64 r_9) rfl ?_
                          refine TL.done ?_
                          exact TC.nrm () [] ⟨rfl, trivial⟩ [0, 0, 0, 0, 0] rfl
                        · intro b0_ b1_ b2_ b3_ b4_ b5_ b6_ b7_ b10_ b11_ b12_ b13_ b14_ g7
                          refine TL.move rfl rfl (v := .int .i64 r_10) rfl ?_
                          refine TL.done ?_
                          exact TC.nrm () [] ⟨rfl, trivial⟩ [0, 0, 0, 0, 0] rfl
                        · intro b0_ b1_ b2_ b3_ b4_ b5_ b10_ b11_ b12_ b13_ b14_ g7
                          refine TL.asL [mat Ei 2 53 s3 ss3 r_12, box (gs (g4 48)).n 68 [.one (.int .i64 y7), .one (.int .i64 y8)], box (gs (g4 56)).n 68 [.one (.int .i64 y9), .one (.int .i64 y10)], emp, (bif b14_ then row Ei 2 (gs (g7 112)) ([(w64 (0 - x2)), r_11, r_8] : List Int) else emp)] rfl ?_
                          refine TL.blit Ei ([x2, r_9, r_10] : List Int) Try.underlying53 Try.sizeOf2 Try.zeroValue2 rfl rfl rfl [(0, .int .i64 x2), (1, .int .i64 r_9), (2, .int .i64 r_10)] rfl ⟨rfl, rfl, rfl, rfl, rfl, rfl, trivial⟩ rfl rfl fun s4 => ?_
                          refine TL.done ?_
                          exact TC.nrm () [[s4]] ⟨rfl, trivial⟩ [1, 1, 1, 0, 1] rfl
                        · intro b0_ b1_ b2_ b3_ b4_ b5_ b6_ b7_ b8_ b9_ b12_ b13_ b15_ b16_ g7
                          refine TL.move rfl rfl (v := .int .i64 x2) rfl ?_
                          refine TL.done ?_
                          exact TC.nrm () [] ⟨rfl, trivial⟩ [0, 0, 0, 0, 0] rfl
                        · intro b0_ b1_ b2_ b3_ b4_ b5_ b6_ b7_ b8_ b9_ b12_ b13_ b15_ b16_ g7
                          refine TL.neg .i64 x2 rfl rfl rfl ?_
                          refine TL.done ?_
                          exact TC.nrm () [] ⟨rfl, trivial⟩ [0, 0, 0, 0, 0] rfl
                        · intro b0_ b1_ b2_ b3_ b4_ b5_ b6_ b7_ b8_ b9_ b10_ b11_ b13_ b15_ b16_ g7
                          refine TL.move rfl rfl (v := .int .i64 r_11) rfl ?_
                          refine TL.done ?_
                          exact TC.nrm () [] ⟨rfl, trivial⟩ [0, 0, 0, 0, 0] rfl
                        · intro b0_ b1_ b2_ b3_ b4_ b5_ b6_ b7_ b8_ b9_ b10_ b11_ b12_ b15_ b16_ g7
                          refine TL.move rfl rfl (v := .int .i64 r_8) rfl ?_
                          refine TL.done ?_
                          exact TC.nrm () [] ⟨rfl, trivial⟩ [0, 0, 0, 0, 0] rfl
                        · intro b0_ b1_ b2_ b3_ b4_ b5_ b6_ b7_ b8_ b9_ b15_ b16_ g7
                          refine TL.asL [(bif b16_ then mat Ei 2 53 s3 (ss3.set y7.toNat (gs (g7 72))) (r_12.set y7.toNat ([x2, r_9, r_10] : List Int)) else mat Ei 2 53 s3 ss3 r_12), box (gs (g4 48)).n 68 [.one (.int .i64 y7), .one (.int .i64 y8)], box (gs (g4 56)).n 68 [.one (.int .i64 y9), .one (.int .i64 y10)], (bif b16_ then emp else (bif b9_ then row Ei 2 (gs (g7 72)) ([x2, r_9, r_10] : List Int) else emp)), emp] rfl ?_
                          refine TL.blit Ei ([(w64 (0 - x2)), r_11, r_8] : List Int) Try.underlying53 Try.sizeOf2 Try.zeroValue2 rfl rfl rfl [(0, .int .i64 (w64 (0 - x2))), (1, .int .i64 r_11), (2, .int .i64 r_8)] rfl ⟨rfl, rfl, rfl, rfl, rfl, rfl, trivial⟩ rfl rfl fun s5 => ?_
                          refine TL.done ?_
                          exact TC.nrm () [[s5]] ⟨rfl, trivial⟩ [1, 1, 1, 1, 0] rfl
                        · intro b3_ b4_ b5_ b10_ b11_ b12_ b13_ b14_ g7
                          refine TL.asL [mat Ei 2 53 s3 ss3 r_12, box (gs (g4 48)).n 68 [.one (.int .i64 y7), .one (.int .i64 y8)], box (gs (g4 56)).n 68 [.one (.int .i64 y9), .one (.int .i64 y10)], row Ei 2 (gs (g7 72)) ([x2, r_9, r_10] : List Int), (bif b14_ then row Ei 2 (gs (g7 112)) ([(w64 (0 - x2)), r_11, r_8] : List Int) else emp)] rfl ?_
                          refine TL.ixsM y7 y7.toNat (RdM.mat 0 rfl) h9 Try.underlying22 Try.sizeOf53 rfl rfl rfl rfl (by omega) ?_
                          refine TL.done ?_
                          exact TC.nrm () [] ⟨rfl, trivial⟩ [0, 0, 0, 0, 0] rfl
                        · intro b3_ b4_ b5_ b10_ b11_ b12_ b13_ b14_ g7
                          refine TL.asL [mat Ei 2 53 s3 ss3 r_12, box (gs (g4 48)).n 68 [.one (.int .i64 y7), .one (.int .i64 y8)], box (gs (g4 56)).n 68 [.one (.int .i64 y9), .one (.int .i64 y10)], row Ei 2 (gs (g7 72)) ([x2, r_9, r_10] : List Int), (bif b14_ then row Ei 2 (gs (g7 112)) ([(w64 (0 - x2)), r_11, r_8] : List Int) else emp)] rfl ?_
                          refine TL.matlen 0 rfl fun h10 => ?_
                          refine TL.matcut 0 rfl ?_
                          refine TL.stE 0 (y7.toNat) (gs (g7 72)) (v := SV.v (gs (g7 72))) rfl Try.sizeOf53 rfl rfl rfl (by have h_ := h9; have l_ := h10; (try simp only [List.length_set] at h_ l_ ⊢); omega) (by simp only [show Ev.sz = 1 from rfl]; omega) rfl rfl rfl ?_
                          refine TL.hole 1 y7 rfl h9 ?_
                          refine TL.rowsPut 4 1 rfl rfl ?_
                          refine TL.matmk 0 1 rfl rfl ?_
                          refine TL.drop 0 rfl ?_
                          refine TL.asL [mat Ei 2 53 s3 (ss3.set y7.toNat (gs (g7 72))) (r_12.set y7.toNat ([x2, r_9, r_10] : List Int)), box (gs (g4 48)).n 68 [.one (.int .i64 y7), .one (.int .i64 y8)], box (gs (g4 56)).n 68 [.one (.int .i64 y9), .one (.int .i64 y10)], emp, (bif b14_ then row Ei 2 (gs (g7 112)) ([(w64 (0 - x2)), r_11, r_8] : List Int) else emp)] rfl ?_
                          refine TL.done ?_
                          exact TC.nrm () [] trivial [0, 0, 0, 0, 0] rfl
                        · intro g7
                          refine TL.asL [mat Ei 2 53 s3 (ss3.set y7.toNat (gs (g7 72))) (r_12.set y7.toNat ([x2, r_9, r_10] : List Int)), box (gs (g4 48)).n 68 [.one (.int .i64 y7), .one (.int .i64 y8)], box (gs (g4 56)).n 68 [.one (.int .i64 y9), .one (.int .i64 y10)], emp, row Ei 2 (gs (g7 112)) ([(w64 (0 - x2)), r_11, r_8] : List Int)] rfl ?_
                          refine TL.ixsM y9 y9.toNat (RdM.mat 0 rfl) h11 Try.underlying22 Try.sizeOf53 rfl rfl rfl rfl (by omega) ?_
                          refine TL.done ?_
                          exact TC.nrm () [] ⟨rfl, trivial⟩ [0, 0, 0, 0, 0] rfl
                        · intro g7
                          refine TL.asL [mat Ei 2 53 s3 (ss3.set y7.toNat (gs (g7 72))) (r_12.set y7.toNat ([x2, r_9, r_10] : List Int)), box (gs (g4 48)).n 68 [.one (.int .i64 y7), .one (.int .i64 y8)], box (gs (g4 56)).n 68 [.one (.int .i64 y9), .one (.int .i64 y10)], emp, row Ei 2 (gs (g7 112)) ([(w64 (0 - x2)), r_11, r_8] : List Int)] rfl ?_
                          refine TL.matlen 0 rfl fun h12 => ?_
                          refine TL.matcut 0 rfl ?_
                          refine TL.stE 0 (y9.toNat) (gs (g7 112)) (v := SV.v (gs (g7 112))) rfl Try.sizeOf53 rfl rfl rfl (by have h_ := h11; have l_ := h12; (try simp only [List.length_set] at h_ l_ ⊢); omega) (by simp only [show Ev.sz = 1 from rfl]; omega) rfl rfl rfl ?_
                          refine TL.hole 1 y9 rfl h11 ?_
                          refine TL.rowsPut 5 1 rfl rfl ?_
                          refine TL.matmk 0 1 rfl rfl ?_
                          refine TL.drop 0 rfl ?_
                          refine TL.asL [mat Ei 2 53 s3 ((ss3.set y7.toNat (gs (g7 72))).set y9.toNat (gs (g7 112))) ((r_12.set y7.toNat ([x2, r_9, r_10] : List Int)).set y9.toNat ([(w64 (0 - x2)), r_11, r_8] : List Int)), box (gs (g4 48)).n 68 [.one (.int .i64 y7), .one (.int .i64 y8)], box (gs (g4 56)).n 68 [.one (.int .i64 y9), .one (.int .i64 y10)], emp, emp] rfl ?_
                          refine TL.done ?_
                          exact TC.nrm () [] trivial [0, 0, 0, 0, 0] rfl
                      · intro g7
                        refine TC.asL [mat Ei 2 53 s3 ((ss3.set y7.toNat (gs (g7 72))).set y9.toNat (gs (g7 112))) ((r_12.set y7.toNat ([x2, r_9, r_10] : List Int)).set y9.toNat ([(w64 (0 - x2)), r_11, r_8] : List Int)), box (gs (g4 48)).n 68 [.one (.int .i64 y7), .one (.int .i64 y8)], box (gs (g4 56)).n 68 [.one (.int .i64 y9), .one (.int .i64 y10)], emp, emp] rfl ?_
                        refine TC.seq ?_
                        refine TC.region ?_
                        refine TL.move rfl rfl (v := SV.v s3) rfl ?_
                        refine TL.assign rfl rfl (v := SV.v s3) rfl ?_
                        refine TL.assign rfl rfl (v := .int .i64 0) rfl ?_
                        refine TL.done ?_
                        exact TC.retF (Fin.body (fin2 (.inr rfl) rfl (.tmp rfl) (.tmp rfl) [0] rfl ⟨s3, ((ss3.set y7.toNat (gs (g7 72))).set y9.toNat (gs (g7 112))), rfl, rfl⟩))

end Go.Proofs.Ytnppkcemnjkboaa.G
