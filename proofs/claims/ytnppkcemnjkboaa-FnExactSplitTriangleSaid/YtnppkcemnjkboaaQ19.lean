/- impl.SplitTriangle, as a pure function. -/
import Derived.Test.YtnppkcemnjkboaaProg
import Derived.Test.YtnppkcemnjkboaaSx9
import Derived.Test.YtnppkcemnjkboaaQ37
import Derived.Test.YtnppkcemnjkboaaQ60
import Derived.Test.YtnppkcemnjkboaaQ61
import Derived.Test.YtnppkcemnjkboaaQ62
set_option linter.unusedVariables false
namespace Go.Proofs.Ytnppkcemnjkboaa.G
open Go Go.Sx Go.Proofs

def impl_SplitTriangle.f (x1 : List (List Int)) (x2 : Int) : Option ((List (List Int)) × Int) := (G.impl_IsSurface.f x1).bind (fun r_1 => (bif (!r_1) then some (([] : List (List Int)), 1) else (G.impl_in.f x2 0 (w64 ((x1.length : Int) - 1))).bind (fun r_2 => (bif (!r_2) then some (([] : List (List Int)), 2) else (bif (decide ((w64 ((x1.length : Int) + 2)) > 12)) then some (([] : List (List Int)), 3) else (G.impl_cloneSurface.f x1).bind (fun r_3 => (G.impl_edgesOf.f x1).bind (fun r_4 => chk x2 x1.length (chk 0 ((gt x1 x2).length) (chk x2 r_3.length (chk 1 ((gt x1 x2).length) (chk 2 ((gt x1 x2).length) (small ((r_3.set x2.toNat ([(gt (gt x1 x2) 0), (w64 (r_4 + 1)), (w64 (0 - (w64 (r_4 + 2))))] : List Int)).length + 2) (some (((r_3.set x2.toNat ([(gt (gt x1 x2) 0), (w64 (r_4 + 1)), (w64 (0 - (w64 (r_4 + 2))))] : List Int)) ++ [([(gt (gt x1 x2) 1), (w64 (r_4 + 3)), (w64 (0 - (w64 (r_4 + 1))))] : List Int), ([(gt (gt x1 x2) 2), (w64 (r_4 + 2)), (w64 (0 - (w64 (r_4 + 3))))] : List Int)]), 0))))))))))))))

def impl_SplitTriangle.R (r : (List (List Int)) × Int) (v : Value) (L : List Asn) : Prop := ∃ (s0 : SV) (ss0 : List SV), v = .tuple #[SV.v s0, .int .i64 r.2] ∧ L = [mat Ei 2 53 s0 ss0 r.1]

set_option maxRecDepth 100000 in
set_option maxHeartbeats 4000000 in
theorem impl_SplitTriangle.calls (w : World) (s1 : SV) (ss1 : List SV) (x1 : List (List Int)) (x2 : Int) (h1 : ReadsM Ei (hp w) s1 ss1 x1) :
    ∀ r, impl_SplitTriangle.f x1 x2 = some r → Calls Try.prog 19 #[SV.v s1, .int .i64 x2] w (Ret w (impl_SplitTriangle.R r)) := by

  refine calls_T (n := 66) (Γ := [(0, SV.v s1), (1, .int .i64 x2)]) (R := impl_SplitTriangle.R) Try.func19 rfl rfl (Nat.le_of_ble_eq_true rfl) ⟨rfl, rfl, trivial⟩ ?_
  unfold impl_SplitTriangle.f
  refine TC.seq ?_
  refine TC.region ?_
  refine TL.assign rfl rfl (v := SV.v ⟨none, 0, 0⟩) rfl ?_
  refine TL.assign rfl rfl (v := .int .i64 0) rfl ?_
  refine TL.done ?_
  refine TC.seq ?_
  refine TC.block NoEx.body ?_
  refine TC.seq ?_
  refine TC.region ?_
  refine TL.move rfl rfl (v := SV.v s1) rfl ?_
  refine TL.call (R := G.impl_IsSurface.R) Try.call37 rfl rfl rfl (fun w hS => G.impl_IsSurface.calls w s1 ss1 x1 ((RdM.old h1) w hS)) ?_
  rintro r_1 _ _ ⟨rfl, rfl⟩
  refine TL.not r_1 rfl rfl rfl ?_
  refine TL.assign rfl rfl (v := .bool (!r_1)) rfl ?_
  refine TL.done ?_
  refine TC.cond (b := (!r_1)) rfl (fun c1 => ?_) (fun c2 => ?_)
  · refine TC.seq ?_
    refine TC.region ?_
    refine TL.assign rfl rfl (v := SV.v ⟨none, 0, 0⟩) rfl ?_
    refine TL.assign rfl rfl (v := .int .i64 1) rfl ?_
    refine TL.done ?_
    refine TC.nilmat Ei 2 53 ?_
    exact TC.retF (Fin.body (fin2 (.inr rfl) rfl (.tmp rfl) (.tmp rfl) [0] rfl ⟨⟨none, 0, 0⟩, [], rfl, rfl⟩))
  · refine TC.seq ?_
    refine TC.region ?_
    refine TL.move rfl rfl (v := .int .i64 x2) rfl ?_
    refine TL.move rfl rfl (v := SV.v s1) rfl ?_
    refine TL.lenM (RdM.old h1) Try.underlying22 rfl rfl rfl ?_
    refine TL.bin .i64 (x1.length : Int) 1 rfl rfl rfl rfl (v := .int .i64 (w64 ((x1.length : Int) - 1))) rfl ?_
    refine TL.call (R := G.impl_in.R) Try.call60 rfl rfl rfl (fun w hS => G.impl_in.calls w x2 0 (w64 ((x1.length : Int) - 1))) ?_
    rintro r_2 _ _ ⟨rfl, rfl⟩
    refine TL.not r_2 rfl rfl rfl ?_
    refine TL.assign rfl rfl (v := .bool (!r_2)) rfl ?_
    refine TL.done ?_
    refine TC.cond (b := (!r_2)) rfl (fun c3 => ?_) (fun c4 => ?_)
    · refine TC.seq ?_
      refine TC.region ?_
      refine TL.assign rfl rfl (v := SV.v ⟨none, 0, 0⟩) rfl ?_
      refine TL.assign rfl rfl (v := .int .i64 2) rfl ?_
      refine TL.done ?_
      refine TC.nilmat Ei 2 53 ?_
      exact TC.retF (Fin.body (fin2 (.inr rfl) rfl (.tmp rfl) (.tmp rfl) [0] rfl ⟨⟨none, 0, 0⟩, [], rfl, rfl⟩))
    · refine TC.seq ?_
      refine TC.region ?_
      refine TL.move rfl rfl (v := SV.v s1) rfl ?_
      refine TL.lenM (RdM.old h1) Try.underlying22 rfl rfl rfl ?_
      refine TL.bin .i64 (x1.length : Int) 2 rfl rfl rfl rfl (v := .int .i64 (w64 ((x1.length : Int) + 2))) rfl ?_
      refine TL.bin .i64 (w64 ((x1.length : Int) + 2)) 12 rfl rfl rfl rfl (v := .bool (decide ((w64 ((x1.length : Int) + 2)) > 12))) rfl ?_
      refine TL.assign rfl rfl (v := .bool (decide ((w64 ((x1.length : Int) + 2)) > 12))) rfl ?_
      refine TL.done ?_
      refine TC.cond (b := (decide ((w64 ((x1.length : Int) + 2)) > 12))) rfl (fun c5 => ?_) (fun c6 => ?_)
      · refine TC.seq ?_
        refine TC.region ?_
        refine TL.assign rfl rfl (v := SV.v ⟨none, 0, 0⟩) rfl ?_
        refine TL.assign rfl rfl (v := .int .i64 3) rfl ?_
        refine TL.done ?_
        refine TC.nilmat Ei 2 53 ?_
        exact TC.retF (Fin.body (fin2 (.inr rfl) rfl (.tmp rfl) (.tmp rfl) [0] rfl ⟨⟨none, 0, 0⟩, [], rfl, rfl⟩))
      · refine TC.skip ?_
        refine TC.seq ?_
        refine TC.wk (Γ' := [(0, SV.v s1), (1, .int .i64 x2), (4, SV.v ⟨none, 0, 0⟩), (5, .int .i64 0), (10, SV.v s1), (11, .bool r_1), (12, .bool (!r_1)), (9, .bool (!r_1)), (14, .int .i64 x2), (15, SV.v s1), (16, .int .i64 (x1.length : Int)), (17, .int .i64 (w64 ((x1.length : Int) - 1))), (18, .bool r_2), (19, .bool (!r_2)), (13, .bool (!r_2)), (21, SV.v s1), (22, .int .i64 (x1.length : Int)), (23, .int .i64 (w64 ((x1.length : Int) + 2))), (24, .bool (decide ((w64 ((x1.length : Int) + 2)) > 12))), (20, .bool (decide ((w64 ((x1.length : Int) + 2)) > 12)))]) ⟨rfl, rfl, rfl, rfl, rfl, rfl, rfl, rfl, rfl, rfl, rfl, rfl, rfl, rfl, rfl, rfl, rfl, rfl, rfl, rfl, trivial⟩ ?_
        refine TC.bindE ?_
        rintro r_3 hr1
        refine TC.bindE ?_
        rintro r_4 hr2
        refine TC.chk fun h2 => ?_
        refine TC.drawG [(0, SV.v s1), (1, .int .i64 x2), (4, SV.v ⟨none, 0, 0⟩), (5, .int .i64 0), (10, SV.v s1), (11, .bool r_1), (12, .bool (!r_1)), (9, .bool (!r_1)), (14, .int .i64 x2), (15, SV.v s1), (16, .int .i64 (x1.length : Int)), (17, .int .i64 (w64 ((x1.length : Int) - 1))), (18, .bool r_2), (19, .bool (!r_2)), (13, .bool (!r_2)), (21, SV.v s1), (22, .int .i64 (x1.length : Int)), (23, .int .i64 (w64 ((x1.length : Int) + 2))), (24, .bool (decide ((w64 ((x1.length : Int) + 2)) > 12))), (20, .bool (decide ((w64 ((x1.length : Int) + 2)) > 12)))] [] ⟨rfl, rfl, rfl, rfl, rfl, rfl, rfl, rfl, rfl, rfl, rfl, rfl, rfl, rfl, rfl, rfl, rfl, rfl, rfl, rfl, trivial⟩ trivial (fun l_ g1 => [(bif nb l_ 1 then mat Ei 2 53 (gs (g1 8)) (g1 9) r_3 else emp)]) (fun g1 => [SV.v s1, SV.v (gs (g1 8)), SV.v s1, .int .i64 r_4, SV.v s1, .int .i64 x2, ep s1 x2.toNat, SV.v (gt ss1 x2), SV.v (gs (g1 8)), .int .i64 r_4, SV.v (gt ss1 x2)]) [[], [0], [], [0, 1, 2], [], [], [4, 5], [4, 5, 6], [0, 1, 2, 3], [0, 1, 2, 3, 8], [0, 1, 2, 3, 4, 5, 6, 7, 8, 9]] [[some false, some false, none, some false, none, none, none, none, some false, some false, some false], [some true, some false, none, some false, none, none, none, none, some false, some false, some false], [none, none, some false, some false, none, none, none, none, some false, some false, some false], [some true, some true, some true, some false, none, none, none, none, some false, some false, some false], [none, none, none, none, some false, none, some false, some false, none, none, some false], [none, none, none, none, none, some false, some false, some false, none, none, some false], [none, none, none, none, some true, some true, some false, some false, none, none, some false], [none, none, none, none, some true, some true, some true, some false, none, none, some false], [some true, some true, some true, some true, none, none, none, none, some false, some false, some false], [some true, some true, some true, some true, none, none, none, none, some true, some false, some false], [some true, some true, some true, some true, some true, some true, some true, some true, some true, some true, some false]] (by kernel_rfl) (fun _ => rfl) rfl rfl rfl rfl rfl (fun _ _ => ⟨⟨⟨⟨⟨⟨⟨⟨⟨⟨⟨trivial, rfl⟩, rfl⟩, rfl⟩, rfl⟩, rfl⟩, rfl⟩, rfl⟩, rfl⟩, rfl⟩, rfl⟩, rfl⟩) 1 [0] (fun _ => rfl) ?_ ?_
        · refine ⟨rfl, ?_, rfl, ?_, rfl, ?_, rfl, ?_, rfl, ?_, rfl, ?_, rfl, ?_, rfl, ?_, rfl, ?_, rfl, ?_, rfl, ?_, trivial⟩
          · intro b2_ b4_ b5_ b6_ b7_ g1
            refine TL.move rfl rfl (v := SV.v s1) rfl ?_
            refine TL.done ?_
            exact TC.nrm () [] ⟨rfl, trivial⟩ [0] rfl
          · intro b2_ b4_ b5_ b6_ b7_ g1
            refine TL.asL [emp] rfl ?_
            refine TL.callH (R := G.impl_cloneSurface.R) hr1 Try.call61 rfl rfl rfl (fun w hS => G.impl_cloneSurface.calls w s1 ss1 x1 ((RdM.old h1) w hS)) ?_
            rintro _ _ ⟨s2, ss2, rfl, rfl⟩
            refine TL.done ?_
            exact TC.nrm () [[s2], ss2] ⟨rfl, trivial⟩ [0] rfl
          · intro b0_ b1_ b4_ b5_ b6_ b7_ g1
            refine TL.move rfl rfl (v := SV.v s1) rfl ?_
            refine TL.done ?_
            exact TC.nrm () [] ⟨rfl, trivial⟩ [0] rfl
          · intro b4_ b5_ b6_ b7_ g1
            refine TL.asL [mat Ei 2 53 (gs (g1 8)) (g1 9) r_3] rfl ?_
            refine TL.callH (R := G.impl_edgesOf.R) hr2 Try.call62 rfl rfl rfl (fun w hS => G.impl_edgesOf.calls w s1 ss1 x1 ((RdM.old h1) w hS)) ?_
            rintro _ _ ⟨rfl, rfl⟩
            refine TL.done ?_
            exact TC.nrm () [] ⟨rfl, trivial⟩ [0] rfl
          · intro b0_ b1_ b2_ b3_ b5_ b8_ b9_ g1
            refine TL.move rfl rfl (v := SV.v s1) rfl ?_
            refine TL.done ?_
            exact TC.nrm () [] ⟨rfl, trivial⟩ [0] rfl
          · intro b0_ b1_ b2_ b3_ b4_ b8_ b9_ g1
            refine TL.move rfl rfl (v := .int .i64 x2) rfl ?_
            refine TL.done ?_
            exact TC.nrm () [] ⟨rfl, trivial⟩ [0] rfl
          · intro b0_ b1_ b2_ b3_ b8_ b9_ g1
            refine TL.asL [(bif b1_ then mat Ei 2 53 (gs (g1 8)) (g1 9) r_3 else emp)] rfl ?_
            refine TL.ixsM x2 x2.toNat (RdM.old h1) h2 Try.underlying22 Try.sizeOf53 rfl rfl rfl rfl (by omega) ?_
            refine TL.done ?_
            exact TC.nrm () [] ⟨rfl, trivial⟩ [0] rfl
          · intro b0_ b1_ b2_ b3_ b8_ b9_ g1
            refine TL.asL [(bif b1_ then mat Ei 2 53 (gs (g1 8)) (g1 9) r_3 else emp)] rfl ?_
            refine TL.loadM2 (RdM.old h1) Try.isAgg53 x2 h2 (by omega) rfl rfl rfl ?_
            refine TL.done ?_
            exact TC.nrm () [] ⟨rfl, trivial⟩ [0] rfl
          · intro b4_ b5_ b6_ b7_ g1
            refine TL.assign rfl rfl (v := SV.v (gs (g1 8))) rfl ?_
            refine TL.done ?_
            exact TC.nrm () [] ⟨rfl, trivial⟩ [0] rfl
          · intro b4_ b5_ b6_ b7_ g1
            refine TL.assign rfl rfl (v := .int .i64 r_4) rfl ?_
            refine TL.done ?_
            exact TC.nrm () [] ⟨rfl, trivial⟩ [0] rfl
          · intro g1
            refine TL.assign rfl rfl (v := SV.v (gt ss1 x2)) rfl ?_
            refine TL.done ?_
            exact TC.nrm () [] ⟨rfl, trivial⟩ [0] rfl
        · intro g1
          refine TC.asL [mat Ei 2 53 (gs (g1 8)) (g1 9) r_3] rfl ?_
          refine TC.seq ?_
          refine TC.region ?_
          refine TL.move rfl rfl (v := SV.v (gs (g1 8))) rfl ?_
          refine TL.move rfl rfl (v := .int .i64 x2) rfl ?_
          refine TL.move rfl rfl (v := SV.v (gt ss1 x2)) rfl ?_
          refine TL.chk fun h3 => ?_
          refine TL.ixs 0 0 (RdM.inn (RdM.old h1) h2) h3 Try.underlying53 Try.sizeOf2 rfl rfl rfl rfl rfl ?_
          refine TL.loadE (RdM.inn (RdM.old h1) h2) Try.isAgg2 0 0 (gt_spec h3) (v := .int .i64 (gt (gt x1 x2) 0)) rfl rfl rfl rfl rfl ?_
          refine TL.move rfl rfl (v := .int .i64 r_4) rfl ?_
          refine TL.bin .i64 r_4 1 rfl rfl rfl rfl (v := .int .i64 (w64 (r_4 + 1))) rfl ?_
          refine TL.move rfl rfl (v := .int .i64 r_4) rfl ?_
          refine TL.bin .i64 r_4 2 rfl rfl rfl rfl (v := .int .i64 (w64 (r_4 + 2))) rfl ?_
          refine TL.neg .i64 (w64 (r_4 + 2)) rfl rfl rfl ?_
          refine TL.blit Ei ([(gt (gt x1 x2) 0), (w64 (r_4 + 1)), (w64 (0 - (w64 (r_4 + 2))))] : List Int) Try.underlying53 Try.sizeOf2 Try.zeroValue2 rfl rfl rfl [(0, .int .i64 (gt (gt x1 x2) 0)), (1, .int .i64 (w64 (r_4 + 1))), (2, .int .i64 (w64 (0 - (w64 (r_4 + 2)))))] rfl ⟨rfl, rfl, rfl, rfl, rfl, rfl, trivial⟩ rfl rfl fun s3 => ?_
          refine TL.chk fun h4 => ?_
          refine TL.ixsM x2 x2.toNat (RdM.mat 1 rfl) h4 Try.underlying22 Try.sizeOf53 rfl rfl rfl rfl (by omega) ?_
          refine TL.matlen 1 rfl fun h5 => ?_
          refine TL.matcut 1 rfl ?_
          refine TL.stE 0 (x2.toNat) s3 (v := SV.v s3) rfl Try.sizeOf53 rfl rfl rfl (by have h_ := h4; have l_ := h5; (try simp only [List.length_set] at h_ l_ ⊢); omega) (by simp only [show Ev.sz = 1 from rfl]; omega) rfl rfl rfl ?_
          refine TL.hole 2 x2 rfl h4 ?_
          refine TL.rowsPut 1 2 rfl rfl ?_
          refine TL.matmk 0 2 rfl rfl ?_
          refine TL.drop 0 rfl ?_
          refine TL.asL [emp, mat Ei 2 53 (gs (g1 8)) ((g1 9).set x2.toNat s3) (r_3.set x2.toNat ([(gt (gt x1 x2) 0), (w64 (r_4 + 1)), (w64 (0 - (w64 (r_4 + 2))))] : List Int))] rfl ?_
          refine TL.done ?_
          refine TC.seq ?_
          refine TC.wk (Γ' := [(0, SV.v s1), (1, .int .i64 x2), (10, SV.v s1), (11, .bool r_1), (12, .bool (!r_1)), (9, .bool (!r_1)), (14, .int .i64 x2), (15, SV.v s1), (16, .int .i64 (x1.length : Int)), (17, .int .i64 (w64 ((x1.length : Int) - 1))), (18, .bool r_2), (19, .bool (!r_2)), (13, .bool (!r_2)), (21, SV.v s1), (22, .int .i64 (x1.length : Int)), (23, .int .i64 (w64 ((x1.length : Int) + 2))), (24, .bool (decide ((w64 ((x1.length : Int) + 2)) > 12))), (20, .bool (decide ((w64 ((x1.length : Int) + 2)) > 12))), (25, SV.v s1), (26, SV.v (gs (g1 8))), (27, SV.v s1), (28, .int .i64 r_4), (29, SV.v s1), (30, .int .i64 x2), (31, ep s1 x2.toNat), (32, SV.v (gt ss1 x2)), (6, SV.v (gs (g1 8))), (7, .int .i64 r_4), (8, SV.v (gt ss1 x2)), (33, SV.v (gs (g1 8))), (34, .int .i64 x2), (35, SV.v (gt ss1 x2)), (36, ep (gt ss1 x2) 0), (37, .int .i64 (gt (gt x1 x2) 0)), (38, .int .i64 r_4), (39, .int .i64 (w64 (r_4 + 1))), (40, .int .i64 r_4), (41, .int .i64 (w64 (r_4 + 2))), (42, .int .i64 (w64 (0 - (w64 (r_4 + 2))))), (43, SV.v s3), (44, ep (gs (g1 8)) x2.toNat)]) ⟨rfl, rfl, rfl, rfl, rfl, rfl, rfl, rfl, rfl, rfl, rfl, rfl, rfl, rfl, rfl, rfl, rfl, rfl, rfl, rfl, rfl, rfl, rfl, rfl, rfl, rfl, rfl, rfl, rfl, rfl, rfl, rfl, rfl, rfl, rfl, rfl, rfl, rfl, rfl, rfl, rfl, trivial⟩ ?_
          refine TC.chk fun h6 => ?_
          refine TC.chk fun h7 => ?_
          refine TC.small fun h8 => ?_
          refine TC.drawG [(0, SV.v s1), (1, .int .i64 x2), (10, SV.v s1), (11, .bool r_1), (12, .bool (!r_1)), (9, .bool (!r_1)), (14, .int .i64 x2), (15, SV.v s1), (16, .int .i64 (x1.length : Int)), (17, .int .i64 (w64 ((x1.length : Int) - 1))), (18, .bool r_2), (19, .bool (!r_2)), (13, .bool (!r_2)), (21, SV.v s1), (22, .int .i64 (x1.length : Int)), (23, .int .i64 (w64 ((x1.length : Int) + 2))), (24, .bool (decide ((w64 ((x1.length : Int) + 2)) > 12))), (20, .bool (decide ((w64 ((x1.length : Int) + 2)) > 12))), (25, SV.v s1), (26, SV.v (gs (g1 8))), (27, SV.v s1), (28, .int .i64 r_4), (29, SV.v s1), (30, .int .i64 x2), (31, ep s1 x2.toNat), (32, SV.v (gt ss1 x2)), (6, SV.v (gs (g1 8))), (7, .int .i64 r_4), (8, SV.v (gt ss1 x2)), (33, SV.v (gs (g1 8))), (34, .int .i64 x2), (35, SV.v (gt ss1 x2)), (36, ep (gt ss1 x2) 0), (37, .int .i64 (gt (gt x1 x2) 0)), (38, .int .i64 r_4), (39, .int .i64 (w64 (r_4 + 1))), (40, .int .i64 r_4), (41, .int .i64 (w64 (r_4 + 2))), (42, .int .i64 (w64 (0 - (w64 (r_4 + 2))))), (43, SV.v s3), (44, ep (gs (g1 8)) x2.toNat)] [] ⟨rfl, rfl, rfl, rfl, rfl, rfl, rfl, rfl, rfl, rfl, rfl, rfl, rfl, rfl, rfl, rfl, rfl, rfl, rfl, rfl, rfl, rfl, rfl, rfl, rfl, rfl, rfl, rfl, rfl, rfl, rfl, rfl, rfl, rfl, rfl, rfl, rfl, rfl, rfl, rfl, rfl, trivial⟩ trivial (fun l_ g2 => [emp, (bif nb l_ 20 then emp else mat Ei 2 53 (gs (g1 8)) ((g1 9).set x2.toNat s3) (r_3.set x2.toNat ([(gt (gt x1 x2) 0), (w64 (r_4 + 1)), (w64 (0 - (w64 (r_4 + 2))))] : List Int))), (bif nb l_ 20 then emp else (bif nb l_ 9 then row Ei 2 (gs (g2 72)) ([(gt (gt x1 x2) 1), (w64 (r_4 + 3)), (w64 (0 - (w64 (r_4 + 1))))] : List Int) else emp)), (bif nb l_ 20 then mat Ei 2 53 (gs (g2 160)) (((g1 9).set x2.toNat s3) ++ [(gs (g2 72)), (gs (g2 144))]) ((r_3.set x2.toNat ([(gt (gt x1 x2) 0), (w64 (r_4 + 1)), (w64 (0 - (w64 (r_4 + 2))))] : List Int)) ++ [([(gt (gt x1 x2) 1), (w64 (r_4 + 3)), (w64 (0 - (w64 (r_4 + 1))))] : List Int), ([(gt (gt x1 x2) 2), (w64 (r_4 + 2)), (w64 (0 - (w64 (r_4 + 3))))] : List Int)]) else (bif nb l_ 18 then row Ei 2 (gs (g2 144)) ([(gt (gt x1 x2) 2), (w64 (r_4 + 2)), (w64 (0 - (w64 (r_4 + 3))))] : List Int) else emp)), (bif nb l_ 19 then row Ev 53 (gs (g2 152)) ([(gs (g2 72)), (gs (g2 144))] : List SV) else emp)]) (fun g2 => [SV.v (gs (g1 8)), SV.v (gt ss1 x2), ep (gt ss1 x2) 1, .int .i64 (gt (gt x1 x2) 1), .int .i64 r_4, .int .i64 (w64 (r_4 + 3)), .int .i64 r_4, .int .i64 (w64 (r_4 + 1)), .int .i64 (w64 (0 - (w64 (r_4 + 1)))), SV.v (gs (g2 72)), SV.v (gt ss1 x2), ep (gt ss1 x2) 2, .int .i64 (gt (gt x1 x2) 2), .int .i64 r_4, .int .i64 (w64 (r_4 + 2)), .int .i64 r_4, .int .i64 (w64 (r_4 + 3)), .int .i64 (w64 (0 - (w64 (r_4 + 3)))), SV.v (gs (g2 144)), SV.v (gs (g2 152)), SV.v (gs (g2 160)), SV.v (gs (g2 160)), .int .i64 0]) [[], [], [1], [1, 2], [], [4], [], [6], [6, 7], [1, 2, 3, 4, 5, 6, 7, 8], [], [10], [10, 11], [], [13], [], [15], [15, 16], [10, 11, 12, 13, 14, 15, 16, 17], [1, 2, 3, 4, 5, 6, 7, 8, 9, 10, 11, 12, 13, 14, 15, 16, 17, 18], [0, 1, 2, 3, 4, 5, 6, 7, 8, 9, 10, 11, 12, 13, 14, 15, 16, 17, 18, 19], [0, 1, 2, 3, 4, 5, 6, 7, 8, 9, 10, 11, 12, 13, 14, 15, 16, 17, 18, 19, 20], [0, 1, 2, 3, 4, 5, 6, 7, 8, 9, 10, 11, 12, 13, 14, 15, 16, 17, 18, 19, 20, 21]] [[some false, none, none, none, none, none, none, none, none, none, none, none, none, none, none, none, none, none, none, none, some false, some false, some false], [none, some false, some false, some false, none, none, none, none, none, some false, none, none, none, none, none, none, none, none, none, some false, some false, some false, some false], [none, some true, some false, some false, none, none, none, none, none, some false, none, none, none, none, none, none, none, none, none, some false, some false, some false, some false], [none, some true, some true, some false, none, none, none, none, none, some false, none, none, none, none, none, none, none, none, none, some false, some false, some false, some false], [none, none, none, none, some false, some false, none, none, none, some false, none, none, none, none, none, none, none, none, none, some false, some false, some false, some false], [none, none, none, none, some true, some false, none, none, none, some false, none, none, none, none, none, none, none, none, none, some false, some false, some false, some false], [none, none, none, none, none, none, some false, some false, some false, some false, none, none, none, none, none, none, none, none, none, some false, some false, some false, some false], [none, none, none, none, none, none, some true, some false, some false, some false, none, none, none, none, none, none, none, none, none, some false, some false, some false, some false], [none, none, none, none, none, none, some true, some true, some false, some false, none, none, none, none, none, none, none, none, none, some false, some false, some false, some false], [none, some true, some true, some true, some true, some true, some true, some true, some true, some false, none, none, none, none, none, none, none, none, none, some false, some false, some false, some false], [none, none, none, none, none, none, none, none, none, none, some false, some false, some false, none, none, none, none, none, some false, some false, some false, some false, some false], [none, none, none, none, none, none, none, none, none, none, some true, some false, some false, none, none, none, none, none, some false, some false, some false, some false, some false], [none, none, none, none, none, none, none, none, none, none, some true, some true, some false, none, none, none, none, none, some false, some false, some false, some false, some false], [none, none, none, none, none, none, none, none, none, none, none, none, none, some false, some false, none, none, none, some false, some false, some false, some false, some false], [none, none, none, none, none, none, none, none, none, none, none, none, none, some true, some false, none, none, none, some false, some false, some false, some false, some false], [none, none, none, none, none, none, none, none, none, none, none, none, none, none, none, some false, some false, some false, some false, some false, some false, some false, some false], [none, none, none, none, none, none, none, none, none, none, none, none, none, none, none, some true, some false, some false, some false, some false, some false, some false, some false], [none, none, none, none, none, none, none, none, none, none, none, none, none, none, none, some true, some true, some false, some false, some false, some false, some false, some false], [none, none, none, none, none, none, none, none, none, none, some true, some true, some true, some true, some true, some true, some true, some true, some false, some false, some false, some false, some false], [none, some true, some true, some true, some true, some true, some true, some true, some true, some true, some true, some true, some true, some true, some true, some true, some true, some true, some true, some false, some false, some false, some false], [some true, some true, some true, some true, some true, some true, some true, some true, some true, some true, some true, some true, some true, some true, some true, some true, some true, some true, some true, some true, some false, some false, some false], [some true, some true, some true, some true, some true, some true, some true, some true, some true, some true, some true, some true, some true, some true, some true, some true, some true, some true, some true, some true, some true, some false, some false], [some true, some true, some true, some true, some true, some true, some true, some true, some true, some true, some true, some true, some true, some true, some true, some true, some true, some true, some true, some true, some true, some true, some false]] (by kernel_rfl) (fun _ => rfl) rfl rfl rfl rfl rfl (fun _ _ => ⟨⟨⟨⟨⟨⟨⟨⟨⟨⟨⟨⟨⟨⟨⟨⟨⟨⟨⟨⟨⟨⟨⟨trivial, rfl⟩, rfl⟩, rfl⟩, rfl⟩, rfl⟩, rfl⟩, rfl⟩, rfl⟩, rfl⟩, rfl⟩, rfl⟩, rfl⟩, rfl⟩, rfl⟩, rfl⟩, rfl⟩, rfl⟩, rfl⟩, rfl⟩, rfl⟩, rfl⟩, rfl⟩, rfl⟩) 3 [3, 3, 0, 0, 0] (fun _ => rfl) ?_ ?_
          · refine ⟨rfl, ?_, rfl, ?_, rfl, ?_, rfl, ?_, rfl, ?_, rfl, ?_, rfl, ?_, rfl, ?_, rfl, ?_, rfl, ?_, rfl, ?_, rfl, ?_, rfl, ?_, rfl, ?_, rfl, ?_, rfl, ?_, rfl, ?_, rfl, ?_, rfl, ?_, rfl, ?_, rfl, ?_, rfl, ?_, rfl, ?_, trivial⟩
            · intro b1_ b2_ b3_ b4_ b5_ b6_ b7_ b8_ b9_ b10_ b11_ b12_ b13_ b14_ b15_ b16_ b17_ b18_ b19_ g2
              refine TL.move rfl rfl (v := SV.v (gs (g1 8))) rfl ?_
              refine TL.done ?_
              exact TC.nrm () [] ⟨rfl, trivial⟩ [0, 0, 0, 0, 0] rfl
            · intro b0_ b4_ b5_ b6_ b7_ b8_ b10_ b11_ b12_ b13_ b14_ b15_ b16_ b17_ b18_ g2
              refine TL.move rfl rfl (v := SV.v (gt ss1 x2)) rfl ?_
              refine TL.done ?_
              exact TC.nrm () [] ⟨rfl, trivial⟩ [0, 0, 0, 0, 0] rfl
            · intro b0_ b4_ b5_ b6_ b7_ b8_ b10_ b11_ b12_ b13_ b14_ b15_ b16_ b17_ b18_ g2
              refine TL.asL [emp, mat Ei 2 53 (gs (g1 8)) ((g1 9).set x2.toNat s3) (r_3.set x2.toNat ([(gt (gt x1 x2) 0), (w64 (r_4 + 1)), (w64 (0 - (w64 (r_4 + 2))))] : List Int)), emp, (bif b18_ then row Ei 2 (gs (g2 144)) ([(gt (gt x1 x2) 2), (w64 (r_4 + 2)), (w64 (0 - (w64 (r_4 + 3))))] : List Int) else emp), emp] rfl ?_
              refine TL.ixs 1 1 (RdM.inn (RdM.old h1) h2) h6 Try.underlying53 Try.sizeOf2 rfl rfl rfl rfl rfl ?_
              refine TL.done ?_
              exact TC.nrm () [] ⟨rfl, trivial⟩ [0, 0, 0, 0, 0] rfl
            · intro b0_ b4_ b5_ b6_ b7_ b8_ b10_ b11_ b12_ b13_ b14_ b15_ b16_ b17_ b18_ g2
              refine TL.asL [emp, mat Ei 2 53 (gs (g1 8)) ((g1 9).set x2.toNat s3) (r_3.set x2.toNat ([(gt (gt x1 x2) 0), (w64 (r_4 + 1)), (w64 (0 - (w64 (r_4 + 2))))] : List Int)), emp, (bif b18_ then row Ei 2 (gs (g2 144)) ([(gt (gt x1 x2) 2), (w64 (r_4 + 2)), (w64 (0 - (w64 (r_4 + 3))))] : List Int) else emp), emp] rfl ?_
              refine TL.loadE (RdM.inn (RdM.old h1) h2) Try.isAgg2 1 0 (gt_spec h6) (v := .int .i64 (gt (gt x1 x2) 1)) rfl rfl rfl rfl rfl ?_
              refine TL.done ?_
              exact TC.nrm () [] ⟨rfl, trivial⟩ [0, 0, 0, 0, 0] rfl
            · intro b0_ b1_ b2_ b3_ b6_ b7_ b8_ b10_ b11_ b12_ b13_ b14_ b15_ b16_ b17_ b18_ g2
              refine TL.move rfl rfl (v := .int .i64 r_4) rfl ?_
              refine TL.done ?_
              exact TC.nrm () [] ⟨rfl, trivial⟩ [0, 0, 0, 0, 0] rfl
            · intro b0_ b1_ b2_ b3_ b6_ b7_ b8_ b10_ b11_ b12_ b13_ b14_ b15_ b16_ b17_ b18_ g2
              refine TL.bin .i64 r_4 3 rfl rfl rfl rfl (v := .int .i64 (w64 (r_4 + 3))) rfl ?_
              refine TL.done ?_
              exact TC.nrm () [] ⟨rfl, trivial⟩ [0, 0, 0, 0, 0] rfl
            · intro b0_ b1_ b2_ b3_ b4_ b5_ b10_ b11_ b12_ b13_ b14_ b15_ b16_ b17_ b18_ g2
              refine TL.move rfl rfl (v := .int .i64 r_4) rfl ?_
              refine TL.done ?_
              exact TC.nrm () [] ⟨rfl, trivial⟩ [0, 0, 0, 0, 0] rfl
            · intro b0_ b1_ b2_ b3_ b4_ b5_ b10_ b11_ b12_ b13_ b14_ b15_ b16_ b17_ b18_ g2
              refine TL.bin .i64 r_4 1 rfl rfl rfl rfl (v := .int .i64 (w64 (r_4 + 1))) rfl ?_
              refine TL.done ?_
              exact TC.nrm () [] ⟨rfl, trivial⟩ [0, 0, 0, 0, 0] rfl
            · intro b0_ b1_ b2_ b3_ b4_ b5_ b10_ b11_ b12_ b13_ b14_ b15_ b16_ b17_ b18_ g2
              refine TL.neg .i64 (w64 (r_4 + 1)) rfl rfl rfl ?_
              refine TL.done ?_
              exact TC.nrm () [] ⟨rfl, trivial⟩ [0, 0, 0, 0, 0] rfl
            · intro b0_ b10_ b11_ b12_ b13_ b14_ b15_ b16_ b17_ b18_ g2
              refine TL.asL [emp, mat Ei 2 53 (gs (g1 8)) ((g1 9).set x2.toNat s3) (r_3.set x2.toNat ([(gt (gt x1 x2) 0), (w64 (r_4 + 1)), (w64 (0 - (w64 (r_4 + 2))))] : List Int)), emp, (bif b18_ then row Ei 2 (gs (g2 144)) ([(gt (gt x1 x2) 2), (w64 (r_4 + 2)), (w64 (0 - (w64 (r_4 + 3))))] : List Int) else emp), emp] rfl ?_
              refine TL.blit Ei ([(gt (gt x1 x2) 1), (w64 (r_4 + 3)), (w64 (0 - (w64 (r_4 + 1))))] : List Int) Try.underlying53 Try.sizeOf2 Try.zeroValue2 rfl rfl rfl [(0, .int .i64 (gt (gt x1 x2) 1)), (1, .int .i64 (w64 (r_4 + 3))), (2, .int .i64 (w64 (0 - (w64 (r_4 + 1)))))] rfl ⟨rfl, rfl, rfl, rfl, rfl, rfl, trivial⟩ rfl rfl fun s4 => ?_
              refine TL.done ?_
              exact TC.nrm () [[s4]] ⟨rfl, trivial⟩ [1, 1, 0, 1, 1] rfl
            · intro b0_ b1_ b2_ b3_ b4_ b5_ b6_ b7_ b8_ b9_ b13_ b14_ b15_ b16_ b17_ g2
              refine TL.move rfl rfl (v := SV.v (gt ss1 x2)) rfl ?_
              refine TL.done ?_
              exact TC.nrm () [] ⟨rfl, trivial⟩ [0, 0, 0, 0, 0] rfl
            · intro b0_ b1_ b2_ b3_ b4_ b5_ b6_ b7_ b8_ b9_ b13_ b14_ b15_ b16_ b17_ g2
              refine TL.asL [emp, mat Ei 2 53 (gs (g1 8)) ((g1 9).set x2.toNat s3) (r_3.set x2.toNat ([(gt (gt x1 x2) 0), (w64 (r_4 + 1)), (w64 (0 - (w64 (r_4 + 2))))] : List Int)), (bif b9_ then row Ei 2 (gs (g2 72)) ([(gt (gt x1 x2) 1), (w64 (r_4 + 3)), (w64 (0 - (w64 (r_4 + 1))))] : List Int) else emp), emp, emp] rfl ?_
              refine TL.ixs 2 2 (RdM.inn (RdM.old h1) h2) h7 Try.underlying53 Try.sizeOf2 rfl rfl rfl rfl rfl ?_
              refine TL.done ?_
              exact TC.nrm () [] ⟨rfl, trivial⟩ [0, 0, 0, 0, 0] rfl
            · intro b0_ b1_ b2_ b3_ b4_ b5_ b6_ b7_ b8_ b9_ b13_ b14_ b15_ b16_ b17_ g2
              refine TL.asL [emp, mat Ei 2 53 (gs (g1 8)) ((g1 9).set x2.toNat s3) (r_3.set x2.toNat ([(gt (gt x1 x2) 0), (w64 (r_4 + 1)), (w64 (0 - (w64 (r_4 + 2))))] : List Int)), (bif b9_ then row Ei 2 (gs (g2 72)) ([(gt (gt x1 x2) 1), (w64 (r_4 + 3)), (w64 (0 - (w64 (r_4 + 1))))] : List Int) else emp), emp, emp] rfl ?_
              refine TL.loadE (RdM.inn (RdM.old h1) h2) Try.isAgg2 2 0 (gt_spec h7) (v := .int .i64 (gt (gt x1 x2) 2)) rfl rfl rfl rfl rfl ?_
              refine TL.done ?_
              exact TC.nrm () [] ⟨rfl, trivial⟩ [0, 0, 0, 0, 0] rfl
            · intro b0_ b1_ b2_ b3_ b4_ b5_ b6_ b7_ b8_ b9_ b10_ b11_ b12_ b15_ b16_ b17_ g2
              refine TL.move rfl rfl (v := .int .i64 r_4) rfl ?_
              refine TL.done ?_
              exact TC.nrm () [] ⟨rfl, trivial⟩ [0, 0, 0, 0, 0] rfl
            · intro b0_ b1_ b2_ b3_ b4_ b5_ b6_ b7_ b8_ b9_ b10_ b11_ b12_ b15_ b16_ b17_ g2
              refine TL.bin .i64 r_4 2 rfl rfl rfl rfl (v := .int .i64 (w64 (r_4 + 2))) rfl ?_
              refine TL.done ?_
              exact TC.nrm () [] ⟨rfl, trivial⟩ [0, 0, 0, 0, 0] rfl
            · intro b0_ b1_ b2_ b3_ b4_ b5_ b6_ b7_ b8_ b9_ b10_ b11_ b12_ b13_ b14_ g2
              refine TL.move rfl rfl (v := .int .i64 r_4) rfl ?_
              refine TL.done ?_
              exact TC.nrm () [] ⟨rfl, trivial⟩ [0, 0, 0, 0, 0] rfl
            · intro b0_ b1_ b2_ b3_ b4_ b5_ b6_ b7_ b8_ b9_ b10_ b11_ b12_ b13_ b14_ g2
              refine TL.bin .i64 r_4 3 rfl rfl rfl rfl (v := .int .i64 (w64 (r_4 + 3))) rfl ?_
              refine TL.done ?_
              exact TC.nrm () [] ⟨rfl, trivial⟩ [0, 0, 0, 0, 0] rfl
            · intro b0_ b1_ b2_ b3_ b4_ b5_ b6_ b7_ b8_ b9_ b10_ b11_ b12_ b13_ b14_ g2
              refine TL.neg .i64 (w64 (r_4 + 3)) rfl rfl rfl ?_
              refine TL.done ?_
              exact TC.nrm () [] ⟨rfl, trivial⟩ [0, 0, 0, 0, 0] rfl
            · intro b0_ b1_ b2_ b3_ b4_ b5_ b6_ b7_ b8_ b9_ g2
              refine TL.asL [emp, mat Ei 2 53 (gs (g1 8)) ((g1 9).set x2.toNat s3) (r_3.set x2.toNat ([(gt (gt x1 x2) 0), (w64 (r_4 + 1)), (w64 (0 - (w64 (r_4 + 2))))] : List Int)), (bif b9_ then row Ei 2 (gs (g2 72)) ([(gt (gt x1 x2) 1), (w64 (r_4 + 3)), (w64 (0 - (w64 (r_4 + 1))))] : List Int) else emp), emp, emp] rfl ?_
              refine TL.blit Ei ([(gt (gt x1 x2) 2), (w64 (r_4 + 2)), (w64 (0 - (w64 (r_4 + 3))))] : List Int) Try.underlying53 Try.sizeOf2 Try.zeroValue2 rfl rfl rfl [(0, .int .i64 (gt (gt x1 x2) 2)), (1, .int .i64 (w64 (r_4 + 2))), (2, .int .i64 (w64 (0 - (w64 (r_4 + 3)))))] rfl ⟨rfl, rfl, rfl, rfl, rfl, rfl, trivial⟩ rfl rfl fun s5 => ?_
              refine TL.done ?_
              exact TC.nrm () [[s5]] ⟨rfl, trivial⟩ [1, 1, 1, 0, 1] rfl
            · intro b0_ g2
              refine TL.asL [emp, mat Ei 2 53 (gs (g1 8)) ((g1 9).set x2.toNat s3) (r_3.set x2.toNat ([(gt (gt x1 x2) 0), (w64 (r_4 + 1)), (w64 (0 - (w64 (r_4 + 2))))] : List Int)), row Ei 2 (gs (g2 72)) ([(gt (gt x1 x2) 1), (w64 (r_4 + 3)), (w64 (0 - (w64 (r_4 + 1))))] : List Int), row Ei 2 (gs (g2 144)) ([(gt (gt x1 x2) 2), (w64 (r_4 + 2)), (w64 (0 - (w64 (r_4 + 3))))] : List Int), emp] rfl ?_
              refine TL.blit Ev ([(gs (g2 72)), (gs (g2 144))] : List SV) Try.underlying22 Try.sizeOf53 Try.zeroValue53 rfl rfl rfl [(0, SV.v (gs (g2 72))), (1, SV.v (gs (g2 144)))] rfl ⟨rfl, rfl, rfl, rfl, trivial⟩ rfl rfl fun s6 => ?_
              refine TL.done ?_
              exact TC.nrm () [[s6]] ⟨rfl, trivial⟩ [1, 1, 1, 1, 0] rfl
            · intro g2
              refine TL.asL [emp, mat Ei 2 53 (gs (g1 8)) ((g1 9).set x2.toNat s3) (r_3.set x2.toNat ([(gt (gt x1 x2) 0), (w64 (r_4 + 1)), (w64 (0 - (w64 (r_4 + 2))))] : List Int)), row Ei 2 (gs (g2 72)) ([(gt (gt x1 x2) 1), (w64 (r_4 + 3)), (w64 (0 - (w64 (r_4 + 1))))] : List Int), row Ei 2 (gs (g2 144)) ([(gt (gt x1 x2) 2), (w64 (r_4 + 2)), (w64 (0 - (w64 (r_4 + 3))))] : List Int), row Ev 53 (gs (g2 152)) ([(gs (g2 72)), (gs (g2 144))] : List SV)] rfl ?_
              refine TL.matlen 1 rfl fun h9 => ?_
              refine TL.matcut 1 rfl ?_
              refine TL.append 0 rfl (Rd.row 5 rfl) Try.underlying22 (info_of Try.type53) (zv := (Try.t53.zero.getD (.bool false))) rfl rfl rfl (by decide) (by have h_ := h8; have l_ := h9; (try simp only [List.length_cons, List.length_nil] at h_ l_ ⊢); omega) rfl rfl rfl rfl fun s7 => ?_
              refine TL.rowsPush 2 3 rfl rfl ?_
              refine TL.rowsPush 3 4 rfl rfl ?_
              refine TL.asL [row Ev 53 s7 (((g1 9).set x2.toNat s3) ++ [(gs (g2 72)), (gs (g2 144))]), emp, emp, emp, rows Ei 2 (((g1 9).set x2.toNat s3) ++ [(gs (g2 72)), (gs (g2 144))]) ((r_3.set x2.toNat ([(gt (gt x1 x2) 0), (w64 (r_4 + 1)), (w64 (0 - (w64 (r_4 + 2))))] : List Int)) ++ [([(gt (gt x1 x2) 1), (w64 (r_4 + 3)), (w64 (0 - (w64 (r_4 + 1))))] : List Int), ([(gt (gt x1 x2) 2), (w64 (r_4 + 2)), (w64 (0 - (w64 (r_4 + 3))))] : List Int)]), row Ev 53 (gs (g2 152)) ([(gs (g2 72)), (gs (g2 144))] : List SV)] (by simp only [List.append_assoc, List.cons_append, List.nil_append]; rfl) ?_
              refine TL.matmk 0 4 rfl rfl ?_
              refine TL.drop 0 rfl ?_
              refine TL.asL [emp, emp, emp, mat Ei 2 53 s7 (((g1 9).set x2.toNat s3) ++ [(gs (g2 72)), (gs (g2 144))]) ((r_3.set x2.toNat ([(gt (gt x1 x2) 0), (w64 (r_4 + 1)), (w64 (0 - (w64 (r_4 + 2))))] : List Int)) ++ [([(gt (gt x1 x2) 1), (w64 (r_4 + 3)), (w64 (0 - (w64 (r_4 + 1))))] : List Int), ([(gt (gt x1 x2) 2), (w64 (r_4 + 2)), (w64 (0 - (w64 (r_4 + 3))))] : List Int)]), row Ev 53 (gs (g2 152)) ([(gs (g2 72)), (gs (g2 144))] : List SV)] rfl ?_
              refine TL.done ?_
              exact TC.nrm () [[s7]] ⟨rfl, trivial⟩ [0, 0, 0, 0, 0] rfl
            · intro g2
              refine TL.assign rfl rfl (v := SV.v (gs (g2 160))) rfl ?_
              refine TL.done ?_
              exact TC.nrm () [] ⟨rfl, trivial⟩ [0, 0, 0, 0, 0] rfl
            · intro g2
              refine TL.assign rfl rfl (v := .int .i64 0) rfl ?_
              refine TL.done ?_
              exact TC.nrm () [] ⟨rfl, trivial⟩ [0, 0, 0, 0, 0] rfl
          · intro g2
            refine TC.asL [emp, emp, emp, mat Ei 2 53 (gs (g2 160)) (((g1 9).set x2.toNat s3) ++ [(gs (g2 72)), (gs (g2 144))]) ((r_3.set x2.toNat ([(gt (gt x1 x2) 0), (w64 (r_4 + 1)), (w64 (0 - (w64 (r_4 + 2))))] : List Int)) ++ [([(gt (gt x1 x2) 1), (w64 (r_4 + 3)), (w64 (0 - (w64 (r_4 + 1))))] : List Int), ([(gt (gt x1 x2) 2), (w64 (r_4 + 2)), (w64 (0 - (w64 (r_4 + 3))))] : List Int)]), row Ev 53 (gs (g2 152)) ([(gs (g2 72)), (gs (g2 144))] : List SV)] rfl ?_
            exact TC.retF (Fin.body (fin2 (.inr rfl) rfl (.tmp rfl) (.tmp rfl) [3] rfl ⟨(gs (g2 160)), (((g1 9).set x2.toNat s3) ++ [(gs (g2 72)), (gs (g2 144))]), rfl, rfl⟩))

end Go.Proofs.Ytnppkcemnjkboaa.G
