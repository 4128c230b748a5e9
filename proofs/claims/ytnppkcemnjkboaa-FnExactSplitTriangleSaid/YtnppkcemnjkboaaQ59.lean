/- spec.l07Split, as a pure function. -/
import Derived.Test.YtnppkcemnjkboaaProg
import Derived.Test.YtnppkcemnjkboaaSx9
import Derived.Test.YtnppkcemnjkboaaQ99
set_option linter.unusedVariables false
namespace Go.Proofs.Ytnppkcemnjkboaa.G
open Go Go.Sx Go.Proofs

def spec_l07Split.f (s1 : List (List Int)) (i1 : Int) : Option (List (List Int)) := (G.spec_l07Copy.f s1).bind (fun r_1 => chk i1 s1.length (chk 0 ((gt s1 i1).length) (chk i1 r_1.length (chk 1 ((gt s1 i1).length) (chk 2 ((gt s1 i1).length) (small ((r_1.set i1.toNat ([(gt (gt s1 i1) 0), (w64 ((w64 (Int.tdiv (w64 ((s1.length : Int) * 3)) 2)) + 1)), (w64 ((w64 (0 - (w64 (Int.tdiv (w64 ((s1.length : Int) * 3)) 2)))) - 2))] : List Int)).length + 2) (some ((r_1.set i1.toNat ([(gt (gt s1 i1) 0), (w64 ((w64 (Int.tdiv (w64 ((s1.length : Int) * 3)) 2)) + 1)), (w64 ((w64 (0 - (w64 (Int.tdiv (w64 ((s1.length : Int) * 3)) 2)))) - 2))] : List Int)) ++ [([(gt (gt s1 i1) 1), (w64 ((w64 (Int.tdiv (w64 ((s1.length : Int) * 3)) 2)) + 3)), (w64 ((w64 (0 - (w64 (Int.tdiv (w64 ((s1.length : Int) * 3)) 2)))) - 1))] : List Int), ([(gt (gt s1 i1) 2), (w64 ((w64 (Int.tdiv (w64 ((s1.length : Int) * 3)) 2)) + 2)), (w64 ((w64 (0 - (w64 (Int.tdiv (w64 ((s1.length : Int) * 3)) 2)))) - 3))] : List Int)]))))))))

def spec_l07Split.R (r : List (List Int)) (v : Value) (L : List Asn) : Prop := ∃ (s0 : SV) (ss0 : List SV), v = SV.v s0 ∧ L = [mat Ei 2 53 s0 ss0 r]

set_option maxRecDepth 100000 in
set_option maxHeartbeats 4000000 in
theorem spec_l07Split.calls (w : World) (s2 : SV) (ss1 : List SV) (s1 : List (List Int)) (i1 : Int) (h1 : ReadsM Ei (hp w) s2 ss1 s1) :
    ∀ r, spec_l07Split.f s1 i1 = some r → Calls Try.prog 59 #[SV.v s2, .int .i64 i1] w (Ret w (spec_l07Split.R r)) := by

  refine calls_T (n := 51) (Γ := [(0, SV.v s2), (1, .int .i64 i1)]) (R := spec_l07Split.R) Try.func59 rfl rfl (Nat.le_of_ble_eq_true rfl) ⟨rfl, rfl, trivial⟩ ?_
  unfold spec_l07Split.f
  refine TC.seq ?_
  refine TC.region ?_
  refine TL.assign rfl rfl (v := SV.v ⟨none, 0, 0⟩) rfl ?_
  refine TL.done ?_
  refine TC.seq ?_
  refine TC.wk (Γ' := [(0, SV.v s2), (1, .int .i64 i1), (4, SV.v ⟨none, 0, 0⟩)]) ⟨rfl, rfl, rfl, trivial⟩ ?_
  refine TC.bindE ?_
  rintro r_1 hr1
  refine TC.chk fun h2 => ?_
  refine TC.drawG [(0, SV.v s2), (1, .int .i64 i1), (4, SV.v ⟨none, 0, 0⟩)] [] ⟨rfl, rfl, rfl, trivial⟩ trivial (fun l_ g1 => [(bif nb l_ 1 then mat Ei 2 53 (gs (g1 8)) (g1 9) r_1 else emp)]) (fun g1 => [SV.v s2, SV.v (gs (g1 8)), SV.v s2, .int .i64 (s1.length : Int), .int .i64 (w64 ((s1.length : Int) * 3)), .int .i64 (w64 (Int.tdiv (w64 ((s1.length : Int) * 3)) 2)), SV.v s2, .int .i64 i1, ep s2 i1.toNat, SV.v (gt ss1 i1), SV.v (gs (g1 8)), .int .i64 (w64 (Int.tdiv (w64 ((s1.length : Int) * 3)) 2)), SV.v (gt ss1 i1)]) [[], [0], [], [2], [2, 3], [2, 3, 4], [], [], [6, 7], [6, 7, 8], [0, 1], [0, 1, 2, 3, 4, 5, 10], [0, 1, 2, 3, 4, 5, 6, 7, 8, 9, 10, 11]] [[some false, some false, none, none, none, none, none, none, none, none, some false, some false, some false], [some true, some false, none, none, none, none, none, none, none, none, some false, some false, some false], [none, none, some false, some false, some false, some false, none, none, none, none, none, some false, some false], [none, none, some true, some false, some false, some false, none, none, none, none, none, some false, some false], [none, none, some true, some true, some false, some false, none, none, none, none, none, some false, some false], [none, none, some true, some true, some true, some false, none, none, none, none, none, some false, some false], [none, none, none, none, none, none, some false, none, some false, some false, none, none, some false], [none, none, none, none, none, none, none, some false, some false, some false, none, none, some false], [none, none, none, none, none, none, some true, some true, some false, some false, none, none, some false], [none, none, none, none, none, none, some true, some true, some true, some false, none, none, some false], [some true, some true, none, none, none, none, none, none, none, none, some false, some false, some false], [some true, some true, some true, some true, some true, some true, none, none, none, none, some true, some false, some false], [some true, some true, some true, some true, some true, some true, some true, some true, some true, some true, some true, some true, some false]] (by kernel_rfl) (fun _ => rfl) rfl rfl rfl rfl rfl (fun _ _ => ⟨⟨⟨⟨⟨⟨⟨⟨⟨⟨⟨⟨⟨trivial, rfl⟩, rfl⟩, rfl⟩, rfl⟩, rfl⟩, rfl⟩, rfl⟩, rfl⟩, rfl⟩, rfl⟩, rfl⟩, rfl⟩, rfl⟩) 1 [0] (fun _ => rfl) ?_ ?_
  · refine ⟨rfl, ?_, rfl, ?_, rfl, ?_, rfl, ?_, rfl, ?_, rfl, ?_, rfl, ?_, rfl, ?_, rfl, ?_, rfl, ?_, rfl, ?_, rfl, ?_, rfl, ?_, trivial⟩
    · intro b2_ b3_ b4_ b5_ b6_ b7_ b8_ b9_ g1
      refine TL.move rfl rfl (v := SV.v s2) rfl ?_
      refine TL.done ?_
      exact TC.nrm () [] ⟨rfl, trivial⟩ [0] rfl
    · intro b2_ b3_ b4_ b5_ b6_ b7_ b8_ b9_ g1
      refine TL.asL [emp] rfl ?_
      refine TL.callH (R := G.spec_l07Copy.R) hr1 Try.call99 rfl rfl rfl (fun w hS => G.spec_l07Copy.calls w s2 ss1 s1 ((RdM.old h1) w hS)) ?_
      rintro _ _ ⟨s3, ss2, rfl, rfl⟩
      refine TL.done ?_
      exact TC.nrm () [[s3], ss2] ⟨rfl, trivial⟩ [0] rfl
    · intro b0_ b1_ b6_ b7_ b8_ b9_ b10_ g1
      refine TL.move rfl rfl (v := SV.v s2) rfl ?_
      refine TL.done ?_
      exact TC.nrm () [] ⟨rfl, trivial⟩ [0] rfl
    · intro b0_ b1_ b6_ b7_ b8_ b9_ b10_ g1
      refine TL.asL [(bif b1_ then mat Ei 2 53 (gs (g1 8)) (g1 9) r_1 else emp)] rfl ?_
      refine TL.lenM (RdM.old h1) Try.underlying22 rfl rfl rfl ?_
      refine TL.done ?_
      exact TC.nrm () [] ⟨rfl, trivial⟩ [0] rfl
    · intro b0_ b1_ b6_ b7_ b8_ b9_ b10_ g1
      refine TL.bin .i64 (s1.length : Int) 3 rfl rfl rfl rfl (v := .int .i64 (w64 ((s1.length : Int) * 3))) rfl ?_
      refine TL.done ?_
      exact TC.nrm () [] ⟨rfl, trivial⟩ [0] rfl
    · intro b0_ b1_ b6_ b7_ b8_ b9_ b10_ g1
      refine TL.quo .i64 (w64 ((s1.length : Int) * 3)) 2 (by decide) rfl rfl rfl rfl ?_
      refine TL.done ?_
      exact TC.nrm () [] ⟨rfl, trivial⟩ [0] rfl
    · intro b0_ b1_ b2_ b3_ b4_ b5_ b7_ b10_ b11_ g1
      refine TL.move rfl rfl (v := SV.v s2) rfl ?_
      refine TL.done ?_
      exact TC.nrm () [] ⟨rfl, trivial⟩ [0] rfl
    · intro b0_ b1_ b2_ b3_ b4_ b5_ b6_ b10_ b11_ g1
      refine TL.move rfl rfl (v := .int .i64 i1) rfl ?_
      refine TL.done ?_
      exact TC.nrm () [] ⟨rfl, trivial⟩ [0] rfl
    · intro b0_ b1_ b2_ b3_ b4_ b5_ b10_ b11_ g1
      refine TL.asL [(bif b1_ then mat Ei 2 53 (gs (g1 8)) (g1 9) r_1 else emp)] rfl ?_
      refine TL.ixsM i1 i1.toNat (RdM.old h1) h2 Try.underlying22 Try.sizeOf53 rfl rfl rfl rfl (by omega) ?_
      refine TL.done ?_
      exact TC.nrm () [] ⟨rfl, trivial⟩ [0] rfl
    · intro b0_ b1_ b2_ b3_ b4_ b5_ b10_ b11_ g1
      refine TL.asL [(bif b1_ then mat Ei 2 53 (gs (g1 8)) (g1 9) r_1 else emp)] rfl ?_
      refine TL.loadM2 (RdM.old h1) Try.isAgg53 i1 h2 (by omega) rfl rfl rfl ?_
      refine TL.done ?_
      exact TC.nrm () [] ⟨rfl, trivial⟩ [0] rfl
    · intro b2_ b3_ b4_ b5_ b6_ b7_ b8_ b9_ g1
      refine TL.assign rfl rfl (v := SV.v (gs (g1 8))) rfl ?_
      refine TL.done ?_
      exact TC.nrm () [] ⟨rfl, trivial⟩ [0] rfl
    · intro b6_ b7_ b8_ b9_ g1
      refine TL.assign rfl rfl (v := .int .i64 (w64 (Int.tdiv (w64 ((s1.length : Int) * 3)) 2))) rfl ?_
      refine TL.done ?_
      exact TC.nrm () [] ⟨rfl, trivial⟩ [0] rfl
    · intro g1
      refine TL.assign rfl rfl (v := SV.v (gt ss1 i1)) rfl ?_
      refine TL.done ?_
      exact TC.nrm () [] ⟨rfl, trivial⟩ [0] rfl
  · intro g1
    refine TC.asL [mat Ei 2 53 (gs (g1 8)) (g1 9) r_1] rfl ?_
    refine TC.seq ?_
    refine TC.region ?_
    refine TL.move rfl rfl (v := SV.v (gs (g1 8))) rfl ?_
    refine TL.move rfl rfl (v := .int .i64 i1) rfl ?_
    refine TL.move rfl rfl (v := SV.v (gt ss1 i1)) rfl ?_
    refine TL.chk fun h3 => ?_
    refine TL.ixs 0 0 (RdM.inn (RdM.old h1) h2) h3 Try.underlying53 Try.sizeOf2 rfl rfl rfl rfl rfl ?_
    refine TL.loadE (RdM.inn (RdM.old h1) h2) Try.isAgg2 0 0 (gt_spec h3) (v := .int .i64 (gt (gt s1 i1) 0)) rfl rfl rfl rfl rfl ?_
    refine TL.move rfl rfl (v := .int .i64 (w64 (Int.tdiv (w64 ((s1.length : Int) * 3)) 2))) rfl ?_
    refine TL.bin .i64 (w64 (Int.tdiv (w64 ((s1.length : Int) * 3)) 2)) 1 rfl rfl rfl rfl (v := .int .i64 (w64 ((w64 (Int.tdiv (w64 ((s1.length : Int) * 3)) 2)) + 1))) rfl ?_
    refine TL.move rfl rfl (v := .int .i64 (w64 (Int.tdiv (w64 ((s1.length : Int) * 3)) 2))) rfl ?_
    refine TL.neg .i64 (w64 (Int.tdiv (w64 ((s1.length : Int) * 3)) 2)) rfl rfl rfl ?_
    refine TL.bin .i64 (w64 (0 - (w64 (Int.tdiv (w64 ((s1.length : Int) * 3)) 2)))) 2 rfl rfl rfl rfl (v := .int .i64 (w64 ((w64 (0 - (w64 (Int.tdiv (w64 ((s1.length : Int) * 3)) 2)))) - 2))) rfl ?_
    refine TL.blit Ei ([(gt (gt s1 i1) 0), (w64 ((w64 (Int.tdiv (w64 ((s1.length : Int) * 3)) 2)) + 1)), (w64 ((w64 (0 - (w64 (Int.tdiv (w64 ((s1.length : Int) * 3)) 2)))) - 2))] : List Int) Try.underlying53 Try.sizeOf2 Try.zeroValue2 rfl rfl rfl [(0, .int .i64 (gt (gt s1 i1) 0)), (1, .int .i64 (w64 ((w64 (Int.tdiv (w64 ((s1.length : Int) * 3)) 2)) + 1))), (2, .int .i64 (w64 ((w64 (0 - (w64 (Int.tdiv (w64 ((s1.length : Int) * 3)) 2)))) - 2)))] rfl ⟨rfl, rfl, rfl, rfl, rfl, rfl, trivial⟩ rfl rfl fun s4 => ?_
    refine TL.chk fun h4 => ?_
    refine TL.ixsM i1 i1.toNat (RdM.mat 1 rfl) h4 Try.underlying22 Try.sizeOf53 rfl rfl rfl rfl (by omega) ?_
    refine TL.matlen 1 rfl fun h5 => ?_
    refine TL.matcut 1 rfl ?_
    refine TL.stE 0 (i1.toNat) s4 (v := SV.v s4) rfl Try.sizeOf53 rfl rfl rfl (by have h_ := h4; have l_ := h5; (try simp only [List.length_set] at h_ l_ ⊢); omega) (by simp only [show Ev.sz = 1 from rfl]; omega) rfl rfl rfl ?_
    refine TL.hole 2 i1 rfl h4 ?_
    refine TL.rowsPut 1 2 rfl rfl ?_
    refine TL.matmk 0 2 rfl rfl ?_
    refine TL.drop 0 rfl ?_
    refine TL.asL [emp, mat Ei 2 53 (gs (g1 8)) ((g1 9).set i1.toNat s4) (r_1.set i1.toNat ([(gt (gt s1 i1) 0), (w64 ((w64 (Int.tdiv (w64 ((s1.length : Int) * 3)) 2)) + 1)), (w64 ((w64 (0 - (w64 (Int.tdiv (w64 ((s1.length : Int) * 3)) 2)))) - 2))] : List Int))] rfl ?_
    refine TL.done ?_
    refine TC.seq ?_
    refine TC.wk (Γ' := [(0, SV.v s2), (1, .int .i64 i1), (8, SV.v s2), (9, SV.v (gs (g1 8))), (10, SV.v s2), (11, .int .i64 (s1.length : Int)), (12, .int .i64 (w64 ((s1.length : Int) * 3))), (13, .int .i64 (w64 (Int.tdiv (w64 ((s1.length : Int) * 3)) 2))), (14, SV.v s2), (15, .int .i64 i1), (16, ep s2 i1.toNat), (17, SV.v (gt ss1 i1)), (5, SV.v (gs (g1 8))), (6, .int .i64 (w64 (Int.tdiv (w64 ((s1.length : Int) * 3)) 2))), (7, SV.v (gt ss1 i1)), (18, SV.v (gs (g1 8))), (19, .int .i64 i1), (20, SV.v (gt ss1 i1)), (21, ep (gt ss1 i1) 0), (22, .int .i64 (gt (gt s1 i1) 0)), (23, .int .i64 (w64 (Int.tdiv (w64 ((s1.length : Int) * 3)) 2))), (24, .int .i64 (w64 ((w64 (Int.tdiv (w64 ((s1.length : Int) * 3)) 2)) + 1))), (25, .int .i64 (w64 (Int.tdiv (w64 ((s1.length : Int) * 3)) 2))), (26, .int .i64 (w64 (0 - (w64 (Int.tdiv (w64 ((s1.length : Int) * 3)) 2))))), (27, .int .i64 (w64 ((w64 (0 - (w64 (Int.tdiv (w64 ((s1.length : Int) * 3)) 2)))) - 2))), (28, SV.v s4), (29, ep (gs (g1 8)) i1.toNat)]) ⟨rfl, rfl, rfl, rfl, rfl, rfl, rfl, rfl, rfl, rfl, rfl, rfl, rfl, rfl, rfl, rfl, rfl, rfl, rfl, rfl, rfl, rfl, rfl, rfl, rfl, rfl, rfl, trivial⟩ ?_
    refine TC.chk fun h6 => ?_
    refine TC.chk fun h7 => ?_
    refine TC.small fun h8 => ?_
    refine TC.drawG [(0, SV.v s2), (1, .int .i64 i1), (8, SV.v s2), (9, SV.v (gs (g1 8))), (10, SV.v s2), (11, .int .i64 (s1.length : Int)), (12, .int .i64 (w64 ((s1.length : Int) * 3))), (13, .int .i64 (w64 (Int.tdiv (w64 ((s1.length : Int) * 3)) 2))), (14, SV.v s2), (15, .int .i64 i1), (16, ep s2 i1.toNat), (17, SV.v (gt ss1 i1)), (5, SV.v (gs (g1 8))), (6, .int .i64 (w64 (Int.tdiv (w64 ((s1.length : Int) * 3)) 2))), (7, SV.v (gt ss1 i1)), (18, SV.v (gs (g1 8))), (19, .int .i64 i1), (20, SV.v (gt ss1 i1)), (21, ep (gt ss1 i1) 0), (22, .int .i64 (gt (gt s1 i1) 0)), (23, .int .i64 (w64 (Int.tdiv (w64 ((s1.length : Int) * 3)) 2))), (24, .int .i64 (w64 ((w64 (Int.tdiv (w64 ((s1.length : Int) * 3)) 2)) + 1))), (25, .int .i64 (w64 (Int.tdiv (w64 ((s1.length : Int) * 3)) 2))), (26, .int .i64 (w64 (0 - (w64 (Int.tdiv (w64 ((s1.length : Int) * 3)) 2))))), (27, .int .i64 (w64 ((w64 (0 - (w64 (Int.tdiv (w64 ((s1.length : Int) * 3)) 2)))) - 2))), (28, SV.v s4), (29, ep (gs (g1 8)) i1.toNat)] [] ⟨rfl, rfl, rfl, rfl, rfl, rfl, rfl, rfl, rfl, rfl, rfl, rfl, rfl, rfl, rfl, rfl, rfl, rfl, rfl, rfl, rfl, rfl, rfl, rfl, rfl, rfl, rfl, trivial⟩ trivial (fun l_ g2 => [emp, (bif nb l_ 20 then emp else mat Ei 2 53 (gs (g1 8)) ((g1 9).set i1.toNat s4) (r_1.set i1.toNat ([(gt (gt s1 i1) 0), (w64 ((w64 (Int.tdiv (w64 ((s1.length : Int) * 3)) 2)) + 1)), (w64 ((w64 (0 - (w64 (Int.tdiv (w64 ((s1.length : Int) * 3)) 2)))) - 2))] : List Int))), (bif nb l_ 20 then emp else (bif nb l_ 9 then row Ei 2 (gs (g2 72)) ([(gt (gt s1 i1) 1), (w64 ((w64 (Int.tdiv (w64 ((s1.length : Int) * 3)) 2)) + 3)), (w64 ((w64 (0 - (w64 (Int.tdiv (w64 ((s1.length : Int) * 3)) 2)))) - 1))] : List Int) else emp)), (bif nb l_ 20 then mat Ei 2 53 (gs (g2 160)) (((g1 9).set i1.toNat s4) ++ [(gs (g2 72)), (gs (g2 144))]) ((r_1.set i1.toNat ([(gt (gt s1 i1) 0), (w64 ((w64 (Int.tdiv (w64 ((s1.length : Int) * 3)) 2)) + 1)), (w64 ((w64 (0 - (w64 (Int.tdiv (w64 ((s1.length : Int) * 3)) 2)))) - 2))] : List Int)) ++ [([(gt (gt s1 i1) 1), (w64 ((w64 (Int.tdiv (w64 ((s1.length : Int) * 3)) 2)) + 3)), (w64 ((w64 (0 - (w64 (Int.tdiv (w64 ((s1.length : Int) * 3)) 2)))) - 1))] : List Int), ([(gt (gt s1 i1) 2), (w64 ((w64 (Int.tdiv (w64 ((s1.length : Int) * 3)) 2)) + 2)), (w64 ((w64 (0 - (w64 (Int.tdiv (w64 ((s1.length : Int) * 3)) 2)))) - 3))] : List Int)]) else (bif nb l_ 18 then row Ei 2 (gs (g2 144)) ([(gt (gt s1 i1) 2), (w64 ((w64 (Int.tdiv (w64 ((s1.length : Int) * 3)) 2)) + 2)), (w64 ((w64 (0 - (w64 (Int.tdiv (w64 ((s1.length : Int) * 3)) 2)))) - 3))] : List Int) else emp)), (bif nb l_ 19 then row Ev 53 (gs (g2 152)) ([(gs (g2 72)), (gs (g2 144))] : List SV) else emp)]) (fun g2 => [SV.v (gs (g1 8)), SV.v (gt ss1 i1), ep (gt ss1 i1) 1, .int .i64 (gt (gt s1 i1) 1), .int .i64 (w64 (Int.tdiv (w64 ((s1.length : Int) * 3)) 2)), .int .i64 (w64 ((w64 (Int.tdiv (w64 ((s1.length : Int) * 3)) 2)) + 3)), .int .i64 (w64 (Int.tdiv (w64 ((s1.length : Int) * 3)) 2)), .int .i64 (w64 (0 - (w64 (Int.tdiv (w64 ((s1.length : Int) * 3)) 2)))), .int .i64 (w64 ((w64 (0 - (w64 (Int.tdiv (w64 ((s1.length : Int) * 3)) 2)))) - 1)), SV.v (gs (g2 72)), SV.v (gt ss1 i1), ep (gt ss1 i1) 2, .int .i64 (gt (gt s1 i1) 2), .int .i64 (w64 (Int.tdiv (w64 ((s1.length : Int) * 3)) 2)), .int .i64 (w64 ((w64 (Int.tdiv (w64 ((s1.length : Int) * 3)) 2)) + 2)), .int .i64 (w64 (Int.tdiv (w64 ((s1.length : Int) * 3)) 2)), .int .i64 (w64 (0 - (w64 (Int.tdiv (w64 ((s1.length : Int) * 3)) 2)))), .int .i64 (w64 ((w64 (0 - (w64 (Int.tdiv (w64 ((s1.length : Int) * 3)) 2)))) - 3)), SV.v (gs (g2 144)), SV.v (gs (g2 152)), SV.v (gs (g2 160)), SV.v (gs (g2 160))]) [[], [], [1], [1, 2], [], [4], [], [6], [6, 7], [1, 2, 3, 4, 5, 6, 7, 8], [], [10], [10, 11], [], [13], [], [15], [15, 16], [10, 11, 12, 13, 14, 15, 16, 17], [1, 2, 3, 4, 5, 6, 7, 8, 9, 10, 11, 12, 13, 14, 15, 16, 17, 18], [0, 1, 2, 3, 4, 5, 6, 7, 8, 9, 10, 11, 12, 13, 14, 15, 16, 17, 18, 19], [0, 1, 2, 3, 4, 5, 6, 7, 8, 9, 10, 11, 12, 13, 14, 15, 16, 17, 18, 19, 20]] [[some false, none, none, none, none, none, none, none, none, none, none, none, none, none, none, none, none, none, none, none, some false, some false], [none, some false, some false, some false, none, none, none, none, none, some false, none, none, none, none, none, none, none, none, none, some false, some false, some false], [none, some true, some false, some false, none, none, none, none, none, some false, none, none, none, none, none, none, none, none, none, some false, some false, some false], [none, some true, some true, some false, none, none, none, none, none, some false, none, none, none, none, none, none, none, none, none, some false, some false, some false], [none, none, none, none, some false, some false, none, none, none, some false, none, none, none, none, none, none, none, none, none, some false, some false, some false], [none, none, none, none, some true, some false, none, none, none, some false, none, none, none, none, none, none, none, none, none, some false, some false, some false], [none, none, none, none, none, none, some false, some false, some false, some false, none, none, none, none, none, none, none, none, none, some false, some false, some false], [none, none, none, none, none, none, some true, some false, some false, some false, none, none, none, none, none, none, none, none, none, some false, some false, some false], [none, none, none, none, none, none, some true, some true, some false, some false, none, none, none, none, none, none, none, none, none, some false, some false, some false], [none, some true, some true, some true, some true, some true, some true, some true, some true, some false, none, none, none, none, none, none, none, none, none, some false, some false, some false], [none, none, none, none, none, none, none, none, none, none, some false, some false, some false, none, none, none, none, none, some false, some false, some false, some false], [none, none, none, none, none, none, none, none, none, none, some true, some false, some false, none, none, none, none, none, some false, some false, some false, some false], [none, none, none, none, none, none, none, none, none, none, some true, some true, some false, none, none, none, none, none, some false, some false, some false, some false], [none, none, none, none, none, none, none, none, none, none, none, none, none, some false, some false, none, none, none, some false, some false, some false, some false], [none, none, none, none, none, none, none, none, none, none, none, none, none, some true, some false, none, none, none, some false, some false, some false, some false], [none, none, none, none, none, none, none, none, none, none, none, none, none, none, none, some false, some false, some false, some false, some false, some false, some false], [none, none, none, none, none, none, none, none, none, none, none, none, none, none, none, some true, some false, some false, some false, some false, some false, some false], [none, none, none, none, none, none, none, none, none, none, none, none, none, none, none, some true, some true, some false, some false, some false, some false, some false], [none, none, none, none, none, none, none, none, none, none, some true, some true, some true, some true, some true, some true, some true, some true, some false, some false, some false, some false], [none, some true, some true, some true, some true, some true, some true, some true, some true, some true, some true, some true, some true, some true, some true, some true, some true, some true, some true, some false, some false, some false], [some true, some true, some true, some true, some true, some true, some true, some true, some true, some true, some true, some true, some true, some true, some true, some true, some true, some true, some true, some true, some false, some false], [some true, some true, some true, some true, some true, some true, some true, some true, some true, some true, some true, some true, some true, some true, some true, some true, some true, some true, some true, some true, some true, some false]] (by kernel_rfl) (fun _ => rfl) rfl rfl rfl rfl rfl (fun _ _ => ⟨⟨⟨⟨⟨⟨⟨⟨⟨⟨⟨⟨⟨⟨⟨⟨⟨⟨⟨⟨⟨⟨trivial, rfl⟩, rfl⟩, rfl⟩, rfl⟩, rfl⟩, rfl⟩, rfl⟩, rfl⟩, rfl⟩, rfl⟩, rfl⟩, rfl⟩, rfl⟩, rfl⟩, rfl⟩, rfl⟩, rfl⟩, rfl⟩, rfl⟩, rfl⟩, rfl⟩, rfl⟩) 3 [3, 3, 0, 0, 0] (fun _ => rfl) ?_ ?_
    · refine ⟨rfl, ?_, rfl, ?_, rfl, ?_, rfl, ?_, rfl, ?_, rfl, ?_, rfl, ?_, rfl, ?_, rfl, ?_, rfl, ?_, rfl, ?_, rfl, ?_, rfl, ?_, rfl, ?_, rfl, ?_, rfl, ?_, rfl, ?_, rfl, ?_, rfl, ?_, rfl, ?_, rfl, ?_, rfl, ?_, trivial⟩
      · intro b1_ b2_ b3_ b4_ b5_ b6_ b7_ b8_ b9_ b10_ b11_ b12_ b13_ b14_ b15_ b16_ b17_ b18_ b19_ g2
        refine TL.move rfl rfl (v := SV.v (gs (g1 8))) rfl ?_
        refine TL.done ?_
        exact TC.nrm () [] ⟨rfl, trivial⟩ [0, 0, 0, 0, 0] rfl
      · intro b0_ b4_ b5_ b6_ b7_ b8_ b10_ b11_ b12_ b13_ b14_ b15_ b16_ b17_ b18_ g2
        refine TL.move rfl rfl (v := SV.v (gt ss1 i1)) rfl ?_
        refine TL.done ?_
        exact TC.nrm () [] ⟨rfl, trivial⟩ [0, 0, 0, 0, 0] rfl
      · intro b0_ b4_ b5_ b6_ b7_ b8_ b10_ b11_ b12_ b13_ b14_ b15_ b16_ b17_ b18_ g2
        refine TL.asL [emp, mat Ei 2 53 (gs (g1 8)) ((g1 9).set i1.toNat s4) (r_1.set i1.toNat ([(gt (gt s1 i1) 0), (w64 ((w64 (Int.tdiv (w64 ((s1.length : Int) * 3)) 2)) + 1)), (w64 ((w64 (0 - (w64 (Int.tdiv (w64 ((s1.length : Int) * 3)) 2)))) - 2))] : List Int)), emp, (bif b18_ then row Ei 2 (gs (g2 144)) ([(gt (gt s1 i1) 2), (w64 ((w64 (Int.tdiv (w64 ((s1.length : Int) * 3)) 2)) + 2)), (w64 ((w64 (0 - (w64 (Int.tdiv (w64 ((s1.length : Int) * 3)) 2)))) - 3))] : List Int) else emp), emp] rfl ?_
        refine TL.ixs 1 1 (RdM.inn (RdM.old h1) h2) h6 Try.underlying53 Try.sizeOf2 rfl rfl rfl rfl rfl ?_
        refine TL.done ?_
        exact TC.nrm () [] ⟨rfl, trivial⟩ [0, 0, 0, 0, 0] rfl
      · intro b0_ b4_ b5_ b6_ b7_ b8_ b10_ b11_ b12_ b13_ b14_ b15_ b16_ b17_ b18_ g2
        refine TL.asL [emp, mat Ei 2 53 (gs (g1 8)) ((g1 9).set i1.toNat s4) (r_1.set i1.toNat ([(gt (gt s1 i1) 0), (w64 ((w64 (Int.tdiv (w64 ((s1.length : Int) * 3)) 2)) + 1)), (w64 ((w64 (0 - (w64 (Int.tdiv (w64 ((s1.length : Int) * 3)) 2)))) - 2))] : List Int)), emp, (bif b18_ then row Ei 2 (gs (g2 144)) ([(gt (gt s1 i1) 2), (w64 ((w64 (Int.tdiv (w64 ((s1.length : Int) * 3)) 2)) + 2)), (w64 ((w64 (0 - (w64 (Int.tdiv (w64 ((s1.length : Int) * 3)) 2)))) - 3))] : List Int) else emp), emp] rfl ?_
        refine TL.loadE (RdM.inn (RdM.old h1) h2) Try.isAgg2 1 0 (gt_spec h6) (v := .int .i64 (gt (gt s1 i1) 1)) rfl rfl rfl rfl rfl ?_
        refine TL.done ?_
        exact TC.nrm () [] ⟨rfl, trivial⟩ [0, 0, 0, 0, 0] rfl
      · intro b0_ b1_ b2_ b3_ b6_ b7_ b8_ b10_ b11_ b12_ b13_ b14_ b15_ b16_ b17_ b18_ g2
        refine TL.move rfl rfl (v := .int .i64 (w64 (Int.tdiv (w64 ((s1.length : Int) * 3)) 2))) rfl ?_
        refine TL.done ?_
        exact TC.nrm () [] ⟨rfl, trivial⟩ [0, 0, 0, 0, 0] rfl
      · intro b0_ b1_ b2_ b3_ b6_ b7_ b8_ b10_ b11_ b12_ b13_ b14_ b15_ b16_ b17_ b18_ g2
        refine TL.bin .i64 (w64 (Int.tdiv (w64 ((s1.length : Int) * 3)) 2)) 3 rfl rfl rfl rfl (v := .int .i64 (w64 ((w64 (Int.tdiv (w64 ((s1.length : Int) * 3)) 2)) + 3))) rfl ?_
        refine TL.done ?_
        exact TC.nrm () [] ⟨rfl, trivial⟩ [0, 0, 0, 0, 0] rfl
      · intro b0_ b1_ b2_ b3_ b4_ b5_ b10_ b11_ b12_ b13_ b14_ b15_ b16_ b17_ b18_ g2
        refine TL.move rfl rfl (v := .int .i64 (w64 (Int.tdiv (w64 ((s1.length : Int) * 3)) 2))) rfl ?_
        refine TL.done ?_
        exact TC.nrm () [] ⟨rfl, trivial⟩ [0, 0, 0, 0, 0] rfl
      · intro b0_ b1_ b2_ b3_ b4_ b5_ b10_ b11_ b12_ b13_ b14_ b15_ b16_ b17_ b18_ g2
        refine TL.neg .i64 (w64 (Int.tdiv (w64 ((s1.length : Int) * 3)) 2)) rfl rfl rfl ?_
        refine TL.done ?_
        exact TC.nrm () [] ⟨rfl, trivial⟩ [0, 0, 0, 0, 0] rfl
      · intro b0_ b1_ b2_ b3_ b4_ b5_ b10_ b11_ b12_ b13_ b14_ b15_ b16_ b17_ b18_ g2
        refine TL.bin .i64 (w64 (0 - (w64 (Int.tdiv (w64 ((s1.length : Int) * 3)) 2)))) 1 rfl rfl rfl rfl (v := .int .i64 (w64 ((w64 (0 - (w64 (Int.tdiv (w64 ((s1.length : Int) * 3)) 2)))) - 1))) rfl ?_
        refine TL.done ?_
        exact TC.nrm () [] ⟨rfl, trivial⟩ [0, 0, 0, 0, 0] rfl
      · intro b0_ b10_ b11_ b12_ b13_ b14_ b15_ b16_ b17_ b18_ g2
        refine TL.asL [emp, mat Ei 2 53 (gs (g1 8)) ((g1 9).set i1.toNat s4) (r_1.set i1.toNat ([(gt (gt s1 i1) 0), (w64 ((w64 (Int.tdiv (w64 ((s1.length : Int) * 3)) 2)) + 1)), (w64 ((w64 (0 - (w64 (Int.tdiv (w64 ((s1.length : Int) * 3)) 2)))) - 2))] : List Int)), emp, (bif b18_ then row Ei 2 (gs (g2 144)) ([(gt (gt s1 i1) 2), (w64 ((w64 (Int.tdiv (w64 ((s1.length : Int) * 3)) 2)) + 2)), (w64 ((w64 (0 - (w64 (Int.tdiv (w64 ((s1.length : Int) * 3)) 2)))) - 3))] : List Int) else emp), emp] rfl ?_
        refine TL.blit Ei ([(gt (gt s1 i1) 1), (w64 ((w64 (Int.tdiv (w64 ((s1.length : Int) * 3)) 2)) + 3)), (w64 ((w64 (0 - (w64 (Int.tdiv (w64 ((s1.length : Int) * 3)) 2)))) - 1))] : List Int) Try.underlying53 Try.sizeOf2 Try.zeroValue2 rfl rfl rfl [(0, .int .i64 (gt (gt s1 i1) 1)), (1, .int .i64 (w64 ((w64 (Int.tdiv (w64 ((s1.length : Int) * 3)) 2)) + 3))), (2, .int .i64 (w64 ((w64 (0 - (w64 (Int.tdiv (w64 ((s1.length : Int) * 3)) 2)))) - 1)))] rfl ⟨rfl, rfl, rfl, rfl, rfl, rfl, trivial⟩ rfl rfl fun s5 => ?_
        refine TL.done ?_
        exact TC.nrm () [[s5]] ⟨rfl, trivial⟩ [1, 1, 0, 1, 1] rfl
      · intro b0_ b1_ b2_ b3_ b4_ b5_ b6_ b7_ b8_ b9_ b13_ b14_ b15_ b16_ b17_ g2
        refine TL.move rfl rfl (v := SV.v (gt ss1 i1)) rfl ?_
        refine TL.done ?_
        exact TC.nrm () [] ⟨rfl, trivial⟩ [0, 0, 0, 0, 0] rfl
      · intro b0_ b1_ b2_ b3_ b4_ b5_ b6_ b7_ b8_ b9_ b13_ b14_ b15_ b16_ b17_ g2
        refine TL.asL [emp, mat Ei 2 53 (gs (g1 8)) ((g1 9).set i1.toNat s4) (r_1.set i1.toNat ([(gt (gt s1 i1) 0), (w64 ((w64 (Int.tdiv (w64 ((s1.length : Int) * 3)) 2)) + 1)), (w64 ((w64 (0 - (w64 (Int.tdiv (w64 ((s1.length : Int) * 3)) 2)))) - 2))] : List Int)), (bif b9_ then row Ei 2 (gs (g2 72)) ([(gt (gt s1 i1) 1), (w64 ((w64 (Int.tdiv (w64 ((s1.length : Int) * 3)) 2)) + 3)), (w64 ((w64 (0 - (w64 (Int.tdiv (w64 ((s1.length : Int) * 3)) 2)))) - 1))] : List Int) else emp), emp, emp] rfl ?_
        refine TL.ixs 2 2 (RdM.inn (RdM.old h1) h2) h7 Try.underlying53 Try.sizeOf2 rfl rfl rfl rfl rfl ?_
        refine TL.done ?_
        exact TC.nrm () [] ⟨rfl, trivial⟩ [0, 0, 0, 0, 0] rfl
      · intro b0_ b1_ b2_ b3_ b4_ b5_ b6_ b7_ b8_ b9_ b13_ b14_ b15_ b16_ b17_ g2
        refine TL.asL [emp, mat Ei 2 53 (gs (g1 8)) ((g1 9).set i1.toNat s4) (r_1.set i1.toNat ([(gt (gt s1 i1) 0), (w64 ((w64 (Int.tdiv (w64 ((s1.length : Int) * 3)) 2)) + 1)), (w64 ((w64 (0 - (w64 (Int.tdiv (w64 ((s1.length : Int) * 3)) 2)))) - 2))] : List Int)), (bif b9_ then row Ei 2 (gs (g2 72)) ([(gt (gt s1 i1) 1), (w64 ((w64 (Int.tdiv (w64 ((s1.length : Int) * 3)) 2)) + 3)), (w64 ((w64 (0 - (w64 (Int.tdiv (w64 ((s1.length : Int) * 3)) 2)))) - 1))] : List Int) else emp), emp, emp] rfl ?_
        refine TL.loadE (RdM.inn (RdM.old h1) h2) Try.isAgg2 2 0 (gt_spec h7) (v := .int .i64 (gt (gt s1 i1) 2)) rfl rfl rfl rfl rfl ?_
        refine TL.done ?_
        exact TC.nrm () [] ⟨rfl, trivial⟩ [0, 0, 0, 0, 0] rfl
      · intro b0_ b1_ b2_ b3_ b4_ b5_ b6_ b7_ b8_ b9_ b10_ b11_ b12_ b15_ b16_ b17_ g2
        refine TL.move rfl rfl (v := .int .i64 (w64 (Int.tdiv (w64 ((s1.length : Int) * 3)) 2))) rfl ?_
        refine TL.done ?_
        exact TC.nrm () [] ⟨rfl, trivial⟩ [0, 0, 0, 0, 0] rfl
      · intro b0_ b1_ b2_ b3_ b4_ b5_ b6_ b7_ b8_ b9_ b10_ b11_ b12_ b15_ b16_ b17_ g2
        refine TL.bin .i64 (w64 (Int.tdiv (w64 ((s1.length : Int) * 3)) 2)) 2 rfl rfl rfl rfl (v := .int .i64 (w64 ((w64 (Int.tdiv (w64 ((s1.length : Int) * 3)) 2)) + 2))) rfl ?_
        refine TL.done ?_
        exact TC.nrm () [] ⟨rfl, trivial⟩ [0, 0, 0, 0, 0] rfl
      · intro b0_ b1_ b2_ b3_ b4_ b5_ b6_ b7_ b8_ b9_ b10_ b11_ b12_ b13_ b14_ g2
        refine TL.move rfl rfl (v := .int .i64 (w64 (Int.tdiv (w64 ((s1.length : Int) * 3)) 2))) rfl ?_
        refine TL.done ?_
        exact TC.nrm () [] ⟨rfl, trivial⟩ [0, 0, 0, 0, 0] rfl
      · intro b0_ b1_ b2_ b3_ b4_ b5_ b6_ b7_ b8_ b9_ b10_ b11_ b12_ b13_ b14_ g2
        refine TL.neg .i64 (w64 (Int.tdiv (w64 ((s1.length : Int) * 3)) 2)) rfl rfl rfl ?_
        refine TL.done ?_
        exact TC.nrm () [] ⟨rfl, trivial⟩ [0, 0, 0, 0, 0] rfl
      · intro b0_ b1_ b2_ b3_ b4_ b5_ b6_ b7_ b8_ b9_ b10_ b11_ b12_ b13_ b14_ g2
        refine TL.bin .i64 (w64 (0 - (w64 (Int.tdiv (w64 ((s1.length : Int) * 3)) 2)))) 3 rfl rfl rfl rfl (v := .int .i64 (w64 ((w64 (0 - (w64 (Int.tdiv (w64 ((s1.length : Int) * 3)) 2)))) - 3))) rfl ?_
        refine TL.done ?_
        exact TC.nrm () [] ⟨rfl, trivial⟩ [0, 0, 0, 0, 0] rfl
      · intro b0_ b1_ b2_ b3_ b4_ b5_ b6_ b7_ b8_ b9_ g2
        refine TL.asL [emp, mat Ei 2 53 (gs (g1 8)) ((g1 9).set i1.toNat s4) (r_1.set i1.toNat ([(gt (gt s1 i1) 0), (w64 ((w64 (Int.tdiv (w64 ((s1.length : Int) * 3)) 2)) + 1)), (w64 ((w64 (0 - (w64 (Int.tdiv (w64 ((s1.length : Int) * 3)) 2)))) - 2))] : List Int)), (bif b9_ then row Ei 2 (gs (g2 72)) ([(gt (gt s1 i1) 1), (w64 ((w64 (Int.tdiv (w64 ((s1.length : Int) * 3)) 2)) + 3)), (w64 ((w64 (0 - (w64 (Int.tdiv (w64 ((s1.length : Int) * 3)) 2)))) - 1))] : List Int) else emp), emp, emp] rfl ?_
        refine TL.blit Ei ([(gt (gt s1 i1) 2), (w64 ((w64 (Int.tdiv (w64 ((s1.length : Int) * 3)) 2)) + 2)), (w64 ((w64 (0 - (w64 (Int.tdiv (w64 ((s1.length : Int) * 3)) 2)))) - 3))] : List Int) Try.underlying53 Try.sizeOf2 Try.zeroValue2 rfl rfl rfl [(0, .int .i64 (gt (gt s1 i1) 2)), (1, .int .i64 (w64 ((w64 (Int.tdiv (w64 ((s1.length : Int) * 3)) 2)) + 2))), (2, .int .i64 (w64 ((w64 (0 - (w64 (Int.tdiv (w64 ((s1.length : Int) * 3)) 2)))) - 3)))] rfl ⟨rfl, rfl, rfl, rfl, rfl, rfl, trivial⟩ rfl rfl fun s6 => ?_
        refine TL.done ?_
        exact TC.nrm () [[s6]] ⟨rfl, trivial⟩ [1, 1, 1, 0, 1] rfl
      · intro b0_ g2
        refine TL.asL [emp, mat Ei 2 53 (gs (g1 8)) ((g1 9).set i1.toNat s4) (r_1.set i1.toNat ([(gt (gt s1 i1) 0), (w64 ((w64 (Int.tdiv (w64 ((s1.length : Int) * 3)) 2)) + 1)), (w64 ((w64 (0 - (w64 (Int.tdiv (w64 ((s1.length : Int) * 3)) 2)))) - 2))] : List Int)), row Ei 2 (gs (g2 72)) ([(gt (gt s1 i1) 1), (w64 ((w64 (Int.tdiv (w64 ((s1.length : Int) * 3)) 2)) + 3)), (w64 ((w64 (0 - (w64 (Int.tdiv (w64 ((s1.length : Int) * 3)) 2)))) - 1))] : List Int), row Ei 2 (gs (g2 144)) ([(gt (gt s1 i1) 2), (w64 ((w64 (Int.tdiv (w64 ((s1.length : Int) * 3)) 2)) + 2)), (w64 ((w64 (0 - (w64 (Int.tdiv (w64 ((s1.length : Int) * 3)) 2)))) - 3))] : List Int), emp] rfl ?_
        refine TL.blit Ev ([(gs (g2 72)), (gs (g2 144))] : List SV) Try.underlying22 Try.sizeOf53 Try.zeroValue53 rfl rfl rfl [(0, SV.v (gs (g2 72))), (1, SV.v (gs (g2 144)))] rfl ⟨rfl, rfl, rfl, rfl, trivial⟩ rfl rfl fun s7 => ?_
        refine TL.done ?_
        exact TC.nrm () [[s7]] ⟨rfl, trivial⟩ [1, 1, 1, 1, 0] rfl
      · intro g2
        refine TL.asL [emp, mat Ei 2 53 (gs (g1 8)) ((g1 9).set i1.toNat s4) (r_1.set i1.toNat ([(gt (gt s1 i1) 0), (w64 ((w64 (Int.tdiv (w64 ((s1.length : Int) * 3)) 2)) + 1)), (w64 ((w64 (0 - (w64 (Int.tdiv (w64 ((s1.length : Int) * 3)) 2)))) - 2))] : List Int)), row Ei 2 (gs (g2 72)) ([(gt (gt s1 i1) 1), (w64 ((w64 (Int.tdiv (w64 ((s1.length : Int) * 3)) 2)) + 3)), (w64 ((w64 (0 - (w64 (Int.tdiv (w64 ((s1.length : Int) * 3)) 2)))) - 1))] : List Int), row Ei 2 (gs (g2 144)) ([(gt (gt s1 i1) 2), (w64 ((w64 (Int.tdiv (w64 ((s1.length : Int) * 3)) 2)) + 2)), (w64 ((w64 (0 - (w64 (Int.tdiv (w64 ((s1.length : Int) * 3)) 2)))) - 3))] : List Int), row Ev 53 (gs (g2 152)) ([(gs (g2 72)), (gs (g2 144))] : List SV)] rfl ?_
        refine TL.matlen 1 rfl fun h9 => ?_
        refine TL.matcut 1 rfl ?_
        refine TL.append 0 rfl (Rd.row 5 rfl) Try.underlying22 (info_of Try.type53) (zv := (Try.t53.zero.getD (.bool false))) rfl rfl rfl (by decide) (by have h_ := h8; have l_ := h9; (try simp only [List.length_cons, List.length_nil] at h_ l_ ⊢); omega) rfl rfl rfl rfl fun s8 => ?_
        refine TL.rowsPush 2 3 rfl rfl ?_
        refine TL.rowsPush 3 4 rfl rfl ?_
        refine TL.asL [row Ev 53 s8 (((g1 9).set i1.toNat s4) ++ [(gs (g2 72)), (gs (g2 144))]), emp, emp, emp, rows Ei 2 (((g1 9).set i1.toNat s4) ++ [(gs (g2 72)), (gs (g2 144))]) ((r_1.set i1.toNat ([(gt (gt s1 i1) 0), (w64 ((w64 (Int.tdiv (w64 ((s1.length : Int) * 3)) 2)) + 1)), (w64 ((w64 (0 - (w64 (Int.tdiv (w64 ((s1.length : Int) * 3)) 2)))) - 2))] : List Int)) ++ [([(gt (gt s1 i1) 1), (w64 ((w64 (Int.tdiv (w64 ((s1.length : Int) * 3)) 2)) + 3)), (w64 ((w64 (0 - (w64 (Int.tdiv (w64 ((s1.length : Int) * 3)) 2)))) - 1))] : List Int), ([(gt (gt s1 i1) 2), (w64 ((w64 (Int.tdiv (w64 ((s1.length : Int) * 3)) 2)) + 2)), (w64 ((w64 (0 - (w64 (Int.tdiv (w64 ((s1.length : Int) * 3)) 2)))) - 3))] : List Int)]), row Ev 53 (gs (g2 152)) ([(gs (g2 72)), (gs (g2 144))] : List SV)] (by simp only [List.append_assoc, List.cons_append, List.nil_append]; rfl) ?_
        refine TL.matmk 0 4 rfl rfl ?_
        refine TL.drop 0 rfl ?_
        refine TL.asL [emp, emp, emp, mat Ei 2 53 s8 (((g1 9).set i1.toNat s4) ++ [(gs (g2 72)), (gs (g2 144))]) ((r_1.set i1.toNat ([(gt (gt s1 i1) 0), (w64 ((w64 (Int.tdiv (w64 ((s1.length : Int) * 3)) 2)) + 1)), (w64 ((w64 (0 - (w64 (Int.tdiv (w64 ((s1.length : Int) * 3)) 2)))) - 2))] : List Int)) ++ [([(gt (gt s1 i1) 1), (w64 ((w64 (Int.tdiv (w64 ((s1.length : Int) * 3)) 2)) + 3)), (w64 ((w64 (0 - (w64 (Int.tdiv (w64 ((s1.length : Int) * 3)) 2)))) - 1))] : List Int), ([(gt (gt s1 i1) 2), (w64 ((w64 (Int.tdiv (w64 ((s1.length : Int) * 3)) 2)) + 2)), (w64 ((w64 (0 - (w64 (Int.tdiv (w64 ((s1.length : Int) * 3)) 2)))) - 3))] : List Int)]), row Ev 53 (gs (g2 152)) ([(gs (g2 72)), (gs (g2 144))] : List SV)] rfl ?_
        refine TL.done ?_
        exact TC.nrm () [[s8]] ⟨rfl, trivial⟩ [0, 0, 0, 0, 0] rfl
      · intro g2
        refine TL.assign rfl rfl (v := SV.v (gs (g2 160))) rfl ?_
        refine TL.done ?_
        exact TC.nrm () [] ⟨rfl, trivial⟩ [0, 0, 0, 0, 0] rfl
    · intro g2
      refine TC.asL [emp, emp, emp, mat Ei 2 53 (gs (g2 160)) (((g1 9).set i1.toNat s4) ++ [(gs (g2 72)), (gs (g2 144))]) ((r_1.set i1.toNat ([(gt (gt s1 i1) 0), (w64 ((w64 (Int.tdiv (w64 ((s1.length : Int) * 3)) 2)) + 1)), (w64 ((w64 (0 - (w64 (Int.tdiv (w64 ((s1.length : Int) * 3)) 2)))) - 2))] : List Int)) ++ [([(gt (gt s1 i1) 1), (w64 ((w64 (Int.tdiv (w64 ((s1.length : Int) * 3)) 2)) + 3)), (w64 ((w64 (0 - (w64 (Int.tdiv (w64 ((s1.length : Int) * 3)) 2)))) - 1))] : List Int), ([(gt (gt s1 i1) 2), (w64 ((w64 (Int.tdiv (w64 ((s1.length : Int) * 3)) 2)) + 2)), (w64 ((w64 (0 - (w64 (Int.tdiv (w64 ((s1.length : Int) * 3)) 2)))) - 3))] : List Int)]), row Ev 53 (gs (g2 152)) ([(gs (g2 72)), (gs (g2 144))] : List SV)] rfl ?_
      exact TC.retF (Fin.body (fin1 (.inr rfl) rfl (.tmp rfl) [3] rfl ⟨(gs (g2 160)), (((g1 9).set i1.toNat s4) ++ [(gs (g2 72)), (gs (g2 144))]), rfl, rfl⟩))

end Go.Proofs.Ytnppkcemnjkboaa.G
