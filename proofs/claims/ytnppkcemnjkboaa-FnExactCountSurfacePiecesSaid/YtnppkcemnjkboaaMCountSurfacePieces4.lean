/- Functions of the program, as pure functions. -/
import Derived.Test.YtnppkcemnjkboaaMCountSurfacePieces3
import Derived.Test.YtnppkcemnjkboaaProg
/- spec.l07Vertices, as a pure function. -/
set_option linter.unusedVariables false
namespace Go.Proofs.Ytnppkcemnjkboaa.G
open Go Go.Sx Go.Proofs

def spec_l07Vertices.b0 (i1 : Int) (s1 : List (List Int)) : (List Int) × Int → Option (LB ((List Int) × Int)) := fun p => match p with | (leaders2, k_1) => (bif (decide (k_1 < 3)) then chk i1 s1.length (chk k_1 ((gt s1 i1).length) ((G.spec_l07End.f (gt (gt s1 i1) k_1) true).bind (fun r_2 => chk (Int.tmod (w64 (k_1 + 1)) 3) ((gt s1 i1).length) ((G.spec_l07End.f (gt (gt s1 i1) (Int.tmod (w64 (k_1 + 1)) 3)) false).bind (fun r_3 => (G.spec_l07Join.f leaders2 r_2 r_3).bind (fun r_4 => some (.next (r_4, (w64 (k_1 + 1)))))))))) else some (.brk (leaders2, k_1)))

def spec_l07Vertices.b1 (s1 : List (List Int)) : (List Int) × Int → Option (LB ((List Int) × Int)) := fun p => match p with | (leaders1, i1) => (bif (decide (i1 < (s1.length : Int))) then (loop1 (spec_l07Vertices.b0 i1 s1) (leaders1, 0)).bind (fun p => match p with | (leaders2, k_1) => some (.next (leaders2, (w64 (i1 + 1))))) else some (.brk (leaders1, i1)))

def spec_l07Vertices.f (s1 : List (List Int)) : Option Int := (G.spec_l07Numbers.f (w64 ((s1.length : Int) * 3))).bind (fun r_1 => (loop1 (spec_l07Vertices.b1 s1) (r_1, 0)).bind (fun p => match p with | (leaders1, i1) => (G.spec_l07Different.f leaders1).bind (fun r_5 => some r_5)))

def spec_l07Vertices.R (r : Int) (v : Value) (L : List Asn) : Prop := v = .int .i64 r ∧ L = []

set_option maxRecDepth 100000 in
set_option maxHeartbeats 4000000 in
theorem spec_l07Vertices.calls (w : World) (s2 : SV) (ss1 : List SV) (s1 : List (List Int)) (h1 : ReadsM Ei (hp w) s2 ss1 s1) :
    ∀ r, spec_l07Vertices.f s1 = some r → Calls Try.prog 69 #[SV.v s2] w (Ret w (spec_l07Vertices.R r)) := by

  refine calls_T (n := 42) (Γ := [(0, SV.v s2)]) (R := spec_l07Vertices.R) Try.func69 rfl rfl (Nat.le_of_ble_eq_true rfl) ⟨rfl, trivial⟩ ?_
  unfold spec_l07Vertices.f
  refine TC.seq ?_
  refine TC.region ?_
  refine TL.assign rfl rfl (v := .int .i64 0) rfl ?_
  refine TL.done ?_
  refine TC.seq ?_
  refine TC.region ?_
  refine TL.move rfl rfl (v := SV.v s2) rfl ?_
  refine TL.lenM (RdM.old h1) Try.underlying22 rfl rfl rfl ?_
  refine TL.bin .i64 (s1.length : Int) 3 rfl rfl rfl rfl (v := .int .i64 (w64 ((s1.length : Int) * 3))) rfl ?_
  refine TL.call (R := G.spec_l07Numbers.R) Try.call101 rfl rfl rfl (fun w hS => G.spec_l07Numbers.calls w (w64 ((s1.length : Int) * 3))) ?_
  rintro r_1 _ _ ⟨s3, rfl, rfl⟩
  refine TL.assign rfl rfl (v := SV.v s3) rfl ?_
  refine TL.done ?_
  refine TC.seq ?_
  refine TC.seq ?_
  refine TC.region ?_
  refine TL.assign rfl rfl (v := .int .i64 0) rfl ?_
  refine TL.done ?_
  refine TC.loop1 (σ := (List Int) × Int) (γ := SV) (Γ' := (fun p q => match p, q with | (leaders1, i1), s4 => [(0, SV.v s2), (3, SV.v s4), (4, .int .i64 i1)])) (L' := (fun p q => match p, q with | (leaders1, i1), s4 => [row Ei 2 s4 leaders1])) (Γb := (fun p q => match p, q with | (leaders1, i1), s4 => [(0, SV.v s2), (3, SV.v s4), (4, .int .i64 i1)])) (Lb := (fun p q => match p, q with | (leaders1, i1), s4 => [row Ei 2 s4 leaders1])) ((r_1, 0)) (s3) ⟨rfl, rfl, rfl, trivial⟩ [0] rfl ?_ ?_
  · rintro ⟨leaders1, i1⟩ s4
    refine TC.seq ?_
    refine TC.seq ?_
    refine TC.region ?_
    refine TL.move rfl rfl (v := .int .i64 i1) rfl ?_
    refine TL.move rfl rfl (v := SV.v s2) rfl ?_
    refine TL.lenM (RdM.old h1) Try.underlying22 rfl rfl rfl ?_
    refine TL.bin .i64 i1 (s1.length : Int) rfl rfl rfl rfl (v := .bool (decide (i1 < (s1.length : Int)))) rfl ?_
    refine TL.done ?_
    refine TC.cond (b := (decide (i1 < (s1.length : Int)))) rfl (fun c1 => ?_) (fun c2 => ?_)
    · refine TC.skip ?_
      refine TC.seq ?_
      refine TC.block (NoEx.loop1 rfl) ?_
      refine TC.seq ?_
      refine TC.region ?_
      refine TL.assign rfl rfl (v := .int .i64 0) rfl ?_
      refine TL.done ?_
      refine TC.loop1 (σ := (List Int) × Int) (γ := SV) (Γ' := (fun p q => match p, q with | (leaders2, k_1), s5 => [(0, SV.v s2), (3, SV.v s5), (4, .int .i64 i1), (5, .int .i64 k_1)])) (L' := (fun p q => match p, q with | (leaders2, k_1), s5 => [row Ei 2 s5 leaders2])) (Γb := (fun p q => match p, q with | (leaders2, k_1), s5 => [(0, SV.v s2), (3, SV.v s5), (4, .int .i64 i1), (5, .int .i64 k_1)])) (Lb := (fun p q => match p, q with | (leaders2, k_1), s5 => [row Ei 2 s5 leaders2])) ((leaders1, 0)) (s4) ⟨rfl, rfl, rfl, rfl, trivial⟩ [0] rfl ?_ ?_
      · rintro ⟨leaders2, k_1⟩ s5
        refine TC.seq ?_
        refine TC.seq ?_
        refine TC.region ?_
        refine TL.move rfl rfl (v := .int .i64 k_1) rfl ?_
        refine TL.bin .i64 k_1 3 rfl rfl rfl rfl (v := .bool (decide (k_1 < 3))) rfl ?_
        refine TL.done ?_
        refine TC.cond (b := (decide (k_1 < 3))) rfl (fun c3 => ?_) (fun c4 => ?_)
        · refine TC.skip ?_
          refine TC.seq ?_
          refine TC.block (NoEx.loop1 rfl) ?_
          refine TC.wk (Γ' := [(0, SV.v s2), (4, .int .i64 i1), (5, .int .i64 k_1), (16, .int .i64 k_1), (17, .bool (decide (k_1 < 3))), (3, SV.v s5)]) ⟨rfl, rfl, rfl, rfl, rfl, rfl, trivial⟩ ?_
          refine TC.chk fun h2 => ?_
          refine TC.chk fun h3 => ?_
          refine TC.bindE ?_
          rintro r_2 hr1
          refine TC.chk fun h4 => ?_
          refine TC.bindE ?_
          rintro r_3 hr2
          refine TC.bindE ?_
          rintro r_4 hr3
          refine TC.drawG [(0, SV.v s2), (4, .int .i64 i1), (5, .int .i64 k_1), (16, .int .i64 k_1), (17, .bool (decide (k_1 < 3)))] [(3, SV.v s5, 20)] ⟨rfl, rfl, rfl, rfl, rfl, trivial⟩ ⟨rfl, trivial⟩ (fun l_ g1 => [row Ei 2 s5 leaders2, (bif nb l_ 19 then row Ei 2 (gs (g1 152)) r_4 else emp)]) (fun g1 => [SV.v s5, SV.v s2, .int .i64 i1, ep s2 i1.toNat, SV.v (gt ss1 i1), .int .i64 k_1, ep (gt ss1 i1) k_1.toNat, .int .i64 (gt (gt s1 i1) k_1), .int .i64 r_2, SV.v s2, .int .i64 i1, ep s2 i1.toNat, SV.v (gt ss1 i1), .int .i64 k_1, .int .i64 (w64 (k_1 + 1)), .int .i64 (Int.tmod (w64 (k_1 + 1)) 3), ep (gt ss1 i1) ((Int.tmod (w64 (k_1 + 1)) 3).toNat), .int .i64 (gt (gt s1 i1) (Int.tmod (w64 (k_1 + 1)) 3)), .int .i64 r_3, SV.v (gs (g1 152)), SV.v (gs (g1 152))]) [[], [], [], [1, 2], [1, 2, 3], [], [1, 2, 3, 4, 5], [1, 2, 3, 4, 5, 6], [1, 2, 3, 4, 5, 6, 7], [], [], [9, 10], [9, 10, 11], [], [13], [13, 14], [9, 10, 11, 12, 13, 14, 15], [9, 10, 11, 12, 13, 14, 15, 16], [1, 2, 3, 4, 5, 6, 7, 8, 9, 10, 11, 12, 13, 14, 15, 16, 17], [0, 1, 2, 3, 4, 5, 6, 7, 8, 9, 10, 11, 12, 13, 14, 15, 16, 17, 18], [0, 1, 2, 3, 4, 5, 6, 7, 8, 9, 10, 11, 12, 13, 14, 15, 16, 17, 18, 19]] [[some false, none, none, none, none, none, none, none, none, none, none, none, none, none, none, none, none, none, none, some false, some false], [none, some false, none, some false, some false, none, some false, some false, some false, none, none, none, none, none, none, none, none, none, some false, some false, some false], [none, none, some false, some false, some false, none, some false, some false, some false, none, none, none, none, none, none, none, none, none, some false, some false, some false], [none, some true, some true, some false, some false, none, some false, some false, some false, none, none, none, none, none, none, none, none, none, some false, some false, some false], [none, some true, some true, some true, some false, none, some false, some false, some false, none, none, none, none, none, none, none, none, none, some false, some false, some false], [none, none, none, none, none, some false, some false, some false, some false, none, none, none, none, none, none, none, none, none, some false, some false, some false], [none, some true, some true, some true, some true, some true, some false, some false, some false, none, none, none, none, none, none, none, none, none, some false, some false, some false], [none, some true, some true, some true, some true, some true, some true, some false, some false, none, none, none, none, none, none, none, none, none, some false, some false, some false], [none, some true, some true, some true, some true, some true, some true, some true, some false, none, none, none, none, none, none, none, none, none, some false, some false, some false], [none, none, none, none, none, none, none, none, none, some false, none, some false, some false, none, none, none, some false, some false, some false, some false, some false], [none, none, none, none, none, none, none, none, none, none, some false, some false, some false, none, none, none, some false, some false, some false, some false, some false], [none, none, none, none, none, none, none, none, none, some true, some true, some false, some false, none, none, none, some false, some false, some false, some false, some false], [none, none, none, none, none, none, none, none, none, some true, some true, some true, some false, none, none, none, some false, some false, some false, some false, some false], [none, none, none, none, none, none, none, none, none, none, none, none, none, some false, some false, some false, some false, some false, some false, some false, some false], [none, none, none, none, none, none, none, none, none, none, none, none, none, some true, some false, some false, some false, some false, some false, some false, some false], [none, none, none, none, none, none, none, none, none, none, none, none, none, some true, some true, some false, some false, some false, some false, some false, some false], [none, none, none, none, none, none, none, none, none, some true, some true, some true, some true, some true, some true, some true, some false, some false, some false, some false, some false], [none, none, none, none, none, none, none, none, none, some true, some true, some true, some true, some true, some true, some true, some true, some false, some false, some false, some false], [none, some true, some true, some true, some true, some true, some true, some true, some true, some true, some true, some true, some true, some true, some true, some true, some true, some true, some false, some false, some false], [some true, some true, some true, some true, some true, some true, some true, some true, some true, some true, some true, some true, some true, some true, some true, some true, some true, some true, some true, some false, some false], [some true, some true, some true, some true, some true, some true, some true, some true, some true, some true, some true, some true, some true, some true, some true, some true, some true, some true, some true, some true, some false]] (by kernel_rfl) (fun _ => rfl) rfl rfl rfl rfl rfl (fun _ _ => ⟨⟨⟨⟨⟨⟨⟨⟨⟨⟨⟨⟨⟨⟨⟨⟨⟨⟨⟨⟨⟨trivial, rfl⟩, rfl⟩, rfl⟩, rfl⟩, rfl⟩, rfl⟩, rfl⟩, rfl⟩, rfl⟩, rfl⟩, rfl⟩, rfl⟩, rfl⟩, rfl⟩, rfl⟩, rfl⟩, rfl⟩, rfl⟩, rfl⟩, rfl⟩, rfl⟩) 1 [1, 0] (fun _ => rfl) ?_ ?_
          · refine ⟨rfl, ?_, rfl, ?_, rfl, ?_, rfl, ?_, rfl, ?_, rfl, ?_, rfl, ?_, rfl, ?_, rfl, ?_, rfl, ?_, rfl, ?_, rfl, ?_, rfl, ?_, rfl, ?_, rfl, ?_, rfl, ?_, rfl, ?_, rfl, ?_, rfl, ?_, rfl, ?_, rfl, ?_, trivial⟩
            · intro b1_ b2_ b3_ b4_ b5_ b6_ b7_ b8_ b9_ b10_ b11_ b12_ b13_ b14_ b15_ b16_ b17_ b18_ g1
              refine TL.move rfl rfl (v := SV.v s5) rfl ?_
              refine TL.done ?_
              exact TC.nrm () [] ⟨rfl, trivial⟩ [0, 0] rfl
            · intro b0_ b2_ b5_ b9_ b10_ b11_ b12_ b13_ b14_ b15_ b16_ b17_ g1
              refine TL.move rfl rfl (v := SV.v s2) rfl ?_
              refine TL.done ?_
              exact TC.nrm () [] ⟨rfl, trivial⟩ [0, 0] rfl
            · intro b0_ b1_ b5_ b9_ b10_ b11_ b12_ b13_ b14_ b15_ b16_ b17_ g1
              refine TL.move rfl rfl (v := .int .i64 i1) rfl ?_
              refine TL.done ?_
              exact TC.nrm () [] ⟨rfl, trivial⟩ [0, 0] rfl
            · intro b0_ b5_ b9_ b10_ b11_ b12_ b13_ b14_ b15_ b16_ b17_ g1
              refine TL.asL [row Ei 2 s5 leaders2, emp] rfl ?_
              refine TL.ixsM i1 i1.toNat (RdM.old h1) h2 Try.underlying22 Try.sizeOf53 rfl rfl rfl rfl (by omega) ?_
              refine TL.done ?_
              exact TC.nrm () [] ⟨rfl, trivial⟩ [0, 0] rfl
            · intro b0_ b5_ b9_ b10_ b11_ b12_ b13_ b14_ b15_ b16_ b17_ g1
              refine TL.asL [row Ei 2 s5 leaders2, emp] rfl ?_
              refine TL.loadM2 (RdM.old h1) Try.isAgg53 i1 h2 (by omega) rfl rfl rfl ?_
              refine TL.done ?_
              exact TC.nrm () [] ⟨rfl, trivial⟩ [0, 0] rfl
            · intro b0_ b1_ b2_ b3_ b4_ b9_ b10_ b11_ b12_ b13_ b14_ b15_ b16_ b17_ g1
              refine TL.move rfl rfl (v := .int .i64 k_1) rfl ?_
              refine TL.done ?_
              exact TC.nrm () [] ⟨rfl, trivial⟩ [0, 0] rfl
            · intro b0_ b9_ b10_ b11_ b12_ b13_ b14_ b15_ b16_ b17_ g1
              refine TL.asL [row Ei 2 s5 leaders2, emp] rfl ?_
              refine TL.ixs k_1 k_1.toNat (RdM.inn (RdM.old h1) h2) h3 Try.underlying53 Try.sizeOf2 rfl rfl rfl rfl (by omega) ?_
              refine TL.done ?_
              exact TC.nrm () [] ⟨rfl, trivial⟩ [0, 0] rfl
            · intro b0_ b9_ b10_ b11_ b12_ b13_ b14_ b15_ b16_ b17_ g1
              refine TL.asL [row Ei 2 s5 leaders2, emp] rfl ?_
              refine TL.loadE (RdM.inn (RdM.old h1) h2) Try.isAgg2 k_1.toNat 0 (gt_spec h3) (v := .int .i64 (gt (gt s1 i1) k_1)) rfl (by simp only [show Ei.sz = 1 from rfl]; omega) rfl rfl rfl ?_
              refine TL.done ?_
              exact TC.nrm () [] ⟨rfl, trivial⟩ [0, 0] rfl
            · intro b0_ b9_ b10_ b11_ b12_ b13_ b14_ b15_ b16_ b17_ g1
              refine TL.asL [row Ei 2 s5 leaders2, emp] rfl ?_
              refine TL.callH (R := G.spec_l07End.R) hr1 Try.call107 rfl rfl rfl (fun w hS => G.spec_l07End.calls w (gt (gt s1 i1) k_1) true) ?_
              rintro _ _ ⟨rfl, rfl⟩
              refine TL.done ?_
              exact TC.nrm () [] ⟨rfl, trivial⟩ [0, 0] rfl
            · intro b0_ b1_ b2_ b3_ b4_ b5_ b6_ b7_ b8_ b10_ b13_ b14_ b15_ g1
              refine TL.move rfl rfl (v := SV.v s2) rfl ?_
              refine TL.done ?_
              exact TC.nrm () [] ⟨rfl, trivial⟩ [0, 0] rfl
            · intro b0_ b1_ b2_ b3_ b4_ b5_ b6_ b7_ b8_ b9_ b13_ b14_ b15_ g1
              refine TL.move rfl rfl (v := .int .i64 i1) rfl ?_
              refine TL.done ?_
              exact TC.nrm () [] ⟨rfl, trivial⟩ [0, 0] rfl
            · intro b0_ b1_ b2_ b3_ b4_ b5_ b6_ b7_ b8_ b13_ b14_ b15_ g1
              refine TL.asL [row Ei 2 s5 leaders2, emp] rfl ?_
              refine TL.ixsM i1 i1.toNat (RdM.old h1) h2 Try.underlying22 Try.sizeOf53 rfl rfl rfl rfl (by omega) ?_
              refine TL.done ?_
              exact TC.nrm () [] ⟨rfl, trivial⟩ [0, 0] rfl
            · intro b0_ b1_ b2_ b3_ b4_ b5_ b6_ b7_ b8_ b13_ b14_ b15_ g1
              refine TL.asL [row Ei 2 s5 leaders2, emp] rfl ?_
              refine TL.loadM2 (RdM.old h1) Try.isAgg53 i1 h2 (by omega) rfl rfl rfl ?_
              refine TL.done ?_
              exact TC.nrm () [] ⟨rfl, trivial⟩ [0, 0] rfl
            · intro b0_ b1_ b2_ b3_ b4_ b5_ b6_ b7_ b8_ b9_ b10_ b11_ b12_ g1
              refine TL.move rfl rfl (v := .int .i64 k_1) rfl ?_
              refine TL.done ?_
              exact TC.nrm () [] ⟨rfl, trivial⟩ [0, 0] rfl
            · intro b0_ b1_ b2_ b3_ b4_ b5_ b6_ b7_ b8_ b9_ b10_ b11_ b12_ g1
              refine TL.bin .i64 k_1 1 rfl rfl rfl rfl (v := .int .i64 (w64 (k_1 + 1))) rfl ?_
              refine TL.done ?_
              exact TC.nrm () [] ⟨rfl, trivial⟩ [0, 0] rfl
            · intro b0_ b1_ b2_ b3_ b4_ b5_ b6_ b7_ b8_ b9_ b10_ b11_ b12_ g1
              refine TL.rem .i64 (w64 (k_1 + 1)) 3 (by decide) rfl rfl rfl rfl ?_
              refine TL.done ?_
              exact TC.nrm () [] ⟨rfl, trivial⟩ [0, 0] rfl
            · intro b0_ b1_ b2_ b3_ b4_ b5_ b6_ b7_ b8_ g1
              refine TL.asL [row Ei 2 s5 leaders2, emp] rfl ?_
              refine TL.ixs (Int.tmod (w64 (k_1 + 1)) 3) ((Int.tmod (w64 (k_1 + 1)) 3).toNat) (RdM.inn (RdM.old h1) h2) h4 Try.underlying53 Try.sizeOf2 rfl rfl rfl rfl (by omega) ?_
              refine TL.done ?_
              exact TC.nrm () [] ⟨rfl, trivial⟩ [0, 0] rfl
            · intro b0_ b1_ b2_ b3_ b4_ b5_ b6_ b7_ b8_ g1
              refine TL.asL [row Ei 2 s5 leaders2, emp] rfl ?_
              refine TL.loadE (RdM.inn (RdM.old h1) h2) Try.isAgg2 (Int.tmod (w64 (k_1 + 1)) 3).toNat 0 (gt_spec h4) (v := .int .i64 (gt (gt s1 i1) (Int.tmod (w64 (k_1 + 1)) 3))) rfl (by simp only [show Ei.sz = 1 from rfl]; omega) rfl rfl rfl ?_
              refine TL.done ?_
              exact TC.nrm () [] ⟨rfl, trivial⟩ [0, 0] rfl
            · intro b0_ g1
              refine TL.asL [row Ei 2 s5 leaders2, emp] rfl ?_
              refine TL.callH (R := G.spec_l07End.R) hr2 Try.call107 rfl rfl rfl (fun w hS => G.spec_l07End.calls w (gt (gt s1 i1) (Int.tmod (w64 (k_1 + 1)) 3)) false) ?_
              rintro _ _ ⟨rfl, rfl⟩
              refine TL.done ?_
              exact TC.nrm () [] ⟨rfl, trivial⟩ [0, 0] rfl
            · intro g1
              refine TL.asL [row Ei 2 s5 leaders2, emp] rfl ?_
              refine TL.callH (R := G.spec_l07Join.R) hr3 Try.call103 rfl rfl rfl (fun w hS => G.spec_l07Join.calls w s5 leaders2 r_2 r_3 ((Rd.row 0 rfl) w hS)) ?_
              rintro _ _ ⟨s6, rfl, rfl⟩
              refine TL.done ?_
              exact TC.nrm () [[s6]] ⟨rfl, trivial⟩ [1, 0] rfl
            · intro g1
              refine TL.assign rfl rfl (v := SV.v (gs (g1 152))) rfl ?_
              refine TL.done ?_
              exact TC.nrm () [] ⟨rfl, trivial⟩ [0, 0] rfl
          · intro g1
            refine TC.asL [row Ei 2 s5 leaders2, row Ei 2 (gs (g1 152)) r_4] rfl ?_
            refine TC.region ?_
            refine TL.move rfl rfl (v := .int .i64 k_1) rfl ?_
            refine TL.bin .i64 k_1 1 rfl rfl rfl rfl (v := .int .i64 (w64 (k_1 + 1))) rfl ?_
            refine TL.assign rfl rfl (v := .int .i64 (w64 (k_1 + 1))) rfl ?_
            refine TL.done ?_
            exact TC.next1 ((r_4, (w64 (k_1 + 1)))) ((gs (g1 152))) ⟨rfl, rfl, rfl, rfl, trivial⟩ [1] rfl
        · exact TC.brk1 ((leaders2, k_1)) (s5) ⟨rfl, rfl, rfl, rfl, trivial⟩ [0] rfl
      · rintro ⟨leaders2, k_1⟩ s5
        refine TC.region ?_
        refine TL.move rfl rfl (v := .int .i64 i1) rfl ?_
        refine TL.bin .i64 i1 1 rfl rfl rfl rfl (v := .int .i64 (w64 (i1 + 1))) rfl ?_
        refine TL.assign rfl rfl (v := .int .i64 (w64 (i1 + 1))) rfl ?_
        refine TL.done ?_
        exact TC.next1 ((leaders2, (w64 (i1 + 1)))) (s5) ⟨rfl, rfl, rfl, trivial⟩ [0] rfl
    · exact TC.brk1 ((leaders1, i1)) (s4) ⟨rfl, rfl, rfl, trivial⟩ [0] rfl
  · rintro ⟨leaders1, i1⟩ s4
    refine TC.seq ?_
    refine TC.region ?_
    refine TL.move rfl rfl (v := SV.v s4) rfl ?_
    refine TL.call (R := G.spec_l07Different.R) Try.call65 rfl rfl rfl (fun w hS => G.spec_l07Different.calls w s4 leaders1 ((Rd.row 0 rfl) w hS)) ?_
    rintro r_5 _ _ ⟨rfl, rfl⟩
    refine TL.assign rfl rfl (v := .int .i64 r_5) rfl ?_
    refine TL.done ?_
    exact TC.retF (Fin.body (fin1 (.inr rfl) rfl (.tmp rfl) [] rfl ⟨rfl, rfl⟩))

end Go.Proofs.Ytnppkcemnjkboaa.G

/- laws.markInt64S, as a pure function. -/
set_option linter.unusedVariables false
namespace Go.Proofs.Ytnppkcemnjkboaa.G
open Go Go.Sx Go.Proofs

def laws_markInt64S.b0 : (List Int) × Int × Int → Option (LB ((List Int) × Int × Int)) := fun p => match p with | (a_2, k_2, i1) => (bif (decide (i1 < (a_2.length : Int))) then chk i1 a_2.length (some (.next ((a_2.set i1.toNat k_2), (w64 (k_2 + 1)), (w64 (i1 + 1))))) else some (.brk (a_2, k_2, i1)))

def laws_markInt64S.f (a_1 : List Int) (k_1 : Int) : Option (Int × (List Int)) := (loop1 (laws_markInt64S.b0) (a_1, k_1, 0)).bind (fun p => match p with | (a_2, k_2, i1) => some (k_2, a_2))

def laws_markInt64S.R (s1 : SV) (r : Int × (List Int)) (v : Value) (L : List Asn) : Prop := v = .int .i64 r.1 ∧ L = [row Ei 2 s1 r.2]

set_option maxRecDepth 100000 in
set_option maxHeartbeats 4000000 in
theorem laws_markInt64S.calls (w0 : World) (I : Hp) (w : World) (s1 : SV) (a_1 : List Int) (k_1 : Int) (hS : St w0 I [row Ei 2 s1 a_1] w) :
    ∀ r, laws_markInt64S.f a_1 k_1 = some r → Calls Try.prog 63 #[SV.v s1, .int .i64 k_1] w (RetM w0 I ((laws_markInt64S.R s1) r)) := by

  refine calls_TM (w0 := w0) (I := I) (L := [row Ei 2 s1 a_1]) (n := 19) (Γ := [(0, SV.v s1), (1, .int .i64 k_1)]) (R := (laws_markInt64S.R s1)) Try.func63 rfl rfl (Nat.le_of_ble_eq_true rfl) ⟨rfl, rfl, trivial⟩ ?_ w hS
  unfold laws_markInt64S.f
  refine TC.seq ?_
  refine TC.region ?_
  refine TL.assign rfl rfl (v := .int .i64 0) rfl ?_
  refine TL.done ?_
  refine TC.seq ?_
  refine TC.seq ?_
  refine TC.region ?_
  refine TL.assign rfl rfl (v := .int .i64 0) rfl ?_
  refine TL.done ?_
  refine TC.loop1 (σ := (List Int) × Int × Int) (γ := Unit) (Γ' := (fun p q => match p, q with | (a_2, k_2, i1), _ => [(0, SV.v s1), (1, .int .i64 k_2), (5, .int .i64 i1)])) (L' := (fun p q => match p, q with | (a_2, k_2, i1), _ => [row Ei 2 s1 a_2])) (Γb := (fun p q => match p, q with | (a_2, k_2, i1), _ => [(0, SV.v s1), (1, .int .i64 k_2), (5, .int .i64 i1)])) (Lb := (fun p q => match p, q with | (a_2, k_2, i1), _ => [row Ei 2 s1 a_2])) ((a_1, k_1, 0)) (()) ⟨rfl, rfl, rfl, trivial⟩ [0] rfl ?_ ?_
  · rintro ⟨a_2, k_2, i1⟩ _
    refine TC.seq ?_
    refine TC.seq ?_
    refine TC.region ?_
    refine TL.move rfl rfl (v := .int .i64 i1) rfl ?_
    refine TL.move rfl rfl (v := SV.v s1) rfl ?_
    refine TL.len (Rd.row 0 rfl) Try.underlying53 rfl rfl rfl ?_
    refine TL.bin .i64 i1 (a_2.length : Int) rfl rfl rfl rfl (v := .bool (decide (i1 < (a_2.length : Int)))) rfl ?_
    refine TL.done ?_
    refine TC.cond (b := (decide (i1 < (a_2.length : Int)))) rfl (fun c1 => ?_) (fun c2 => ?_)
    · refine TC.skip ?_
      refine TC.seq ?_
      refine TC.block (NoEx.loop1 rfl) ?_
      refine TC.seq ?_
      refine TC.region ?_
      refine TL.move rfl rfl (v := SV.v s1) rfl ?_
      refine TL.move rfl rfl (v := .int .i64 i1) rfl ?_
      refine TL.move rfl rfl (v := .int .i64 k_2) rfl ?_
      refine TL.chk fun h1 => ?_
      refine TL.ixs i1 i1.toNat (Rd.row 0 rfl) h1 Try.underlying53 Try.sizeOf2 rfl rfl rfl rfl (by omega) ?_
      refine TL.stE 0 (i1.toNat) k_2 (v := .int .i64 k_2) rfl Try.sizeOf2 rfl rfl rfl (by have h_ := h1; omega) (by simp only [show Ei.sz = 1 from rfl]; omega) rfl rfl rfl ?_
      refine TL.done ?_
      refine TC.region ?_
      refine TL.move rfl rfl (v := .int .i64 k_2) rfl ?_
      refine TL.bin .i64 k_2 1 rfl rfl rfl rfl (v := .int .i64 (w64 (k_2 + 1))) rfl ?_
      refine TL.assign rfl rfl (v := .int .i64 (w64 (k_2 + 1))) rfl ?_
      refine TL.done ?_
      refine TC.region ?_
      refine TL.move rfl rfl (v := .int .i64 i1) rfl ?_
      refine TL.bin .i64 i1 1 rfl rfl rfl rfl (v := .int .i64 (w64 (i1 + 1))) rfl ?_
      refine TL.assign rfl rfl (v := .int .i64 (w64 (i1 + 1))) rfl ?_
      refine TL.done ?_
      exact TC.next1 (((a_2.set i1.toNat k_2), (w64 (k_2 + 1)), (w64 (i1 + 1)))) (()) ⟨rfl, rfl, rfl, trivial⟩ [0] rfl
    · exact TC.brk1 ((a_2, k_2, i1)) (()) ⟨rfl, rfl, rfl, trivial⟩ [0] rfl
  · rintro ⟨a_2, k_2, i1⟩ _
    refine TC.seq ?_
    refine TC.region ?_
    refine TL.move rfl rfl (v := .int .i64 k_2) rfl ?_
    refine TL.assign rfl rfl (v := .int .i64 k_2) rfl ?_
    refine TL.done ?_
    exact TC.retF (Fin.body (fin1 (.inr rfl) rfl (.tmp rfl) [0] rfl ⟨rfl, rfl⟩))

end Go.Proofs.Ytnppkcemnjkboaa.G

/- laws.heldInt64S, as a pure function. -/
set_option linter.unusedVariables false
namespace Go.Proofs.Ytnppkcemnjkboaa.G
open Go Go.Sx Go.Proofs

def laws_heldInt64S.b0 (a_1 : List Int) : Int × Int → Option (LR (Int × Int) Int) := fun p => match p with | (k_2, i1) => (bif (decide (i1 < (a_1.length : Int))) then chk i1 a_1.length ((bif ((gt a_1 i1) != k_2) then some (.ret ((-1))) else some (.next ((w64 (k_2 + 1)), (w64 (i1 + 1)))))) else some (.brk (k_2, i1)))

def laws_heldInt64S.f (a_1 : List Int) (k_1 : Int) : Option Int := (loop (laws_heldInt64S.b0 a_1) (k_1, 0)).bind (ln (fun p => match p with | (k_2, i1) => some k_2))

def laws_heldInt64S.R (r : Int) (v : Value) (L : List Asn) : Prop := v = .int .i64 r ∧ L = []

set_option maxRecDepth 100000 in
set_option maxHeartbeats 4000000 in
theorem laws_heldInt64S.calls (w : World) (s1 : SV) (a_1 : List Int) (k_1 : Int) (h1 : Reads Ei (hp w) s1 a_1) :
    ∀ r, laws_heldInt64S.f a_1 k_1 = some r → Calls Try.prog 64 #[SV.v s1, .int .i64 k_1] w (Ret w (laws_heldInt64S.R r)) := by

  refine calls_T (n := 21) (Γ := [(0, SV.v s1), (1, .int .i64 k_1)]) (R := laws_heldInt64S.R) Try.func64 rfl rfl (Nat.le_of_ble_eq_true rfl) ⟨rfl, rfl, trivial⟩ ?_
  unfold laws_heldInt64S.f
  refine TC.seq ?_
  refine TC.region ?_
  refine TL.assign rfl rfl (v := .int .i64 0) rfl ?_
  refine TL.done ?_
  refine TC.seq ?_
  refine TC.seq ?_
  refine TC.region ?_
  refine TL.assign rfl rfl (v := .int .i64 0) rfl ?_
  refine TL.done ?_
  refine TC.loopK (σ := Int × Int) (γ := Unit) (Γ' := (fun p q => match p, q with | (k_2, i1), _ => [(0, SV.v s1), (1, .int .i64 k_2), (5, .int .i64 i1)])) (L' := (fun p q => match p, q with | (k_2, i1), _ => [])) (Γb := (fun p q => match p, q with | (k_2, i1), _ => [(0, SV.v s1), (1, .int .i64 k_2), (5, .int .i64 i1)])) (Lb := (fun p q => match p, q with | (k_2, i1), _ => [])) ((k_1, 0)) (()) ⟨rfl, rfl, rfl, trivial⟩ [] rfl ?_ ?_
  · rintro ⟨k_2, i1⟩ _
    refine TC.seq ?_
    refine TC.seq ?_
    refine TC.region ?_
    refine TL.move rfl rfl (v := .int .i64 i1) rfl ?_
    refine TL.move rfl rfl (v := SV.v s1) rfl ?_
    refine TL.len (Rd.old h1) Try.underlying53 rfl rfl rfl ?_
    refine TL.bin .i64 i1 (a_1.length : Int) rfl rfl rfl rfl (v := .bool (decide (i1 < (a_1.length : Int)))) rfl ?_
    refine TL.done ?_
    refine TC.cond (b := (decide (i1 < (a_1.length : Int)))) rfl (fun c1 => ?_) (fun c2 => ?_)
    · refine TC.skip ?_
      refine TC.seq ?_
      refine TC.block (NoEx.loop rfl NoEx.body) ?_
      refine TC.seq ?_
      refine TC.seq ?_
      refine TC.region ?_
      refine TL.move rfl rfl (v := SV.v s1) rfl ?_
      refine TL.move rfl rfl (v := .int .i64 i1) rfl ?_
      refine TL.chk fun h2 => ?_
      refine TL.ixs i1 i1.toNat (Rd.old h1) h2 Try.underlying53 Try.sizeOf2 rfl rfl rfl rfl (by omega) ?_
      refine TL.loadE (Rd.old h1) Try.isAgg2 i1.toNat 0 (gt_spec h2) (v := .int .i64 (gt a_1 i1)) rfl (by simp only [show Ei.sz = 1 from rfl]; omega) rfl rfl rfl ?_
      refine TL.move rfl rfl (v := .int .i64 k_2) rfl ?_
      refine TL.bin .i64 (gt a_1 i1) k_2 rfl rfl rfl rfl (v := .bool ((gt a_1 i1) != k_2)) rfl ?_
      refine TL.done ?_
      refine TC.cond (b := ((gt a_1 i1) != k_2)) rfl (fun c3 => ?_) (fun c4 => ?_)
      · refine TC.seq ?_
        refine TC.region ?_
        refine TL.assign rfl rfl (v := .int .i64 (-1)) rfl ?_
        refine TL.done ?_
        exact TC.retF (Fin.loop Far.ret (Fin.body (fin1 (.inr rfl) rfl (.tmp rfl) [] rfl ⟨rfl, rfl⟩)))
      · refine TC.skip ?_
        refine TC.region ?_
        refine TL.move rfl rfl (v := .int .i64 k_2) rfl ?_
        refine TL.bin .i64 k_2 1 rfl rfl rfl rfl (v := .int .i64 (w64 (k_2 + 1))) rfl ?_
        refine TL.assign rfl rfl (v := .int .i64 (w64 (k_2 + 1))) rfl ?_
        refine TL.done ?_
        refine TC.region ?_
        refine TL.move rfl rfl (v := .int .i64 i1) rfl ?_
        refine TL.bin .i64 i1 1 rfl rfl rfl rfl (v := .int .i64 (w64 (i1 + 1))) rfl ?_
        refine TL.assign rfl rfl (v := .int .i64 (w64 (i1 + 1))) rfl ?_
        refine TL.done ?_
        exact TC.next (((w64 (k_2 + 1)), (w64 (i1 + 1)))) (()) ⟨rfl, rfl, rfl, trivial⟩ [] rfl
    · exact TC.brk ((k_2, i1)) (()) ⟨rfl, rfl, rfl, trivial⟩ [] rfl
  · rintro ⟨k_2, i1⟩ _
    refine TC.seq ?_
    refine TC.region ?_
    refine TL.move rfl rfl (v := .int .i64 k_2) rfl ?_
    refine TL.assign rfl rfl (v := .int .i64 k_2) rfl ?_
    refine TL.done ?_
    exact TC.retF (Fin.body (fin1 (.inr rfl) rfl (.tmp rfl) [] rfl ⟨rfl, rfl⟩))

end Go.Proofs.Ytnppkcemnjkboaa.G

/- laws.markInt64SS, as a pure function. -/
set_option linter.unusedVariables false
namespace Go.Proofs.Ytnppkcemnjkboaa.G
open Go Go.Sx Go.Proofs

def laws_markInt64SS.b0 : (List (List Int)) × Int × Int → Option (LB ((List (List Int)) × Int × Int)) := fun p => match p with | (a_2, k_2, i1) => (bif (decide (i1 < (a_2.length : Int))) then chk i1 a_2.length ((G.laws_markInt64S.f (gt a_2 i1) k_2).bind (fun p => match p with | (r_1, l1) => some (.next ((a_2.set i1.toNat l1), r_1, (w64 (i1 + 1)))))) else some (.brk (a_2, k_2, i1)))

def laws_markInt64SS.f (a_1 : List (List Int)) (k_1 : Int) : Option (Int × (List (List Int))) := (loop1 (laws_markInt64SS.b0) (a_1, k_1, 0)).bind (fun p => match p with | (a_2, k_2, i1) => some (k_2, a_2))

def laws_markInt64SS.R (s1 : SV) (r : Int × (List (List Int))) (v : Value) (L : List Asn) : Prop := ∃ (ss0 : List SV), v = .int .i64 r.1 ∧ L = [mat Ei 2 53 s1 ss0 r.2]

set_option maxRecDepth 100000 in
set_option maxHeartbeats 4000000 in
theorem laws_markInt64SS.calls (w0 : World) (I : Hp) (w : World) (s1 : SV) (ss1 : List SV) (a_1 : List (List Int)) (k_1 : Int) (hS : St w0 I [mat Ei 2 53 s1 ss1 a_1] w) :
    ∀ r, laws_markInt64SS.f a_1 k_1 = some r → Calls Try.prog 20 #[SV.v s1, .int .i64 k_1] w (RetM w0 I ((laws_markInt64SS.R s1) r)) := by

  refine calls_TM (w0 := w0) (I := I) (L := [mat Ei 2 53 s1 ss1 a_1]) (n := 19) (Γ := [(0, SV.v s1), (1, .int .i64 k_1)]) (R := (laws_markInt64SS.R s1)) Try.func20 rfl rfl (Nat.le_of_ble_eq_true rfl) ⟨rfl, rfl, trivial⟩ ?_ w hS
  unfold laws_markInt64SS.f
  refine TC.seq ?_
  refine TC.region ?_
  refine TL.assign rfl rfl (v := .int .i64 0) rfl ?_
  refine TL.done ?_
  refine TC.seq ?_
  refine TC.seq ?_
  refine TC.region ?_
  refine TL.assign rfl rfl (v := .int .i64 0) rfl ?_
  refine TL.done ?_
  refine TC.loop1 (σ := (List (List Int)) × Int × Int) (γ := Unit) (Γ' := (fun p q => match p, q with | (a_2, k_2, i1), _ => [(0, SV.v s1), (1, .int .i64 k_2), (5, .int .i64 i1)])) (L' := (fun p q => match p, q with | (a_2, k_2, i1), _ => [mat Ei 2 53 s1 ss1 a_2])) (Γb := (fun p q => match p, q with | (a_2, k_2, i1), _ => [(0, SV.v s1), (1, .int .i64 k_2), (5, .int .i64 i1)])) (Lb := (fun p q => match p, q with | (a_2, k_2, i1), _ => [mat Ei 2 53 s1 ss1 a_2])) ((a_1, k_1, 0)) (()) ⟨rfl, rfl, rfl, trivial⟩ [0] rfl ?_ ?_
  · rintro ⟨a_2, k_2, i1⟩ _
    refine TC.seq ?_
    refine TC.seq ?_
    refine TC.region ?_
    refine TL.move rfl rfl (v := .int .i64 i1) rfl ?_
    refine TL.move rfl rfl (v := SV.v s1) rfl ?_
    refine TL.lenM (RdM.mat 0 rfl) Try.underlying22 rfl rfl rfl ?_
    refine TL.bin .i64 i1 (a_2.length : Int) rfl rfl rfl rfl (v := .bool (decide (i1 < (a_2.length : Int)))) rfl ?_
    refine TL.done ?_
    refine TC.cond (b := (decide (i1 < (a_2.length : Int)))) rfl (fun c1 => ?_) (fun c2 => ?_)
    · refine TC.skip ?_
      refine TC.seq ?_
      refine TC.block (NoEx.loop1 rfl) ?_
      refine TC.region ?_
      refine TL.move rfl rfl (v := SV.v s1) rfl ?_
      refine TL.move rfl rfl (v := .int .i64 i1) rfl ?_
      refine TL.chk fun h1 => ?_
      refine TL.ixsM i1 i1.toNat (RdM.mat 0 rfl) h1 Try.underlying22 Try.sizeOf53 rfl rfl rfl rfl (by omega) ?_
      refine TL.loadM2 (RdM.mat 0 rfl) Try.isAgg53 i1 h1 (by omega) rfl rfl rfl ?_
      refine TL.move rfl rfl (v := .int .i64 k_2) rfl ?_
      refine TL.matopen 0 i1 rfl h1 ?_
      refine TL.callX (R := G.laws_markInt64S.R (gt ss1 i1)) [0, 0] [row Ei 2 (gt ss1 i1) (gt a_2 i1)] [matX Ei 2 53 i1.toNat s1 ss1 a_2] rfl Try.call63 rfl rfl rfl (fun w I_ hle hB hS => G.laws_markInt64S.calls _ I_ w (gt ss1 i1) (gt a_2 i1) k_2 hS) ?_
      rintro ⟨r_1, l1⟩ _ _ ⟨rfl, rfl⟩
      refine TL.matXlen 1 rfl fun h2 => ?_
      refine TL.matclose 0 1 rfl rfl (gt_spec (by have h_ := h1; have l_ := h2; (try simp only [List.length_set] at h_ l_); omega)) ?_
      refine TL.drop 0 rfl ?_
      refine TL.asL [mat Ei 2 53 s1 ss1 (a_2.set i1.toNat l1)] rfl ?_
      refine TL.assign rfl rfl (v := .int .i64 r_1) rfl ?_
      refine TL.done ?_
      refine TC.region ?_
      refine TL.move rfl rfl (v := .int .i64 i1) rfl ?_
      refine TL.bin .i64 i1 1 rfl rfl rfl rfl (v := .int .i64 (w64 (i1 + 1))) rfl ?_
      refine TL.assign rfl rfl (v := .int .i64 (w64 (i1 + 1))) rfl ?_
      refine TL.done ?_
      exact TC.next1 (((a_2.set i1.toNat l1), r_1, (w64 (i1 + 1)))) (()) ⟨rfl, rfl, rfl, trivial⟩ [0] rfl
    · exact TC.brk1 ((a_2, k_2, i1)) (()) ⟨rfl, rfl, rfl, trivial⟩ [0] rfl
  · rintro ⟨a_2, k_2, i1⟩ _
    refine TC.seq ?_
    refine TC.region ?_
    refine TL.move rfl rfl (v := .int .i64 k_2) rfl ?_
    refine TL.assign rfl rfl (v := .int .i64 k_2) rfl ?_
    refine TL.done ?_
    exact TC.retF (Fin.body (fin1 (.inr rfl) rfl (.tmp rfl) [0] rfl ⟨ss1, rfl, rfl⟩))

end Go.Proofs.Ytnppkcemnjkboaa.G

/- laws.heldInt64SS, as a pure function. -/
set_option linter.unusedVariables false
namespace Go.Proofs.Ytnppkcemnjkboaa.G
open Go Go.Sx Go.Proofs

def laws_heldInt64SS.b0 (a_1 : List (List Int)) : Int × Int → Option (LR (Int × Int) Int) := fun p => match p with | (k_2, i1) => (bif (decide (i1 < (a_1.length : Int))) then chk i1 a_1.length ((G.laws_heldInt64S.f (gt a_1 i1) k_2).bind (fun r_1 => (bif (decide (r_1 < 0)) then some (.ret ((-1))) else some (.next (r_1, (w64 (i1 + 1))))))) else some (.brk (k_2, i1)))

def laws_heldInt64SS.f (a_1 : List (List Int)) (k_1 : Int) : Option Int := (loop (laws_heldInt64SS.b0 a_1) (k_1, 0)).bind (ln (fun p => match p with | (k_2, i1) => some k_2))

def laws_heldInt64SS.R (r : Int) (v : Value) (L : List Asn) : Prop := v = .int .i64 r ∧ L = []

set_option maxRecDepth 100000 in
set_option maxHeartbeats 4000000 in
theorem laws_heldInt64SS.calls (w : World) (s1 : SV) (ss1 : List SV) (a_1 : List (List Int)) (k_1 : Int) (h1 : ReadsM Ei (hp w) s1 ss1 a_1) :
    ∀ r, laws_heldInt64SS.f a_1 k_1 = some r → Calls Try.prog 21 #[SV.v s1, .int .i64 k_1] w (Ret w (laws_heldInt64SS.R r)) := by

  refine calls_T (n := 21) (Γ := [(0, SV.v s1), (1, .int .i64 k_1)]) (R := laws_heldInt64SS.R) Try.func21 rfl rfl (Nat.le_of_ble_eq_true rfl) ⟨rfl, rfl, trivial⟩ ?_
  unfold laws_heldInt64SS.f
  refine TC.seq ?_
  refine TC.region ?_
  refine TL.assign rfl rfl (v := .int .i64 0) rfl ?_
  refine TL.done ?_
  refine TC.seq ?_
  refine TC.seq ?_
  refine TC.region ?_
  refine TL.assign rfl rfl (v := .int .i64 0) rfl ?_
  refine TL.done ?_
  refine TC.loopK (σ := Int × Int) (γ := Unit) (Γ' := (fun p q => match p, q with | (k_2, i1), _ => [(0, SV.v s1), (1, .int .i64 k_2), (5, .int .i64 i1)])) (L' := (fun p q => match p, q with | (k_2, i1), _ => [])) (Γb := (fun p q => match p, q with | (k_2, i1), _ => [(0, SV.v s1), (1, .int .i64 k_2), (5, .int .i64 i1)])) (Lb := (fun p q => match p, q with | (k_2, i1), _ => [])) ((k_1, 0)) (()) ⟨rfl, rfl, rfl, trivial⟩ [] rfl ?_ ?_
  · rintro ⟨k_2, i1⟩ _
    refine TC.seq ?_
    refine TC.seq ?_
    refine TC.region ?_
    refine TL.move rfl rfl (v := .int .i64 i1) rfl ?_
    refine TL.move rfl rfl (v := SV.v s1) rfl ?_
    refine TL.lenM (RdM.old h1) Try.underlying22 rfl rfl rfl ?_
    refine TL.bin .i64 i1 (a_1.length : Int) rfl rfl rfl rfl (v := .bool (decide (i1 < (a_1.length : Int)))) rfl ?_
    refine TL.done ?_
    refine TC.cond (b := (decide (i1 < (a_1.length : Int)))) rfl (fun c1 => ?_) (fun c2 => ?_)
    · refine TC.skip ?_
      refine TC.seq ?_
      refine TC.block (NoEx.loop rfl NoEx.body) ?_
      refine TC.seq ?_
      refine TC.region ?_
      refine TL.move rfl rfl (v := SV.v s1) rfl ?_
      refine TL.move rfl rfl (v := .int .i64 i1) rfl ?_
      refine TL.chk fun h2 => ?_
      refine TL.ixsM i1 i1.toNat (RdM.old h1) h2 Try.underlying22 Try.sizeOf53 rfl rfl rfl rfl (by omega) ?_
      refine TL.loadM2 (RdM.old h1) Try.isAgg53 i1 h2 (by omega) rfl rfl rfl ?_
      refine TL.move rfl rfl (v := .int .i64 k_2) rfl ?_
      refine TL.call (R := G.laws_heldInt64S.R) Try.call64 rfl rfl rfl (fun w hS => G.laws_heldInt64S.calls w (gt ss1 i1) (gt a_1 i1) k_2 ((RdM.inn (RdM.old h1) h2) w hS)) ?_
      rintro r_1 _ _ ⟨rfl, rfl⟩
      refine TL.assign rfl rfl (v := .int .i64 r_1) rfl ?_
      refine TL.done ?_
      refine TC.seq ?_
      refine TC.region ?_
      refine TL.move rfl rfl (v := .int .i64 r_1) rfl ?_
      refine TL.bin .i64 r_1 0 rfl rfl rfl rfl (v := .bool (decide (r_1 < 0))) rfl ?_
      refine TL.done ?_
      refine TC.cond (b := (decide (r_1 < 0))) rfl (fun c3 => ?_) (fun c4 => ?_)
      · refine TC.seq ?_
        refine TC.region ?_
        refine TL.assign rfl rfl (v := .int .i64 (-1)) rfl ?_
        refine TL.done ?_
        exact TC.retF (Fin.loop Far.ret (Fin.body (fin1 (.inr rfl) rfl (.tmp rfl) [] rfl ⟨rfl, rfl⟩)))
      · refine TC.skip ?_
        refine TC.region ?_
        refine TL.move rfl rfl (v := .int .i64 i1) rfl ?_
        refine TL.bin .i64 i1 1 rfl rfl rfl rfl (v := .int .i64 (w64 (i1 + 1))) rfl ?_
        refine TL.assign rfl rfl (v := .int .i64 (w64 (i1 + 1))) rfl ?_
        refine TL.done ?_
        exact TC.next ((r_1, (w64 (i1 + 1)))) (()) ⟨rfl, rfl, rfl, trivial⟩ [] rfl
    · exact TC.brk ((k_2, i1)) (()) ⟨rfl, rfl, rfl, trivial⟩ [] rfl
  · rintro ⟨k_2, i1⟩ _
    refine TC.seq ?_
    refine TC.region ?_
    refine TL.move rfl rfl (v := .int .i64 k_2) rfl ?_
    refine TL.assign rfl rfl (v := .int .i64 k_2) rfl ?_
    refine TL.done ?_
    exact TC.retF (Fin.body (fin1 (.inr rfl) rfl (.tmp rfl) [] rfl ⟨rfl, rfl⟩))

end Go.Proofs.Ytnppkcemnjkboaa.G
