/- Functions of the program, as pure functions. -/
import Derived.Test.YtnppkcemnjkboaaMCountSurfacePieces1
import Derived.Test.YtnppkcemnjkboaaProg
/- spec.l07Pieces, as a pure function. -/
set_option linter.unusedVariables false
namespace Go.Proofs.Ytnppkcemnjkboaa.G
open Go Go.Sx Go.Proofs

def spec_l07Pieces.b0 (i1 : Int) (s1 : List (List Int)) : (List Int) × Int → Option (LB ((List Int) × Int)) := fun p => match p with | (leaders2, k_1) => (bif (decide (k_1 < i1)) then chk i1 s1.length (chk k_1 s1.length ((G.spec_l07Touch.f (gt s1 i1) (gt s1 k_1)).bind (fun p => match p with | (r_2, r_3) => ((bif r_2 then (G.spec_l07Join.f leaders2 i1 k_1).bind (fun r_4 => some r_4) else some leaders2)).bind (fun leaders3 => some (.next (leaders3, (w64 (k_1 + 1)))))))) else some (.brk (leaders2, k_1)))

def spec_l07Pieces.b1 (s1 : List (List Int)) : (List Int) × Int → Option (LB ((List Int) × Int)) := fun p => match p with | (leaders1, i1) => (bif (decide (i1 < (s1.length : Int))) then (loop1 (spec_l07Pieces.b0 i1 s1) (leaders1, 0)).bind (fun p => match p with | (leaders2, k_1) => some (.next (leaders2, (w64 (i1 + 1))))) else some (.brk (leaders1, i1)))

def spec_l07Pieces.f (s1 : List (List Int)) : Option (List Int) := (G.spec_l07Numbers.f (s1.length : Int)).bind (fun r_1 => (loop1 (spec_l07Pieces.b1 s1) (r_1, 0)).bind (fun p => match p with | (leaders1, i1) => some leaders1))

def spec_l07Pieces.R (r : List Int) (v : Value) (L : List Asn) : Prop := ∃ (s0 : SV), v = SV.v s0 ∧ L = [row Ei 2 s0 r]

set_option maxRecDepth 100000 in
set_option maxHeartbeats 4000000 in
theorem spec_l07Pieces.calls (w : World) (s2 : SV) (ss1 : List SV) (s1 : List (List Int)) (h1 : ReadsM Ei (hp w) s2 ss1 s1) :
    ∀ r, spec_l07Pieces.f s1 = some r → Calls Try.prog 66 #[SV.v s2] w (Ret w (spec_l07Pieces.R r)) := by

  refine calls_T (n := 40) (Γ := [(0, SV.v s2)]) (R := spec_l07Pieces.R) Try.func66 rfl rfl (Nat.le_of_ble_eq_true rfl) ⟨rfl, trivial⟩ ?_
  unfold spec_l07Pieces.f
  refine TC.seq ?_
  refine TC.region ?_
  refine TL.assign rfl rfl (v := SV.v ⟨none, 0, 0⟩) rfl ?_
  refine TL.done ?_
  refine TC.seq ?_
  refine TC.region ?_
  refine TL.move rfl rfl (v := SV.v s2) rfl ?_
  refine TL.lenM (RdM.old h1) Try.underlying22 rfl rfl rfl ?_
  refine TL.call (R := G.spec_l07Numbers.R) Try.call101 rfl rfl rfl (fun w hS => G.spec_l07Numbers.calls w (s1.length : Int)) ?_
  rintro r_1 _ _ ⟨s3, rfl, rfl⟩
  refine TL.assign rfl rfl (v := SV.v s3) rfl ?_
  refine TL.done ?_
  refine TC.seq ?_
  refine TC.seq ?_
  refine TC.region ?_
  refine TL.assign rfl rfl (v := .int .i64 0) rfl ?_
  refine TL.done ?_
  refine TC.loop1 (σ := (List Int) × Int) (γ := SV) (Γ' := (fun p q => match p, q with | (leaders1, i1), s4 => [(0, SV.v s2), (3, SV.v s4), (4, .int .i64 i1)])) (L' := (fun p q => match p, q with | (leaders1, i1), s4 => [row Ei 2 s4 leaders1])) (Γb := (fun p q => match p, q with | (leaders1, i1), s4 => [(0, SV.v s2), (3, SV.v s4), (4, .int .i64 i1)])) (Lb := (fun p q => match p, q with | (leaders1, i1), s4 => [row Ei 2 s4 leaders1])) ((r_1, 0)) (s3) ⟨rfl, rfl, rfl, trivial⟩ [0] rfl ?_ ?_
  · rintro ⟨leaders1, i1⟩ s4
    refine TC.seq ?_
    refine TC.seq ?_
    refine TC.region ?_
    refine TL.move rfl rfl (v := .int .i64 i1) rfl ?_
    refine TL.move rfl rfl (v := SV.v s2) rfl ?_
    refine TL.lenM (RdM.old h1) Try.underlying22 rfl rfl rfl ?_
    refine TL.bin .i64 i1 (s1.length : Int) rfl rfl rfl rfl (v := .bool (decide (i1 < (s1.length : Int)))) rfl ?_
    refine TL.done ?_
    refine TC.cond (b := (decide (i1 < (s1.length : Int)))) rfl (fun c1 => ?_) (fun c2 => ?_)
    · refine TC.skip ?_
      refine TC.seq ?_
      refine TC.block (NoEx.loop1 rfl) ?_
      refine TC.seq ?_
      refine TC.region ?_
      refine TL.assign rfl rfl (v := .int .i64 0) rfl ?_
      refine TL.done ?_
      refine TC.loop1 (σ := (List Int) × Int) (γ := SV) (Γ' := (fun p q => match p, q with | (leaders2, k_1), s5 => [(0, SV.v s2), (3, SV.v s5), (4, .int .i64 i1), (5, .int .i64 k_1)])) (L' := (fun p q => match p, q with | (leaders2, k_1), s5 => [row Ei 2 s5 leaders2])) (Γb := (fun p q => match p, q with | (leaders2, k_1), s5 => [(0, SV.v s2), (3, SV.v s5), (4, .int .i64 i1), (5, .int .i64 k_1)])) (Lb := (fun p q => match p, q with | (leaders2, k_1), s5 => [row Ei 2 s5 leaders2])) ((leaders1, 0)) (s4) ⟨rfl, rfl, rfl, rfl, trivial⟩ [0] rfl ?_ ?_
      · rintro ⟨leaders2, k_1⟩ s5
        refine TC.seq ?_
        refine TC.seq ?_
        refine TC.region ?_
        refine TL.move rfl rfl (v := .int .i64 k_1) rfl ?_
        refine TL.move rfl rfl (v := .int .i64 i1) rfl ?_
        refine TL.bin .i64 k_1 i1 rfl rfl rfl rfl (v := .bool (decide (k_1 < i1))) rfl ?_
        refine TL.done ?_
        refine TC.cond (b := (decide (k_1 < i1))) rfl (fun c3 => ?_) (fun c4 => ?_)
        · refine TC.skip ?_
          refine TC.seq ?_
          refine TC.block (NoEx.loop1 rfl) ?_
          refine TC.seq ?_
          refine TC.wk (Γ' := [(0, SV.v s2), (3, SV.v s5), (4, .int .i64 i1), (5, .int .i64 k_1), (17, .int .i64 k_1), (18, .int .i64 i1), (19, .bool (decide (k_1 < i1)))]) ⟨rfl, rfl, rfl, rfl, rfl, rfl, rfl, trivial⟩ ?_
          refine TC.chk fun h2 => ?_
          refine TC.chk fun h3 => ?_
          refine TC.bindE ?_
          rintro ⟨r_2, r_3⟩ hr1
          refine TC.drawG [(0, SV.v s2), (3, SV.v s5), (4, .int .i64 i1), (5, .int .i64 k_1), (17, .int .i64 k_1), (18, .int .i64 i1), (19, .bool (decide (k_1 < i1)))] [] ⟨rfl, rfl, rfl, rfl, rfl, rfl, rfl, trivial⟩ trivial (fun l_ g1 => [row Ei 2 s5 leaders2]) (fun g1 => [SV.v s2, .int .i64 i1, ep s2 i1.toNat, SV.v (gt ss1 i1), SV.v s2, .int .i64 k_1, ep s2 k_1.toNat, SV.v (gt ss1 k_1), .tuple #[.bool r_2, .bool r_3], .tuple #[.bool r_2, .bool r_3], .bool r_2, .bool r_3, .bool r_2, .bool r_3]) [[], [], [0, 1], [0, 1, 2], [], [], [4, 5], [4, 5, 6], [0, 1, 2, 3, 4, 5, 6, 7], [0, 1, 2, 3, 4, 5, 6, 7, 8], [0, 1, 2, 3, 4, 5, 6, 7, 8, 9], [0, 1, 2, 3, 4, 5, 6, 7, 8, 9], [0, 1, 2, 3, 4, 5, 6, 7, 8, 9, 10], [0, 1, 2, 3, 4, 5, 6, 7, 8, 9, 10, 11, 12]] [[some false, none, some false, some false, none, none, none, none, some false, some false, some false, some false, some false, some false], [none, some false, some false, some false, none, none, none, none, some false, some false, some false, some false, some false, some false], [some true, some true, some false, some false, none, none, none, none, some false, some false, some false, some false, some false, some false], [some true, some true, some true, some false, none, none, none, none, some false, some false, some false, some false, some false, some false], [none, none, none, none, some false, none, some false, some false, some false, some false, some false, some false, some false, some false], [none, none, none, none, none, some false, some false, some false, some false, some false, some false, some false, some false, some false], [none, none, none, none, some true, some true, some false, some false, some false, some false, some false, some false, some false, some false], [none, none, none, none, some true, some true, some true, some false, some false, some false, some false, some false, some false, some false], [some true, some true, some true, some true, some true, some true, some true, some true, some false, some false, some false, some false, some false, some false], [some true, some true, some true, some true, some true, some true, some true, some true, some true, some false, some false, some false, some false, some false], [some true, some true, some true, some true, some true, some true, some true, some true, some true, some true, some false, none, some false, some false], [some true, some true, some true, some true, some true, some true, some true, some true, some true, some true, none, some false, none, some false], [some true, some true, some true, some true, some true, some true, some true, some true, some true, some true, some true, none, some false, some false], [some true, some true, some true, some true, some true, some true, some true, some true, some true, some true, some true, some true, some true, some false]] (by kernel_rfl) (fun _ => rfl) rfl rfl rfl rfl rfl (fun _ _ => ⟨⟨⟨⟨⟨⟨⟨⟨⟨⟨⟨⟨⟨⟨trivial, rfl⟩, rfl⟩, rfl⟩, rfl⟩, rfl⟩, rfl⟩, rfl⟩, rfl⟩, rfl⟩, rfl⟩, rfl⟩, rfl⟩, rfl⟩, rfl⟩) 0 [0] (fun _ => rfl) ?_ ?_
          · refine ⟨rfl, ?_, rfl, ?_, rfl, ?_, rfl, ?_, rfl, ?_, rfl, ?_, rfl, ?_, rfl, ?_, rfl, ?_, rfl, ?_, rfl, ?_, rfl, ?_, rfl, ?_, rfl, ?_, trivial⟩
            · intro b1_ b4_ b5_ b6_ b7_ g1
              refine TL.move rfl rfl (v := SV.v s2) rfl ?_
              refine TL.done ?_
              exact TC.nrm () [] ⟨rfl, trivial⟩ [0] rfl
            · intro b0_ b4_ b5_ b6_ b7_ g1
              refine TL.move rfl rfl (v := .int .i64 i1) rfl ?_
              refine TL.done ?_
              exact TC.nrm () [] ⟨rfl, trivial⟩ [0] rfl
            · intro b4_ b5_ b6_ b7_ g1
              refine TL.asL [row Ei 2 s5 leaders2] rfl ?_
              refine TL.ixsM i1 i1.toNat (RdM.old h1) h2 Try.underlying22 Try.sizeOf53 rfl rfl rfl rfl (by omega) ?_
              refine TL.done ?_
              exact TC.nrm () [] ⟨rfl, trivial⟩ [0] rfl
            · intro b4_ b5_ b6_ b7_ g1
              refine TL.asL [row Ei 2 s5 leaders2] rfl ?_
              refine TL.loadM2 (RdM.old h1) Try.isAgg53 i1 h2 (by omega) rfl rfl rfl ?_
              refine TL.done ?_
              exact TC.nrm () [] ⟨rfl, trivial⟩ [0] rfl
            · intro b0_ b1_ b2_ b3_ b5_ g1
              refine TL.move rfl rfl (v := SV.v s2) rfl ?_
              refine TL.done ?_
              exact TC.nrm () [] ⟨rfl, trivial⟩ [0] rfl
            · intro b0_ b1_ b2_ b3_ b4_ g1
              refine TL.move rfl rfl (v := .int .i64 k_1) rfl ?_
              refine TL.done ?_
              exact TC.nrm () [] ⟨rfl, trivial⟩ [0] rfl
            · intro b0_ b1_ b2_ b3_ g1
              refine TL.asL [row Ei 2 s5 leaders2] rfl ?_
              refine TL.ixsM k_1 k_1.toNat (RdM.old h1) h3 Try.underlying22 Try.sizeOf53 rfl rfl rfl rfl (by omega) ?_
              refine TL.done ?_
              exact TC.nrm () [] ⟨rfl, trivial⟩ [0] rfl
            · intro b0_ b1_ b2_ b3_ g1
              refine TL.asL [row Ei 2 s5 leaders2] rfl ?_
              refine TL.loadM2 (RdM.old h1) Try.isAgg53 k_1 h3 (by omega) rfl rfl rfl ?_
              refine TL.done ?_
              exact TC.nrm () [] ⟨rfl, trivial⟩ [0] rfl
            · intro g1
              refine TL.asL [row Ei 2 s5 leaders2] rfl ?_
              refine TL.callH (R := G.spec_l07Touch.R) hr1 Try.call102 rfl rfl rfl (fun w hS => G.spec_l07Touch.calls w (gt ss1 i1) (gt s1 i1) (gt ss1 k_1) (gt s1 k_1) ((RdM.inn (RdM.old h1) h2) w hS) ((RdM.inn (RdM.old h1) h3) w hS)) ?_
              rintro _ _ ⟨rfl, rfl⟩
              refine TL.done ?_
              exact TC.nrm () [] ⟨rfl, trivial⟩ [0] rfl
            · intro g1
              refine TL.move rfl rfl (v := .tuple #[.bool r_2, .bool r_3]) rfl ?_
              refine TL.done ?_
              exact TC.nrm () [] ⟨rfl, trivial⟩ [0] rfl
            · intro b11_ g1
              refine TL.extract rfl rfl rfl (v := .bool r_2) rfl ?_
              refine TL.done ?_
              exact TC.nrm () [] ⟨rfl, trivial⟩ [0] rfl
            · intro b10_ b12_ g1
              refine TL.extract rfl rfl rfl (v := .bool r_3) rfl ?_
              refine TL.done ?_
              exact TC.nrm () [] ⟨rfl, trivial⟩ [0] rfl
            · intro b11_ g1
              refine TL.assign rfl rfl (v := .bool r_2) rfl ?_
              refine TL.done ?_
              exact TC.nrm () [] ⟨rfl, trivial⟩ [0] rfl
            · intro g1
              refine TL.assign rfl rfl (v := .bool r_3) rfl ?_
              refine TL.done ?_
              exact TC.nrm () [] ⟨rfl, trivial⟩ [0] rfl
          · intro g1
            refine TC.asL [row Ei 2 s5 leaders2] rfl ?_
            refine TC.seq ?_
            refine TC.region ?_
            refine TL.move rfl rfl (v := .bool r_2) rfl ?_
            refine TL.done ?_
            refine TC.join1 (σ := (List Int)) (γ := SV) (Γ' := (fun leaders3 s6 => [(0, SV.v s2), (3, SV.v s6), (4, .int .i64 i1), (5, .int .i64 k_1)])) (L' := (fun leaders3 s6 => [row Ei 2 s6 leaders3])) ?_ ?_
            · refine TC.cond (b := r_2) rfl (fun c5 => ?_) (fun c6 => ?_)
              · refine TC.region ?_
                refine TL.move rfl rfl (v := SV.v s5) rfl ?_
                refine TL.move rfl rfl (v := .int .i64 i1) rfl ?_
                refine TL.move rfl rfl (v := .int .i64 k_1) rfl ?_
                refine TL.call (R := G.spec_l07Join.R) Try.call103 rfl rfl rfl (fun w hS => G.spec_l07Join.calls w s5 leaders2 i1 k_1 ((Rd.row 0 rfl) w hS)) ?_
                rintro r_4 _ _ ⟨s7, rfl, rfl⟩
                refine TL.assign rfl rfl (v := SV.v s7) rfl ?_
                refine TL.done ?_
                exact TC.nrm (r_4) (s7) ⟨rfl, rfl, rfl, rfl, trivial⟩ [0] rfl
              · refine TC.skip ?_
                exact TC.nrm (leaders2) (s5) ⟨rfl, rfl, rfl, rfl, trivial⟩ [0] rfl
            · rintro leaders3 s6
              refine TC.region ?_
              refine TL.move rfl rfl (v := .int .i64 k_1) rfl ?_
              refine TL.bin .i64 k_1 1 rfl rfl rfl rfl (v := .int .i64 (w64 (k_1 + 1))) rfl ?_
              refine TL.assign rfl rfl (v := .int .i64 (w64 (k_1 + 1))) rfl ?_
              refine TL.done ?_
              exact TC.next1 ((leaders3, (w64 (k_1 + 1)))) (s6) ⟨rfl, rfl, rfl, rfl, trivial⟩ [0] rfl
        · exact TC.brk1 ((leaders2, k_1)) (s5) ⟨rfl, rfl, rfl, rfl, trivial⟩ [0] rfl
      · rintro ⟨leaders2, k_1⟩ s5
        refine TC.region ?_
        refine TL.move rfl rfl (v := .int .i64 i1) rfl ?_
        refine TL.bin .i64 i1 1 rfl rfl rfl rfl (v := .int .i64 (w64 (i1 + 1))) rfl ?_
        refine TL.assign rfl rfl (v := .int .i64 (w64 (i1 + 1))) rfl ?_
        refine TL.done ?_
        exact TC.next1 ((leaders2, (w64 (i1 + 1)))) (s5) ⟨rfl, rfl, rfl, trivial⟩ [0] rfl
    · exact TC.brk1 ((leaders1, i1)) (s4) ⟨rfl, rfl, rfl, trivial⟩ [0] rfl
  · rintro ⟨leaders1, i1⟩ s4
    refine TC.seq ?_
    refine TC.region ?_
    refine TL.move rfl rfl (v := SV.v s4) rfl ?_
    refine TL.assign rfl rfl (v := SV.v s4) rfl ?_
    refine TL.done ?_
    exact TC.retF (Fin.body (fin1 (.inr rfl) rfl (.tmp rfl) [0] rfl ⟨s4, rfl, rfl⟩))

end Go.Proofs.Ytnppkcemnjkboaa.G

/- spec.CountSurfacePieces, as a pure function. -/
set_option linter.unusedVariables false
namespace Go.Proofs.Ytnppkcemnjkboaa.G
open Go Go.Sx Go.Proofs

def spec_CountSurfacePieces.f (s1 : List (List Int)) : Option (Int × Int) := (G.spec_l07Is.f s1).bind (fun r_1 => (bif (!r_1) then some (0, 1) else (G.spec_l07Pieces.f s1).bind (fun r_2 => (G.spec_l07Different.f r_2).bind (fun r_3 => some (r_3, 0)))))

def spec_CountSurfacePieces.R (r : Int × Int) (v : Value) (L : List Asn) : Prop := v = .tuple #[.int .i64 r.1, .int .i64 r.2] ∧ L = []

set_option maxRecDepth 100000 in
set_option maxHeartbeats 4000000 in
theorem spec_CountSurfacePieces.calls (w : World) (s2 : SV) (ss1 : List SV) (s1 : List (List Int)) (h1 : ReadsM Ei (hp w) s2 ss1 s1) :
    ∀ r, spec_CountSurfacePieces.f s1 = some r → Calls Try.prog 22 #[SV.v s2] w (Ret w (spec_CountSurfacePieces.R r)) := by

  refine calls_T (n := 10) (Γ := [(0, SV.v s2)]) (R := spec_CountSurfacePieces.R) Try.func22 rfl rfl (Nat.le_of_ble_eq_true rfl) ⟨rfl, trivial⟩ ?_
  unfold spec_CountSurfacePieces.f
  refine TC.seq ?_
  refine TC.region ?_
  refine TL.assign rfl rfl (v := .int .i64 0) rfl ?_
  refine TL.assign rfl rfl (v := .int .i64 0) rfl ?_
  refine TL.done ?_
  refine TC.seq ?_
  refine TC.seq ?_
  refine TC.region ?_
  refine TL.move rfl rfl (v := SV.v s2) rfl ?_
  refine TL.call (R := G.spec_l07Is.R) Try.call53 rfl rfl rfl (fun w hS => G.spec_l07Is.calls w s2 ss1 s1 ((RdM.old h1) w hS)) ?_
  rintro r_1 _ _ ⟨rfl, rfl⟩
  refine TL.not r_1 rfl rfl rfl ?_
  refine TL.done ?_
  refine TC.cond (b := (!r_1)) rfl (fun c1 => ?_) (fun c2 => ?_)
  · refine TC.seq ?_
    refine TC.region ?_
    refine TL.assign rfl rfl (v := .int .i64 0) rfl ?_
    refine TL.assign rfl rfl (v := .int .i64 1) rfl ?_
    refine TL.done ?_
    exact TC.retF (Fin.body (fin2 (.inr rfl) rfl (.tmp rfl) (.tmp rfl) [] rfl ⟨rfl, rfl⟩))
  · refine TC.skip ?_
    refine TC.seq ?_
    refine TC.region ?_
    refine TL.move rfl rfl (v := SV.v s2) rfl ?_
    refine TL.call (R := G.spec_l07Pieces.R) Try.call66 rfl rfl rfl (fun w hS => G.spec_l07Pieces.calls w s2 ss1 s1 ((RdM.old h1) w hS)) ?_
    rintro r_2 _ _ ⟨s3, rfl, rfl⟩
    refine TL.call (R := G.spec_l07Different.R) Try.call65 rfl rfl rfl (fun w hS => G.spec_l07Different.calls w s3 r_2 ((Rd.row 0 rfl) w hS)) ?_
    rintro r_3 _ _ ⟨rfl, rfl⟩
    refine TL.assign rfl rfl (v := .int .i64 r_3) rfl ?_
    refine TL.assign rfl rfl (v := .int .i64 0) rfl ?_
    refine TL.done ?_
    exact TC.retF (Fin.body (fin2 (.inr rfl) rfl (.tmp rfl) (.tmp rfl) [] rfl ⟨rfl, rfl⟩))

end Go.Proofs.Ytnppkcemnjkboaa.G

/- impl.in, as a pure function. -/
set_option linter.unusedVariables false
namespace Go.Proofs.Ytnppkcemnjkboaa.G
open Go Go.Sx Go.Proofs

def impl_in.f (n_1 : Int) (low1 : Int) (high1 : Int) : Option Bool := some ((decide (n_1 ≥ low1)) && (decide (n_1 ≤ high1)))

def impl_in.R (r : Bool) (v : Value) (L : List Asn) : Prop := v = .bool r ∧ L = []

set_option maxRecDepth 100000 in
set_option maxHeartbeats 4000000 in
theorem impl_in.calls (w : World) (n_1 : Int) (low1 : Int) (high1 : Int) :
    ∀ r, impl_in.f n_1 low1 high1 = some r → Calls Try.prog 60 #[.int .i64 n_1, .int .i64 low1, .int .i64 high1] w (Ret w (impl_in.R r)) := by

  refine calls_T (n := 15) (Γ := [(0, .int .i64 n_1), (1, .int .i64 low1), (2, .int .i64 high1)]) (R := impl_in.R) Try.func60 rfl rfl (Nat.le_of_ble_eq_true rfl) ⟨rfl, rfl, rfl, trivial⟩ ?_
  unfold impl_in.f
  refine TC.seq ?_
  refine TC.region ?_
  refine TL.assign rfl rfl (v := .bool false) rfl ?_
  refine TL.done ?_
  refine TC.seq ?_
  refine TC.region ?_
  refine TL.move rfl rfl (v := .int .i64 n_1) rfl ?_
  refine TL.move rfl rfl (v := .int .i64 low1) rfl ?_
  refine TL.bin .i64 n_1 low1 rfl rfl rfl rfl (v := .bool (decide (n_1 ≥ low1))) rfl ?_
  refine TL.move rfl rfl (v := .bool (decide (n_1 ≥ low1))) rfl ?_
  refine TL.cutU 4 [(14, .bool ((decide (n_1 ≥ low1)) && (decide (n_1 ≤ high1)))), (0, .int .i64 n_1), (1, .int .i64 low1), (2, .int .i64 high1), (6, .bool false), (7, .int .i64 n_1), (8, .int .i64 low1), (9, .bool (decide (n_1 ≥ low1))), (10, .bool (decide (n_1 ≥ low1)))] [] ?_ ?_
  · refine TL.cases (t := 10) (b := (decide (n_1 ≥ low1))) rfl (fun c1 => ?_) (fun c2 => ?_)
    · refine TL.move rfl rfl (v := .int .i64 n_1) rfl ?_
      refine TL.move rfl rfl (v := .int .i64 high1) rfl ?_
      refine TL.bin .i64 n_1 high1 rfl rfl rfl rfl (v := .bool (decide (n_1 ≤ high1))) rfl ?_
      refine TL.pick rfl rfl (b := true) rfl (r := .bool (decide (n_1 ≤ high1))) rfl ?_
      refine TL.done ?_
      exact TC.nrm () () ⟨(by rw [c1]; rfl), rfl, rfl, rfl, rfl, rfl, rfl, rfl, (by rw [c1]; rfl), trivial⟩ [] rfl
    · refine TL.skip rfl rfl (by decide) ?_
      refine TL.skip rfl rfl (by decide) ?_
      refine TL.skip rfl rfl (by decide) ?_
      refine TL.pick rfl rfl (b := false) rfl (r := .bool false) rfl ?_
      refine TL.done ?_
      exact TC.nrm () () ⟨(by rw [c2]; rfl), rfl, rfl, rfl, rfl, rfl, rfl, rfl, (by rw [c2]; rfl), trivial⟩ [] rfl
  · refine TL.assign rfl rfl (v := .bool ((decide (n_1 ≥ low1)) && (decide (n_1 ≤ high1)))) rfl ?_
    refine TL.done ?_
    exact TC.retF (Fin.body (fin1 (.inr rfl) rfl (.tmp rfl) [] rfl ⟨rfl, rfl⟩))

end Go.Proofs.Ytnppkcemnjkboaa.G

/- impl.edgesOf, as a pure function. -/
set_option linter.unusedVariables false
namespace Go.Proofs.Ytnppkcemnjkboaa.G
open Go Go.Sx Go.Proofs

def impl_edgesOf.f (s1 : List (List Int)) : Option Int := some (w64 (Int.tdiv (w64 ((s1.length : Int) * 3)) 2))

def impl_edgesOf.R (r : Int) (v : Value) (L : List Asn) : Prop := v = .int .i64 r ∧ L = []

set_option maxRecDepth 100000 in
set_option maxHeartbeats 4000000 in
theorem impl_edgesOf.calls (w : World) (s2 : SV) (ss1 : List SV) (s1 : List (List Int)) (h1 : ReadsM Ei (hp w) s2 ss1 s1) :
    ∀ r, impl_edgesOf.f s1 = some r → Calls Try.prog 62 #[SV.v s2] w (Ret w (impl_edgesOf.R r)) := by

  refine calls_T (n := 7) (Γ := [(0, SV.v s2)]) (R := impl_edgesOf.R) Try.func62 rfl rfl (Nat.le_of_ble_eq_true rfl) ⟨rfl, trivial⟩ ?_
  unfold impl_edgesOf.f
  refine TC.seq ?_
  refine TC.region ?_
  refine TL.assign rfl rfl (v := .int .i64 0) rfl ?_
  refine TL.done ?_
  refine TC.seq ?_
  refine TC.region ?_
  refine TL.move rfl rfl (v := SV.v s2) rfl ?_
  refine TL.lenM (RdM.old h1) Try.underlying22 rfl rfl rfl ?_
  refine TL.bin .i64 (s1.length : Int) 3 rfl rfl rfl rfl (v := .int .i64 (w64 ((s1.length : Int) * 3))) rfl ?_
  refine TL.quo .i64 (w64 ((s1.length : Int) * 3)) 2 (by decide) rfl rfl rfl rfl ?_
  refine TL.assign rfl rfl (v := .int .i64 (w64 (Int.tdiv (w64 ((s1.length : Int) * 3)) 2))) rfl ?_
  refine TL.done ?_
  exact TC.retF (Fin.body (fin1 (.inr rfl) rfl (.tmp rfl) [] rfl ⟨rfl, rfl⟩))

end Go.Proofs.Ytnppkcemnjkboaa.G

/- impl.size, as a pure function. -/
set_option linter.unusedVariables false
namespace Go.Proofs.Ytnppkcemnjkboaa.G
open Go Go.Sx Go.Proofs

def impl_size.f (k_1 : Int) : Option Int := some (if (w64 (0 - k_1)) > k_1 then (w64 (0 - k_1)) else k_1)

def impl_size.R (r : Int) (v : Value) (L : List Asn) : Prop := v = .int .i64 r ∧ L = []

set_option maxRecDepth 100000 in
set_option maxHeartbeats 4000000 in
theorem impl_size.calls (w : World) (k_1 : Int) :
    ∀ r, impl_size.f k_1 = some r → Calls Try.prog 110 #[.int .i64 k_1] w (Ret w (impl_size.R r)) := by

  refine calls_T (n := 7) (Γ := [(0, .int .i64 k_1)]) (R := impl_size.R) Try.func110 rfl rfl (Nat.le_of_ble_eq_true rfl) ⟨rfl, trivial⟩ ?_
  unfold impl_size.f
  refine TC.seq ?_
  refine TC.region ?_
  refine TL.assign rfl rfl (v := .int .i64 0) rfl ?_
  refine TL.done ?_
  refine TC.seq ?_
  refine TC.region ?_
  refine TL.move rfl rfl (v := .int .i64 k_1) rfl ?_
  refine TL.move rfl rfl (v := .int .i64 k_1) rfl ?_
  refine TL.neg .i64 k_1 rfl rfl rfl ?_
  refine TL.max2 rfl rfl rfl rfl ?_
  refine TL.assign rfl rfl (v := .int .i64 (if (w64 (0 - k_1)) > k_1 then (w64 (0 - k_1)) else k_1)) rfl ?_
  refine TL.done ?_
  exact TC.retF (Fin.body (fin1 (.inr rfl) rfl (.tmp rfl) [] rfl ⟨rfl, rfl⟩))

end Go.Proofs.Ytnppkcemnjkboaa.G

/- impl.sidesOfEdges, as a pure function. -/
set_option linter.unusedVariables false
namespace Go.Proofs.Ytnppkcemnjkboaa.G
open Go Go.Sx Go.Proofs

def impl_sidesOfEdges.b0 (s1 : List (List Int)) (x1 : Int) : (List (List (Int × Int))) × Int → Option (LB ((List (List (Int × Int))) × Int)) := fun p => match p with | (out2, x2) => (bif (decide (x2 < ((gt s1 x1).length : Int))) then chk x2 ((gt s1 x1).length) ((G.impl_size.f (gt (gt s1 x1) x2)).bind (fun r_2 => chk r_2 out2.length (small ((gt out2 r_2).length + ([(x1, x2)] : List (Int × Int)).length) (some (.next ((out2.set r_2.toNat ((gt out2 r_2) ++ ([(x1, x2)] : List (Int × Int)))), (w64 (x2 + 1)))))))) else some (.brk (out2, x2)))

def impl_sidesOfEdges.b1 (s1 : List (List Int)) : (List (List (Int × Int))) × Int → Option (LB ((List (List (Int × Int))) × Int)) := fun p => match p with | (out1, x1) => (bif (decide (x1 < (s1.length : Int))) then chk x1 s1.length ((loop1 (impl_sidesOfEdges.b0 s1 x1) (out1, 0)).bind (fun p => match p with | (out2, x2) => some (.next (out2, (w64 (x1 + 1)))))) else some (.brk (out1, x1)))

def impl_sidesOfEdges.f (s1 : List (List Int)) : Option (List (List (Int × Int))) := (G.impl_edgesOf.f s1).bind (fun r_1 => grd (decide (0 ≤ (w64 (r_1 + 1)))) (small (w64 (r_1 + 1)).toNat ((loop1 (impl_sidesOfEdges.b1 s1) ((List.replicate (w64 (r_1 + 1)).toNat ([] : List (Int × Int))), 0)).bind (fun p => match p with | (out1, x1) => some out1))))

def impl_sidesOfEdges.R (r : List (List (Int × Int))) (v : Value) (L : List Asn) : Prop := ∃ (s0 : SV) (ss0 : List SV), v = SV.v s0 ∧ L = [mat Eii 68 64 s0 ss0 r]

set_option maxRecDepth 100000 in
set_option maxHeartbeats 4000000 in
theorem impl_sidesOfEdges.calls (w : World) (s2 : SV) (ss1 : List SV) (s1 : List (List Int)) (h1 : ReadsM Ei (hp w) s2 ss1 s1) :
    ∀ r, impl_sidesOfEdges.f s1 = some r → Calls Try.prog 74 #[SV.v s2] w (Ret w (impl_sidesOfEdges.R r)) := by

  refine calls_T (n := 43) (Γ := [(0, SV.v s2)]) (R := impl_sidesOfEdges.R) Try.func74 rfl rfl (Nat.le_of_ble_eq_true rfl) ⟨rfl, trivial⟩ ?_
  unfold impl_sidesOfEdges.f
  refine TC.seq ?_
  refine TC.region ?_
  refine TL.assign rfl rfl (v := SV.v ⟨none, 0, 0⟩) rfl ?_
  refine TL.done ?_
  refine TC.seq ?_
  refine TC.region ?_
  refine TL.move rfl rfl (v := SV.v s2) rfl ?_
  refine TL.call (R := G.impl_edgesOf.R) Try.call62 rfl rfl rfl (fun w hS => G.impl_edgesOf.calls w s2 ss1 s1 ((RdM.old h1) w hS)) ?_
  rintro r_1 _ _ ⟨rfl, rfl⟩
  refine TL.bin .i64 r_1 1 rfl rfl rfl rfl (v := .int .i64 (w64 (r_1 + 1))) rfl ?_
  refine TL.grd fun h3 => ?_
  refine TL.small fun h2 => ?_
  refine TL.mkslice Ev (⟨none, 0, 0⟩ : SV) (w64 (r_1 + 1)) Try.underlying65 (info_of Try.type64) (zv := (Try.t64.zero.getD (.bool false))) rfl rfl rfl (by simp [Ev]) (by decide) (by simpa using h3) (by omega) rfl rfl rfl rfl fun s3 => ?_
  refine TL.rowsRep Eii 68 ((w64 (r_1 + 1)).toNat) ?_
  refine TL.matmk 1 0 rfl rfl ?_
  refine TL.drop 1 rfl ?_
  refine TL.asL [mat Eii 68 64 s3 (List.replicate (w64 (r_1 + 1)).toNat (⟨none, 0, 0⟩ : SV)) (List.replicate (w64 (r_1 + 1)).toNat ([] : List (Int × Int)))] rfl ?_
  refine TL.assign rfl rfl (v := SV.v s3) rfl ?_
  refine TL.done ?_
  refine TC.seq ?_
  refine TC.seq ?_
  refine TC.region ?_
  refine TL.move rfl rfl (v := SV.v s2) rfl ?_
  refine TL.lenM (RdM.old h1) Try.underlying22 rfl rfl rfl ?_
  refine TL.move rfl rfl (v := .int .i64 0) rfl ?_
  refine TL.done ?_
  refine TC.loop1 (σ := (List (List (Int × Int))) × Int) (γ := (List SV)) (Γ' := (fun p q => match p, q with | (out1, x1), ss2 => [(3, SV.v s3), (12, SV.v s2), (13, .int .i64 (s1.length : Int)), (14, .int .i64 x1)])) (L' := (fun p q => match p, q with | (out1, x1), ss2 => [mat Eii 68 64 s3 ss2 out1])) (Γb := (fun p q => match p, q with | (out1, x1), ss2 => [(3, SV.v s3), (12, SV.v s2), (13, .int .i64 (s1.length : Int)), (14, .int .i64 x1)])) (Lb := (fun p q => match p, q with | (out1, x1), ss2 => [mat Eii 68 64 s3 ss2 out1])) (((List.replicate (w64 (r_1 + 1)).toNat ([] : List (Int × Int))), 0)) ((List.replicate (w64 (r_1 + 1)).toNat (⟨none, 0, 0⟩ : SV))) ⟨rfl, rfl, rfl, rfl, trivial⟩ [0] rfl ?_ ?_
  · rintro ⟨out1, x1⟩ ss2
    refine TC.seq ?_
    refine TC.region ?_
    refine TL.bin .i64 x1 (s1.length : Int) rfl rfl rfl rfl (v := .bool (decide (x1 < (s1.length : Int)))) rfl ?_
    refine TL.done ?_
    refine TC.seq ?_
    refine TC.cond (b := (decide (x1 < (s1.length : Int)))) rfl (fun c1 => ?_) (fun c2 => ?_)
    · refine TC.skip ?_
      refine TC.seq ?_
      refine TC.block (NoEx.loop1 rfl) ?_
      refine TC.seq ?_
      refine TC.region ?_
      refine TL.move rfl rfl (v := .int .i64 x1) rfl ?_
      refine TL.chk fun h4 => ?_
      refine TL.ixsM x1 x1.toNat (RdM.old h1) h4 Try.underlying22 Try.sizeOf53 rfl rfl rfl rfl (by omega) ?_
      refine TL.loadM2 (RdM.old h1) Try.isAgg53 x1 h4 (by omega) rfl rfl rfl ?_
      refine TL.assign rfl rfl (v := .int .i64 x1) rfl ?_
      refine TL.assign rfl rfl (v := SV.v (gt ss1 x1)) rfl ?_
      refine TL.done ?_
      refine TC.seq ?_
      refine TC.region ?_
      refine TL.move rfl rfl (v := SV.v (gt ss1 x1)) rfl ?_
      refine TL.len (RdM.inn (RdM.old h1) h4) Try.underlying53 rfl rfl rfl ?_
      refine TL.move rfl rfl (v := .int .i64 0) rfl ?_
      refine TL.done ?_
      refine TC.loop1 (σ := (List (List (Int × Int))) × Int) (γ := (List SV)) (Γ' := (fun p q => match p, q with | (out2, x2), ss3 => [(3, SV.v s3), (4, .int .i64 x1), (12, SV.v s2), (13, .int .i64 (s1.length : Int)), (14, .int .i64 x1), (19, SV.v (gt ss1 x1)), (20, .int .i64 ((gt s1 x1).length : Int)), (21, .int .i64 x2)])) (L' := (fun p q => match p, q with | (out2, x2), ss3 => [mat Eii 68 64 s3 ss3 out2])) (Γb := (fun p q => match p, q with | (out2, x2), ss3 => [(3, SV.v s3), (4, .int .i64 x1), (12, SV.v s2), (13, .int .i64 (s1.length : Int)), (14, .int .i64 x1), (19, SV.v (gt ss1 x1)), (20, .int .i64 ((gt s1 x1).length : Int)), (21, .int .i64 x2)])) (Lb := (fun p q => match p, q with | (out2, x2), ss3 => [mat Eii 68 64 s3 ss3 out2])) ((out1, 0)) (ss2) ⟨rfl, rfl, rfl, rfl, rfl, rfl, rfl, rfl, trivial⟩ [0] rfl ?_ ?_
      · rintro ⟨out2, x2⟩ ss3
        refine TC.seq ?_
        refine TC.region ?_
        refine TL.bin .i64 x2 ((gt s1 x1).length : Int) rfl rfl rfl rfl (v := .bool (decide (x2 < ((gt s1 x1).length : Int)))) rfl ?_
        refine TL.done ?_
        refine TC.seq ?_
        refine TC.cond (b := (decide (x2 < ((gt s1 x1).length : Int)))) rfl (fun c3 => ?_) (fun c4 => ?_)
        · refine TC.skip ?_
          refine TC.seq ?_
          refine TC.block (NoEx.loop1 rfl) ?_
          refine TC.seq ?_
          refine TC.region ?_
          refine TL.move rfl rfl (v := .int .i64 x2) rfl ?_
          refine TL.chk fun h5 => ?_
          refine TL.ixs x2 x2.toNat (RdM.inn (RdM.old h1) h4) h5 Try.underlying53 Try.sizeOf2 rfl rfl rfl rfl (by omega) ?_
          refine TL.loadE (RdM.inn (RdM.old h1) h4) Try.isAgg2 x2.toNat 0 (gt_spec h5) (v := .int .i64 (gt (gt s1 x1) x2)) rfl (by simp only [show Ei.sz = 1 from rfl]; omega) rfl rfl rfl ?_
          refine TL.assign rfl rfl (v := .int .i64 x2) rfl ?_
          refine TL.assign rfl rfl (v := .int .i64 (gt (gt s1 x1) x2)) rfl ?_
          refine TL.done ?_
          refine TC.region ?_
          refine TL.move rfl rfl (v := SV.v s3) rfl ?_
          refine TL.move rfl rfl (v := .int .i64 (gt (gt s1 x1) x2)) rfl ?_
          refine TL.bindE ?_
          rintro r_2 hr1
          refine TL.callH (R := G.impl_size.R) hr1 Try.call110 rfl rfl rfl (fun w hS => G.impl_size.calls w (gt (gt s1 x1) x2)) ?_
          rintro _ _ ⟨rfl, rfl⟩
          refine TL.move rfl rfl (v := SV.v s3) rfl ?_
          refine TL.move rfl rfl (v := .int .i64 (gt (gt s1 x1) x2)) rfl ?_
          refine TL.callH (R := G.impl_size.R) hr1 Try.call110 rfl rfl rfl (fun w hS => G.impl_size.calls w (gt (gt s1 x1) x2)) ?_
          rintro _ _ ⟨rfl, rfl⟩
          refine TL.chk fun h6 => ?_
          refine TL.ixsM r_2 r_2.toNat (RdM.mat 0 rfl) h6 Try.underlying65 Try.sizeOf64 rfl rfl rfl rfl (by omega) ?_
          refine TL.loadM2 (RdM.mat 0 rfl) Try.isAgg64 r_2 h6 (by omega) rfl rfl rfl ?_
          refine TL.move rfl rfl (v := .int .i64 x1) rfl ?_
          refine TL.move rfl rfl (v := .int .i64 x2) rfl ?_
          refine TL.buildS (segs0 := [.one (.int .i64 0), .one (.int .i64 0)]) (segs := [.one (.int .i64 x1), .one (.int .i64 x2)]) [1, 1] Try.underlying68 ⟨Try.sizeOf3, Try.sizeOf3, trivial⟩ Try.zeroValue68 rfl [(0, .int .i64 x1), (1, .int .i64 x2)] rfl (fun pl hpl => by subst hpl; exact fill_one 0 rfl rfl rfl rfl (fill_one 1 rfl rfl rfl rfl (rfl))) rfl rfl ?_
          refine TL.blit Eii ([(x1, x2)] : List (Int × Int)) Try.underlying64 Try.sizeOf68 Try.zeroValue68 rfl rfl rfl [(0, sval [.one (.int .i64 x1), .one (.int .i64 x2)])] rfl ⟨rfl, rfl, trivial⟩ rfl rfl fun s4 => ?_
          refine TL.matopen 1 r_2 rfl h6 ?_
          refine TL.small fun h7 => ?_
          refine TL.append 0 rfl (Rd.row 1 rfl) Try.underlying64 (info_of Try.type68) (zv := (Try.t68.zero.getD (.bool false))) rfl rfl rfl (by decide) h7 rfl rfl rfl rfl fun s5 => ?_
          refine TL.ixsX r_2 r_2.toNat 2 rfl h6 Try.underlying65 Try.sizeOf64 rfl rfl rfl rfl (by omega) ?_
          refine TL.matXlen 2 rfl fun h8 => ?_
          refine TL.matXcut 2 rfl ?_
          refine TL.stE 0 (r_2.toNat) s5 (v := SV.v s5) rfl Try.sizeOf64 rfl rfl rfl (by have h_ := h6; have l_ := h8; (try simp only [List.length_set] at h_ l_ ⊢); omega) (by simp only [show Ev.sz = 1 from rfl]; omega) rfl rfl rfl ?_
          refine TL.rowsPut 1 3 rfl rfl ?_
          refine TL.matmk 0 3 rfl rfl ?_
          refine TL.drop 0 rfl ?_
          refine TL.asL [emp, row Eii 68 s4 ([(x1, x2)] : List (Int × Int)), mat Eii 68 64 s3 (ss3.set r_2.toNat s5) (out2.set r_2.toNat ((gt out2 r_2) ++ ([(x1, x2)] : List (Int × Int))))] rfl ?_
          refine TL.done ?_
          refine TC.region ?_
          refine TL.bin .i64 x2 1 rfl rfl rfl rfl (v := .int .i64 (w64 (x2 + 1))) rfl ?_
          refine TL.move rfl rfl (v := .int .i64 (w64 (x2 + 1))) rfl ?_
          refine TL.done ?_
          exact TC.next1 (((out2.set r_2.toNat ((gt out2 r_2) ++ ([(x1, x2)] : List (Int × Int)))), (w64 (x2 + 1)))) ((ss3.set r_2.toNat s5)) ⟨rfl, rfl, rfl, rfl, rfl, rfl, rfl, rfl, trivial⟩ [2] rfl
        · exact TC.brk1 ((out2, x2)) (ss3) ⟨rfl, rfl, rfl, rfl, rfl, rfl, rfl, rfl, trivial⟩ [0] rfl
      · rintro ⟨out2, x2⟩ ss3
        refine TC.region ?_
        refine TL.bin .i64 x1 1 rfl rfl rfl rfl (v := .int .i64 (w64 (x1 + 1))) rfl ?_
        refine TL.move rfl rfl (v := .int .i64 (w64 (x1 + 1))) rfl ?_
        refine TL.done ?_
        exact TC.next1 ((out2, (w64 (x1 + 1)))) (ss3) ⟨rfl, rfl, rfl, rfl, trivial⟩ [0] rfl
    · exact TC.brk1 ((out1, x1)) (ss2) ⟨rfl, rfl, rfl, rfl, trivial⟩ [0] rfl
  · rintro ⟨out1, x1⟩ ss2
    refine TC.seq ?_
    refine TC.region ?_
    refine TL.move rfl rfl (v := SV.v s3) rfl ?_
    refine TL.assign rfl rfl (v := SV.v s3) rfl ?_
    refine TL.done ?_
    exact TC.retF (Fin.body (fin1 (.inr rfl) rfl (.tmp rfl) [0] rfl ⟨s3, ss2, rfl, rfl⟩))

end Go.Proofs.Ytnppkcemnjkboaa.G

/- slices.IndexFunc[[]int64,int64], as a pure function. -/
set_option linter.unusedVariables false
namespace Go.Proofs.Ytnppkcemnjkboaa.G
open Go Go.Sx Go.Proofs

def slices_IndexFunc_int64_int64.b0 (s1 : List Int) (f2 : Int → Option Bool) : Int → Option (LR Int Int) := fun x1 => (bif (decide (x1 < (s1.length : Int))) then chk x1 s1.length ((f2 (gt s1 x1)).bind (fun r_1 => (bif r_1 then some (.ret (x1)) else some (.next (w64 (x1 + 1)))))) else some (.brk x1))

def slices_IndexFunc_int64_int64.f (s1 : List Int) (f2 : Int → Option Bool) : Option Int := (loop (slices_IndexFunc_int64_int64.b0 s1 f2) 0).bind (ln (fun x1 => some (-1)))

def slices_IndexFunc_int64_int64.R (r : Int) (v : Value) (L : List Asn) : Prop := v = .int .i64 r ∧ L = []

set_option maxRecDepth 100000 in
set_option maxHeartbeats 4000000 in
theorem slices_IndexFunc_int64_int64.calls (w : World) (s2 : SV) (s1 : List Int) (f1 : Nat) (fst1 : List Value) (cap1 : List Value) (f2 : Int → Option Bool) (h1 : Reads Ei (hp w) s2 s1) (hc1 : ∀ (args_ : Array Value) (w_ : World), (callFunc f1 args_).run Try.prog w_ = .ok (.enter f1 args_) w_) (hf1 : ∀ w_, Hle (hp w) (hp w_) → ∀ (x0_ : Int), ∀ r_, f2 x0_ = some r_ → Calls Try.prog f1 (fst1 ++ ([.int .i64 x0_] : List Value) ++ cap1).toArray w_ (Ret w_ (fun (v_ : Value) (L_ : List Asn) => v_ = .bool r_ ∧ L_ = []))) :
    ∀ r, slices_IndexFunc_int64_int64.f s1 f2 = some r → Calls Try.prog 112 #[SV.v s2, .func (.func f1) fst1.toArray cap1.toArray] w (Ret w (slices_IndexFunc_int64_int64.R r)) := by

  refine calls_T (n := 19) (Γ := [(0, SV.v s2), (1, .func (.func f1) fst1.toArray cap1.toArray)]) (R := slices_IndexFunc_int64_int64.R) Try.func112 rfl rfl (Nat.le_of_ble_eq_true rfl) ⟨rfl, rfl, trivial⟩ ?_
  unfold slices_IndexFunc_int64_int64.f
  refine TC.seq ?_
  refine TC.region ?_
  refine TL.assign rfl rfl (v := .int .i64 0) rfl ?_
  refine TL.done ?_
  refine TC.seq ?_
  refine TC.seq ?_
  refine TC.region ?_
  refine TL.move rfl rfl (v := SV.v s2) rfl ?_
  refine TL.len (Rd.old h1) Try.underlying53 rfl rfl rfl ?_
  refine TL.move rfl rfl (v := .int .i64 0) rfl ?_
  refine TL.done ?_
  refine TC.loopK (σ := Int) (γ := Unit) (Γ' := (fun x1 _ => [(0, SV.v s2), (1, .func (.func f1) fst1.toArray cap1.toArray), (7, .int .i64 (s1.length : Int)), (8, .int .i64 x1)])) (L' := (fun x1 _ => [])) (Γb := (fun x1 _ => [(0, SV.v s2), (1, .func (.func f1) fst1.toArray cap1.toArray), (7, .int .i64 (s1.length : Int)), (8, .int .i64 x1)])) (Lb := (fun x1 _ => [])) (0) (()) ⟨rfl, rfl, rfl, rfl, trivial⟩ [] rfl ?_ ?_
  · rintro x1 _
    refine TC.seq ?_
    refine TC.region ?_
    refine TL.bin .i64 x1 (s1.length : Int) rfl rfl rfl rfl (v := .bool (decide (x1 < (s1.length : Int)))) rfl ?_
    refine TL.done ?_
    refine TC.seq ?_
    refine TC.cond (b := (decide (x1 < (s1.length : Int)))) rfl (fun c1 => ?_) (fun c2 => ?_)
    · refine TC.skip ?_
      refine TC.seq ?_
      refine TC.block (NoEx.loop rfl NoEx.body) ?_
      refine TC.seq ?_
      refine TC.region ?_
      refine TL.move rfl rfl (v := .int .i64 x1) rfl ?_
      refine TL.assign rfl rfl (v := .int .i64 x1) rfl ?_
      refine TL.done ?_
      refine TC.seq ?_
      refine TC.region ?_
      refine TL.move rfl rfl (v := .func (.func f1) fst1.toArray cap1.toArray) rfl ?_
      refine TL.move rfl rfl (v := SV.v s2) rfl ?_
      refine TL.move rfl rfl (v := .int .i64 x1) rfl ?_
      refine TL.chk fun h2 => ?_
      refine TL.ixs x1 x1.toNat (Rd.old h1) h2 Try.underlying53 Try.sizeOf2 rfl rfl rfl rfl (by omega) ?_
      refine TL.loadE (Rd.old h1) Try.isAgg2 x1.toNat 0 (gt_spec h2) (v := .int .i64 (gt s1 x1)) rfl (by simp only [show Ei.sz = 1 from rfl]; omega) rfl rfl rfl ?_
      refine TL.callv (R := (fun r_ => (fun (v_ : Value) (L_ : List Asn) => v_ = .bool r_ ∧ L_ = []))) (vs := [.int .i64 (gt s1 x1)]) hc1 rfl rfl rfl rfl (fun w hS => hf1 w hS.iw (gt s1 x1)) ?_
      rintro r_1 _ _ ⟨rfl, rfl⟩
      refine TL.done ?_
      refine TC.cond (b := r_1) rfl (fun c3 => ?_) (fun c4 => ?_)
      · refine TC.seq ?_
        refine TC.region ?_
        refine TL.move rfl rfl (v := .int .i64 x1) rfl ?_
        refine TL.assign rfl rfl (v := .int .i64 x1) rfl ?_
        refine TL.done ?_
        exact TC.retF (Fin.loop Far.ret (Fin.body (fin1 (.inr rfl) rfl (.tmp rfl) [] rfl ⟨rfl, rfl⟩)))
      · refine TC.skip ?_
        refine TC.region ?_
        refine TL.bin .i64 x1 1 rfl rfl rfl rfl (v := .int .i64 (w64 (x1 + 1))) rfl ?_
        refine TL.move rfl rfl (v := .int .i64 (w64 (x1 + 1))) rfl ?_
        refine TL.done ?_
        exact TC.next ((w64 (x1 + 1))) (()) ⟨rfl, rfl, rfl, rfl, trivial⟩ [] rfl
    · exact TC.brk (x1) (()) ⟨rfl, rfl, rfl, rfl, trivial⟩ [] rfl
  · rintro x1 _
    refine TC.seq ?_
    refine TC.region ?_
    refine TL.assign rfl rfl (v := .int .i64 (-1)) rfl ?_
    refine TL.done ?_
    exact TC.retF (Fin.body (fin1 (.inr rfl) rfl (.tmp rfl) [] rfl ⟨rfl, rfl⟩))

end Go.Proofs.Ytnppkcemnjkboaa.G

/- slices.ContainsFunc[[]int64,int64], as a pure function. -/
set_option linter.unusedVariables false
namespace Go.Proofs.Ytnppkcemnjkboaa.G
open Go Go.Sx Go.Proofs

def slices_ContainsFunc_int64_int64.f (s1 : List Int) (f2 : Int → Option Bool) : Option Bool := (G.slices_IndexFunc_int64_int64.f s1 f2).bind (fun r_1 => some (decide (r_1 ≥ 0)))

def slices_ContainsFunc_int64_int64.R (r : Bool) (v : Value) (L : List Asn) : Prop := v = .bool r ∧ L = []

set_option maxRecDepth 100000 in
set_option maxHeartbeats 4000000 in
theorem slices_ContainsFunc_int64_int64.calls (w : World) (s2 : SV) (s1 : List Int) (f1 : Nat) (fst1 : List Value) (cap1 : List Value) (f2 : Int → Option Bool) (h1 : Reads Ei (hp w) s2 s1) (hc1 : ∀ (args_ : Array Value) (w_ : World), (callFunc f1 args_).run Try.prog w_ = .ok (.enter f1 args_) w_) (hf1 : ∀ w_, Hle (hp w) (hp w_) → ∀ (x0_ : Int), ∀ r_, f2 x0_ = some r_ → Calls Try.prog f1 (fst1 ++ ([.int .i64 x0_] : List Value) ++ cap1).toArray w_ (Ret w_ (fun (v_ : Value) (L_ : List Asn) => v_ = .bool r_ ∧ L_ = []))) :
    ∀ r, slices_ContainsFunc_int64_int64.f s1 f2 = some r → Calls Try.prog 77 #[SV.v s2, .func (.func f1) fst1.toArray cap1.toArray] w (Ret w (slices_ContainsFunc_int64_int64.R r)) := by

  refine calls_T (n := 9) (Γ := [(0, SV.v s2), (1, .func (.func f1) fst1.toArray cap1.toArray)]) (R := slices_ContainsFunc_int64_int64.R) Try.func77 rfl rfl (Nat.le_of_ble_eq_true rfl) ⟨rfl, rfl, trivial⟩ ?_
  unfold slices_ContainsFunc_int64_int64.f
  refine TC.seq ?_
  refine TC.region ?_
  refine TL.assign rfl rfl (v := .bool false) rfl ?_
  refine TL.done ?_
  refine TC.seq ?_
  refine TC.region ?_
  refine TL.move rfl rfl (v := SV.v s2) rfl ?_
  refine TL.move rfl rfl (v := .func (.func f1) fst1.toArray cap1.toArray) rfl ?_
  refine TL.call (R := G.slices_IndexFunc_int64_int64.R) Try.call112 rfl rfl rfl (fun w hS => G.slices_IndexFunc_int64_int64.calls w s2 s1 f1 fst1 cap1 f2 ((Rd.old h1) w hS) hc1 (fun w_ hle_ => hf1 w_ (hS.iw.trans hle_))) ?_
  rintro r_1 _ _ ⟨rfl, rfl⟩
  refine TL.bin .i64 r_1 0 rfl rfl rfl rfl (v := .bool (decide (r_1 ≥ 0))) rfl ?_
  refine TL.assign rfl rfl (v := .bool (decide (r_1 ≥ 0))) rfl ?_
  refine TL.done ?_
  exact TC.retF (Fin.body (fin1 (.inr rfl) rfl (.tmp rfl) [] rfl ⟨rfl, rfl⟩))

end Go.Proofs.Ytnppkcemnjkboaa.G

/- impl.IsSurface$1, as a pure function. -/
set_option linter.unusedVariables false
namespace Go.Proofs.Ytnppkcemnjkboaa.G
open Go Go.Sx Go.Proofs

def impl_IsSurface_1.f (k_1 : Int) (c1 : List (List Int)) : Option Bool := (bif (k_1 == 0) then some true else (G.impl_edgesOf.f c1).bind (fun r_1 => (G.impl_in.f k_1 (w64 (0 - r_1)) r_1).bind (fun r_3 => some (!r_3))))

def impl_IsSurface_1.R (r : Bool) (v : Value) (L : List Asn) : Prop := v = .bool r ∧ L = []

set_option maxRecDepth 100000 in
set_option maxHeartbeats 4000000 in
theorem impl_IsSurface_1.calls (w : World) (k_1 : Int) (b_1 : Nat) (s1 : SV) (ss1 : List SV) (c1 : List (List Int)) (h2 : At (hp w) b_1 [.one (SV.v s1)]) (h1 : ReadsM Ei (hp w) s1 ss1 c1) :
    ∀ r, impl_IsSurface_1.f k_1 c1 = some r → Calls Try.prog 86 #[.int .i64 k_1, bp b_1 0] w (Ret w (impl_IsSurface_1.R r)) := by

  refine calls_T (n := 16) (Γ := [(0, .int .i64 k_1), (1, bp b_1 0)]) (R := impl_IsSurface_1.R) Try.func86 rfl rfl (Nat.le_of_ble_eq_true rfl) ⟨rfl, rfl, trivial⟩ ?_
  unfold impl_IsSurface_1.f
  refine TC.seq ?_
  refine TC.region ?_
  refine TL.assign rfl rfl (v := .bool false) rfl ?_
  refine TL.done ?_
  refine TC.seq ?_
  refine TC.ifB (k_1 == 0) (fun c2 => ?_) (fun c2 => ?_)
  · refine TC.wk (Γ' := [(0, .int .i64 k_1), (1, bp b_1 0)]) ⟨rfl, rfl, trivial⟩ ?_
    refine TC.drawG [(0, .int .i64 k_1), (1, bp b_1 0)] [] ⟨rfl, rfl, trivial⟩ trivial (fun l_ g2 => []) (fun g2 => [.int .i64 k_1, .bool true, .bool true, undef, undef, undef, undef, undef, undef, undef, undef, .bool true, .bool true]) [[], [0], [0, 1], [0, 1, 2], [0, 1, 2], [0, 1, 2, 4], [0, 1, 2, 4, 5], [0, 1, 2], [0, 1, 2, 4, 5, 7], [0, 1, 2, 3, 4, 5, 6, 7, 8], [0, 1, 2, 3, 4, 5, 6, 7, 8, 9], [0, 1, 2, 3, 4, 5, 6, 7, 8, 9, 10], [0, 1, 2, 3, 4, 5, 6, 7, 8, 9, 10, 11]] [[some false, some false, some false, some false, some false, some false, some false, some false, some false, some false, some false, some false, some false], [some true, some false, some false, some false, some false, some false, some false, some false, some false, some false, some false, some false, some false], [some true, some true, some false, some false, some false, some false, some false, some false, some false, some false, some false, some false, some false], [some true, some true, some true, some false, none, none, none, none, none, some false, some false, some false, some false], [some true, some true, some true, none, some false, some false, some false, none, some false, some false, some false, some false, some false], [some true, some true, some true, none, some true, some false, some false, none, some false, some false, some false, some false, some false], [some true, some true, some true, none, some true, some true, some false, none, none, some false, some false, some false, some false], [some true, some true, some true, none, none, none, none, some false, some false, some false, some false, some false, some false], [some true, some true, some true, none, some true, some true, none, some true, some false, some false, some false, some false, some false], [some true, some true, some true, some true, some true, some true, some true, some true, some true, some false, some false, some false, some false], [some true, some true, some true, some true, some true, some true, some true, some true, some true, some true, some false, some false, some false], [some true, some true, some true, some true, some true, some true, some true, some true, some true, some true, some true, some false, some false], [some true, some true, some true, some true, some true, some true, some true, some true, some true, some true, some true, some true, some false]] (by kernel_rfl) (fun _ => rfl) rfl rfl rfl rfl rfl (fun _ _ => ⟨⟨⟨⟨⟨⟨⟨⟨⟨⟨⟨⟨⟨trivial, rfl⟩, rfl⟩, rfl⟩, rfl⟩, rfl⟩, rfl⟩, rfl⟩, rfl⟩, rfl⟩, rfl⟩, rfl⟩, rfl⟩, rfl⟩) 0 [] (fun _ => rfl) ?_ ?_
    · refine ⟨rfl, ?_, rfl, ?_, rfl, ?_, rfl, ?_, rfl, ?_, rfl, ?_, rfl, ?_, rfl, ?_, rfl, ?_, rfl, ?_, rfl, ?_, rfl, ?_, rfl, ?_, trivial⟩
      · intro g2
        refine TL.move rfl rfl (v := .int .i64 k_1) rfl ?_
        refine TL.done ?_
        exact TC.nrm () [] ⟨rfl, trivial⟩ [] rfl
      · intro g2
        refine TL.bin .i64 k_1 0 rfl rfl rfl rfl (v := .bool (k_1 == 0)) rfl ?_
        refine TL.done ?_
        exact TC.nrm () [] ⟨(by rw [c2]; rfl), trivial⟩ [] rfl
      · intro g2
        refine TL.move rfl rfl (v := .bool true) rfl ?_
        refine TL.done ?_
        exact TC.nrm () [] ⟨rfl, trivial⟩ [] rfl
      · intro b4_ b5_ b6_ b7_ b8_ g2
        refine TL.skip rfl rfl (by decide) ?_
        refine TL.done ?_
        exact TC.nrm () [] ⟨rfl, trivial⟩ [] rfl
      · intro b3_ b7_ g2
        refine TL.asL [] rfl ?_
        refine TL.skip rfl rfl (by decide) ?_
        refine TL.done ?_
        exact TC.nrm () [] ⟨rfl, trivial⟩ [] rfl
      · intro b3_ b7_ g2
        refine TL.asL [] rfl ?_
        refine TL.skip rfl rfl (by decide) ?_
        refine TL.done ?_
        exact TC.nrm () [] ⟨rfl, trivial⟩ [] rfl
      · intro b3_ b7_ b8_ g2
        refine TL.skip rfl rfl (by decide) ?_
        refine TL.done ?_
        exact TC.nrm () [] ⟨rfl, trivial⟩ [] rfl
      · intro b3_ b4_ b5_ b6_ g2
        refine TL.asL [] rfl ?_
        refine TL.skip rfl rfl (by decide) ?_
        refine TL.done ?_
        exact TC.nrm () [] ⟨rfl, trivial⟩ [] rfl
      · intro b3_ b6_ g2
        refine TL.asL [] rfl ?_
        refine TL.skip rfl rfl (by decide) ?_
        refine TL.done ?_
        exact TC.nrm () [] ⟨rfl, trivial⟩ [] rfl
      · intro g2
        refine TL.asL [] rfl ?_
        refine TL.skip rfl rfl (by decide) ?_
        refine TL.done ?_
        exact TC.nrm () [] ⟨rfl, trivial⟩ [] rfl
      · intro g2
        refine TL.skip rfl rfl (by decide) ?_
        refine TL.done ?_
        exact TC.nrm () [] ⟨rfl, trivial⟩ [] rfl
      · intro g2
        refine TL.pick rfl rfl (b := true) rfl (r := .bool true) rfl ?_
        refine TL.done ?_
        exact TC.nrm () [] ⟨rfl, trivial⟩ [] rfl
      · intro g2
        refine TL.assign rfl rfl (v := .bool true) rfl ?_
        refine TL.done ?_
        exact TC.nrm () [] ⟨rfl, trivial⟩ [] rfl
    · intro g2
      refine TC.asL [] rfl ?_
      exact TC.retF (Fin.body (fin1 (.inr rfl) rfl (.tmp rfl) [] rfl ⟨rfl, rfl⟩))
  · refine TC.wk (Γ' := [(0, .int .i64 k_1), (1, bp b_1 0)]) ⟨rfl, rfl, trivial⟩ ?_
    refine TC.bindE ?_
    rintro r_1 hr1
    refine TC.bindE ?_
    rintro r_3 hr2
    refine TC.drawG [(0, .int .i64 k_1), (1, bp b_1 0)] [] ⟨rfl, rfl, trivial⟩ trivial (fun l_ g3 => []) (fun g3 => [.int .i64 k_1, .bool false, .bool false, .int .i64 k_1, SV.v s1, .int .i64 r_1, .int .i64 (w64 (0 - r_1)), SV.v s1, .int .i64 r_1, .bool r_3, .bool (!r_3), .bool (!r_3), .bool (!r_3)]) [[], [0], [0, 1], [0, 1, 2], [0, 1, 2], [0, 1, 2, 4], [0, 1, 2, 4, 5], [0, 1, 2], [0, 1, 2, 4, 5, 7], [0, 1, 2, 3, 4, 5, 6, 7, 8], [0, 1, 2, 3, 4, 5, 6, 7, 8, 9], [0, 1, 2, 3, 4, 5, 6, 7, 8, 9, 10], [0, 1, 2, 3, 4, 5, 6, 7, 8, 9, 10, 11]] [[some false, some false, some false, some false, some false, some false, some false, some false, some false, some false, some false, some false, some false], [some true, some false, some false, some false, some false, some false, some false, some false, some false, some false, some false, some false, some false], [some true, some true, some false, some false, some false, some false, some false, some false, some false, some false, some false, some false, some false], [some true, some true, some true, some false, none, none, none, none, none, some false, some false, some false, some false], [some true, some true, some true, none, some false, some false, some false, none, some false, some false, some false, some false, some false], [some true, some true, some true, none, some true, some false, some false, none, some false, some false, some false, some false, some false], [some true, some true, some true, none, some true, some true, some false, none, none, some false, some false, some false, some false], [some true, some true, some true, none, none, none, none, some false, some false, some false, some false, some false, some false], [some true, some true, some true, none, some true, some true, none, some true, some false, some false, some false, some false, some false], [some true, some true, some true, some true, some true, some true, some true, some true, some true, some false, some false, some false, some false], [some true, some true, some true, some true, some true, some true, some true, some true, some true, some true, some false, some false, some false], [some true, some true, some true, some true, some true, some true, some true, some true, some true, some true, some true, some false, some false], [some true, some true, some true, some true, some true, some true, some true, some true, some true, some true, some true, some true, some false]] (by kernel_rfl) (fun _ => rfl) rfl rfl rfl rfl rfl (fun _ _ => ⟨⟨⟨⟨⟨⟨⟨⟨⟨⟨⟨⟨⟨trivial, rfl⟩, rfl⟩, rfl⟩, rfl⟩, rfl⟩, rfl⟩, rfl⟩, rfl⟩, rfl⟩, rfl⟩, rfl⟩, rfl⟩, rfl⟩) 0 [] (fun _ => rfl) ?_ ?_
    · refine ⟨rfl, ?_, rfl, ?_, rfl, ?_, rfl, ?_, rfl, ?_, rfl, ?_, rfl, ?_, rfl, ?_, rfl, ?_, rfl, ?_, rfl, ?_, rfl, ?_, rfl, ?_, trivial⟩
      · intro g3
        refine TL.move rfl rfl (v := .int .i64 k_1) rfl ?_
        refine TL.done ?_
        exact TC.nrm () [] ⟨rfl, trivial⟩ [] rfl
      · intro g3
        refine TL.bin .i64 k_1 0 rfl rfl rfl rfl (v := .bool (k_1 == 0)) rfl ?_
        refine TL.done ?_
        exact TC.nrm () [] ⟨(by rw [c2]; rfl), trivial⟩ [] rfl
      · intro g3
        refine TL.move rfl rfl (v := .bool false) rfl ?_
        refine TL.done ?_
        exact TC.nrm () [] ⟨rfl, trivial⟩ [] rfl
      · intro b4_ b5_ b6_ b7_ b8_ g3
        refine TL.move rfl rfl (v := .int .i64 k_1) rfl ?_
        refine TL.done ?_
        exact TC.nrm () [] ⟨rfl, trivial⟩ [] rfl
      · intro b3_ b7_ g3
        refine TL.asL [] rfl ?_
        refine TL.load1 0 (Src.at h2) Try.isAgg22 rfl rfl rfl rfl rfl ?_
        refine TL.done ?_
        exact TC.nrm () [] ⟨rfl, trivial⟩ [] rfl
      · intro b3_ b7_ g3
        refine TL.asL [] rfl ?_
        refine TL.callH (R := G.impl_edgesOf.R) hr1 Try.call62 rfl rfl rfl (fun w hS => G.impl_edgesOf.calls w s1 ss1 c1 ((RdM.old h1) w hS)) ?_
        rintro _ _ ⟨rfl, rfl⟩
        refine TL.done ?_
        exact TC.nrm () [] ⟨rfl, trivial⟩ [] rfl
      · intro b3_ b7_ b8_ g3
        refine TL.neg .i64 r_1 rfl rfl rfl ?_
        refine TL.done ?_
        exact TC.nrm () [] ⟨rfl, trivial⟩ [] rfl
      · intro b3_ b4_ b5_ b6_ g3
        refine TL.asL [] rfl ?_
        refine TL.load1 0 (Src.at h2) Try.isAgg22 rfl rfl rfl rfl rfl ?_
        refine TL.done ?_
        exact TC.nrm () [] ⟨rfl, trivial⟩ [] rfl
      · intro b3_ b6_ g3
        refine TL.asL [] rfl ?_
        refine TL.callH (R := G.impl_edgesOf.R) hr1 Try.call62 rfl rfl rfl (fun w hS => G.impl_edgesOf.calls w s1 ss1 c1 ((RdM.old h1) w hS)) ?_
        rintro _ _ ⟨rfl, rfl⟩
        refine TL.done ?_
        exact TC.nrm () [] ⟨rfl, trivial⟩ [] rfl
      · intro g3
        refine TL.asL [] rfl ?_
        refine TL.callH (R := G.impl_in.R) hr2 Try.call60 rfl rfl rfl (fun w hS => G.impl_in.calls w k_1 (w64 (0 - r_1)) r_1) ?_
        rintro _ _ ⟨rfl, rfl⟩
        refine TL.done ?_
        exact TC.nrm () [] ⟨rfl, trivial⟩ [] rfl
      · intro g3
        refine TL.not r_3 rfl rfl rfl ?_
        refine TL.done ?_
        exact TC.nrm () [] ⟨rfl, trivial⟩ [] rfl
      · intro g3
        refine TL.pick rfl rfl (b := false) rfl (r := .bool (!r_3)) rfl ?_
        refine TL.done ?_
        exact TC.nrm () [] ⟨rfl, trivial⟩ [] rfl
      · intro g3
        refine TL.assign rfl rfl (v := .bool (!r_3)) rfl ?_
        refine TL.done ?_
        exact TC.nrm () [] ⟨rfl, trivial⟩ [] rfl
    · intro g3
      refine TC.asL [] rfl ?_
      exact TC.retF (Fin.body (fin1 (.inr rfl) rfl (.tmp rfl) [] rfl ⟨rfl, rfl⟩))

end Go.Proofs.Ytnppkcemnjkboaa.G

/- impl.sided], as a pure function. -/
set_option linter.unusedVariables false
namespace Go.Proofs.Ytnppkcemnjkboaa.G
open Go Go.Sx Go.Proofs

def slices_IndexFunc_impl_sided_impl_sided.b0 (s1 : List (List (Int × Int))) (f2 : (List (Int × Int)) → Option Bool) : Int → Option (LR Int Int) := fun x1 => (bif (decide (x1 < (s1.length : Int))) then chk x1 s1.length ((f2 (gt s1 x1)).bind (fun r_1 => (bif r_1 then some (.ret (x1)) else some (.next (w64 (x1 + 1)))))) else some (.brk x1))

def slices_IndexFunc_impl_sided_impl_sided.f (s1 : List (List (Int × Int))) (f2 : (List (Int × Int)) → Option Bool) : Option Int := (loop (slices_IndexFunc_impl_sided_impl_sided.b0 s1 f2) 0).bind (ln (fun x1 => some (-1)))

def slices_IndexFunc_impl_sided_impl_sided.R (r : Int) (v : Value) (L : List Asn) : Prop := v = .int .i64 r ∧ L = []

set_option maxRecDepth 100000 in
set_option maxHeartbeats 4000000 in
theorem slices_IndexFunc_impl_sided_impl_sided.calls (w : World) (s2 : SV) (ss1 : List SV) (s1 : List (List (Int × Int))) (f1 : Nat) (fst1 : List Value) (cap1 : List Value) (f2 : (List (Int × Int)) → Option Bool) (h1 : ReadsM Eii (hp w) s2 ss1 s1) (hc1 : ∀ (args_ : Array Value) (w_ : World), (callFunc f1 args_).run Try.prog w_ = .ok (.enter f1 args_) w_) (hf1 : ∀ w_, Hle (hp w) (hp w_) → ∀ (s1_ : SV) (x0_ : List (Int × Int)), Reads Eii (hp w_) s1_ x0_ → ∀ r_, f2 x0_ = some r_ → Calls Try.prog f1 (fst1 ++ ([SV.v s1_] : List Value) ++ cap1).toArray w_ (Ret w_ (fun (v_ : Value) (L_ : List Asn) => v_ = .bool r_ ∧ L_ = []))) :
    ∀ r, slices_IndexFunc_impl_sided_impl_sided.f s1 f2 = some r → Calls Try.prog 117 #[SV.v s2, .func (.func f1) fst1.toArray cap1.toArray] w (Ret w (slices_IndexFunc_impl_sided_impl_sided.R r)) := by

  refine calls_T (n := 19) (Γ := [(0, SV.v s2), (1, .func (.func f1) fst1.toArray cap1.toArray)]) (R := slices_IndexFunc_impl_sided_impl_sided.R) Try.func117 rfl rfl (Nat.le_of_ble_eq_true rfl) ⟨rfl, rfl, trivial⟩ ?_
  unfold slices_IndexFunc_impl_sided_impl_sided.f
  refine TC.seq ?_
  refine TC.region ?_
  refine TL.assign rfl rfl (v := .int .i64 0) rfl ?_
  refine TL.done ?_
  refine TC.seq ?_
  refine TC.seq ?_
  refine TC.region ?_
  refine TL.move rfl rfl (v := SV.v s2) rfl ?_
  refine TL.lenM (RdM.old h1) Try.underlying65 rfl rfl rfl ?_
  refine TL.move rfl rfl (v := .int .i64 0) rfl ?_
  refine TL.done ?_
  refine TC.loopK (σ := Int) (γ := Unit) (Γ' := (fun x1 _ => [(0, SV.v s2), (1, .func (.func f1) fst1.toArray cap1.toArray), (7, .int .i64 (s1.length : Int)), (8, .int .i64 x1)])) (L' := (fun x1 _ => [])) (Γb := (fun x1 _ => [(0, SV.v s2), (1, .func (.func f1) fst1.toArray cap1.toArray), (7, .int .i64 (s1.length : Int)), (8, .int .i64 x1)])) (Lb := (fun x1 _ => [])) (0) (()) ⟨rfl, rfl, rfl, rfl, trivial⟩ [] rfl ?_ ?_
  · rintro x1 _
    refine TC.seq ?_
    refine TC.region ?_
    refine TL.bin .i64 x1 (s1.length : Int) rfl rfl rfl rfl (v := .bool (decide (x1 < (s1.length : Int)))) rfl ?_
    refine TL.done ?_
    refine TC.seq ?_
    refine TC.cond (b := (decide (x1 < (s1.length : Int)))) rfl (fun c1 => ?_) (fun c2 => ?_)
    · refine TC.skip ?_
      refine TC.seq ?_
      refine TC.block (NoEx.loop rfl NoEx.body) ?_
      refine TC.seq ?_
      refine TC.region ?_
      refine TL.move rfl rfl (v := .int .i64 x1) rfl ?_
      refine TL.assign rfl rfl (v := .int .i64 x1) rfl ?_
      refine TL.done ?_
      refine TC.seq ?_
      refine TC.region ?_
      refine TL.move rfl rfl (v := .func (.func f1) fst1.toArray cap1.toArray) rfl ?_
      refine TL.move rfl rfl (v := SV.v s2) rfl ?_
      refine TL.move rfl rfl (v := .int .i64 x1) rfl ?_
      refine TL.chk fun h2 => ?_
      refine TL.ixsM x1 x1.toNat (RdM.old h1) h2 Try.underlying65 Try.sizeOf64 rfl rfl rfl rfl (by omega) ?_
      refine TL.loadM2 (RdM.old h1) Try.isAgg64 x1 h2 (by omega) rfl rfl rfl ?_
      refine TL.callv (R := (fun r_ => (fun (v_ : Value) (L_ : List Asn) => v_ = .bool r_ ∧ L_ = []))) (vs := [SV.v (gt ss1 x1)]) hc1 rfl rfl rfl rfl (fun w hS => hf1 w hS.iw (gt ss1 x1) (gt s1 x1) ((RdM.inn (RdM.old h1) h2) w hS)) ?_
      rintro r_1 _ _ ⟨rfl, rfl⟩
      refine TL.done ?_
      refine TC.cond (b := r_1) rfl (fun c3 => ?_) (fun c4 => ?_)
      · refine TC.seq ?_
        refine TC.region ?_
        refine TL.move rfl rfl (v := .int .i64 x1) rfl ?_
        refine TL.assign rfl rfl (v := .int .i64 x1) rfl ?_
        refine TL.done ?_
        exact TC.retF (Fin.loop Far.ret (Fin.body (fin1 (.inr rfl) rfl (.tmp rfl) [] rfl ⟨rfl, rfl⟩)))
      · refine TC.skip ?_
        refine TC.region ?_
        refine TL.bin .i64 x1 1 rfl rfl rfl rfl (v := .int .i64 (w64 (x1 + 1))) rfl ?_
        refine TL.move rfl rfl (v := .int .i64 (w64 (x1 + 1))) rfl ?_
        refine TL.done ?_
        exact TC.next ((w64 (x1 + 1))) (()) ⟨rfl, rfl, rfl, rfl, trivial⟩ [] rfl
    · exact TC.brk (x1) (()) ⟨rfl, rfl, rfl, rfl, trivial⟩ [] rfl
  · rintro x1 _
    refine TC.seq ?_
    refine TC.region ?_
    refine TL.assign rfl rfl (v := .int .i64 (-1)) rfl ?_
    refine TL.done ?_
    exact TC.retF (Fin.body (fin1 (.inr rfl) rfl (.tmp rfl) [] rfl ⟨rfl, rfl⟩))

end Go.Proofs.Ytnppkcemnjkboaa.G

/- impl.sided], as a pure function. -/
set_option linter.unusedVariables false
namespace Go.Proofs.Ytnppkcemnjkboaa.G
open Go Go.Sx Go.Proofs

def slices_ContainsFunc_impl_sided_impl_sided.f (s1 : List (List (Int × Int))) (f2 : (List (Int × Int)) → Option Bool) : Option Bool := (G.slices_IndexFunc_impl_sided_impl_sided.f s1 f2).bind (fun r_1 => some (decide (r_1 ≥ 0)))

def slices_ContainsFunc_impl_sided_impl_sided.R (r : Bool) (v : Value) (L : List Asn) : Prop := v = .bool r ∧ L = []

set_option maxRecDepth 100000 in
set_option maxHeartbeats 4000000 in
theorem slices_ContainsFunc_impl_sided_impl_sided.calls (w : World) (s2 : SV) (ss1 : List SV) (s1 : List (List (Int × Int))) (f1 : Nat) (fst1 : List Value) (cap1 : List Value) (f2 : (List (Int × Int)) → Option Bool) (h1 : ReadsM Eii (hp w) s2 ss1 s1) (hc1 : ∀ (args_ : Array Value) (w_ : World), (callFunc f1 args_).run Try.prog w_ = .ok (.enter f1 args_) w_) (hf1 : ∀ w_, Hle (hp w) (hp w_) → ∀ (s1_ : SV) (x0_ : List (Int × Int)), Reads Eii (hp w_) s1_ x0_ → ∀ r_, f2 x0_ = some r_ → Calls Try.prog f1 (fst1 ++ ([SV.v s1_] : List Value) ++ cap1).toArray w_ (Ret w_ (fun (v_ : Value) (L_ : List Asn) => v_ = .bool r_ ∧ L_ = []))) :
    ∀ r, slices_ContainsFunc_impl_sided_impl_sided.f s1 f2 = some r → Calls Try.prog 87 #[SV.v s2, .func (.func f1) fst1.toArray cap1.toArray] w (Ret w (slices_ContainsFunc_impl_sided_impl_sided.R r)) := by

  refine calls_T (n := 9) (Γ := [(0, SV.v s2), (1, .func (.func f1) fst1.toArray cap1.toArray)]) (R := slices_ContainsFunc_impl_sided_impl_sided.R) Try.func87 rfl rfl (Nat.le_of_ble_eq_true rfl) ⟨rfl, rfl, trivial⟩ ?_
  unfold slices_ContainsFunc_impl_sided_impl_sided.f
  refine TC.seq ?_
  refine TC.region ?_
  refine TL.assign rfl rfl (v := .bool false) rfl ?_
  refine TL.done ?_
  refine TC.seq ?_
  refine TC.region ?_
  refine TL.move rfl rfl (v := SV.v s2) rfl ?_
  refine TL.move rfl rfl (v := .func (.func f1) fst1.toArray cap1.toArray) rfl ?_
  refine TL.call (R := G.slices_IndexFunc_impl_sided_impl_sided.R) Try.call117 rfl rfl rfl (fun w hS => G.slices_IndexFunc_impl_sided_impl_sided.calls w s2 ss1 s1 f1 fst1 cap1 f2 ((RdM.old h1) w hS) hc1 (fun w_ hle_ => hf1 w_ (hS.iw.trans hle_))) ?_
  rintro r_1 _ _ ⟨rfl, rfl⟩
  refine TL.bin .i64 r_1 0 rfl rfl rfl rfl (v := .bool (decide (r_1 ≥ 0))) rfl ?_
  refine TL.assign rfl rfl (v := .bool (decide (r_1 ≥ 0))) rfl ?_
  refine TL.done ?_
  exact TC.retF (Fin.body (fin1 (.inr rfl) rfl (.tmp rfl) [] rfl ⟨rfl, rfl⟩))

end Go.Proofs.Ytnppkcemnjkboaa.G

/- impl.IsSurface$2, as a pure function. -/
set_option linter.unusedVariables false
namespace Go.Proofs.Ytnppkcemnjkboaa.G
open Go Go.Sx Go.Proofs

def impl_IsSurface_2.f (list_1 : List (Int × Int)) : Option Bool := some ((list_1.length : Int) != 2)

def impl_IsSurface_2.R (r : Bool) (v : Value) (L : List Asn) : Prop := v = .bool r ∧ L = []

set_option maxRecDepth 100000 in
set_option maxHeartbeats 4000000 in
theorem impl_IsSurface_2.calls (w : World) (s1 : SV) (list_1 : List (Int × Int)) (h1 : Reads Eii (hp w) s1 list_1) :
    ∀ r, impl_IsSurface_2.f list_1 = some r → Calls Try.prog 88 #[SV.v s1] w (Ret w (impl_IsSurface_2.R r)) := by

  refine calls_T (n := 6) (Γ := [(0, SV.v s1)]) (R := impl_IsSurface_2.R) Try.func88 rfl rfl (Nat.le_of_ble_eq_true rfl) ⟨rfl, trivial⟩ ?_
  unfold impl_IsSurface_2.f
  refine TC.seq ?_
  refine TC.region ?_
  refine TL.assign rfl rfl (v := .bool false) rfl ?_
  refine TL.done ?_
  refine TC.seq ?_
  refine TC.region ?_
  refine TL.move rfl rfl (v := SV.v s1) rfl ?_
  refine TL.len (Rd.old h1) Try.underlying64 rfl rfl rfl ?_
  refine TL.bin .i64 (list_1.length : Int) 2 rfl rfl rfl rfl (v := .bool ((list_1.length : Int) != 2)) rfl ?_
  refine TL.assign rfl rfl (v := .bool ((list_1.length : Int) != 2)) rfl ?_
  refine TL.done ?_
  exact TC.retF (Fin.body (fin1 (.inr rfl) rfl (.tmp rfl) [] rfl ⟨rfl, rfl⟩))

end Go.Proofs.Ytnppkcemnjkboaa.G

/- impl.IsSurface, as a pure function. -/
set_option linter.unusedVariables false
namespace Go.Proofs.Ytnppkcemnjkboaa.G
open Go Go.Sx Go.Proofs

def impl_IsSurface.b0 (s1 : List (List Int)) : Int → Option (LR Int Bool) := fun x1 => (bif (decide (x1 < (s1.length : Int))) then chk x1 s1.length ((bif (((gt s1 x1).length : Int) != 3) then some true else (G.slices_ContainsFunc_int64_int64.f (gt s1 x1) (fun x0_ => G.impl_IsSurface_1.f x0_ s1)).bind (fun r_2 => some r_2)).bind (fun b_2 => (bif b_2 then some (.ret (false)) else some (.next (w64 (x1 + 1)))))) else some (.brk x1))

def impl_IsSurface.f (s1 : List (List Int)) : Option Bool := (G.impl_in.f (s1.length : Int) 2 12).bind (fun r_1 => (bif ((!r_1) || ((Int.tmod (s1.length : Int) 2) != 0)) then some false else (loop (impl_IsSurface.b0 s1) 0).bind (ln (fun x1 => (G.impl_sidesOfEdges.f s1).bind (fun r_3 => grd (decide (0 ≤ 1) && decide (1 ≤ (r_3.length : Int)) && decide ((r_3.length : Int) ≤ (r_3.length : Int))) ((G.slices_ContainsFunc_impl_sided_impl_sided.f ((r_3.drop 1).take (r_3.length - 1)) G.impl_IsSurface_2.f).bind (fun r_4 => some (!r_4))))))))

def impl_IsSurface.R (r : Bool) (v : Value) (L : List Asn) : Prop := v = .bool r ∧ L = []

set_option maxRecDepth 100000 in
set_option maxHeartbeats 4000000 in
theorem impl_IsSurface.calls (w : World) (s2 : SV) (ss1 : List SV) (s1 : List (List Int)) (h1 : ReadsM Ei (hp w) s2 ss1 s1) :
    ∀ r, impl_IsSurface.f s1 = some r → Calls Try.prog 37 #[SV.v s2] w (Ret w (impl_IsSurface.R r)) := by

  refine calls_T (n := 35) (Γ := [(0, SV.v s2)]) (R := impl_IsSurface.R) Try.func37 rfl rfl (Nat.le_of_ble_eq_true rfl) ⟨rfl, trivial⟩ ?_
  unfold impl_IsSurface.f
  refine TC.seq ?_
  refine TC.region ?_
  refine TL.box [.one (SV.v s2)] rfl rfl rfl rfl fun b_1 => ?_
  refine TL.assign rfl rfl (v := .bool false) rfl ?_
  refine TL.done ?_
  refine TC.seq ?_
  refine TC.seq ?_
  refine TC.region ?_
  refine TL.load1 0 (Src.box 0 rfl) Try.isAgg22 rfl rfl rfl rfl rfl ?_
  refine TL.lenM (RdM.old h1) Try.underlying22 rfl rfl rfl ?_
  refine TL.call (R := G.impl_in.R) Try.call60 rfl rfl rfl (fun w hS => G.impl_in.calls w (s1.length : Int) 2 12) ?_
  rintro r_1 _ _ ⟨rfl, rfl⟩
  refine TL.not r_1 rfl rfl rfl ?_
  refine TL.move rfl rfl (v := .bool (!r_1)) rfl ?_
  refine TL.cutU 5 [(14, .bool ((!r_1) || ((Int.tmod (s1.length : Int) 2) != 0))), (0, SV.v s2), (1, bp b_1 0), (2, .bool false), (5, SV.v s2), (6, .int .i64 (s1.length : Int)), (7, .bool r_1), (8, .bool (!r_1)), (9, .bool (!r_1))] [box b_1 22 [.one (SV.v s2)]] ?_ ?_
  · refine TL.cases (t := 9) (b := (!r_1)) rfl (fun c1 => ?_) (fun c2 => ?_)
    · refine TL.skip rfl rfl (by decide) ?_
      refine TL.skip rfl rfl (by decide) ?_
      refine TL.skip rfl rfl (by decide) ?_
      refine TL.skip rfl rfl (by decide) ?_
      refine TL.pick rfl rfl (b := true) rfl (r := .bool true) rfl ?_
      refine TL.done ?_
      exact TC.nrm () () ⟨(by rw [c1]; rfl), rfl, rfl, rfl, rfl, rfl, rfl, rfl, (by rw [c1]; rfl), trivial⟩ [0] rfl
    · refine TL.load1 0 (Src.box 0 rfl) Try.isAgg22 rfl rfl rfl rfl rfl ?_
      refine TL.lenM (RdM.old h1) Try.underlying22 rfl rfl rfl ?_
      refine TL.rem .i64 (s1.length : Int) 2 (by decide) rfl rfl rfl rfl ?_
      refine TL.bin .i64 (Int.tmod (s1.length : Int) 2) 0 rfl rfl rfl rfl (v := .bool ((Int.tmod (s1.length : Int) 2) != 0)) rfl ?_
      refine TL.pick rfl rfl (b := false) rfl (r := .bool ((Int.tmod (s1.length : Int) 2) != 0)) rfl ?_
      refine TL.done ?_
      exact TC.nrm () () ⟨(by rw [c2]; rfl), rfl, rfl, rfl, rfl, rfl, rfl, rfl, (by rw [c2]; rfl), trivial⟩ [0] rfl
  · refine TL.done ?_
    refine TC.cond (b := ((!r_1) || ((Int.tmod (s1.length : Int) 2) != 0))) rfl (fun c3 => ?_) (fun c4 => ?_)
    · refine TC.seq ?_
      refine TC.region ?_
      refine TL.assign rfl rfl (v := .bool false) rfl ?_
      refine TL.done ?_
      exact TC.retF (Fin.body (fin1 (.inr rfl) rfl (.tmp rfl) [] rfl ⟨rfl, rfl⟩))
    · refine TC.skip ?_
      refine TC.seq ?_
      refine TC.seq ?_
      refine TC.region ?_
      refine TL.load1 0 (Src.box 0 rfl) Try.isAgg22 rfl rfl rfl rfl rfl ?_
      refine TL.lenM (RdM.old h1) Try.underlying22 rfl rfl rfl ?_
      refine TL.move rfl rfl (v := .int .i64 0) rfl ?_
      refine TL.done ?_
      refine TC.loopK (σ := Int) (γ := Unit) (Γ' := (fun x1 _ => [(1, bp b_1 0), (15, SV.v s2), (16, .int .i64 (s1.length : Int)), (17, .int .i64 x1)])) (L' := (fun x1 _ => [box b_1 22 [.one (SV.v s2)]])) (Γb := (fun x1 _ => [(1, bp b_1 0), (15, SV.v s2), (16, .int .i64 (s1.length : Int)), (17, .int .i64 x1)])) (Lb := (fun x1 _ => [box b_1 22 [.one (SV.v s2)]])) (0) (()) ⟨rfl, rfl, rfl, rfl, trivial⟩ [0] rfl ?_ ?_
      · rintro x1 _
        refine TC.seq ?_
        refine TC.region ?_
        refine TL.bin .i64 x1 (s1.length : Int) rfl rfl rfl rfl (v := .bool (decide (x1 < (s1.length : Int)))) rfl ?_
        refine TL.done ?_
        refine TC.seq ?_
        refine TC.cond (b := (decide (x1 < (s1.length : Int)))) rfl (fun c5 => ?_) (fun c6 => ?_)
        · refine TC.skip ?_
          refine TC.seq ?_
          refine TC.block (NoEx.loop rfl NoEx.body) ?_
          refine TC.seq ?_
          refine TC.region ?_
          refine TL.chk fun h2 => ?_
          refine TL.ixsM x1 x1.toNat (RdM.old h1) h2 Try.underlying22 Try.sizeOf53 rfl rfl rfl rfl (by omega) ?_
          refine TL.loadM2 (RdM.old h1) Try.isAgg53 x1 h2 (by omega) rfl rfl rfl ?_
          refine TL.assign rfl rfl (v := SV.v (gt ss1 x1)) rfl ?_
          refine TL.done ?_
          refine TC.seq ?_
          refine TC.region ?_
          refine TL.move rfl rfl (v := SV.v (gt ss1 x1)) rfl ?_
          refine TL.len (RdM.inn (RdM.old h1) h2) Try.underlying53 rfl rfl rfl ?_
          refine TL.bin .i64 ((gt s1 x1).length : Int) 3 rfl rfl rfl rfl (v := .bool (((gt s1 x1).length : Int) != 3)) rfl ?_
          refine TL.move rfl rfl (v := .bool (((gt s1 x1).length : Int) != 3)) rfl ?_
          refine TL.cutJ (σ := Bool) (γ := Unit) (Γ' := fun b_2 _ => [(28, .bool b_2), (1, bp b_1 0), (15, SV.v s2), (16, .int .i64 (s1.length : Int)), (17, .int .i64 x1), (18, .bool (decide (x1 < (s1.length : Int)))), (19, ep s2 x1.toNat), (20, SV.v (gt ss1 x1)), (4, SV.v (gt ss1 x1)), (21, SV.v (gt ss1 x1)), (22, .int .i64 ((gt s1 x1).length : Int)), (23, .bool (((gt s1 x1).length : Int) != 3)), (24, .bool (((gt s1 x1).length : Int) != 3))]) (L' := fun _ _ => [box b_1 22 [.one (SV.v s2)]]) 4 ?_ ?_
          · refine TL.ifb (t := 24) (b := (((gt s1 x1).length : Int) != 3)) rfl (fun c7 => ?_) (fun c8 => ?_)
            · refine TL.skip rfl rfl (by decide) ?_
              refine TL.skip rfl rfl (by decide) ?_
              refine TL.skip rfl rfl (by decide) ?_
              refine TL.pick rfl rfl (b := true) rfl (r := .bool true) rfl ?_
              refine TL.done ?_
              exact TC.nrm (true) () ⟨rfl, rfl, rfl, rfl, rfl, rfl, rfl, rfl, rfl, rfl, rfl, rfl, (by rw [c7]; rfl), trivial⟩ [0] rfl
            · refine TL.move rfl rfl (v := SV.v (gt ss1 x1)) rfl ?_
              refine TL.makeFunc rfl rfl (us := []) (vs := [bp b_1 0]) rfl rfl ?_
              refine TL.call (R := G.slices_ContainsFunc_int64_int64.R) Try.call77 rfl rfl rfl (fun w hS => G.slices_ContainsFunc_int64_int64.calls w (gt ss1 x1) (gt s1 x1) 86 [] [bp b_1 0] (fun x0_ => G.impl_IsSurface_1.f x0_ s1) ((RdM.inn (RdM.old h1) h2) w hS) Try.call86 (fun w_ hle_ x0_ r_ hr_ => G.impl_IsSurface_1.calls w_ x0_ b_1 s2 ss1 s1 (((Src.box 0 rfl) w hS).mono hle_) (((RdM.old h1) w hS).mono hle_) r_ hr_)) ?_
              rintro r_2 _ _ ⟨rfl, rfl⟩
              refine TL.pick rfl rfl (b := false) rfl (r := .bool r_2) rfl ?_
              refine TL.done ?_
              exact TC.nrm (r_2) () ⟨rfl, rfl, rfl, rfl, rfl, rfl, rfl, rfl, rfl, rfl, rfl, rfl, (by rw [c8]; rfl), trivial⟩ [0] rfl
          · rintro b_2 _
            refine TL.done ?_
            refine TC.cond (b := b_2) rfl (fun c9 => ?_) (fun c10 => ?_)
            · refine TC.seq ?_
              refine TC.region ?_
              refine TL.assign rfl rfl (v := .bool false) rfl ?_
              refine TL.done ?_
              exact TC.retF (Fin.loop Far.ret (Fin.body (fin1 (.inr rfl) rfl (.tmp rfl) [] rfl ⟨rfl, rfl⟩)))
            · refine TC.skip ?_
              refine TC.region ?_
              refine TL.bin .i64 x1 1 rfl rfl rfl rfl (v := .int .i64 (w64 (x1 + 1))) rfl ?_
              refine TL.move rfl rfl (v := .int .i64 (w64 (x1 + 1))) rfl ?_
              refine TL.done ?_
              exact TC.next ((w64 (x1 + 1))) (()) ⟨rfl, rfl, rfl, rfl, trivial⟩ [0] rfl
        · exact TC.brk (x1) (()) ⟨rfl, rfl, rfl, rfl, trivial⟩ [0] rfl
      · rintro x1 _
        refine TC.seq ?_
        refine TC.region ?_
        refine TL.load1 0 (Src.box 0 rfl) Try.isAgg22 rfl rfl rfl rfl rfl ?_
        refine TL.call (R := G.impl_sidesOfEdges.R) Try.call74 rfl rfl rfl (fun w hS => G.impl_sidesOfEdges.calls w s2 ss1 s1 ((RdM.old h1) w hS)) ?_
        rintro r_3 _ _ ⟨s3, ss2, rfl, rfl⟩
        refine TL.grd fun h3 => ?_
        refine TL.sliceM (li := (some 1)) (hi' := none) (l := 1) (h := r_3.length) (RdM.mat 0 rfl) Try.underlying65 Try.sizeOf64 rfl rfl (by have h_ := h3; simp only [Bool.and_eq_true, decide_eq_true_eq] at h_; first | rfl | (simp only [Option.getD_none, Option.getD_some]; omega)) (by have h_ := h3; simp only [Bool.and_eq_true, decide_eq_true_eq] at h_; first | rfl | (simp only [Option.getD_none, Option.getD_some]; omega)) (by have h_ := h3; simp only [Bool.and_eq_true, decide_eq_true_eq] at h_; omega) (by have h_ := h3; simp only [Bool.and_eq_true, decide_eq_true_eq] at h_; omega) rfl rfl rfl ?_
        refine TL.call (R := G.slices_ContainsFunc_impl_sided_impl_sided.R) Try.call87 rfl rfl rfl (fun w hS => G.slices_ContainsFunc_impl_sided_impl_sided.calls w (SV.cut s3 1 r_3.length s3.c Ev.sz) ((ss2.drop 1).take (r_3.length - 1)) ((r_3.drop 1).take (r_3.length - 1)) 88 [] [] G.impl_IsSurface_2.f ((RdM.cut (RdM.mat 0 rfl) (by have h_ := h3; simp only [Bool.and_eq_true, decide_eq_true_eq] at h_; omega) (by have h_ := h3; simp only [Bool.and_eq_true, decide_eq_true_eq] at h_; omega)) w hS) Try.call88 (fun w_ hle_ s1_ x0_ h0_ r_ hr_ => G.impl_IsSurface_2.calls w_ s1_ x0_ h0_ r_ hr_)) ?_
        rintro r_4 _ _ ⟨rfl, rfl⟩
        refine TL.not r_4 rfl rfl rfl ?_
        refine TL.assign rfl rfl (v := .bool (!r_4)) rfl ?_
        refine TL.done ?_
        exact TC.retF (Fin.body (fin1 (.inr rfl) rfl (.tmp rfl) [] rfl ⟨rfl, rfl⟩))

end Go.Proofs.Ytnppkcemnjkboaa.G

/- impl.ofSurface, as a pure function. -/
set_option linter.unusedVariables false
namespace Go.Proofs.Ytnppkcemnjkboaa.G
open Go Go.Sx Go.Proofs

def impl_ofSurface.f (s1 : List (List Int)) (of_1 : (List (List Int)) → Option Int) : Option (Int × Int) := (G.impl_IsSurface.f s1).bind (fun r_1 => (bif (!r_1) then some (0, 1) else (of_1 s1).bind (fun r_2 => some (r_2, 0))))

def impl_ofSurface.R (r : Int × Int) (v : Value) (L : List Asn) : Prop := v = .tuple #[.int .i64 r.1, .int .i64 r.2] ∧ L = []

set_option maxRecDepth 100000 in
set_option maxHeartbeats 4000000 in
theorem impl_ofSurface.calls (w : World) (s2 : SV) (ss1 : List SV) (s1 : List (List Int)) (f1 : Nat) (fst1 : List Value) (cap1 : List Value) (of_1 : (List (List Int)) → Option Int) (h1 : ReadsM Ei (hp w) s2 ss1 s1) (hc1 : ∀ (args_ : Array Value) (w_ : World), (callFunc f1 args_).run Try.prog w_ = .ok (.enter f1 args_) w_) (hf1 : ∀ w_, Hle (hp w) (hp w_) → ∀ (s1_ : SV) (ss1_ : List SV) (x0_ : List (List Int)), ReadsM Ei (hp w_) s1_ ss1_ x0_ → ∀ r_, of_1 x0_ = some r_ → Calls Try.prog f1 (fst1 ++ ([SV.v s1_] : List Value) ++ cap1).toArray w_ (Ret w_ (fun (v_ : Value) (L_ : List Asn) => v_ = .int .i64 r_ ∧ L_ = []))) :
    ∀ r, impl_ofSurface.f s1 of_1 = some r → Calls Try.prog 67 #[SV.v s2, .func (.func f1) fst1.toArray cap1.toArray] w (Ret w (impl_ofSurface.R r)) := by

  refine calls_T (n := 12) (Γ := [(0, SV.v s2), (1, .func (.func f1) fst1.toArray cap1.toArray)]) (R := impl_ofSurface.R) Try.func67 rfl rfl (Nat.le_of_ble_eq_true rfl) ⟨rfl, rfl, trivial⟩ ?_
  unfold impl_ofSurface.f
  refine TC.seq ?_
  refine TC.region ?_
  refine TL.assign rfl rfl (v := .int .i64 0) rfl ?_
  refine TL.assign rfl rfl (v := .int .i64 0) rfl ?_
  refine TL.done ?_
  refine TC.seq ?_
  refine TC.seq ?_
  refine TC.region ?_
  refine TL.move rfl rfl (v := SV.v s2) rfl ?_
  refine TL.call (R := G.impl_IsSurface.R) Try.call37 rfl rfl rfl (fun w hS => G.impl_IsSurface.calls w s2 ss1 s1 ((RdM.old h1) w hS)) ?_
  rintro r_1 _ _ ⟨rfl, rfl⟩
  refine TL.not r_1 rfl rfl rfl ?_
  refine TL.done ?_
  refine TC.cond (b := (!r_1)) rfl (fun c1 => ?_) (fun c2 => ?_)
  · refine TC.seq ?_
    refine TC.region ?_
    refine TL.assign rfl rfl (v := .int .i64 0) rfl ?_
    refine TL.assign rfl rfl (v := .int .i64 1) rfl ?_
    refine TL.done ?_
    exact TC.retF (Fin.body (fin2 (.inr rfl) rfl (.tmp rfl) (.tmp rfl) [] rfl ⟨rfl, rfl⟩))
  · refine TC.skip ?_
    refine TC.seq ?_
    refine TC.region ?_
    refine TL.move rfl rfl (v := .func (.func f1) fst1.toArray cap1.toArray) rfl ?_
    refine TL.move rfl rfl (v := SV.v s2) rfl ?_
    refine TL.callv (R := (fun r_ => (fun (v_ : Value) (L_ : List Asn) => v_ = .int .i64 r_ ∧ L_ = []))) (vs := [SV.v s2]) hc1 rfl rfl rfl rfl (fun w hS => hf1 w hS.iw s2 ss1 s1 ((RdM.old h1) w hS)) ?_
    rintro r_2 _ _ ⟨rfl, rfl⟩
    refine TL.assign rfl rfl (v := .int .i64 r_2) rfl ?_
    refine TL.assign rfl rfl (v := .int .i64 0) rfl ?_
    refine TL.done ?_
    exact TC.retF (Fin.body (fin2 (.inr rfl) rfl (.tmp rfl) (.tmp rfl) [] rfl ⟨rfl, rfl⟩))

end Go.Proofs.Ytnppkcemnjkboaa.G
