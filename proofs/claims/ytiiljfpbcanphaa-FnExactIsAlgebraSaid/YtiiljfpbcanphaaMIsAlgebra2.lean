/- Functions of the program, as pure functions. -/
import Derived.Test.YtiiljfpbcanphaaMIsAlgebra1
import Derived.Test.YtiiljfpbcanphaaProg
/- spec.l01Echelon, as a pure function. -/
set_option linter.unusedVariables false
namespace Go.Proofs.Ytiiljfpbcanphaa.G
open Go Go.Sx Go.Proofs

def spec_l01Echelon.b0 (x3 : List (List Int)) (x1 : Int) : (List Int) × Int → Option (LB ((List Int) × Int)) := fun p => match p with | (x6, x7) => (bif (decide (x7 < (x3.length : Int))) then chk x7 x3.length ((G.spec_l01Lead.f (gt x3 x7)).bind (fun r_2 => chk r_2 x6.length ((G.spec_l01Less.f x1 x6 (gt x3 x7) (gt x6 r_2)).bind (fun r_3 => some (.next (r_3, (w64 (x7 + 1)))))))) else some (.brk (x6, x7)))

def spec_l01Echelon.b1 (x1 : Int) (r_5 : Int) : (List Int) × Int → Option (LB ((List Int) × Int)) := fun p => match p with | (l1, x8) => (bif (decide (x8 < (l1.length : Int))) then chk x8 l1.length (nz x1 (some (.next ((l1.set x8.toNat (Int.tmod (w64 ((gt l1 x8) * r_5)) x1)), (w64 (x8 + 1)))))) else some (.brk (l1, x8)))

def spec_l01Echelon.b2 (x3 : List (List Int)) (r_4 : Int) (l1 : List Int) (x1 : Int) : (List (List Int)) × Bool × Int → Option (LB ((List (List Int)) × Bool × Int)) := fun p => match p with | (x9, x10, x11) => (bif (decide (x11 < (x3.length : Int))) then (bif (!x10) then chk x11 x3.length ((G.spec_l01Lead.f (gt x3 x11)).bind (fun r_6 => some (decide (r_6 > r_4)))) else some false).bind (fun b_1 => ((bif b_1 then small (x9.length + 1) (some ((x9 ++ [l1]), true)) else some (x9, x10))).bind (fun p => match p with | (x12, x13) => chk x11 x3.length (chk r_4 ((gt x3 x11).length) ((G.spec_l01Less.f x1 (gt x3 x11) l1 (gt (gt x3 x11) r_4)).bind (fun r_7 => small (x12.length + 1) (some (.next ((x12 ++ [r_7]), x13, (w64 (x11 + 1)))))))))) else some (.brk (x9, x10, x11)))

def spec_l01Echelon.b3 (x2 : List (List Int)) (x1 : Int) : (List (List Int)) × Int → Option (LB ((List (List Int)) × Int)) := fun p => match p with | (x3, x4) => (bif (decide (x4 < (x2.length : Int))) then (chk x4 x2.length ((G.spec_l01Own.f (gt x2 x4)).bind (fun r_1 => (loop1 (spec_l01Echelon.b0 x3 x1) (r_1, 0)).bind (fun p => match p with | (x6, x7) => (G.spec_l01Lead.f x6).bind (fun r_4 => (bif (decide (r_4 < 0)) then some (.inl x3) else chk r_4 x6.length ((G.spec_l01Inverse.f x1 (gt x6 r_4)).bind (fun r_5 => (loop1 (spec_l01Echelon.b1 x1 r_5) (x6, 0)).bind (fun p => match p with | (l1, x8) => (loop1 (spec_l01Echelon.b2 x3 r_4 l1 x1) (([] : List (List Int)), false, 0)).bind (fun p => match p with | (x9, x10, x11) => ((bif (!x10) then small (x9.length + 1) (some (x9 ++ [l1])) else some x9)).bind (fun x14 => some (.inl x14)))))))))))).bind (jn (fun x5 => some (.next (x5, (w64 (x4 + 1)))))) else some (.brk (x3, x4)))

def spec_l01Echelon.f (x1 : Int) (x2 : List (List Int)) : Option (List (List Int)) := (loop1 (spec_l01Echelon.b3 x2 x1) (([] : List (List Int)), 0)).bind (fun p => match p with | (x3, x4) => some x3)

def spec_l01Echelon.R (r : List (List Int)) (v : Value) (L : List Asn) : Prop := ∃ (s0 : SV) (ss0 : List SV), v = SV.v s0 ∧ L = [mat Ei 2 22 s0 ss0 r]

set_option maxRecDepth 100000 in
set_option maxHeartbeats 4000000 in
theorem spec_l01Echelon.calls (w : World) (x1 : Int) (s1 : SV) (ss1 : List SV) (x2 : List (List Int)) (h1 : ReadsM Ei (hp w) s1 ss1 x2) :
    ∀ r, spec_l01Echelon.f x1 x2 = some r → Calls Try.prog 191 #[.int .i64 x1, SV.v s1] w (Ret w (spec_l01Echelon.R r)) := by

  refine calls_T (n := 124) (Γ := [(0, .int .i64 x1), (1, SV.v s1)]) (R := spec_l01Echelon.R) Try.func191 rfl rfl (Nat.le_of_ble_eq_true rfl) ⟨rfl, rfl, trivial⟩ ?_
  unfold spec_l01Echelon.f
  refine TC.seq ?_
  refine TC.region ?_
  refine TL.assign rfl rfl (v := SV.v ⟨none, 0, 0⟩) rfl ?_
  refine TL.done ?_
  refine TC.seq ?_
  refine TC.region ?_
  refine TL.bslice0 Ev Try.underlying32 Try.sizeOf22 rfl rfl fun s2 => ?_
  refine TL.rows0 Ei 2 ?_
  refine TL.matmk 1 0 rfl rfl ?_
  refine TL.asL [mat Ei 2 22 s2 ([] : List SV) ([] : List (List Int)), emp] (by kernel_rfl) ?_
  refine TL.assign rfl rfl (v := SV.v s2) rfl ?_
  refine TL.done ?_
  refine TC.seq ?_
  refine TC.seq ?_
  refine TC.region ?_
  refine TL.assign rfl rfl (v := .int .i64 0) rfl ?_
  refine TL.done ?_
  refine TC.loop1 (σ := (List (List Int)) × Int) (γ := SV × (List SV)) (Γ' := (fun p q => match p, q with | (x3, x4), (s3, ss2) => [(0, .int .i64 x1), (1, SV.v s1), (5, SV.v s3), (6, .int .i64 x4)])) (L' := (fun p q => match p, q with | (x3, x4), (s3, ss2) => [mat Ei 2 22 s3 ss2 x3])) (Γb := (fun p q => match p, q with | (x3, x4), (s3, ss2) => [(0, .int .i64 x1), (1, SV.v s1), (5, SV.v s3), (6, .int .i64 x4)])) (Lb := (fun p q => match p, q with | (x3, x4), (s3, ss2) => [mat Ei 2 22 s3 ss2 x3])) ((([] : List (List Int)), 0)) ((s2, ([] : List SV))) ⟨rfl, rfl, rfl, rfl, trivial⟩ [0] rfl ?_ ?_
  · rintro ⟨x3, x4⟩ ⟨s3, ss2⟩
    refine TC.seq ?_
    refine TC.seq ?_
    refine TC.region ?_
    refine TL.move rfl rfl (v := .int .i64 x4) rfl ?_
    refine TL.move rfl rfl (v := SV.v s1) rfl ?_
    refine TL.lenM (RdM.old h1) Try.underlying32 rfl rfl rfl ?_
    refine TL.bin .i64 x4 (x2.length : Int) rfl rfl rfl rfl (v := .bool (decide (x4 < (x2.length : Int)))) rfl ?_
    refine TL.done ?_
    refine TC.cond (b := (decide (x4 < (x2.length : Int)))) rfl (fun c1 => ?_) (fun c2 => ?_)
    · refine TC.skip ?_
      refine TC.seq ?_
      refine TC.blockJ (σ := (List (List Int))) (γ := SV × (List SV)) (Γ' := (fun p q => match p, q with | x5, (s4, ss3) => [(0, .int .i64 x1), (1, SV.v s1), (5, SV.v s4), (6, .int .i64 x4)])) (L' := (fun p q => match p, q with | x5, (s4, ss3) => [mat Ei 2 22 s4 ss3 x5])) ?_ ?_
      · refine TC.seq ?_
        refine TC.region ?_
        refine TL.move rfl rfl (v := SV.v s1) rfl ?_
        refine TL.move rfl rfl (v := .int .i64 x4) rfl ?_
        refine TL.chk fun h2 => ?_
        refine TL.ixsM x4 x4.toNat (RdM.old h1) h2 Try.underlying32 Try.sizeOf22 rfl rfl rfl rfl (by omega) ?_
        refine TL.loadM2 (RdM.old h1) Try.isAgg22 x4 h2 (by omega) rfl rfl rfl ?_
        refine TL.call (R := G.spec_l01Own.R) Try.call165 rfl rfl rfl (fun w hS => G.spec_l01Own.calls w (gt ss1 x4) (gt x2 x4) ((RdM.inn (RdM.old h1) h2) w hS)) ?_
        rintro r_1 _ _ ⟨s5, rfl, rfl⟩
        refine TL.assign rfl rfl (v := SV.v s5) rfl ?_
        refine TL.done ?_
        refine TC.seq ?_
        refine TC.seq ?_
        refine TC.region ?_
        refine TL.assign rfl rfl (v := .int .i64 0) rfl ?_
        refine TL.done ?_
        refine TC.loop1 (σ := (List Int) × Int) (γ := SV) (Γ' := (fun p q => match p, q with | (x6, x7), s6 => [(0, .int .i64 x1), (1, SV.v s1), (5, SV.v s3), (6, .int .i64 x4), (7, SV.v s6), (8, .int .i64 x7)])) (L' := (fun p q => match p, q with | (x6, x7), s6 => [mat Ei 2 22 s3 ss2 x3, row Ei 2 s6 x6])) (Γb := (fun p q => match p, q with | (x6, x7), s6 => [(0, .int .i64 x1), (1, SV.v s1), (5, SV.v s3), (6, .int .i64 x4), (7, SV.v s6), (8, .int .i64 x7)])) (Lb := (fun p q => match p, q with | (x6, x7), s6 => [mat Ei 2 22 s3 ss2 x3, row Ei 2 s6 x6])) ((r_1, 0)) (s5) ⟨rfl, rfl, rfl, rfl, rfl, rfl, trivial⟩ [1, 0] rfl ?_ ?_
        · rintro ⟨x6, x7⟩ s6
          refine TC.seq ?_
          refine TC.seq ?_
          refine TC.region ?_
          refine TL.move rfl rfl (v := .int .i64 x7) rfl ?_
          refine TL.move rfl rfl (v := SV.v s3) rfl ?_
          refine TL.lenM (RdM.mat 0 rfl) Try.underlying32 rfl rfl rfl ?_
          refine TL.bin .i64 x7 (x3.length : Int) rfl rfl rfl rfl (v := .bool (decide (x7 < (x3.length : Int)))) rfl ?_
          refine TL.done ?_
          refine TC.cond (b := (decide (x7 < (x3.length : Int)))) rfl (fun c3 => ?_) (fun c4 => ?_)
          · refine TC.skip ?_
            refine TC.seq ?_
            refine TC.block (NoEx.loop1 rfl) ?_
            refine TC.seq ?_
            refine TC.region ?_
            refine TL.move rfl rfl (v := SV.v s3) rfl ?_
            refine TL.move rfl rfl (v := .int .i64 x7) rfl ?_
            refine TL.chk fun h3 => ?_
            refine TL.ixsM x7 x7.toNat (RdM.mat 0 rfl) h3 Try.underlying32 Try.sizeOf22 rfl rfl rfl rfl (by omega) ?_
            refine TL.loadM2 (RdM.mat 0 rfl) Try.isAgg22 x7 h3 (by omega) rfl rfl rfl ?_
            refine TL.call (R := G.spec_l01Lead.R) Try.call192 rfl rfl rfl (fun w hS => G.spec_l01Lead.calls w (gt ss2 x7) (gt x3 x7) ((RdM.inn (RdM.mat 0 rfl) h3) w hS)) ?_
            rintro r_2 _ _ ⟨rfl, rfl⟩
            refine TL.assign rfl rfl (v := .int .i64 r_2) rfl ?_
            refine TL.done ?_
            refine TC.wk (Γ' := [(0, .int .i64 x1), (1, SV.v s1), (5, SV.v s3), (6, .int .i64 x4), (8, .int .i64 x7), (28, .int .i64 x7), (29, SV.v s3), (30, .int .i64 (x3.length : Int)), (31, .bool (decide (x7 < (x3.length : Int)))), (34, SV.v s3), (35, .int .i64 x7), (36, ep s3 x7.toNat), (37, SV.v (gt ss2 x7)), (38, .int .i64 r_2), (9, .int .i64 r_2), (7, SV.v s6)]) ⟨rfl, rfl, rfl, rfl, rfl, rfl, rfl, rfl, rfl, rfl, rfl, rfl, rfl, rfl, rfl, rfl, trivial⟩ ?_
            refine TC.chk fun h4 => ?_
            refine TC.bindE ?_
            rintro r_3 hr1
            refine TC.drawG [(0, .int .i64 x1), (1, SV.v s1), (5, SV.v s3), (6, .int .i64 x4), (8, .int .i64 x7), (28, .int .i64 x7), (29, SV.v s3), (30, .int .i64 (x3.length : Int)), (31, .bool (decide (x7 < (x3.length : Int)))), (34, SV.v s3), (35, .int .i64 x7), (36, ep s3 x7.toNat), (37, SV.v (gt ss2 x7)), (38, .int .i64 r_2), (9, .int .i64 r_2)] [(7, SV.v s6, 11)] ⟨rfl, rfl, rfl, rfl, rfl, rfl, rfl, rfl, rfl, rfl, rfl, rfl, rfl, rfl, rfl, trivial⟩ ⟨rfl, trivial⟩ (fun l_ g1 => [mat Ei 2 22 s3 ss2 x3, row Ei 2 s6 x6, (bif nb l_ 10 then row Ei 2 (gs (g1 80)) r_3 else emp)]) (fun g1 => [.int .i64 x1, SV.v s6, SV.v s3, .int .i64 x7, ep s3 x7.toNat, SV.v (gt ss2 x7), SV.v s6, .int .i64 r_2, ep s6 r_2.toNat, .int .i64 (gt x6 r_2), SV.v (gs (g1 80)), SV.v (gs (g1 80))]) [[], [], [], [], [2, 3], [2, 3, 4], [], [], [6, 7], [6, 7, 8], [0, 1, 2, 3, 4, 5, 6, 7, 8, 9], [0, 1, 2, 3, 4, 5, 6, 7, 8, 9, 10]] [[some false, none, none, none, none, none, none, none, none, none, some false, some false], [none, some false, none, none, none, none, none, none, none, none, some false, some false], [none, none, some false, none, some false, some false, none, none, none, none, some false, some false], [none, none, none, some false, some false, some false, none, none, none, none, some false, some false], [none, none, some true, some true, some false, some false, none, none, none, none, some false, some false], [none, none, some true, some true, some true, some false, none, none, none, none, some false, some false], [none, none, none, none, none, none, some false, none, some false, some false, some false, some false], [none, none, none, none, none, none, none, some false, some false, some false, some false, some false], [none, none, none, none, none, none, some true, some true, some false, some false, some false, some false], [none, none, none, none, none, none, some true, some true, some true, some false, some false, some false], [some true, some true, some true, some true, some true, some true, some true, some true, some true, some true, some false, some false], [some true, some true, some true, some true, some true, some true, some true, some true, some true, some true, some true, some false]] (by kernel_rfl) (fun _ => rfl) rfl rfl rfl rfl rfl (fun _ _ => ⟨⟨⟨⟨⟨⟨⟨⟨⟨⟨⟨⟨trivial, rfl⟩, rfl⟩, rfl⟩, rfl⟩, rfl⟩, rfl⟩, rfl⟩, rfl⟩, rfl⟩, rfl⟩, rfl⟩, rfl⟩) 1 [1, 1, 0] (fun _ => by kernel_rfl) ?_ ?_
            · refine ⟨rfl, ?_, rfl, ?_, rfl, ?_, rfl, ?_, rfl, ?_, rfl, ?_, rfl, ?_, rfl, ?_, rfl, ?_, rfl, ?_, rfl, ?_, rfl, ?_, trivial⟩
              · intro b1_ b2_ b3_ b4_ b5_ b6_ b7_ b8_ b9_ g1
                refine TL.move rfl rfl (v := .int .i64 x1) rfl ?_
                refine TL.done ?_
                exact TC.nrm () [] ⟨rfl, trivial⟩ [0, 0, 0] (by kernel_rfl)
              · intro b0_ b2_ b3_ b4_ b5_ b6_ b7_ b8_ b9_ g1
                refine TL.move rfl rfl (v := SV.v s6) rfl ?_
                refine TL.done ?_
                exact TC.nrm () [] ⟨rfl, trivial⟩ [0, 0, 0] (by kernel_rfl)
              · intro b0_ b1_ b3_ b6_ b7_ b8_ b9_ g1
                refine TL.move rfl rfl (v := SV.v s3) rfl ?_
                refine TL.done ?_
                exact TC.nrm () [] ⟨rfl, trivial⟩ [0, 0, 0] (by kernel_rfl)
              · intro b0_ b1_ b2_ b6_ b7_ b8_ b9_ g1
                refine TL.move rfl rfl (v := .int .i64 x7) rfl ?_
                refine TL.done ?_
                exact TC.nrm () [] ⟨rfl, trivial⟩ [0, 0, 0] (by kernel_rfl)
              · intro b0_ b1_ b6_ b7_ b8_ b9_ g1
                refine TL.asL [mat Ei 2 22 s3 ss2 x3, row Ei 2 s6 x6, emp] (by kernel_rfl) ?_
                refine TL.ixsM x7 x7.toNat (RdM.mat 0 rfl) h3 Try.underlying32 Try.sizeOf22 rfl rfl rfl rfl (by omega) ?_
                refine TL.done ?_
                exact TC.nrm () [] ⟨rfl, trivial⟩ [0, 0, 0] (by kernel_rfl)
              · intro b0_ b1_ b6_ b7_ b8_ b9_ g1
                refine TL.asL [mat Ei 2 22 s3 ss2 x3, row Ei 2 s6 x6, emp] (by kernel_rfl) ?_
                refine TL.loadM2 (RdM.mat 0 rfl) Try.isAgg22 x7 h3 (by omega) rfl rfl rfl ?_
                refine TL.done ?_
                exact TC.nrm () [] ⟨rfl, trivial⟩ [0, 0, 0] (by kernel_rfl)
              · intro b0_ b1_ b2_ b3_ b4_ b5_ b7_ g1
                refine TL.move rfl rfl (v := SV.v s6) rfl ?_
                refine TL.done ?_
                exact TC.nrm () [] ⟨rfl, trivial⟩ [0, 0, 0] (by kernel_rfl)
              · intro b0_ b1_ b2_ b3_ b4_ b5_ b6_ g1
                refine TL.move rfl rfl (v := .int .i64 r_2) rfl ?_
                refine TL.done ?_
                exact TC.nrm () [] ⟨rfl, trivial⟩ [0, 0, 0] (by kernel_rfl)
              · intro b0_ b1_ b2_ b3_ b4_ b5_ g1
                refine TL.asL [mat Ei 2 22 s3 ss2 x3, row Ei 2 s6 x6, emp] (by kernel_rfl) ?_
                refine TL.ixs r_2 r_2.toNat (Rd.row 1 rfl) h4 Try.underlying22 Try.sizeOf2 rfl rfl rfl rfl (by omega) ?_
                refine TL.done ?_
                exact TC.nrm () [] ⟨rfl, trivial⟩ [0, 0, 0] (by kernel_rfl)
              · intro b0_ b1_ b2_ b3_ b4_ b5_ g1
                refine TL.asL [mat Ei 2 22 s3 ss2 x3, row Ei 2 s6 x6, emp] (by kernel_rfl) ?_
                refine TL.loadE (Rd.row 1 rfl) Try.isAgg2 r_2.toNat 0 (gt_spec h4) (v := .int .i64 (gt x6 r_2)) rfl (by simp only [show Ei.sz = 1 from rfl] <;> omega) rfl rfl rfl ?_
                refine TL.done ?_
                exact TC.nrm () [] ⟨rfl, trivial⟩ [0, 0, 0] (by kernel_rfl)
              · intro g1
                refine TL.asL [mat Ei 2 22 s3 ss2 x3, row Ei 2 s6 x6, emp] (by kernel_rfl) ?_
                refine TL.callH (R := G.spec_l01Less.R) hr1 Try.call195 rfl rfl rfl (fun w hS => G.spec_l01Less.calls w x1 s6 x6 (gt ss2 x7) (gt x3 x7) (gt x6 r_2) ((Rd.row 1 rfl) w hS) ((RdM.inn (RdM.mat 0 rfl) h3) w hS)) ?_
                rintro _ _ ⟨s7, rfl, rfl⟩
                refine TL.done ?_
                exact TC.nrm () [[s7]] ⟨rfl, trivial⟩ [1, 1, 0] (by kernel_rfl)
              · intro g1
                refine TL.assign rfl rfl (v := SV.v (gs (g1 80))) rfl ?_
                refine TL.done ?_
                exact TC.nrm () [] ⟨rfl, trivial⟩ [0, 0, 0] (by kernel_rfl)
            · intro g1
              refine TC.asL [mat Ei 2 22 s3 ss2 x3, row Ei 2 s6 x6, row Ei 2 (gs (g1 80)) r_3] (by kernel_rfl) ?_
              refine TC.region ?_
              refine TL.move rfl rfl (v := .int .i64 x7) rfl ?_
              refine TL.bin .i64 x7 1 rfl rfl rfl rfl (v := .int .i64 (w64 (x7 + 1))) rfl ?_
              refine TL.assign rfl rfl (v := .int .i64 (w64 (x7 + 1))) rfl ?_
              refine TL.done ?_
              exact TC.next1 ((r_3, (w64 (x7 + 1)))) ((gs (g1 80))) ⟨rfl, rfl, rfl, rfl, rfl, rfl, trivial⟩ [0, 1] rfl
          · exact TC.brk1 ((x6, x7)) (s6) ⟨rfl, rfl, rfl, rfl, rfl, rfl, trivial⟩ [0, 0] rfl
        · rintro ⟨x6, x7⟩ s6
          refine TC.seq ?_
          refine TC.region ?_
          refine TL.move rfl rfl (v := SV.v s6) rfl ?_
          refine TL.call (R := G.spec_l01Lead.R) Try.call192 rfl rfl rfl (fun w hS => G.spec_l01Lead.calls w s6 x6 ((Rd.row 1 rfl) w hS)) ?_
          rintro r_4 _ _ ⟨rfl, rfl⟩
          refine TL.assign rfl rfl (v := .int .i64 r_4) rfl ?_
          refine TL.done ?_
          refine TC.seq ?_
          refine TC.seq ?_
          refine TC.region ?_
          refine TL.move rfl rfl (v := .int .i64 r_4) rfl ?_
          refine TL.bin .i64 r_4 0 rfl rfl rfl rfl (v := .bool (decide (r_4 < 0))) rfl ?_
          refine TL.done ?_
          refine TC.cond (b := (decide (r_4 < 0))) rfl (fun c5 => ?_) (fun c6 => ?_)
          · exact TC.exB (x3) ((s3, ss2)) ⟨rfl, rfl, rfl, rfl, trivial⟩ [0] rfl
          · refine TC.skip ?_
            refine TC.seq ?_
            refine TC.region ?_
            refine TL.move rfl rfl (v := .int .i64 x1) rfl ?_
            refine TL.move rfl rfl (v := SV.v s6) rfl ?_
            refine TL.move rfl rfl (v := .int .i64 r_4) rfl ?_
            refine TL.chk fun h5 => ?_
            refine TL.ixs r_4 r_4.toNat (Rd.row 1 rfl) h5 Try.underlying22 Try.sizeOf2 rfl rfl rfl rfl (by omega) ?_
            refine TL.loadE (Rd.row 1 rfl) Try.isAgg2 r_4.toNat 0 (gt_spec h5) (v := .int .i64 (gt x6 r_4)) rfl (by simp only [show Ei.sz = 1 from rfl] <;> omega) rfl rfl rfl ?_
            refine TL.call (R := G.spec_l01Inverse.R) Try.call76 rfl rfl rfl (fun w hS => G.spec_l01Inverse.calls w x1 (gt x6 r_4)) ?_
            rintro r_5 _ _ ⟨rfl, rfl⟩
            refine TL.assign rfl rfl (v := .int .i64 r_5) rfl ?_
            refine TL.done ?_
            refine TC.seq ?_
            refine TC.seq ?_
            refine TC.region ?_
            refine TL.assign rfl rfl (v := .int .i64 0) rfl ?_
            refine TL.done ?_
            refine TC.loop1 (σ := (List Int) × Int) (γ := Unit) (Γ' := (fun p q => match p, q with | (l1, x8), _ => [(0, .int .i64 x1), (1, SV.v s1), (5, SV.v s3), (6, .int .i64 x4), (7, SV.v s6), (10, .int .i64 r_4), (11, .int .i64 r_5), (12, .int .i64 x8)])) (L' := (fun p q => match p, q with | (l1, x8), _ => [mat Ei 2 22 s3 ss2 x3, row Ei 2 s6 l1])) (Γb := (fun p q => match p, q with | (l1, x8), _ => [(0, .int .i64 x1), (1, SV.v s1), (5, SV.v s3), (6, .int .i64 x4), (7, SV.v s6), (10, .int .i64 r_4), (11, .int .i64 r_5), (12, .int .i64 x8)])) (Lb := (fun p q => match p, q with | (l1, x8), _ => [mat Ei 2 22 s3 ss2 x3, row Ei 2 s6 l1])) ((x6, 0)) (()) ⟨rfl, rfl, rfl, rfl, rfl, rfl, rfl, rfl, trivial⟩ [0, 0] rfl ?_ ?_
            · rintro ⟨l1, x8⟩ _
              refine TC.seq ?_
              refine TC.seq ?_
              refine TC.region ?_
              refine TL.move rfl rfl (v := .int .i64 x8) rfl ?_
              refine TL.move rfl rfl (v := SV.v s6) rfl ?_
              refine TL.len (Rd.row 1 rfl) Try.underlying22 rfl rfl rfl ?_
              refine TL.bin .i64 x8 (l1.length : Int) rfl rfl rfl rfl (v := .bool (decide (x8 < (l1.length : Int)))) rfl ?_
              refine TL.done ?_
              refine TC.cond (b := (decide (x8 < (l1.length : Int)))) rfl (fun c7 => ?_) (fun c8 => ?_)
              · refine TC.skip ?_
                refine TC.seq ?_
                refine TC.block (NoEx.loop1 rfl) ?_
                refine TC.region ?_
                refine TL.move rfl rfl (v := SV.v s6) rfl ?_
                refine TL.move rfl rfl (v := .int .i64 x8) rfl ?_
                refine TL.move rfl rfl (v := SV.v s6) rfl ?_
                refine TL.move rfl rfl (v := .int .i64 x8) rfl ?_
                refine TL.chk fun h6 => ?_
                refine TL.ixs x8 x8.toNat (Rd.row 1 rfl) h6 Try.underlying22 Try.sizeOf2 rfl rfl rfl rfl (by omega) ?_
                refine TL.loadE (Rd.row 1 rfl) Try.isAgg2 x8.toNat 0 (gt_spec h6) (v := .int .i64 (gt l1 x8)) rfl (by simp only [show Ei.sz = 1 from rfl] <;> omega) rfl rfl rfl ?_
                refine TL.move rfl rfl (v := .int .i64 r_5) rfl ?_
                refine TL.bin .i64 (gt l1 x8) r_5 rfl rfl rfl rfl (v := .int .i64 (w64 ((gt l1 x8) * r_5))) rfl ?_
                refine TL.move rfl rfl (v := .int .i64 x1) rfl ?_
                refine TL.nz fun z1 => ?_
                refine TL.rem .i64 (w64 ((gt l1 x8) * r_5)) x1 z1 rfl rfl rfl rfl ?_
                refine TL.ixs x8 x8.toNat (Rd.row 1 rfl) h6 Try.underlying22 Try.sizeOf2 rfl rfl rfl rfl (by omega) ?_
                refine TL.stE 1 (x8.toNat) (Int.tmod (w64 ((gt l1 x8) * r_5)) x1) (v := .int .i64 (Int.tmod (w64 ((gt l1 x8) * r_5)) x1)) rfl Try.sizeOf2 rfl rfl rfl (by have h_ := h6; omega) (by simp only [show Ei.sz = 1 from rfl] <;> omega) rfl rfl rfl ?_
                refine TL.done ?_
                refine TC.region ?_
                refine TL.move rfl rfl (v := .int .i64 x8) rfl ?_
                refine TL.bin .i64 x8 1 rfl rfl rfl rfl (v := .int .i64 (w64 (x8 + 1))) rfl ?_
                refine TL.assign rfl rfl (v := .int .i64 (w64 (x8 + 1))) rfl ?_
                refine TL.done ?_
                exact TC.next1 (((l1.set x8.toNat (Int.tmod (w64 ((gt l1 x8) * r_5)) x1)), (w64 (x8 + 1)))) (()) ⟨rfl, rfl, rfl, rfl, rfl, rfl, rfl, rfl, trivial⟩ [0, 0] rfl
              · exact TC.brk1 ((l1, x8)) (()) ⟨rfl, rfl, rfl, rfl, rfl, rfl, rfl, rfl, trivial⟩ [0, 0] rfl
            · rintro ⟨l1, x8⟩ _
              refine TC.seq ?_
              refine TC.region ?_
              refine TL.bslice0 Ev Try.underlying32 Try.sizeOf22 rfl rfl fun s8 => ?_
              refine TL.rows0 Ei 2 ?_
              refine TL.matmk 1 0 rfl rfl ?_
              refine TL.asL [mat Ei 2 22 s8 ([] : List SV) ([] : List (List Int)), emp, mat Ei 2 22 s3 ss2 x3, row Ei 2 s6 l1] (by kernel_rfl) ?_
              refine TL.assign rfl rfl (v := SV.v s8) rfl ?_
              refine TL.assign rfl rfl (v := .bool false) rfl ?_
              refine TL.done ?_
              refine TC.seq ?_
              refine TC.seq ?_
              refine TC.region ?_
              refine TL.assign rfl rfl (v := .int .i64 0) rfl ?_
              refine TL.done ?_
              refine TC.asL [matP Ei 2 22 false s6 l1 s8 ([] : List SV) ([] : List (List Int)), emp, mat Ei 2 22 s3 ss2 x3, row Ei 2 s6 l1] (by kernel_rfl) ?_
              refine TC.loop1 (σ := (List (List Int)) × Bool × Int) (γ := SV × (List SV)) (Γ' := (fun p q => match p, q with | (x9, x10, x11), (s9, ss4) => [(0, .int .i64 x1), (1, SV.v s1), (5, SV.v s3), (6, .int .i64 x4), (7, SV.v s6), (10, .int .i64 r_4), (13, SV.v s9), (14, .bool x10), (15, .int .i64 x11)])) (L' := (fun p q => match p, q with | (x9, x10, x11), (s9, ss4) => [mat Ei 2 22 s3 ss2 x3, row Ei 2 s6 l1, matP Ei 2 22 x10 s6 l1 s9 ss4 x9])) (Γb := (fun p q => match p, q with | (x9, x10, x11), (s9, ss4) => [(0, .int .i64 x1), (1, SV.v s1), (5, SV.v s3), (6, .int .i64 x4), (7, SV.v s6), (10, .int .i64 r_4), (13, SV.v s9), (14, .bool x10), (15, .int .i64 x11)])) (Lb := (fun p q => match p, q with | (x9, x10, x11), (s9, ss4) => [mat Ei 2 22 s3 ss2 x3, row Ei 2 s6 l1, matP Ei 2 22 x10 s6 l1 s9 ss4 x9])) ((([] : List (List Int)), false, 0)) ((s8, ([] : List SV))) ⟨rfl, rfl, rfl, rfl, rfl, rfl, rfl, rfl, rfl, trivial⟩ [2, 2, 0] rfl ?_ ?_
              · rintro ⟨x9, x10, x11⟩ ⟨s9, ss4⟩
                refine TC.seq ?_
                refine TC.seq ?_
                refine TC.region ?_
                refine TL.move rfl rfl (v := .int .i64 x11) rfl ?_
                refine TL.move rfl rfl (v := SV.v s3) rfl ?_
                refine TL.lenM (RdM.mat 0 rfl) Try.underlying32 rfl rfl rfl ?_
                refine TL.bin .i64 x11 (x3.length : Int) rfl rfl rfl rfl (v := .bool (decide (x11 < (x3.length : Int)))) rfl ?_
                refine TL.done ?_
                refine TC.cond (b := (decide (x11 < (x3.length : Int)))) rfl (fun c9 => ?_) (fun c10 => ?_)
                · refine TC.skip ?_
                  refine TC.seq ?_
                  refine TC.block (NoEx.loop1 rfl) ?_
                  refine TC.seq ?_
                  refine TC.seq ?_
                  refine TC.region ?_
                  refine TL.move rfl rfl (v := .bool x10) rfl ?_
                  refine TL.not x10 rfl rfl rfl ?_
                  refine TL.move rfl rfl (v := .bool (!x10)) rfl ?_
                  refine TL.cutJh (σ := Bool) (γ := Unit) (Γ' := fun b_1 _ => [(94, .bool b_1), (0, .int .i64 x1), (1, SV.v s1), (5, SV.v s3), (6, .int .i64 x4), (7, SV.v s6), (10, .int .i64 r_4), (13, SV.v s9), (14, .bool x10), (15, .int .i64 x11), (78, .int .i64 x11), (79, SV.v s3), (80, .int .i64 (x3.length : Int)), (81, .bool (decide (x11 < (x3.length : Int)))), (84, .bool x10), (85, .bool (!x10)), (86, .bool (!x10))]) (L' := fun _ _ => [mat Ei 2 22 s3 ss2 x3, row Ei 2 s6 l1, matP Ei 2 22 x10 s6 l1 s9 ss4 x9]) 8 ?_ ?_
                  · refine TL.ifb (t := 86) (b := (!x10)) rfl (fun c11 => ?_) (fun c12 => ?_)
                    · refine TL.move rfl rfl (v := SV.v s3) rfl ?_
                      refine TL.move rfl rfl (v := .int .i64 x11) rfl ?_
                      refine TL.chk fun h7 => ?_
                      refine TL.ixsM x11 x11.toNat (RdM.mat 0 rfl) h7 Try.underlying32 Try.sizeOf22 rfl rfl rfl rfl (by omega) ?_
                      refine TL.loadM2 (RdM.mat 0 rfl) Try.isAgg22 x11 h7 (by omega) rfl rfl rfl ?_
                      refine TL.call (R := G.spec_l01Lead.R) Try.call192 rfl rfl rfl (fun w hS => G.spec_l01Lead.calls w (gt ss2 x11) (gt x3 x11) ((RdM.inn (RdM.mat 0 rfl) h7) w hS)) ?_
                      rintro r_6 _ _ ⟨rfl, rfl⟩
                      refine TL.move rfl rfl (v := .int .i64 r_4) rfl ?_
                      refine TL.bin .i64 r_6 r_4 rfl rfl rfl rfl (v := .bool (decide (r_6 > r_4))) rfl ?_
                      refine TL.pick rfl rfl (b := true) rfl (r := .bool (decide (r_6 > r_4))) rfl ?_
                      refine TL.done ?_
                      exact TC.nrm ((decide (r_6 > r_4))) () ⟨rfl, rfl, rfl, rfl, rfl, rfl, rfl, rfl, rfl, rfl, rfl, rfl, rfl, rfl, rfl, rfl, (by rw [c11]; rfl), trivial⟩ [0, 0, 0] (by kernel_rfl)
                    · refine TL.skip rfl rfl (by decide) ?_
                      refine TL.skip rfl rfl (by decide) ?_
                      refine TL.skip rfl rfl (by decide) ?_
                      refine TL.skip rfl rfl (by decide) ?_
                      refine TL.skip rfl rfl (by decide) ?_
                      refine TL.skip rfl rfl (by decide) ?_
                      refine TL.skip rfl rfl (by decide) ?_
                      refine TL.pick rfl rfl (b := false) rfl (r := .bool false) rfl ?_
                      refine TL.done ?_
                      exact TC.nrm (false) () ⟨rfl, rfl, rfl, rfl, rfl, rfl, rfl, rfl, rfl, rfl, rfl, rfl, rfl, rfl, rfl, rfl, (by rw [c12]; rfl), trivial⟩ [0, 0, 0] (by kernel_rfl)
                  · rintro b_1 _ hq1
                    refine TL.done ?_
                    refine TC.join1 (σ := (List (List Int)) × Bool) (γ := SV × (List SV)) (Γ' := (fun p q => match p, q with | (x12, x13), (s10, ss5) => [(0, .int .i64 x1), (1, SV.v s1), (5, SV.v s3), (6, .int .i64 x4), (7, SV.v s6), (10, .int .i64 r_4), (13, SV.v s10), (14, .bool x13), (15, .int .i64 x11)])) (L' := (fun p q => match p, q with | (x12, x13), (s10, ss5) => [mat Ei 2 22 s3 ss2 x3, row Ei 2 s6 l1, matP Ei 2 22 x13 s6 l1 s10 ss5 x12])) ?_ ?_
                    · refine TC.cond (b := b_1) rfl (fun c13 => ?_) (fun c14 => ?_)
                      · have hp_ : x10 = false := by cases hv_ : x10 with | false => rfl | true => (rw [hv_, c13] at hq1; cases hq1)
                        refine TC.asL [mat Ei 2 22 s3 ss2 x3, row Ei 2 s6 l1, mat Ei 2 22 s9 ss4 x9] (by rw [hp_]; first | done | kernel_rfl) ?_
                        refine TC.seq ?_
                        refine TC.region ?_
                        refine TL.move rfl rfl (v := SV.v s9) rfl ?_
                        refine TL.move rfl rfl (v := SV.v s6) rfl ?_
                        refine TL.blit Ev ([s6] : List SV) Try.underlying32 Try.sizeOf22 Try.zeroValue22 rfl rfl rfl [(0, SV.v s6)] rfl ⟨rfl, rfl, trivial⟩ rfl rfl fun s11 => ?_
                        refine TL.small fun h8 => ?_
                        refine TL.matlen 3 rfl fun h9 => ?_
                        refine TL.matcut 3 rfl ?_
                        refine TL.append 0 rfl (Rd.row 1 rfl) Try.underlying32 (info_of Try.type22) (zv := (Try.t22.zero.getD (.bool false))) rfl rfl rfl (by decide) (by have h_ := h8; have l_ := h9; (try simp only [List.length_cons, List.length_nil] at h_ l_ ⊢); omega) rfl rfl rfl rfl fun s12 => ?_
                        refine TL.pushHole s6 l1 4 rfl ?_
                        refine TL.matPmk 0 4 rfl rfl ?_
                        refine TL.drop 0 rfl ?_
                        refine TL.asL [row Ev 22 s11 ([s6] : List SV), mat Ei 2 22 s3 ss2 x3, row Ei 2 s6 l1, matP Ei 2 22 true s6 l1 s12 (ss4 ++ [s6]) (x9 ++ [l1])] (by kernel_rfl) ?_
                        refine TL.assign rfl rfl (v := SV.v s12) rfl ?_
                        refine TL.done ?_
                        refine TC.region ?_
                        refine TL.assign rfl rfl (v := .bool true) rfl ?_
                        refine TL.done ?_
                        exact TC.nrm (((x9 ++ [l1]), true)) ((s12, (ss4 ++ [s6]))) ⟨rfl, rfl, rfl, rfl, rfl, rfl, rfl, rfl, rfl, trivial⟩ [1, 1, 1] rfl
                      · refine TC.skip ?_
                        exact TC.nrm ((x9, x10)) ((s9, ss4)) ⟨rfl, rfl, rfl, rfl, rfl, rfl, rfl, rfl, rfl, trivial⟩ [0, 0, 0] rfl
                    · rintro ⟨x12, x13⟩ ⟨s10, ss5⟩
                      refine TC.wk (Γ' := [(0, .int .i64 x1), (1, SV.v s1), (5, SV.v s3), (6, .int .i64 x4), (7, SV.v s6), (10, .int .i64 r_4), (14, .bool x13), (15, .int .i64 x11), (13, SV.v s10)]) ⟨rfl, rfl, rfl, rfl, rfl, rfl, rfl, rfl, rfl, trivial⟩ ?_
                      refine TC.chk fun h10 => ?_
                      refine TC.chk fun h11 => ?_
                      refine TC.bindE ?_
                      rintro r_7 hr2
                      refine TC.small fun h12 => ?_
                      refine TC.drawG [(0, .int .i64 x1), (1, SV.v s1), (5, SV.v s3), (6, .int .i64 x4), (7, SV.v s6), (10, .int .i64 r_4), (14, .bool x13), (15, .int .i64 x11)] [(13, SV.v s10, 17)] ⟨rfl, rfl, rfl, rfl, rfl, rfl, rfl, rfl, trivial⟩ ⟨rfl, trivial⟩ (fun l_ g2 => [mat Ei 2 22 s3 ss2 x3, row Ei 2 s6 l1, (bif nb l_ 16 then emp else matP Ei 2 22 x13 s6 l1 s10 ss5 x12), (bif nb l_ 16 then matP Ei 2 22 x13 s6 l1 (gs (g2 128)) (ss5 ++ [(gs (g2 112))]) (x12 ++ [r_7]) else (bif nb l_ 14 then row Ei 2 (gs (g2 112)) r_7 else emp)), (bif nb l_ 15 then row Ev 22 (gs (g2 120)) ([(gs (g2 112))] : List SV) else emp)]) (fun g2 => [SV.v s10, .int .i64 x1, SV.v s3, .int .i64 x11, ep s3 x11.toNat, SV.v (gt ss2 x11), SV.v s6, SV.v s3, .int .i64 x11, ep s3 x11.toNat, SV.v (gt ss2 x11), .int .i64 r_4, ep (gt ss2 x11) r_4.toNat, .int .i64 (gt (gt x3 x11) r_4), SV.v (gs (g2 112)), SV.v (gs (g2 120)), SV.v (gs (g2 128)), SV.v (gs (g2 128))]) [[], [], [], [], [2, 3], [2, 3, 4], [], [], [], [7, 8], [7, 8, 9], [], [7, 8, 9, 10, 11], [7, 8, 9, 10, 11, 12], [1, 2, 3, 4, 5, 6, 7, 8, 9, 10, 11, 12, 13], [1, 2, 3, 4, 5, 6, 7, 8, 9, 10, 11, 12, 13, 14], [0, 1, 2, 3, 4, 5, 6, 7, 8, 9, 10, 11, 12, 13, 14, 15], [0, 1, 2, 3, 4, 5, 6, 7, 8, 9, 10, 11, 12, 13, 14, 15, 16]] [[some false, none, none, none, none, none, none, none, none, none, none, none, none, none, none, none, some false, some false], [none, some false, none, none, none, none, none, none, none, none, none, none, none, none, some false, some false, some false, some false], [none, none, some false, none, some false, some false, none, none, none, none, none, none, none, none, some false, some false, some false, some false], [none, none, none, some false, some false, some false, none, none, none, none, none, none, none, none, some false, some false, some false, some false], [none, none, some true, some true, some false, some false, none, none, none, none, none, none, none, none, some false, some false, some false, some false], [none, none, some true, some true, some true, some false, none, none, none, none, none, none, none, none, some false, some false, some false, some false], [none, none, none, none, none, none, some false, none, none, none, none, none, none, none, some false, some false, some false, some false], [none, none, none, none, none, none, none, some false, none, some false, some false, none, some false, some false, some false, some false, some false, some false], [none, none, none, none, none, none, none, none, some false, some false, some false, none, some false, some false, some false, some false, some false, some false], [none, none, none, none, none, none, none, some true, some true, some false, some false, none, some false, some false, some false, some false, some false, some false], [none, none, none, none, none, none, none, some true, some true, some true, some false, none, some false, some false, some false, some false, some false, some false], [none, none, none, none, none, none, none, none, none, none, none, some false, some false, some false, some false, some false, some false, some false], [none, none, none, none, none, none, none, some true, some true, some true, some true, some true, some false, some false, some false, some false, some false, some false], [none, none, none, none, none, none, none, some true, some true, some true, some true, some true, some true, some false, some false, some false, some false, some false], [none, some true, some true, some true, some true, some true, some true, some true, some true, some true, some true, some true, some true, some true, some false, some false, some false, some false], [none, some true, some true, some true, some true, some true, some true, some true, some true, some true, some true, some true, some true, some true, some true, some false, some false, some false], [some true, some true, some true, some true, some true, some true, some true, some true, some true, some true, some true, some true, some true, some true, some true, some true, some false, some false], [some true, some true, some true, some true, some true, some true, some true, some true, some true, some true, some true, some true, some true, some true, some true, some true, some true, some false]] (by kernel_rfl) (fun _ => rfl) rfl rfl rfl rfl rfl (fun _ _ => ⟨⟨⟨⟨⟨⟨⟨⟨⟨⟨⟨⟨⟨⟨⟨⟨⟨⟨trivial, rfl⟩, rfl⟩, rfl⟩, rfl⟩, rfl⟩, rfl⟩, rfl⟩, rfl⟩, rfl⟩, rfl⟩, rfl⟩, rfl⟩, rfl⟩, rfl⟩, rfl⟩, rfl⟩, rfl⟩, rfl⟩) 2 [2, 2, 2, 0, 0] (fun _ => by kernel_rfl) ?_ ?_
                      · refine ⟨rfl, ?_, rfl, ?_, rfl, ?_, rfl, ?_, rfl, ?_, rfl, ?_, rfl, ?_, rfl, ?_, rfl, ?_, rfl, ?_, rfl, ?_, rfl, ?_, rfl, ?_, rfl, ?_, rfl, ?_, rfl, ?_, rfl, ?_, rfl, ?_, trivial⟩
                        · intro b1_ b2_ b3_ b4_ b5_ b6_ b7_ b8_ b9_ b10_ b11_ b12_ b13_ b14_ b15_ g2
                          refine TL.move rfl rfl (v := SV.v s10) rfl ?_
                          refine TL.done ?_
                          exact TC.nrm () [] ⟨rfl, trivial⟩ [0, 0, 0, 0, 0] (by kernel_rfl)
                        · intro b0_ b2_ b3_ b4_ b5_ b6_ b7_ b8_ b9_ b10_ b11_ b12_ b13_ g2
                          refine TL.move rfl rfl (v := .int .i64 x1) rfl ?_
                          refine TL.done ?_
                          exact TC.nrm () [] ⟨rfl, trivial⟩ [0, 0, 0, 0, 0] (by kernel_rfl)
                        · intro b0_ b1_ b3_ b6_ b7_ b8_ b9_ b10_ b11_ b12_ b13_ g2
                          refine TL.move rfl rfl (v := SV.v s3) rfl ?_
                          refine TL.done ?_
                          exact TC.nrm () [] ⟨rfl, trivial⟩ [0, 0, 0, 0, 0] (by kernel_rfl)
                        · intro b0_ b1_ b2_ b6_ b7_ b8_ b9_ b10_ b11_ b12_ b13_ g2
                          refine TL.move rfl rfl (v := .int .i64 x11) rfl ?_
                          refine TL.done ?_
                          exact TC.nrm () [] ⟨rfl, trivial⟩ [0, 0, 0, 0, 0] (by kernel_rfl)
                        · intro b0_ b1_ b6_ b7_ b8_ b9_ b10_ b11_ b12_ b13_ g2
                          refine TL.asL [mat Ei 2 22 s3 ss2 x3, row Ei 2 s6 l1, matP Ei 2 22 x13 s6 l1 s10 ss5 x12, emp, emp] (by kernel_rfl) ?_
                          refine TL.ixsM x11 x11.toNat (RdM.mat 0 rfl) h10 Try.underlying32 Try.sizeOf22 rfl rfl rfl rfl (by omega) ?_
                          refine TL.done ?_
                          exact TC.nrm () [] ⟨rfl, trivial⟩ [0, 0, 0, 0, 0] (by kernel_rfl)
                        · intro b0_ b1_ b6_ b7_ b8_ b9_ b10_ b11_ b12_ b13_ g2
                          refine TL.asL [mat Ei 2 22 s3 ss2 x3, row Ei 2 s6 l1, matP Ei 2 22 x13 s6 l1 s10 ss5 x12, emp, emp] (by kernel_rfl) ?_
                          refine TL.loadM2 (RdM.mat 0 rfl) Try.isAgg22 x11 h10 (by omega) rfl rfl rfl ?_
                          refine TL.done ?_
                          exact TC.nrm () [] ⟨rfl, trivial⟩ [0, 0, 0, 0, 0] (by kernel_rfl)
                        · intro b0_ b1_ b2_ b3_ b4_ b5_ b7_ b8_ b9_ b10_ b11_ b12_ b13_ g2
                          refine TL.move rfl rfl (v := SV.v s6) rfl ?_
                          refine TL.done ?_
                          exact TC.nrm () [] ⟨rfl, trivial⟩ [0, 0, 0, 0, 0] (by kernel_rfl)
                        · intro b0_ b1_ b2_ b3_ b4_ b5_ b6_ b8_ b11_ g2
                          refine TL.move rfl rfl (v := SV.v s3) rfl ?_
                          refine TL.done ?_
                          exact TC.nrm () [] ⟨rfl, trivial⟩ [0, 0, 0, 0, 0] (by kernel_rfl)
                        · intro b0_ b1_ b2_ b3_ b4_ b5_ b6_ b7_ b11_ g2
                          refine TL.move rfl rfl (v := .int .i64 x11) rfl ?_
                          refine TL.done ?_
                          exact TC.nrm () [] ⟨rfl, trivial⟩ [0, 0, 0, 0, 0] (by kernel_rfl)
                        · intro b0_ b1_ b2_ b3_ b4_ b5_ b6_ b11_ g2
                          refine TL.asL [mat Ei 2 22 s3 ss2 x3, row Ei 2 s6 l1, matP Ei 2 22 x13 s6 l1 s10 ss5 x12, emp, emp] (by kernel_rfl) ?_
                          refine TL.ixsM x11 x11.toNat (RdM.mat 0 rfl) h10 Try.underlying32 Try.sizeOf22 rfl rfl rfl rfl (by omega) ?_
                          refine TL.done ?_
                          exact TC.nrm () [] ⟨rfl, trivial⟩ [0, 0, 0, 0, 0] (by kernel_rfl)
                        · intro b0_ b1_ b2_ b3_ b4_ b5_ b6_ b11_ g2
                          refine TL.asL [mat Ei 2 22 s3 ss2 x3, row Ei 2 s6 l1, matP Ei 2 22 x13 s6 l1 s10 ss5 x12, emp, emp] (by kernel_rfl) ?_
                          refine TL.loadM2 (RdM.mat 0 rfl) Try.isAgg22 x11 h10 (by omega) rfl rfl rfl ?_
                          refine TL.done ?_
                          exact TC.nrm () [] ⟨rfl, trivial⟩ [0, 0, 0, 0, 0] (by kernel_rfl)
                        · intro b0_ b1_ b2_ b3_ b4_ b5_ b6_ b7_ b8_ b9_ b10_ g2
                          refine TL.move rfl rfl (v := .int .i64 r_4) rfl ?_
                          refine TL.done ?_
                          exact TC.nrm () [] ⟨rfl, trivial⟩ [0, 0, 0, 0, 0] (by kernel_rfl)
                        · intro b0_ b1_ b2_ b3_ b4_ b5_ b6_ g2
                          refine TL.asL [mat Ei 2 22 s3 ss2 x3, row Ei 2 s6 l1, matP Ei 2 22 x13 s6 l1 s10 ss5 x12, emp, emp] (by kernel_rfl) ?_
                          refine TL.ixs r_4 r_4.toNat (RdM.inn (RdM.mat 0 rfl) h10) h11 Try.underlying22 Try.sizeOf2 rfl rfl rfl rfl (by omega) ?_
                          refine TL.done ?_
                          exact TC.nrm () [] ⟨rfl, trivial⟩ [0, 0, 0, 0, 0] (by kernel_rfl)
                        · intro b0_ b1_ b2_ b3_ b4_ b5_ b6_ g2
                          refine TL.asL [mat Ei 2 22 s3 ss2 x3, row Ei 2 s6 l1, matP Ei 2 22 x13 s6 l1 s10 ss5 x12, emp, emp] (by kernel_rfl) ?_
                          refine TL.loadE (RdM.inn (RdM.mat 0 rfl) h10) Try.isAgg2 r_4.toNat 0 (gt_spec h11) (v := .int .i64 (gt (gt x3 x11) r_4)) rfl (by simp only [show Ei.sz = 1 from rfl] <;> omega) rfl rfl rfl ?_
                          refine TL.done ?_
                          exact TC.nrm () [] ⟨rfl, trivial⟩ [0, 0, 0, 0, 0] (by kernel_rfl)
                        · intro b0_ g2
                          refine TL.asL [mat Ei 2 22 s3 ss2 x3, row Ei 2 s6 l1, matP Ei 2 22 x13 s6 l1 s10 ss5 x12, emp, emp] (by kernel_rfl) ?_
                          refine TL.callH (R := G.spec_l01Less.R) hr2 Try.call195 rfl rfl rfl (fun w hS => G.spec_l01Less.calls w x1 (gt ss2 x11) (gt x3 x11) s6 l1 (gt (gt x3 x11) r_4) ((RdM.inn (RdM.mat 0 rfl) h10) w hS) ((Rd.row 1 rfl) w hS)) ?_
                          rintro _ _ ⟨s13, rfl, rfl⟩
                          refine TL.done ?_
                          exact TC.nrm () [[s13]] ⟨rfl, trivial⟩ [1, 1, 1, 0, 1] (by kernel_rfl)
                        · intro b0_ g2
                          refine TL.asL [mat Ei 2 22 s3 ss2 x3, row Ei 2 s6 l1, matP Ei 2 22 x13 s6 l1 s10 ss5 x12, row Ei 2 (gs (g2 112)) r_7, emp] (by kernel_rfl) ?_
                          refine TL.blit Ev ([(gs (g2 112))] : List SV) Try.underlying32 Try.sizeOf22 Try.zeroValue22 rfl rfl rfl [(0, SV.v (gs (g2 112)))] rfl ⟨rfl, rfl, trivial⟩ rfl rfl fun s14 => ?_
                          refine TL.done ?_
                          exact TC.nrm () [[s14]] ⟨rfl, trivial⟩ [1, 1, 1, 1, 0] (by kernel_rfl)
                        · intro g2
                          refine TL.asL [mat Ei 2 22 s3 ss2 x3, row Ei 2 s6 l1, matP Ei 2 22 x13 s6 l1 s10 ss5 x12, row Ei 2 (gs (g2 112)) r_7, row Ev 22 (gs (g2 120)) ([(gs (g2 112))] : List SV)] (by kernel_rfl) ?_
                          refine TL.matPlen 2 rfl fun h13 => ?_
                          refine TL.matPcut 2 rfl ?_
                          refine TL.append 0 rfl (Rd.row 5 rfl) Try.underlying32 (info_of Try.type22) (zv := (Try.t22.zero.getD (.bool false))) rfl rfl rfl (by decide) (by have h_ := h12; have l_ := h13; (try simp only [List.length_cons, List.length_nil] at h_ l_ ⊢); omega) rfl rfl rfl rfl fun s15 => ?_
                          refine TL.restPush 3 4 rfl rfl ?_
                          skip
                          refine TL.matPmk 0 4 rfl rfl ?_
                          refine TL.drop 0 rfl ?_
                          refine TL.asL [mat Ei 2 22 s3 ss2 x3, row Ei 2 s6 l1, emp, matP Ei 2 22 x13 s6 l1 s15 (ss5 ++ [(gs (g2 112))]) (x12 ++ [r_7]), row Ev 22 (gs (g2 120)) ([(gs (g2 112))] : List SV)] (by kernel_rfl) ?_
                          refine TL.done ?_
                          exact TC.nrm () [[s15]] ⟨rfl, trivial⟩ [0, 0, 0, 0, 0] (by kernel_rfl)
                        · intro g2
                          refine TL.assign rfl rfl (v := SV.v (gs (g2 128))) rfl ?_
                          refine TL.done ?_
                          exact TC.nrm () [] ⟨rfl, trivial⟩ [0, 0, 0, 0, 0] (by kernel_rfl)
                      · intro g2
                        refine TC.asL [mat Ei 2 22 s3 ss2 x3, row Ei 2 s6 l1, emp, matP Ei 2 22 x13 s6 l1 (gs (g2 128)) (ss5 ++ [(gs (g2 112))]) (x12 ++ [r_7]), row Ev 22 (gs (g2 120)) ([(gs (g2 112))] : List SV)] (by kernel_rfl) ?_
                        refine TC.region ?_
                        refine TL.move rfl rfl (v := .int .i64 x11) rfl ?_
                        refine TL.bin .i64 x11 1 rfl rfl rfl rfl (v := .int .i64 (w64 (x11 + 1))) rfl ?_
                        refine TL.assign rfl rfl (v := .int .i64 (w64 (x11 + 1))) rfl ?_
                        refine TL.done ?_
                        exact TC.next1 (((x12 ++ [r_7]), x13, (w64 (x11 + 1)))) (((gs (g2 128)), (ss5 ++ [(gs (g2 112))]))) ⟨rfl, rfl, rfl, rfl, rfl, rfl, rfl, rfl, rfl, trivial⟩ [0, 0, 1] rfl
                · exact TC.brk1 ((x9, x10, x11)) ((s9, ss4)) ⟨rfl, rfl, rfl, rfl, rfl, rfl, rfl, rfl, rfl, trivial⟩ [0, 0, 0] rfl
              · rintro ⟨x9, x10, x11⟩ ⟨s9, ss4⟩
                refine TC.seq ?_
                refine TC.seq ?_
                refine TC.region ?_
                refine TL.move rfl rfl (v := .bool x10) rfl ?_
                refine TL.not x10 rfl rfl rfl ?_
                refine TL.done ?_
                refine TC.join1 (σ := (List (List Int))) (γ := SV × (List SV)) (Γ' := (fun p q => match p, q with | x14, (s16, ss6) => [(0, .int .i64 x1), (1, SV.v s1), (6, .int .i64 x4), (13, SV.v s16)])) (L' := (fun p q => match p, q with | x14, (s16, ss6) => [mat Ei 2 22 s16 ss6 x14])) ?_ ?_
                · refine TC.cond (b := (!x10)) rfl (fun c15 => ?_) (fun c16 => ?_)
                  · have hp_ : x10 = false := by cases hv_ : x10 with | false => rfl | true => (rw [hv_] at c15; cases c15)
                    refine TC.asL [mat Ei 2 22 s3 ss2 x3, row Ei 2 s6 l1, mat Ei 2 22 s9 ss4 x9] (by rw [hp_]; first | done | kernel_rfl) ?_
                    refine TC.region ?_
                    refine TL.move rfl rfl (v := SV.v s9) rfl ?_
                    refine TL.move rfl rfl (v := SV.v s6) rfl ?_
                    refine TL.blit Ev ([s6] : List SV) Try.underlying32 Try.sizeOf22 Try.zeroValue22 rfl rfl rfl [(0, SV.v s6)] rfl ⟨rfl, rfl, trivial⟩ rfl rfl fun s17 => ?_
                    refine TL.small fun h14 => ?_
                    refine TL.matlen 3 rfl fun h15 => ?_
                    refine TL.matcut 3 rfl ?_
                    refine TL.append 0 rfl (Rd.row 1 rfl) Try.underlying32 (info_of Try.type22) (zv := (Try.t22.zero.getD (.bool false))) rfl rfl rfl (by decide) (by have h_ := h14; have l_ := h15; (try simp only [List.length_cons, List.length_nil] at h_ l_ ⊢); omega) rfl rfl rfl rfl fun s18 => ?_
                    refine TL.rowsPush 4 3 rfl rfl ?_
                    skip
                    refine TL.matmk 0 3 rfl rfl ?_
                    refine TL.drop 0 rfl ?_
                    refine TL.asL [row Ev 22 s17 ([s6] : List SV), mat Ei 2 22 s3 ss2 x3, mat Ei 2 22 s18 (ss4 ++ [s6]) (x9 ++ [l1]), emp] (by kernel_rfl) ?_
                    refine TL.assign rfl rfl (v := SV.v s18) rfl ?_
                    refine TL.done ?_
                    exact TC.nrm ((x9 ++ [l1])) ((s18, (ss4 ++ [s6]))) ⟨rfl, rfl, rfl, rfl, trivial⟩ [2] rfl
                  · have hp_ : x10 = true := by cases hv_ : x10 with | true => rfl | false => (rw [hv_] at c16; cases c16)
                    refine TC.asL [mat Ei 2 22 s3 ss2 x3, row Ei 2 s6 l1, matP Ei 2 22 true s6 l1 s9 ss4 x9] (by rw [hp_]; first | done | kernel_rfl) ?_
                    refine TC.closeP 1 2 rfl rfl ?_
                    refine TC.asL [mat Ei 2 22 s3 ss2 x3, emp, mat Ei 2 22 s9 ss4 x9] (by kernel_rfl) ?_
                    refine TC.skip ?_
                    exact TC.nrm (x9) ((s9, ss4)) ⟨rfl, rfl, rfl, rfl, trivial⟩ [2] rfl
                · rintro x14 ⟨s16, ss6⟩
                  refine TC.region ?_
                  refine TL.move rfl rfl (v := SV.v s16) rfl ?_
                  refine TL.assign rfl rfl (v := SV.v s16) rfl ?_
                  refine TL.done ?_
                  exact TC.inlB (x14) ((s16, ss6)) ⟨rfl, rfl, rfl, rfl, trivial⟩ [0] rfl
      · rintro x5 ⟨s4, ss3⟩
        refine TC.region ?_
        refine TL.move rfl rfl (v := .int .i64 x4) rfl ?_
        refine TL.bin .i64 x4 1 rfl rfl rfl rfl (v := .int .i64 (w64 (x4 + 1))) rfl ?_
        refine TL.assign rfl rfl (v := .int .i64 (w64 (x4 + 1))) rfl ?_
        refine TL.done ?_
        exact TC.next1 ((x5, (w64 (x4 + 1)))) ((s4, ss3)) ⟨rfl, rfl, rfl, rfl, trivial⟩ [0] rfl
    · exact TC.brk1 ((x3, x4)) ((s3, ss2)) ⟨rfl, rfl, rfl, rfl, trivial⟩ [0] rfl
  · rintro ⟨x3, x4⟩ ⟨s3, ss2⟩
    refine TC.seq ?_
    refine TC.region ?_
    refine TL.move rfl rfl (v := SV.v s3) rfl ?_
    refine TL.assign rfl rfl (v := SV.v s3) rfl ?_
    refine TL.done ?_
    exact TC.retF (Fin.body (fin1 (.inr rfl) rfl (.tmp rfl) [0] rfl ⟨s3, ss2, rfl, rfl⟩))

end Go.Proofs.Ytiiljfpbcanphaa.G

/- spec.l01Solve, as a pure function. -/
set_option linter.unusedVariables false
namespace Go.Proofs.Ytiiljfpbcanphaa.G
open Go Go.Sx Go.Proofs

def spec_l01Solve.b0 (rows1 : List (List Int)) (r_1 : List (List Int)) : (List Int) × Int → Option (LR ((List Int) × Int) ((List Int) × Bool)) := fun p => match p with | (out1, i1) => (bif (decide (i1 < (w64 (((gt rows1 0).length : Int) - 1)))) then chk i1 r_1.length ((G.spec_l01Lead.f (gt r_1 i1)).bind (fun r_2 => (bif (r_2 != i1) then some (.ret ((([] : List Int), false))) else chk (w64 (((gt rows1 0).length : Int) - 1)) ((gt r_1 i1).length) (small (out1.length + ([(gt (gt r_1 i1) (w64 (((gt rows1 0).length : Int) - 1)))] : List Int).length) (some (.next ((out1 ++ ([(gt (gt r_1 i1) (w64 (((gt rows1 0).length : Int) - 1)))] : List Int)), (w64 (i1 + 1))))))))) else some (.brk (out1, i1)))

def spec_l01Solve.f (p1 : Int) (rows1 : List (List Int)) : Option ((List Int) × Bool) := (bif ((rows1.length : Int) == 0) then some (([] : List Int), false) else chk 0 rows1.length ((G.spec_l01Echelon.f p1 rows1).bind (fun r_1 => (bif ((r_1.length : Int) != (w64 (((gt rows1 0).length : Int) - 1))) then some (([] : List Int), false) else (loop (spec_l01Solve.b0 rows1 r_1) (([] : List Int), 0)).bind (ln (fun p => match p with | (out1, i1) => some (out1, true)))))))

def spec_l01Solve.R (r : (List Int) × Bool) (v : Value) (L : List Asn) : Prop := ∃ (s0 : SV), v = .tuple #[SV.v s0, .bool r.2] ∧ L = [row Ei 2 s0 r.1]

set_option maxRecDepth 100000 in
set_option maxHeartbeats 4000000 in
theorem spec_l01Solve.calls (w : World) (p1 : Int) (s1 : SV) (ss1 : List SV) (rows1 : List (List Int)) (h1 : ReadsM Ei (hp w) s1 ss1 rows1) :
    ∀ r, spec_l01Solve.f p1 rows1 = some r → Calls Try.prog 181 #[.int .i64 p1, SV.v s1] w (Ret w (spec_l01Solve.R r)) := by

  refine calls_T (n := 49) (Γ := [(0, .int .i64 p1), (1, SV.v s1)]) (R := spec_l01Solve.R) Try.func181 rfl rfl (Nat.le_of_ble_eq_true rfl) ⟨rfl, rfl, trivial⟩ ?_
  unfold spec_l01Solve.f
  refine TC.seq ?_
  refine TC.region ?_
  refine TL.assign rfl rfl (v := SV.v ⟨none, 0, 0⟩) rfl ?_
  refine TL.assign rfl rfl (v := .bool false) rfl ?_
  refine TL.done ?_
  refine TC.seq ?_
  refine TC.seq ?_
  refine TC.region ?_
  refine TL.move rfl rfl (v := SV.v s1) rfl ?_
  refine TL.lenM (RdM.old h1) Try.underlying32 rfl rfl rfl ?_
  refine TL.bin .i64 (rows1.length : Int) 0 rfl rfl rfl rfl (v := .bool ((rows1.length : Int) == 0)) rfl ?_
  refine TL.done ?_
  refine TC.cond (b := ((rows1.length : Int) == 0)) rfl (fun c1 => ?_) (fun c2 => ?_)
  · refine TC.seq ?_
    refine TC.region ?_
    refine TL.assign rfl rfl (v := SV.v ⟨none, 0, 0⟩) rfl ?_
    refine TL.assign rfl rfl (v := .bool false) rfl ?_
    refine TL.done ?_
    refine TC.nilrow Ei 2 ?_
    exact TC.retF (Fin.body (fin2 (.inr rfl) rfl (.tmp rfl) (.tmp rfl) [0] rfl ⟨⟨none, 0, 0⟩, rfl, rfl⟩))
  · refine TC.skip ?_
    refine TC.seq ?_
    refine TC.wk (Γ' := [(0, .int .i64 p1), (1, SV.v s1), (4, SV.v ⟨none, 0, 0⟩), (5, .bool false), (10, SV.v s1), (11, .int .i64 (rows1.length : Int)), (12, .bool ((rows1.length : Int) == 0))]) ⟨rfl, rfl, rfl, rfl, rfl, rfl, rfl, trivial⟩ ?_
    refine TC.chk fun h2 => ?_
    refine TC.bindE ?_
    rintro r_1 hr1
    refine TC.drawG [(0, .int .i64 p1), (1, SV.v s1), (4, SV.v ⟨none, 0, 0⟩), (5, .bool false), (10, SV.v s1), (11, .int .i64 (rows1.length : Int)), (12, .bool ((rows1.length : Int) == 0))] [] ⟨rfl, rfl, rfl, rfl, rfl, rfl, rfl, trivial⟩ trivial (fun l_ g1 => [(bif nb l_ 7 then mat Ei 2 22 (gs (g1 56)) (g1 57) r_1 else emp)]) (fun g1 => [SV.v s1, ep s1 0, SV.v (gt ss1 0), .int .i64 ((gt rows1 0).length : Int), .int .i64 (w64 (((gt rows1 0).length : Int) - 1)), .int .i64 p1, SV.v s1, SV.v (gs (g1 56)), .int .i64 (w64 (((gt rows1 0).length : Int) - 1)), SV.v (gs (g1 56))]) [[], [0], [0, 1], [0, 1, 2], [0, 1, 2, 3], [], [], [5, 6], [0, 1, 2, 3, 4, 5, 6, 7], [0, 1, 2, 3, 4, 5, 6, 7, 8]] [[some false, some false, some false, some false, some false, none, none, none, some false, some false], [some true, some false, some false, some false, some false, none, none, none, some false, some false], [some true, some true, some false, some false, some false, none, none, none, some false, some false], [some true, some true, some true, some false, some false, none, none, none, some false, some false], [some true, some true, some true, some true, some false, none, none, none, some false, some false], [none, none, none, none, none, some false, none, some false, some false, some false], [none, none, none, none, none, none, some false, some false, some false, some false], [none, none, none, none, none, some true, some true, some false, some false, some false], [some true, some true, some true, some true, some true, some true, some true, some true, some false, some false], [some true, some true, some true, some true, some true, some true, some true, some true, some true, some false]] (by kernel_rfl) (fun _ => rfl) rfl rfl rfl rfl rfl (fun _ _ => ⟨⟨⟨⟨⟨⟨⟨⟨⟨⟨trivial, rfl⟩, rfl⟩, rfl⟩, rfl⟩, rfl⟩, rfl⟩, rfl⟩, rfl⟩, rfl⟩, rfl⟩) 1 [0] (fun _ => by kernel_rfl) ?_ ?_
    · refine ⟨rfl, ?_, rfl, ?_, rfl, ?_, rfl, ?_, rfl, ?_, rfl, ?_, rfl, ?_, rfl, ?_, rfl, ?_, rfl, ?_, trivial⟩
      · intro b5_ b6_ b7_ g1
        refine TL.move rfl rfl (v := SV.v s1) rfl ?_
        refine TL.done ?_
        exact TC.nrm () [] ⟨rfl, trivial⟩ [0] (by kernel_rfl)
      · intro b5_ b6_ b7_ g1
        refine TL.asL [(bif b7_ then mat Ei 2 22 (gs (g1 56)) (g1 57) r_1 else emp)] (by kernel_rfl) ?_
        refine TL.ixsM 0 0 (RdM.old h1) h2 Try.underlying32 Try.sizeOf22 rfl rfl rfl rfl rfl ?_
        refine TL.done ?_
        exact TC.nrm () [] ⟨rfl, trivial⟩ [0] (by kernel_rfl)
      · intro b5_ b6_ b7_ g1
        refine TL.asL [(bif b7_ then mat Ei 2 22 (gs (g1 56)) (g1 57) r_1 else emp)] (by kernel_rfl) ?_
        refine TL.loadM2 (RdM.old h1) Try.isAgg22 0 h2 rfl rfl rfl rfl ?_
        refine TL.done ?_
        exact TC.nrm () [] ⟨rfl, trivial⟩ [0] (by kernel_rfl)
      · intro b5_ b6_ b7_ g1
        refine TL.asL [(bif b7_ then mat Ei 2 22 (gs (g1 56)) (g1 57) r_1 else emp)] (by kernel_rfl) ?_
        refine TL.len (RdM.inn (RdM.old h1) h2) Try.underlying22 rfl rfl rfl ?_
        refine TL.done ?_
        exact TC.nrm () [] ⟨rfl, trivial⟩ [0] (by kernel_rfl)
      · intro b5_ b6_ b7_ g1
        refine TL.bin .i64 ((gt rows1 0).length : Int) 1 rfl rfl rfl rfl (v := .int .i64 (w64 (((gt rows1 0).length : Int) - 1))) rfl ?_
        refine TL.done ?_
        exact TC.nrm () [] ⟨rfl, trivial⟩ [0] (by kernel_rfl)
      · intro b0_ b1_ b2_ b3_ b4_ b6_ g1
        refine TL.move rfl rfl (v := .int .i64 p1) rfl ?_
        refine TL.done ?_
        exact TC.nrm () [] ⟨rfl, trivial⟩ [0] (by kernel_rfl)
      · intro b0_ b1_ b2_ b3_ b4_ b5_ g1
        refine TL.move rfl rfl (v := SV.v s1) rfl ?_
        refine TL.done ?_
        exact TC.nrm () [] ⟨rfl, trivial⟩ [0] (by kernel_rfl)
      · intro b0_ b1_ b2_ b3_ b4_ g1
        refine TL.asL [emp] (by kernel_rfl) ?_
        refine TL.callH (R := G.spec_l01Echelon.R) hr1 Try.call191 rfl rfl rfl (fun w hS => G.spec_l01Echelon.calls w p1 s1 ss1 rows1 ((RdM.old h1) w hS)) ?_
        rintro _ _ ⟨s2, ss2, rfl, rfl⟩
        refine TL.done ?_
        exact TC.nrm () [[s2], ss2] ⟨rfl, trivial⟩ [0] (by kernel_rfl)
      · intro g1
        refine TL.assign rfl rfl (v := .int .i64 (w64 (((gt rows1 0).length : Int) - 1))) rfl ?_
        refine TL.done ?_
        exact TC.nrm () [] ⟨rfl, trivial⟩ [0] (by kernel_rfl)
      · intro g1
        refine TL.assign rfl rfl (v := SV.v (gs (g1 56))) rfl ?_
        refine TL.done ?_
        exact TC.nrm () [] ⟨rfl, trivial⟩ [0] (by kernel_rfl)
    · intro g1
      refine TC.asL [mat Ei 2 22 (gs (g1 56)) (g1 57) r_1] (by kernel_rfl) ?_
      refine TC.seq ?_
      refine TC.seq ?_
      refine TC.region ?_
      refine TL.move rfl rfl (v := SV.v (gs (g1 56))) rfl ?_
      refine TL.lenM (RdM.mat 0 rfl) Try.underlying32 rfl rfl rfl ?_
      refine TL.move rfl rfl (v := .int .i64 (w64 (((gt rows1 0).length : Int) - 1))) rfl ?_
      refine TL.bin .i64 (r_1.length : Int) (w64 (((gt rows1 0).length : Int) - 1)) rfl rfl rfl rfl (v := .bool ((r_1.length : Int) != (w64 (((gt rows1 0).length : Int) - 1)))) rfl ?_
      refine TL.done ?_
      refine TC.cond (b := ((r_1.length : Int) != (w64 (((gt rows1 0).length : Int) - 1)))) rfl (fun c3 => ?_) (fun c4 => ?_)
      · refine TC.seq ?_
        refine TC.region ?_
        refine TL.assign rfl rfl (v := SV.v ⟨none, 0, 0⟩) rfl ?_
        refine TL.assign rfl rfl (v := .bool false) rfl ?_
        refine TL.done ?_
        refine TC.nilrow Ei 2 ?_
        exact TC.retF (Fin.body (fin2 (.inr rfl) rfl (.tmp rfl) (.tmp rfl) [0] rfl ⟨⟨none, 0, 0⟩, rfl, rfl⟩))
      · refine TC.skip ?_
        refine TC.seq ?_
        refine TC.region ?_
        refine TL.bslice0 Ei Try.underlying22 Try.sizeOf2 rfl rfl fun s3 => ?_
        refine TL.assign rfl rfl (v := SV.v s3) rfl ?_
        refine TL.done ?_
        refine TC.seq ?_
        refine TC.seq ?_
        refine TC.region ?_
        refine TL.assign rfl rfl (v := .int .i64 0) rfl ?_
        refine TL.done ?_
        refine TC.loopK (σ := (List Int) × Int) (γ := SV) (Γ' := (fun p q => match p, q with | (out1, i1), s4 => [(6, .int .i64 (w64 (((gt rows1 0).length : Int) - 1))), (7, SV.v (gs (g1 56))), (8, SV.v s4), (9, .int .i64 i1)])) (L' := (fun p q => match p, q with | (out1, i1), s4 => [mat Ei 2 22 (gs (g1 56)) (g1 57) r_1, row Ei 2 s4 out1])) (Γb := (fun p q => match p, q with | (out1, i1), s4 => [(6, .int .i64 (w64 (((gt rows1 0).length : Int) - 1))), (7, SV.v (gs (g1 56))), (8, SV.v s4), (9, .int .i64 i1)])) (Lb := (fun p q => match p, q with | (out1, i1), s4 => [mat Ei 2 22 (gs (g1 56)) (g1 57) r_1, row Ei 2 s4 out1])) ((([] : List Int), 0)) (s3) ⟨rfl, rfl, rfl, rfl, trivial⟩ [1, 0] rfl ?_ ?_
        · rintro ⟨out1, i1⟩ s4
          refine TC.seq ?_
          refine TC.seq ?_
          refine TC.region ?_
          refine TL.move rfl rfl (v := .int .i64 i1) rfl ?_
          refine TL.move rfl rfl (v := .int .i64 (w64 (((gt rows1 0).length : Int) - 1))) rfl ?_
          refine TL.bin .i64 i1 (w64 (((gt rows1 0).length : Int) - 1)) rfl rfl rfl rfl (v := .bool (decide (i1 < (w64 (((gt rows1 0).length : Int) - 1))))) rfl ?_
          refine TL.done ?_
          refine TC.cond (b := (decide (i1 < (w64 (((gt rows1 0).length : Int) - 1))))) rfl (fun c5 => ?_) (fun c6 => ?_)
          · refine TC.skip ?_
            refine TC.seq ?_
            refine TC.block (NoEx.loop rfl NoEx.body) ?_
            refine TC.seq ?_
            refine TC.seq ?_
            refine TC.region ?_
            refine TL.move rfl rfl (v := SV.v (gs (g1 56))) rfl ?_
            refine TL.move rfl rfl (v := .int .i64 i1) rfl ?_
            refine TL.chk fun h3 => ?_
            refine TL.ixsM i1 i1.toNat (RdM.mat 0 rfl) h3 Try.underlying32 Try.sizeOf22 rfl rfl rfl rfl (by omega) ?_
            refine TL.loadM2 (RdM.mat 0 rfl) Try.isAgg22 i1 h3 (by omega) rfl rfl rfl ?_
            refine TL.call (R := G.spec_l01Lead.R) Try.call192 rfl rfl rfl (fun w hS => G.spec_l01Lead.calls w (gt (g1 57) i1) (gt r_1 i1) ((RdM.inn (RdM.mat 0 rfl) h3) w hS)) ?_
            rintro r_2 _ _ ⟨rfl, rfl⟩
            refine TL.move rfl rfl (v := .int .i64 i1) rfl ?_
            refine TL.bin .i64 r_2 i1 rfl rfl rfl rfl (v := .bool (r_2 != i1)) rfl ?_
            refine TL.done ?_
            refine TC.cond (b := (r_2 != i1)) rfl (fun c7 => ?_) (fun c8 => ?_)
            · refine TC.seq ?_
              refine TC.region ?_
              refine TL.assign rfl rfl (v := SV.v ⟨none, 0, 0⟩) rfl ?_
              refine TL.assign rfl rfl (v := .bool false) rfl ?_
              refine TL.done ?_
              refine TC.nilrow Ei 2 ?_
              exact TC.retF (Fin.loop Far.ret (Fin.body (fin2 (.inr rfl) rfl (.tmp rfl) (.tmp rfl) [0] rfl ⟨⟨none, 0, 0⟩, rfl, rfl⟩)))
            · refine TC.skip ?_
              refine TC.region ?_
              refine TL.move rfl rfl (v := SV.v s4) rfl ?_
              refine TL.move rfl rfl (v := SV.v (gs (g1 56))) rfl ?_
              refine TL.move rfl rfl (v := .int .i64 i1) rfl ?_
              refine TL.ixsM i1 i1.toNat (RdM.mat 0 rfl) h3 Try.underlying32 Try.sizeOf22 rfl rfl rfl rfl (by omega) ?_
              refine TL.loadM2 (RdM.mat 0 rfl) Try.isAgg22 i1 h3 (by omega) rfl rfl rfl ?_
              refine TL.move rfl rfl (v := .int .i64 (w64 (((gt rows1 0).length : Int) - 1))) rfl ?_
              refine TL.chk fun h4 => ?_
              refine TL.ixs (w64 (((gt rows1 0).length : Int) - 1)) ((w64 (((gt rows1 0).length : Int) - 1)).toNat) (RdM.inn (RdM.mat 0 rfl) h3) h4 Try.underlying22 Try.sizeOf2 rfl rfl rfl rfl (by omega) ?_
              refine TL.loadE (RdM.inn (RdM.mat 0 rfl) h3) Try.isAgg2 (w64 (((gt rows1 0).length : Int) - 1)).toNat 0 (gt_spec h4) (v := .int .i64 (gt (gt r_1 i1) (w64 (((gt rows1 0).length : Int) - 1)))) rfl (by simp only [show Ei.sz = 1 from rfl] <;> omega) rfl rfl rfl ?_
              refine TL.blit Ei ([(gt (gt r_1 i1) (w64 (((gt rows1 0).length : Int) - 1)))] : List Int) Try.underlying22 Try.sizeOf2 Try.zeroValue2 rfl rfl rfl [(0, .int .i64 (gt (gt r_1 i1) (w64 (((gt rows1 0).length : Int) - 1))))] rfl ⟨rfl, rfl, trivial⟩ rfl rfl fun s5 => ?_
              refine TL.small fun h5 => ?_
              refine TL.append 2 rfl (Rd.row 0 rfl) Try.underlying22 (info_of Try.type2) (zv := (Try.t2.zero.getD (.bool false))) rfl rfl rfl (by decide) h5 rfl rfl rfl rfl fun s6 => ?_
              refine TL.assign rfl rfl (v := SV.v s6) rfl ?_
              refine TL.done ?_
              refine TC.region ?_
              refine TL.move rfl rfl (v := .int .i64 i1) rfl ?_
              refine TL.bin .i64 i1 1 rfl rfl rfl rfl (v := .int .i64 (w64 (i1 + 1))) rfl ?_
              refine TL.assign rfl rfl (v := .int .i64 (w64 (i1 + 1))) rfl ?_
              refine TL.done ?_
              exact TC.next (((out1 ++ ([(gt (gt r_1 i1) (w64 (((gt rows1 0).length : Int) - 1)))] : List Int)), (w64 (i1 + 1)))) (s6) ⟨rfl, rfl, rfl, rfl, trivial⟩ [1, 1] rfl
          · exact TC.brk ((out1, i1)) (s4) ⟨rfl, rfl, rfl, rfl, trivial⟩ [0, 0] rfl
        · rintro ⟨out1, i1⟩ s4
          refine TC.seq ?_
          refine TC.region ?_
          refine TL.move rfl rfl (v := SV.v s4) rfl ?_
          refine TL.assign rfl rfl (v := SV.v s4) rfl ?_
          refine TL.assign rfl rfl (v := .bool true) rfl ?_
          refine TL.done ?_
          exact TC.retF (Fin.body (fin2 (.inr rfl) rfl (.tmp rfl) (.tmp rfl) [1] rfl ⟨s4, rfl, rfl⟩))

end Go.Proofs.Ytiiljfpbcanphaa.G

/- spec.l01Find, as a pure function. -/
set_option linter.unusedVariables false
namespace Go.Proofs.Ytiiljfpbcanphaa.G
open Go Go.Sx Go.Proofs

def spec_l01Find.b0 (x2 : Int) (x6 : Int) (x8 : Int) (x3 : Nat → UInt8) : (List Int) × Int → Option (LB ((List Int) × Int)) := fun p => match p with | (x9, x10) => (bif (decide (x10 < x2)) then chk x10 6 (chk x6 6 (chk x8 6 (small (x9.length + ([((x3 (x10.toNat * 36 + x6.toNat * 6 + x8.toNat)).toNat : Int)] : List Int).length) (some (.next ((x9 ++ ([((x3 (x10.toNat * 36 + x6.toNat * 6 + x8.toNat)).toNat : Int)] : List Int)), (w64 (x10 + 1)))))))) else some (.brk (x9, x10)))

def spec_l01Find.b1 (x2 : Int) (x6 : Int) (x3 : Nat → UInt8) : (List (List Int)) × Int → Option (LB ((List (List Int)) × Int)) := fun p => match p with | (x7, x8) => (bif (decide (x8 < x2)) then (loop1 (spec_l01Find.b0 x2 x6 x8 x3) (([] : List Int), 0)).bind (fun p => match p with | (x9, x10) => ((bif (x6 == x8) then small (x9.length + ([1] : List Int).length) (some (x9 ++ ([1] : List Int))) else small (x9.length + ([0] : List Int).length) (some (x9 ++ ([0] : List Int))))).bind (fun x11 => small (x7.length + 1) (some (.next ((x7 ++ [x11]), (w64 (x8 + 1))))))) else some (.brk (x7, x8)))

def spec_l01Find.b2 (x2 : Int) (x3 : Nat → UInt8) : (List (List Int)) × Int → Option (LB ((List (List Int)) × Int)) := fun p => match p with | (x5, x6) => (bif (decide (x6 < x2)) then (loop1 (spec_l01Find.b1 x2 x6 x3) (x5, 0)).bind (fun p => match p with | (x7, x8) => some (.next (x7, (w64 (x6 + 1))))) else some (.brk (x5, x6)))

def spec_l01Find.b3 (r_1 : List Int) : (Nat → UInt8) × Int → Option (LB ((Nat → UInt8) × Int)) := fun p => match p with | (y1, x12) => (bif (decide (x12 < (r_1.length : Int))) then chk x12 r_1.length (chk x12 6 (some (.next ((upd y1 x12.toNat (UInt8.ofInt (gt r_1 x12))), (w64 (x12 + 1)))))) else some (.brk (y1, x12)))

def spec_l01Find.b4 (x2 : Int) (x1 : Int) (x3 : Nat → UInt8) (x4 : Nat → UInt8) (y1 : Nat → UInt8) : Int → Option (LR Int ((Nat → UInt8) × Bool)) := fun x13 => (bif (decide (x13 < x2)) then (G.spec_l01Basis.f x13).bind (fun r_3 => (G.spec_l01Times.f x1 x2 x3 x4 r_3 y1).bind (fun r_4 => (G.spec_l01Basis.f x13).bind (fun r_5 => (bif (!((List.range 6).all fun i_ => ((r_4 i_).toNat : Int) == ((r_5 i_).toNat : Int))) then some (.ret (((fun _ => (0 : UInt8)), false))) else some (.next (w64 (x13 + 1))))))) else some (.brk x13))

def spec_l01Find.f (x1 : Int) (x2 : Int) (x3 : Nat → UInt8) (x4 : Nat → UInt8) : Option ((Nat → UInt8) × Bool) := (loop1 (spec_l01Find.b2 x2 x3) (([] : List (List Int)), 0)).bind (fun p => match p with | (x5, x6) => (G.spec_l01Solve.f x1 x5).bind (fun p => match p with | (r_1, r_2) => (bif (!r_2) then some ((fun _ => (0 : UInt8)), false) else (loop1 (spec_l01Find.b3 r_1) ((fun _ => (0 : UInt8)), 0)).bind (fun p => match p with | (y1, x12) => (loop (spec_l01Find.b4 x2 x1 x3 x4 y1) 0).bind (ln (fun x13 => some (y1, true)))))))

def spec_l01Find.R (r : (Nat → UInt8) × Bool) (v : Value) (L : List Asn) : Prop := v = .tuple #[sval [.arr 6 (enf u8v r.1)], .bool r.2] ∧ L = []

set_option maxRecDepth 100000 in
set_option maxHeartbeats 4000000 in
theorem spec_l01Find.calls (w : World) (x1 : Int) (x2 : Int) (x3 : Nat → UInt8) (x4 : Nat → UInt8) :
    ∀ r, spec_l01Find.f x1 x2 x3 x4 = some r → Calls Try.prog 156 #[sval [.one (.int .i64 x1), .one (.int .i64 x2), .arr 216 (enf u8v x3), .arr 6 (enf u8v x4)]] w (Ret w (spec_l01Find.R r)) := by

  refine calls_T (n := 99) (Γ := [(0, sval [.one (.int .i64 x1), .one (.int .i64 x2), .arr 216 (enf u8v x3), .arr 6 (enf u8v x4)])]) (R := spec_l01Find.R) Try.func156 rfl rfl (Nat.le_of_ble_eq_true rfl) ⟨rfl, trivial⟩ ?_
  unfold spec_l01Find.f
  refine TC.seq ?_
  refine TC.region ?_
  refine TL.box [.one (.int .i64 x1), .one (.int .i64 x2), .arr 216 (enf u8v x3), .arr 6 (enf u8v x4)] rfl rfl rfl rfl fun b_1 => ?_
  refine TL.alloc [.arr 6 (enf u8v (fun _ => (0 : UInt8)))] rfl rfl Try.zeroValue41 rfl fun b_2 => ?_
  refine TL.assign rfl rfl (v := .bool false) rfl ?_
  refine TL.done ?_
  refine TC.seq ?_
  refine TC.region ?_
  refine TL.bslice0 Ev Try.underlying32 Try.sizeOf22 rfl rfl fun s1 => ?_
  refine TL.rows0 Ei 2 ?_
  refine TL.matmk 1 0 rfl rfl ?_
  refine TL.asL [mat Ei 2 22 s1 ([] : List SV) ([] : List (List Int)), emp, box b_2 41 [.arr 6 (enf u8v (fun _ => (0 : UInt8)))], box b_1 43 [.one (.int .i64 x1), .one (.int .i64 x2), .arr 216 (enf u8v x3), .arr 6 (enf u8v x4)]] (by kernel_rfl) ?_
  refine TL.assign rfl rfl (v := SV.v s1) rfl ?_
  refine TL.done ?_
  refine TC.seq ?_
  refine TC.seq ?_
  refine TC.region ?_
  refine TL.assign rfl rfl (v := .int .i64 0) rfl ?_
  refine TL.done ?_
  refine TC.loop1 (σ := (List (List Int)) × Int) (γ := SV × (List SV)) (Γ' := (fun p q => match p, q with | (x5, x6), (s2, ss1) => [(1, bp b_1 0), (2, bp b_2 0), (4, SV.v s2), (5, .int .i64 x6)])) (L' := (fun p q => match p, q with | (x5, x6), (s2, ss1) => [box b_1 43 [.one (.int .i64 x1), .one (.int .i64 x2), .arr 216 (enf u8v x3), .arr 6 (enf u8v x4)], box b_2 41 [.arr 6 (enf u8v (fun _ => (0 : UInt8)))], mat Ei 2 22 s2 ss1 x5])) (Γb := (fun p q => match p, q with | (x5, x6), (s2, ss1) => [(1, bp b_1 0), (2, bp b_2 0), (4, SV.v s2), (5, .int .i64 x6)])) (Lb := (fun p q => match p, q with | (x5, x6), (s2, ss1) => [box b_1 43 [.one (.int .i64 x1), .one (.int .i64 x2), .arr 216 (enf u8v x3), .arr 6 (enf u8v x4)], box b_2 41 [.arr 6 (enf u8v (fun _ => (0 : UInt8)))], mat Ei 2 22 s2 ss1 x5])) ((([] : List (List Int)), 0)) ((s1, ([] : List SV))) ⟨rfl, rfl, rfl, rfl, trivial⟩ [3, 2, 0] rfl ?_ ?_
  · rintro ⟨x5, x6⟩ ⟨s2, ss1⟩
    refine TC.seq ?_
    refine TC.seq ?_
    refine TC.region ?_
    refine TL.move rfl rfl (v := .int .i64 x6) rfl ?_
    refine TL.fa Try.underlying43 rfl Try.sizeOf2 rfl 1 rfl rfl rfl rfl ?_
    refine TL.load1 1 (Src.box 0 rfl) Try.isAgg2 rfl rfl rfl rfl rfl ?_
    refine TL.bin .i64 x6 x2 rfl rfl rfl rfl (v := .bool (decide (x6 < x2))) rfl ?_
    refine TL.done ?_
    refine TC.cond (b := (decide (x6 < x2))) rfl (fun c1 => ?_) (fun c2 => ?_)
    · refine TC.skip ?_
      refine TC.seq ?_
      refine TC.block (NoEx.loop1 rfl) ?_
      refine TC.seq ?_
      refine TC.region ?_
      refine TL.assign rfl rfl (v := .int .i64 0) rfl ?_
      refine TL.done ?_
      refine TC.loop1 (σ := (List (List Int)) × Int) (γ := SV × (List SV)) (Γ' := (fun p q => match p, q with | (x7, x8), (s3, ss2) => [(1, bp b_1 0), (2, bp b_2 0), (4, SV.v s3), (5, .int .i64 x6), (6, .int .i64 x8)])) (L' := (fun p q => match p, q with | (x7, x8), (s3, ss2) => [box b_1 43 [.one (.int .i64 x1), .one (.int .i64 x2), .arr 216 (enf u8v x3), .arr 6 (enf u8v x4)], box b_2 41 [.arr 6 (enf u8v (fun _ => (0 : UInt8)))], mat Ei 2 22 s3 ss2 x7])) (Γb := (fun p q => match p, q with | (x7, x8), (s3, ss2) => [(1, bp b_1 0), (2, bp b_2 0), (4, SV.v s3), (5, .int .i64 x6), (6, .int .i64 x8)])) (Lb := (fun p q => match p, q with | (x7, x8), (s3, ss2) => [box b_1 43 [.one (.int .i64 x1), .one (.int .i64 x2), .arr 216 (enf u8v x3), .arr 6 (enf u8v x4)], box b_2 41 [.arr 6 (enf u8v (fun _ => (0 : UInt8)))], mat Ei 2 22 s3 ss2 x7])) ((x5, 0)) ((s2, ss1)) ⟨rfl, rfl, rfl, rfl, rfl, trivial⟩ [0, 0, 0] rfl ?_ ?_
      · rintro ⟨x7, x8⟩ ⟨s3, ss2⟩
        refine TC.seq ?_
        refine TC.seq ?_
        refine TC.region ?_
        refine TL.move rfl rfl (v := .int .i64 x8) rfl ?_
        refine TL.fa Try.underlying43 rfl Try.sizeOf2 rfl 1 rfl rfl rfl rfl ?_
        refine TL.load1 1 (Src.box 0 rfl) Try.isAgg2 rfl rfl rfl rfl rfl ?_
        refine TL.bin .i64 x8 x2 rfl rfl rfl rfl (v := .bool (decide (x8 < x2))) rfl ?_
        refine TL.done ?_
        refine TC.cond (b := (decide (x8 < x2))) rfl (fun c3 => ?_) (fun c4 => ?_)
        · refine TC.skip ?_
          refine TC.seq ?_
          refine TC.block (NoEx.loop1 rfl) ?_
          refine TC.seq ?_
          refine TC.region ?_
          refine TL.bslice0 Ei Try.underlying22 Try.sizeOf2 rfl rfl fun s4 => ?_
          refine TL.assign rfl rfl (v := SV.v s4) rfl ?_
          refine TL.done ?_
          refine TC.seq ?_
          refine TC.seq ?_
          refine TC.region ?_
          refine TL.assign rfl rfl (v := .int .i64 0) rfl ?_
          refine TL.done ?_
          refine TC.loop1 (σ := (List Int) × Int) (γ := SV) (Γ' := (fun p q => match p, q with | (x9, x10), s5 => [(1, bp b_1 0), (2, bp b_2 0), (4, SV.v s3), (5, .int .i64 x6), (6, .int .i64 x8), (7, SV.v s5), (8, .int .i64 x10)])) (L' := (fun p q => match p, q with | (x9, x10), s5 => [box b_1 43 [.one (.int .i64 x1), .one (.int .i64 x2), .arr 216 (enf u8v x3), .arr 6 (enf u8v x4)], box b_2 41 [.arr 6 (enf u8v (fun _ => (0 : UInt8)))], mat Ei 2 22 s3 ss2 x7, row Ei 2 s5 x9])) (Γb := (fun p q => match p, q with | (x9, x10), s5 => [(1, bp b_1 0), (2, bp b_2 0), (4, SV.v s3), (5, .int .i64 x6), (6, .int .i64 x8), (7, SV.v s5), (8, .int .i64 x10)])) (Lb := (fun p q => match p, q with | (x9, x10), s5 => [box b_1 43 [.one (.int .i64 x1), .one (.int .i64 x2), .arr 216 (enf u8v x3), .arr 6 (enf u8v x4)], box b_2 41 [.arr 6 (enf u8v (fun _ => (0 : UInt8)))], mat Ei 2 22 s3 ss2 x7, row Ei 2 s5 x9])) ((([] : List Int), 0)) (s4) ⟨rfl, rfl, rfl, rfl, rfl, rfl, rfl, trivial⟩ [1, 1, 1, 0] rfl ?_ ?_
          · rintro ⟨x9, x10⟩ s5
            refine TC.seq ?_
            refine TC.seq ?_
            refine TC.region ?_
            refine TL.move rfl rfl (v := .int .i64 x10) rfl ?_
            refine TL.fa Try.underlying43 rfl Try.sizeOf2 rfl 1 rfl rfl rfl rfl ?_
            refine TL.load1 1 (Src.box 0 rfl) Try.isAgg2 rfl rfl rfl rfl rfl ?_
            refine TL.bin .i64 x10 x2 rfl rfl rfl rfl (v := .bool (decide (x10 < x2))) rfl ?_
            refine TL.done ?_
            refine TC.cond (b := (decide (x10 < x2))) rfl (fun c5 => ?_) (fun c6 => ?_)
            · refine TC.skip ?_
              refine TC.seq ?_
              refine TC.block (NoEx.loop1 rfl) ?_
              refine TC.region ?_
              refine TL.move rfl rfl (v := SV.v s5) rfl ?_
              refine TL.move rfl rfl (v := .int .i64 x10) rfl ?_
              refine TL.move rfl rfl (v := .int .i64 x6) rfl ?_
              refine TL.move rfl rfl (v := .int .i64 x8) rfl ?_
              refine TL.fa Try.underlying43 rfl Try.sizeOf40 rfl 2 rfl rfl rfl rfl ?_
              refine TL.chk fun h1 => ?_
              refine TL.ixa x10 (2 + x10.toNat * 36) h1 Try.underlying40 Try.sizeOf39 rfl rfl rfl rfl (by omega) ?_
              refine TL.chk fun h2 => ?_
              refine TL.ixa x6 (2 + (x10.toNat * 36 + x6.toNat * 6)) h2 Try.underlying39 Try.sizeOf38 rfl rfl rfl rfl (by omega) ?_
              refine TL.chk fun h3 => ?_
              refine TL.ixa x8 (2 + (x10.toNat * 36 + x6.toNat * 6 + x8.toNat)) h3 Try.underlying38 Try.sizeOf5 rfl rfl rfl rfl (by omega) ?_
              refine TL.loadA (x10.toNat * 36 + x6.toNat * 6 + x8.toNat) 2 (Src.box 0 rfl) Try.isAgg5 rfl (by omega) (v := u8v (x3 (x10.toNat * 36 + x6.toNat * 6 + x8.toNat))) rfl (st := 2) rfl (by omega) rfl rfl rfl ?_
              refine TL.conv .u8 .i64 ((x3 (x10.toNat * 36 + x6.toNat * 6 + x8.toNat)).toNat : Int) _ rfl rfl rfl Try.underlying5 Try.underlying2 (v := .int .i64 ((x3 (x10.toNat * 36 + x6.toNat * 6 + x8.toNat)).toNat : Int)) (conv_u8_i64 _) ?_
              refine TL.blit Ei ([((x3 (x10.toNat * 36 + x6.toNat * 6 + x8.toNat)).toNat : Int)] : List Int) Try.underlying22 Try.sizeOf2 Try.zeroValue2 rfl rfl rfl [(0, .int .i64 ((x3 (x10.toNat * 36 + x6.toNat * 6 + x8.toNat)).toNat : Int))] rfl ⟨rfl, rfl, trivial⟩ rfl rfl fun s6 => ?_
              refine TL.small fun h4 => ?_
              refine TL.append 4 rfl (Rd.row 0 rfl) Try.underlying22 (info_of Try.type2) (zv := (Try.t2.zero.getD (.bool false))) rfl rfl rfl (by decide) h4 rfl rfl rfl rfl fun s7 => ?_
              refine TL.assign rfl rfl (v := SV.v s7) rfl ?_
              refine TL.done ?_
              refine TC.region ?_
              refine TL.move rfl rfl (v := .int .i64 x10) rfl ?_
              refine TL.bin .i64 x10 1 rfl rfl rfl rfl (v := .int .i64 (w64 (x10 + 1))) rfl ?_
              refine TL.assign rfl rfl (v := .int .i64 (w64 (x10 + 1))) rfl ?_
              refine TL.done ?_
              exact TC.next1 (((x9 ++ ([((x3 (x10.toNat * 36 + x6.toNat * 6 + x8.toNat)).toNat : Int)] : List Int)), (w64 (x10 + 1)))) (s7) ⟨rfl, rfl, rfl, rfl, rfl, rfl, rfl, trivial⟩ [1, 1, 1, 1] rfl
            · exact TC.brk1 ((x9, x10)) (s5) ⟨rfl, rfl, rfl, rfl, rfl, rfl, rfl, trivial⟩ [0, 0, 0, 0] rfl
          · rintro ⟨x9, x10⟩ s5
            refine TC.seq ?_
            refine TC.seq ?_
            refine TC.region ?_
            refine TL.move rfl rfl (v := .int .i64 x6) rfl ?_
            refine TL.move rfl rfl (v := .int .i64 x8) rfl ?_
            refine TL.bin .i64 x6 x8 rfl rfl rfl rfl (v := .bool (x6 == x8)) rfl ?_
            refine TL.done ?_
            refine TC.join1 (σ := (List Int)) (γ := SV) (Γ' := (fun x11 s8 => [(1, bp b_1 0), (2, bp b_2 0), (4, SV.v s3), (5, .int .i64 x6), (6, .int .i64 x8), (7, SV.v s8)])) (L' := (fun x11 s8 => [box b_1 43 [.one (.int .i64 x1), .one (.int .i64 x2), .arr 216 (enf u8v x3), .arr 6 (enf u8v x4)], box b_2 41 [.arr 6 (enf u8v (fun _ => (0 : UInt8)))], mat Ei 2 22 s3 ss2 x7, row Ei 2 s8 x11])) ?_ ?_
            · refine TC.cond (b := (x6 == x8)) rfl (fun c7 => ?_) (fun c8 => ?_)
              · refine TC.region ?_
                refine TL.move rfl rfl (v := SV.v s5) rfl ?_
                refine TL.blit Ei ([1] : List Int) Try.underlying22 Try.sizeOf2 Try.zeroValue2 rfl rfl rfl [(0, .int .i64 1)] rfl ⟨rfl, rfl, trivial⟩ rfl rfl fun s9 => ?_
                refine TL.small fun h5 => ?_
                refine TL.append 4 rfl (Rd.row 0 rfl) Try.underlying22 (info_of Try.type2) (zv := (Try.t2.zero.getD (.bool false))) rfl rfl rfl (by decide) h5 rfl rfl rfl rfl fun s10 => ?_
                refine TL.assign rfl rfl (v := SV.v s10) rfl ?_
                refine TL.done ?_
                exact TC.nrm ((x9 ++ ([1] : List Int))) (s10) ⟨rfl, rfl, rfl, rfl, rfl, rfl, trivial⟩ [1, 1, 1, 1] rfl
              · refine TC.region ?_
                refine TL.move rfl rfl (v := SV.v s5) rfl ?_
                refine TL.blit Ei ([0] : List Int) Try.underlying22 Try.sizeOf2 Try.zeroValue2 rfl rfl rfl [(0, .int .i64 0)] rfl ⟨rfl, rfl, trivial⟩ rfl rfl fun s11 => ?_
                refine TL.small fun h6 => ?_
                refine TL.append 4 rfl (Rd.row 0 rfl) Try.underlying22 (info_of Try.type2) (zv := (Try.t2.zero.getD (.bool false))) rfl rfl rfl (by decide) h6 rfl rfl rfl rfl fun s12 => ?_
                refine TL.assign rfl rfl (v := SV.v s12) rfl ?_
                refine TL.done ?_
                exact TC.nrm ((x9 ++ ([0] : List Int))) (s12) ⟨rfl, rfl, rfl, rfl, rfl, rfl, trivial⟩ [1, 1, 1, 1] rfl
            · rintro x11 s8
              refine TC.region ?_
              refine TL.move rfl rfl (v := SV.v s3) rfl ?_
              refine TL.move rfl rfl (v := SV.v s8) rfl ?_
              refine TL.blit Ev ([s8] : List SV) Try.underlying32 Try.sizeOf22 Try.zeroValue22 rfl rfl rfl [(0, SV.v s8)] rfl ⟨rfl, rfl, trivial⟩ rfl rfl fun s13 => ?_
              refine TL.small fun h7 => ?_
              refine TL.matlen 3 rfl fun h8 => ?_
              refine TL.matcut 3 rfl ?_
              refine TL.append 0 rfl (Rd.row 1 rfl) Try.underlying32 (info_of Try.type22) (zv := (Try.t22.zero.getD (.bool false))) rfl rfl rfl (by decide) (by have h_ := h7; have l_ := h8; (try simp only [List.length_cons, List.length_nil] at h_ l_ ⊢); omega) rfl rfl rfl rfl fun s14 => ?_
              refine TL.rowsPush 4 5 rfl rfl ?_
              skip
              refine TL.matmk 0 5 rfl rfl ?_
              refine TL.drop 0 rfl ?_
              refine TL.asL [row Ev 22 s13 ([s8] : List SV), box b_1 43 [.one (.int .i64 x1), .one (.int .i64 x2), .arr 216 (enf u8v x3), .arr 6 (enf u8v x4)], box b_2 41 [.arr 6 (enf u8v (fun _ => (0 : UInt8)))], emp, mat Ei 2 22 s14 (ss2 ++ [s8]) (x7 ++ [x11])] (by kernel_rfl) ?_
              refine TL.assign rfl rfl (v := SV.v s14) rfl ?_
              refine TL.done ?_
              refine TC.region ?_
              refine TL.move rfl rfl (v := .int .i64 x8) rfl ?_
              refine TL.bin .i64 x8 1 rfl rfl rfl rfl (v := .int .i64 (w64 (x8 + 1))) rfl ?_
              refine TL.assign rfl rfl (v := .int .i64 (w64 (x8 + 1))) rfl ?_
              refine TL.done ?_
              exact TC.next1 (((x7 ++ [x11]), (w64 (x8 + 1)))) ((s14, (ss2 ++ [s8]))) ⟨rfl, rfl, rfl, rfl, rfl, trivial⟩ [1, 1, 2] rfl
        · exact TC.brk1 ((x7, x8)) ((s3, ss2)) ⟨rfl, rfl, rfl, rfl, rfl, trivial⟩ [0, 0, 0] rfl
      · rintro ⟨x7, x8⟩ ⟨s3, ss2⟩
        refine TC.region ?_
        refine TL.move rfl rfl (v := .int .i64 x6) rfl ?_
        refine TL.bin .i64 x6 1 rfl rfl rfl rfl (v := .int .i64 (w64 (x6 + 1))) rfl ?_
        refine TL.assign rfl rfl (v := .int .i64 (w64 (x6 + 1))) rfl ?_
        refine TL.done ?_
        exact TC.next1 ((x7, (w64 (x6 + 1)))) ((s3, ss2)) ⟨rfl, rfl, rfl, rfl, trivial⟩ [0, 0, 0] rfl
    · exact TC.brk1 ((x5, x6)) ((s2, ss1)) ⟨rfl, rfl, rfl, rfl, trivial⟩ [0, 0, 0] rfl
  · rintro ⟨x5, x6⟩ ⟨s2, ss1⟩
    refine TC.seq ?_
    refine TC.region ?_
    refine TL.fa Try.underlying43 rfl Try.sizeOf2 rfl 0 rfl rfl rfl rfl ?_
    refine TL.load1 0 (Src.box 0 rfl) Try.isAgg2 rfl rfl rfl rfl rfl ?_
    refine TL.move rfl rfl (v := SV.v s2) rfl ?_
    refine TL.call (R := G.spec_l01Solve.R) Try.call181 rfl rfl rfl (fun w hS => G.spec_l01Solve.calls w x1 s2 ss1 x5 ((RdM.mat 2 rfl) w hS)) ?_
    rintro ⟨r_1, r_2⟩ _ _ ⟨s15, rfl, rfl⟩
    refine TL.move rfl rfl (v := .tuple #[SV.v s15, .bool r_2]) rfl ?_
    refine TL.extract rfl rfl rfl (v := SV.v s15) rfl ?_
    refine TL.extract rfl rfl rfl (v := .bool r_2) rfl ?_
    refine TL.assign rfl rfl (v := SV.v s15) rfl ?_
    refine TL.assign rfl rfl (v := .bool r_2) rfl ?_
    refine TL.done ?_
    refine TC.seq ?_
    refine TC.seq ?_
    refine TC.region ?_
    refine TL.move rfl rfl (v := .bool r_2) rfl ?_
    refine TL.not r_2 rfl rfl rfl ?_
    refine TL.done ?_
    refine TC.cond (b := (!r_2)) rfl (fun c9 => ?_) (fun c10 => ?_)
    · refine TC.seq ?_
      refine TC.region ?_
      refine TL.buildA (segs0 := [.arr 6 (enf u8v (fun _ => (0 : UInt8)))]) (segs := [.arr 6 (enf u8v (fun _ => (0 : UInt8)))]) Try.underlying41 Try.sizeOf5 Try.zeroValue41 rfl [] rfl rfl rfl rfl ?_
      refine TL.stM (news := [.arr 6 (enf u8v (fun _ => (0 : UInt8)))]) 2 0 1 rfl Try.sizeOf41 (ones_arr (fun _ => rfl) ones_nil) rfl rfl rfl rfl rfl rfl ?_
      refine TL.assign rfl rfl (v := .bool false) rfl ?_
      refine TL.done ?_
      exact TC.retF (Fin.body (fin2 (.inr rfl) rfl (.cellN rfl (Src.box 2 rfl) Try.isAgg41 Try.sizeOf41 rfl) (.tmp rfl) [] rfl ⟨rfl, rfl⟩))
    · refine TC.skip ?_
      refine TC.seq ?_
      refine TC.region ?_
      refine TL.buildA (segs0 := [.arr 6 (enf u8v (fun _ => (0 : UInt8)))]) (segs := [.arr 6 (enf u8v (fun _ => (0 : UInt8)))]) Try.underlying41 Try.sizeOf5 Try.zeroValue41 rfl [] rfl rfl rfl rfl ?_
      refine TL.alloc [.arr 6 (enf u8v (fun _ => (0 : UInt8)))] rfl rfl Try.zeroValue41 rfl fun b_3 => ?_
      refine TL.stM (news := [.arr 6 (enf u8v (fun _ => (0 : UInt8)))]) 0 0 1 rfl Try.sizeOf41 (ones_arr (fun _ => rfl) ones_nil) rfl rfl rfl rfl rfl rfl ?_
      refine TL.done ?_
      refine TC.seq ?_
      refine TC.seq ?_
      refine TC.region ?_
      refine TL.assign rfl rfl (v := .int .i64 0) rfl ?_
      refine TL.done ?_
      refine TC.loop1 (σ := (Nat → UInt8) × Int) (γ := Unit) (Γ' := (fun p q => match p, q with | (y1, x12), _ => [(1, bp b_1 0), (2, bp b_2 0), (9, SV.v s15), (11, bp b_3 0), (12, .int .i64 x12)])) (L' := (fun p q => match p, q with | (y1, x12), _ => [box b_1 43 [.one (.int .i64 x1), .one (.int .i64 x2), .arr 216 (enf u8v x3), .arr 6 (enf u8v x4)], box b_2 41 [.arr 6 (enf u8v (fun _ => (0 : UInt8)))], row Ei 2 s15 r_1, box b_3 41 [.arr 6 (enf u8v y1)]])) (Γb := (fun p q => match p, q with | (y1, x12), _ => [(1, bp b_1 0), (2, bp b_2 0), (9, SV.v s15), (11, bp b_3 0), (12, .int .i64 x12)])) (Lb := (fun p q => match p, q with | (y1, x12), _ => [box b_1 43 [.one (.int .i64 x1), .one (.int .i64 x2), .arr 216 (enf u8v x3), .arr 6 (enf u8v x4)], box b_2 41 [.arr 6 (enf u8v (fun _ => (0 : UInt8)))], row Ei 2 s15 r_1, box b_3 41 [.arr 6 (enf u8v y1)]])) (((fun _ => (0 : UInt8)), 0)) (()) ⟨rfl, rfl, rfl, rfl, rfl, trivial⟩ [2, 2, 1, 0] rfl ?_ ?_
      · rintro ⟨y1, x12⟩ _
        refine TC.seq ?_
        refine TC.seq ?_
        refine TC.region ?_
        refine TL.move rfl rfl (v := .int .i64 x12) rfl ?_
        refine TL.move rfl rfl (v := SV.v s15) rfl ?_
        refine TL.len (Rd.row 2 rfl) Try.underlying22 rfl rfl rfl ?_
        refine TL.bin .i64 x12 (r_1.length : Int) rfl rfl rfl rfl (v := .bool (decide (x12 < (r_1.length : Int)))) rfl ?_
        refine TL.done ?_
        refine TC.cond (b := (decide (x12 < (r_1.length : Int)))) rfl (fun c11 => ?_) (fun c12 => ?_)
        · refine TC.skip ?_
          refine TC.seq ?_
          refine TC.block (NoEx.loop1 rfl) ?_
          refine TC.region ?_
          refine TL.move rfl rfl (v := .int .i64 x12) rfl ?_
          refine TL.move rfl rfl (v := SV.v s15) rfl ?_
          refine TL.move rfl rfl (v := .int .i64 x12) rfl ?_
          refine TL.chk fun h9 => ?_
          refine TL.ixs x12 x12.toNat (Rd.row 2 rfl) h9 Try.underlying22 Try.sizeOf2 rfl rfl rfl rfl (by omega) ?_
          refine TL.loadE (Rd.row 2 rfl) Try.isAgg2 x12.toNat 0 (gt_spec h9) (v := .int .i64 (gt r_1 x12)) rfl (by simp only [show Ei.sz = 1 from rfl] <;> omega) rfl rfl rfl ?_
          refine TL.conv .i64 .u8 (gt r_1 x12) _ rfl rfl rfl Try.underlying2 Try.underlying5 (v := u8v (UInt8.ofInt (gt r_1 x12))) (conv_i64_u8 _) ?_
          refine TL.chk fun h10 => ?_
          refine TL.ixa x12 x12.toNat h10 Try.underlying41 Try.sizeOf5 rfl rfl rfl rfl (by omega) ?_
          refine TL.stA (e := u8v) (z := (UInt8.ofInt (gt r_1 x12))) 3 0 x12.toNat rfl Try.sizeOf5 rfl (by omega) (s := 0) rfl (by omega) rfl rfl rfl rfl rfl ?_
          refine TL.done ?_
          refine TC.region ?_
          refine TL.move rfl rfl (v := .int .i64 x12) rfl ?_
          refine TL.bin .i64 x12 1 rfl rfl rfl rfl (v := .int .i64 (w64 (x12 + 1))) rfl ?_
          refine TL.assign rfl rfl (v := .int .i64 (w64 (x12 + 1))) rfl ?_
          refine TL.done ?_
          exact TC.next1 (((upd y1 x12.toNat (UInt8.ofInt (gt r_1 x12))), (w64 (x12 + 1)))) (()) ⟨rfl, rfl, rfl, rfl, rfl, trivial⟩ [0, 0, 0, 0] rfl
        · exact TC.brk1 ((y1, x12)) (()) ⟨rfl, rfl, rfl, rfl, rfl, trivial⟩ [0, 0, 0, 0] rfl
      · rintro ⟨y1, x12⟩ _
        refine TC.seq ?_
        refine TC.seq ?_
        refine TC.region ?_
        refine TL.assign rfl rfl (v := .int .i64 0) rfl ?_
        refine TL.done ?_
        refine TC.loopK (σ := Int) (γ := Unit) (Γ' := (fun x13 _ => [(1, bp b_1 0), (2, bp b_2 0), (11, bp b_3 0), (13, .int .i64 x13)])) (L' := (fun x13 _ => [box b_1 43 [.one (.int .i64 x1), .one (.int .i64 x2), .arr 216 (enf u8v x3), .arr 6 (enf u8v x4)], box b_2 41 [.arr 6 (enf u8v (fun _ => (0 : UInt8)))], box b_3 41 [.arr 6 (enf u8v y1)]])) (Γb := (fun x13 _ => [(1, bp b_1 0), (2, bp b_2 0), (11, bp b_3 0), (13, .int .i64 x13)])) (Lb := (fun x13 _ => [box b_1 43 [.one (.int .i64 x1), .one (.int .i64 x2), .arr 216 (enf u8v x3), .arr 6 (enf u8v x4)], box b_2 41 [.arr 6 (enf u8v (fun _ => (0 : UInt8)))], box b_3 41 [.arr 6 (enf u8v y1)]])) (0) (()) ⟨rfl, rfl, rfl, rfl, trivial⟩ [0, 0, 1] rfl ?_ ?_
        · rintro x13 _
          refine TC.seq ?_
          refine TC.seq ?_
          refine TC.region ?_
          refine TL.move rfl rfl (v := .int .i64 x13) rfl ?_
          refine TL.fa Try.underlying43 rfl Try.sizeOf2 rfl 1 rfl rfl rfl rfl ?_
          refine TL.load1 1 (Src.box 0 rfl) Try.isAgg2 rfl rfl rfl rfl rfl ?_
          refine TL.bin .i64 x13 x2 rfl rfl rfl rfl (v := .bool (decide (x13 < x2))) rfl ?_
          refine TL.done ?_
          refine TC.cond (b := (decide (x13 < x2))) rfl (fun c13 => ?_) (fun c14 => ?_)
          · refine TC.skip ?_
            refine TC.seq ?_
            refine TC.block (NoEx.loop rfl NoEx.body) ?_
            refine TC.seq ?_
            refine TC.wk (Γ' := [(1, bp b_1 0), (2, bp b_2 0), (11, bp b_3 0), (13, .int .i64 x13), (83, .int .i64 x13), (84, bp b_1 1), (85, .int .i64 x2), (86, .bool (decide (x13 < x2)))]) ⟨rfl, rfl, rfl, rfl, rfl, rfl, rfl, rfl, trivial⟩ ?_
            refine TC.bindE fun r_3 hr1 => ?_
            refine TC.bindE fun r_4 hr2 => ?_
            refine TC.bindE fun r_5 hr3 => ?_
            refine TC.draw [sval [.one (.int .i64 x1), .one (.int .i64 x2), .arr 216 (enf u8v x3), .arr 6 (enf u8v x4)], .int .i64 x13, sval [.arr 6 (enf u8v r_3)], sval [.arr 6 (enf u8v y1)], sval [.arr 6 (enf u8v r_4)], .int .i64 x13, sval [.arr 6 (enf u8v r_5)], .bool (!((List.range 6).all fun i_ => ((r_4 i_).toNat : Int) == ((r_5 i_).toNat : Int)))] 8 [box b_1 43 [.one (.int .i64 x1), .one (.int .i64 x2), .arr 216 (enf u8v x3), .arr 6 (enf u8v x4)], box b_2 41 [.arr 6 (enf u8v (fun _ => (0 : UInt8)))], box b_3 41 [.arr 6 (enf u8v y1)]] (by kernel_rfl) rfl rfl rfl rfl ?_ ?_
            · refine ⟨?_, ?_, ?_, ?_, ?_, ?_, ?_, ?_, trivial⟩
              · refine TL.loadM 0 4 (Src.box 0 rfl) Try.isAgg43 Try.sizeOf43 (mid := [.one (.int .i64 x1), .one (.int .i64 x2), .arr 216 (enf u8v x3), .arr 6 (enf u8v x4)]) rfl rfl rfl rfl rfl rfl ?_
                refine TL.done ?_
                exact TC.nrm () () ⟨rfl, trivial⟩ [0, 0, 0] (by kernel_rfl)
              · refine TL.move rfl rfl (v := .int .i64 x13) rfl ?_
                refine TL.done ?_
                exact TC.nrm () () ⟨rfl, trivial⟩ [0, 0, 0] (by kernel_rfl)
              · refine TL.callH (R := G.spec_l01Basis.R) hr1 Try.call155 rfl rfl rfl (fun w hS => G.spec_l01Basis.calls w x13) ?_
                rintro _ _ ⟨rfl, rfl⟩
                refine TL.done ?_
                exact TC.nrm () () ⟨rfl, trivial⟩ [0, 0, 0] (by kernel_rfl)
              · refine TL.loadM 0 1 (Src.box 2 rfl) Try.isAgg41 Try.sizeOf41 (mid := [.arr 6 (enf u8v y1)]) rfl rfl rfl rfl rfl rfl ?_
                refine TL.done ?_
                exact TC.nrm () () ⟨rfl, trivial⟩ [0, 0, 0] (by kernel_rfl)
              · refine TL.callH (R := G.spec_l01Times.R) hr2 Try.call154 rfl rfl rfl (fun w hS => G.spec_l01Times.calls w x1 x2 x3 x4 r_3 y1) ?_
                rintro _ _ ⟨rfl, rfl⟩
                refine TL.done ?_
                exact TC.nrm () () ⟨rfl, trivial⟩ [0, 0, 0] (by kernel_rfl)
              · refine TL.move rfl rfl (v := .int .i64 x13) rfl ?_
                refine TL.done ?_
                exact TC.nrm () () ⟨rfl, trivial⟩ [0, 0, 0] (by kernel_rfl)
              · refine TL.callH (R := G.spec_l01Basis.R) hr3 Try.call155 rfl rfl rfl (fun w hS => G.spec_l01Basis.calls w x13) ?_
                rintro _ _ ⟨rfl, rfl⟩
                refine TL.done ?_
                exact TC.nrm () () ⟨rfl, trivial⟩ [0, 0, 0] (by kernel_rfl)
              · refine TL.neAu r_4 r_5 Try.underlying41 (info_of Try.type5) (by kernel_rfl) Try.underlying5 Try.isAgg5 (by kernel_rfl) rfl rfl rfl rfl ?_
                refine TL.done ?_
                exact TC.nrm () () ⟨rfl, trivial⟩ [0, 0, 0] (by kernel_rfl)
            · refine TC.cond (b := (!((List.range 6).all fun i_ => ((r_4 i_).toNat : Int) == ((r_5 i_).toNat : Int)))) rfl (fun c15 => ?_) (fun c16 => ?_)
              · refine TC.seq ?_
                refine TC.region ?_
                refine TL.buildA (segs0 := [.arr 6 (enf u8v (fun _ => (0 : UInt8)))]) (segs := [.arr 6 (enf u8v (fun _ => (0 : UInt8)))]) Try.underlying41 Try.sizeOf5 Try.zeroValue41 rfl [] rfl rfl rfl rfl ?_
                refine TL.stM (news := [.arr 6 (enf u8v (fun _ => (0 : UInt8)))]) 1 0 1 rfl Try.sizeOf41 (ones_arr (fun _ => rfl) ones_nil) rfl rfl rfl rfl rfl rfl ?_
                refine TL.assign rfl rfl (v := .bool false) rfl ?_
                refine TL.done ?_
                exact TC.retF (Fin.loop Far.ret (Fin.body (fin2 (.inr rfl) rfl (.cellN rfl (Src.box 1 rfl) Try.isAgg41 Try.sizeOf41 rfl) (.tmp rfl) [] rfl ⟨rfl, rfl⟩)))
              · refine TC.skip ?_
                refine TC.region ?_
                refine TL.move rfl rfl (v := .int .i64 x13) rfl ?_
                refine TL.bin .i64 x13 1 rfl rfl rfl rfl (v := .int .i64 (w64 (x13 + 1))) rfl ?_
                refine TL.assign rfl rfl (v := .int .i64 (w64 (x13 + 1))) rfl ?_
                refine TL.done ?_
                exact TC.next ((w64 (x13 + 1))) (()) ⟨rfl, rfl, rfl, rfl, trivial⟩ [0, 0, 0] rfl
          · exact TC.brk (x13) (()) ⟨rfl, rfl, rfl, rfl, trivial⟩ [0, 0, 0] rfl
        · rintro x13 _
          refine TC.seq ?_
          refine TC.region ?_
          refine TL.loadM 0 1 (Src.box 2 rfl) Try.isAgg41 Try.sizeOf41 (mid := [.arr 6 (enf u8v y1)]) rfl rfl rfl rfl rfl rfl ?_
          refine TL.stM (news := [.arr 6 (enf u8v y1)]) 1 0 1 rfl Try.sizeOf41 (ones_arr (fun _ => rfl) ones_nil) rfl rfl rfl rfl rfl rfl ?_
          refine TL.assign rfl rfl (v := .bool true) rfl ?_
          refine TL.done ?_
          exact TC.retF (Fin.body (fin2 (.inr rfl) rfl (.cellN rfl (Src.box 1 rfl) Try.isAgg41 Try.sizeOf41 rfl) (.tmp rfl) [] rfl ⟨rfl, rfl⟩))

end Go.Proofs.Ytiiljfpbcanphaa.G

/- spec.l01Algebra, as a pure function. -/
set_option linter.unusedVariables false
namespace Go.Proofs.Ytiiljfpbcanphaa.G
open Go Go.Sx Go.Proofs

def spec_l01Algebra.b0 (a_2 : Int) (i1 : Int) (j1 : Int) (a_1 : Int) (a_3 : Nat → UInt8) (a_4 : Nat → UInt8) : Int → Option (LR Int (LR Int (LR Int Bool))) := fun k_1 => (bif (decide (k_1 < a_2)) then chk i1 6 (chk j1 6 ((G.spec_l01Basis.f k_1).bind (fun r_2 => (G.spec_l01Times.f a_1 a_2 a_3 a_4 (sub a_3 (i1.toNat * 36 + j1.toNat * 6)) r_2).bind (fun r_3 => (G.spec_l01Basis.f i1).bind (fun r_4 => chk k_1 6 ((G.spec_l01Times.f a_1 a_2 a_3 a_4 r_4 (sub a_3 (j1.toNat * 36 + k_1.toNat * 6))).bind (fun r_5 => (bif (!((List.range 6).all fun i_ => ((r_3 i_).toNat : Int) == ((r_5 i_).toNat : Int))) then some (.ret (.ret (.ret (false)))) else some (.next (w64 (k_1 + 1))))))))))) else some (.brk k_1))

def spec_l01Algebra.b1 (a_2 : Int) (i1 : Int) (a_1 : Int) (a_3 : Nat → UInt8) (a_4 : Nat → UInt8) : Int → Option (LR Int (LR Int Bool)) := fun j1 => (bif (decide (j1 < a_2)) then (loop (spec_l01Algebra.b0 a_2 i1 j1 a_1 a_3 a_4) 0).bind (ln (fun k_1 => some (.next (w64 (j1 + 1))))) else some (.brk j1))

def spec_l01Algebra.b2 (a_2 : Int) (a_1 : Int) (a_3 : Nat → UInt8) (a_4 : Nat → UInt8) : Int → Option (LR Int Bool) := fun i1 => (bif (decide (i1 < a_2)) then (loop (spec_l01Algebra.b1 a_2 i1 a_1 a_3 a_4) 0).bind (ln (fun j1 => some (.next (w64 (i1 + 1))))) else some (.brk i1))

def spec_l01Algebra.f (a_1 : Int) (a_2 : Int) (a_3 : Nat → UInt8) (a_4 : Nat → UInt8) : Option Bool := (G.spec_l01Shape.f a_1 a_2 a_3 a_4).bind (fun r_1 => (bif (!r_1) then some false else (loop (spec_l01Algebra.b2 a_2 a_1 a_3 a_4) 0).bind (ln (fun i1 => (G.spec_l01Find.f a_1 a_2 a_3 a_4).bind (fun p => match p with | (r_6, r_7) => some r_7)))))

def spec_l01Algebra.R (r : Bool) (v : Value) (L : List Asn) : Prop := v = .bool r ∧ L = []

set_option maxRecDepth 100000 in
set_option maxHeartbeats 4000000 in
theorem spec_l01Algebra.calls (w : World) (a_1 : Int) (a_2 : Int) (a_3 : Nat → UInt8) (a_4 : Nat → UInt8) :
    ∀ r, spec_l01Algebra.f a_1 a_2 a_3 a_4 = some r → Calls Try.prog 109 #[sval [.one (.int .i64 a_1), .one (.int .i64 a_2), .arr 216 (enf u8v a_3), .arr 6 (enf u8v a_4)]] w (Ret w (spec_l01Algebra.R r)) := by

  refine calls_T (n := 56) (Γ := [(0, sval [.one (.int .i64 a_1), .one (.int .i64 a_2), .arr 216 (enf u8v a_3), .arr 6 (enf u8v a_4)])]) (R := spec_l01Algebra.R) Try.func109 rfl rfl (Nat.le_of_ble_eq_true rfl) ⟨rfl, trivial⟩ ?_
  unfold spec_l01Algebra.f
  refine TC.seq ?_
  refine TC.region ?_
  refine TL.box [.one (.int .i64 a_1), .one (.int .i64 a_2), .arr 216 (enf u8v a_3), .arr 6 (enf u8v a_4)] rfl rfl rfl rfl fun b_1 => ?_
  refine TL.assign rfl rfl (v := .bool false) rfl ?_
  refine TL.done ?_
  refine TC.seq ?_
  refine TC.seq ?_
  refine TC.region ?_
  refine TL.loadM 0 4 (Src.box 0 rfl) Try.isAgg43 Try.sizeOf43 (mid := [.one (.int .i64 a_1), .one (.int .i64 a_2), .arr 216 (enf u8v a_3), .arr 6 (enf u8v a_4)]) rfl rfl rfl rfl rfl rfl ?_
  refine TL.call (R := G.spec_l01Shape.R) Try.call153 rfl rfl rfl (fun w hS => G.spec_l01Shape.calls w a_1 a_2 a_3 a_4) ?_
  rintro r_1 _ _ ⟨rfl, rfl⟩
  refine TL.not r_1 rfl rfl rfl ?_
  refine TL.done ?_
  refine TC.cond (b := (!r_1)) rfl (fun c1 => ?_) (fun c2 => ?_)
  · refine TC.seq ?_
    refine TC.region ?_
    refine TL.assign rfl rfl (v := .bool false) rfl ?_
    refine TL.done ?_
    exact TC.retF (Fin.body (fin1 (.inr rfl) rfl (.tmp rfl) [] rfl ⟨rfl, rfl⟩))
  · refine TC.skip ?_
    refine TC.seq ?_
    refine TC.seq ?_
    refine TC.region ?_
    refine TL.assign rfl rfl (v := .int .i64 0) rfl ?_
    refine TL.done ?_
    refine TC.loopK (σ := Int) (γ := Unit) (Γ' := (fun i1 _ => [(1, bp b_1 0), (3, .int .i64 i1)])) (L' := (fun i1 _ => [box b_1 43 [.one (.int .i64 a_1), .one (.int .i64 a_2), .arr 216 (enf u8v a_3), .arr 6 (enf u8v a_4)]])) (Γb := (fun i1 _ => [(1, bp b_1 0), (3, .int .i64 i1)])) (Lb := (fun i1 _ => [box b_1 43 [.one (.int .i64 a_1), .one (.int .i64 a_2), .arr 216 (enf u8v a_3), .arr 6 (enf u8v a_4)]])) (0) (()) ⟨rfl, rfl, trivial⟩ [0] rfl ?_ ?_
    · rintro i1 _
      refine TC.seq ?_
      refine TC.seq ?_
      refine TC.region ?_
      refine TL.move rfl rfl (v := .int .i64 i1) rfl ?_
      refine TL.fa Try.underlying43 rfl Try.sizeOf2 rfl 1 rfl rfl rfl rfl ?_
      refine TL.load1 1 (Src.box 0 rfl) Try.isAgg2 rfl rfl rfl rfl rfl ?_
      refine TL.bin .i64 i1 a_2 rfl rfl rfl rfl (v := .bool (decide (i1 < a_2))) rfl ?_
      refine TL.done ?_
      refine TC.cond (b := (decide (i1 < a_2))) rfl (fun c3 => ?_) (fun c4 => ?_)
      · refine TC.skip ?_
        refine TC.seq ?_
        refine TC.block (NoEx.loop rfl NoEx.body) ?_
        refine TC.seq ?_
        refine TC.region ?_
        refine TL.assign rfl rfl (v := .int .i64 0) rfl ?_
        refine TL.done ?_
        refine TC.loopK (σ := Int) (γ := Unit) (Γ' := (fun j1 _ => [(1, bp b_1 0), (3, .int .i64 i1), (4, .int .i64 j1)])) (L' := (fun j1 _ => [box b_1 43 [.one (.int .i64 a_1), .one (.int .i64 a_2), .arr 216 (enf u8v a_3), .arr 6 (enf u8v a_4)]])) (Γb := (fun j1 _ => [(1, bp b_1 0), (3, .int .i64 i1), (4, .int .i64 j1)])) (Lb := (fun j1 _ => [box b_1 43 [.one (.int .i64 a_1), .one (.int .i64 a_2), .arr 216 (enf u8v a_3), .arr 6 (enf u8v a_4)]])) (0) (()) ⟨rfl, rfl, rfl, trivial⟩ [0] rfl ?_ ?_
        · rintro j1 _
          refine TC.seq ?_
          refine TC.seq ?_
          refine TC.region ?_
          refine TL.move rfl rfl (v := .int .i64 j1) rfl ?_
          refine TL.fa Try.underlying43 rfl Try.sizeOf2 rfl 1 rfl rfl rfl rfl ?_
          refine TL.load1 1 (Src.box 0 rfl) Try.isAgg2 rfl rfl rfl rfl rfl ?_
          refine TL.bin .i64 j1 a_2 rfl rfl rfl rfl (v := .bool (decide (j1 < a_2))) rfl ?_
          refine TL.done ?_
          refine TC.cond (b := (decide (j1 < a_2))) rfl (fun c5 => ?_) (fun c6 => ?_)
          · refine TC.skip ?_
            refine TC.seq ?_
            refine TC.block (NoEx.loop rfl (NoEx.loop rfl NoEx.body)) ?_
            refine TC.seq ?_
            refine TC.region ?_
            refine TL.assign rfl rfl (v := .int .i64 0) rfl ?_
            refine TL.done ?_
            refine TC.loopK (σ := Int) (γ := Unit) (Γ' := (fun k_1 _ => [(1, bp b_1 0), (3, .int .i64 i1), (4, .int .i64 j1), (5, .int .i64 k_1)])) (L' := (fun k_1 _ => [box b_1 43 [.one (.int .i64 a_1), .one (.int .i64 a_2), .arr 216 (enf u8v a_3), .arr 6 (enf u8v a_4)]])) (Γb := (fun k_1 _ => [(1, bp b_1 0), (3, .int .i64 i1), (4, .int .i64 j1), (5, .int .i64 k_1)])) (Lb := (fun k_1 _ => [box b_1 43 [.one (.int .i64 a_1), .one (.int .i64 a_2), .arr 216 (enf u8v a_3), .arr 6 (enf u8v a_4)]])) (0) (()) ⟨rfl, rfl, rfl, rfl, trivial⟩ [0] rfl ?_ ?_
            · rintro k_1 _
              refine TC.seq ?_
              refine TC.seq ?_
              refine TC.region ?_
              refine TL.move rfl rfl (v := .int .i64 k_1) rfl ?_
              refine TL.fa Try.underlying43 rfl Try.sizeOf2 rfl 1 rfl rfl rfl rfl ?_
              refine TL.load1 1 (Src.box 0 rfl) Try.isAgg2 rfl rfl rfl rfl rfl ?_
              refine TL.bin .i64 k_1 a_2 rfl rfl rfl rfl (v := .bool (decide (k_1 < a_2))) rfl ?_
              refine TL.done ?_
              refine TC.cond (b := (decide (k_1 < a_2))) rfl (fun c7 => ?_) (fun c8 => ?_)
              · refine TC.skip ?_
                refine TC.seq ?_
                refine TC.block (NoEx.loop rfl (NoEx.loop rfl (NoEx.loop rfl NoEx.body))) ?_
                refine TC.seq ?_
                refine TC.wk (Γ' := [(1, bp b_1 0), (3, .int .i64 i1), (4, .int .i64 j1), (5, .int .i64 k_1), (23, .int .i64 k_1), (24, bp b_1 1), (25, .int .i64 a_2), (26, .bool (decide (k_1 < a_2)))]) ⟨rfl, rfl, rfl, rfl, rfl, rfl, rfl, rfl, trivial⟩ ?_
                refine TC.chk fun h1 => ?_
                refine TC.chk fun h2 => ?_
                refine TC.bindE fun r_2 hr1 => ?_
                refine TC.bindE fun r_3 hr2 => ?_
                refine TC.bindE fun r_4 hr3 => ?_
                refine TC.chk fun h3 => ?_
                refine TC.bindE fun r_5 hr4 => ?_
                refine TC.draw [sval [.one (.int .i64 a_1), .one (.int .i64 a_2), .arr 216 (enf u8v a_3), .arr 6 (enf u8v a_4)], .int .i64 i1, .int .i64 j1, bp b_1 2, bp b_1 (2 + i1.toNat * 36), bp b_1 (2 + (i1.toNat * 36 + j1.toNat * 6)), sval [.arr 6 (enf u8v (sub a_3 (i1.toNat * 36 + j1.toNat * 6)))], .int .i64 k_1, sval [.arr 6 (enf u8v r_2)], sval [.arr 6 (enf u8v r_3)], sval [.one (.int .i64 a_1), .one (.int .i64 a_2), .arr 216 (enf u8v a_3), .arr 6 (enf u8v a_4)], .int .i64 i1, sval [.arr 6 (enf u8v r_4)], .int .i64 j1, .int .i64 k_1, bp b_1 2, bp b_1 (2 + j1.toNat * 36), bp b_1 (2 + (j1.toNat * 36 + k_1.toNat * 6)), sval [.arr 6 (enf u8v (sub a_3 (j1.toNat * 36 + k_1.toNat * 6)))], sval [.arr 6 (enf u8v r_5)], .bool (!((List.range 6).all fun i_ => ((r_3 i_).toNat : Int) == ((r_5 i_).toNat : Int)))] 21 [box b_1 43 [.one (.int .i64 a_1), .one (.int .i64 a_2), .arr 216 (enf u8v a_3), .arr 6 (enf u8v a_4)]] (by kernel_rfl) rfl rfl rfl rfl ?_ ?_
                · refine ⟨?_, ?_, ?_, ?_, ?_, ?_, ?_, ?_, ?_, ?_, ?_, ?_, ?_, ?_, ?_, ?_, ?_, ?_, ?_, ?_, ?_, trivial⟩
                  · refine TL.loadM 0 4 (Src.box 0 rfl) Try.isAgg43 Try.sizeOf43 (mid := [.one (.int .i64 a_1), .one (.int .i64 a_2), .arr 216 (enf u8v a_3), .arr 6 (enf u8v a_4)]) rfl rfl rfl rfl rfl rfl ?_
                    refine TL.done ?_
                    exact TC.nrm () () ⟨rfl, trivial⟩ [0] (by kernel_rfl)
                  · refine TL.move rfl rfl (v := .int .i64 i1) rfl ?_
                    refine TL.done ?_
                    exact TC.nrm () () ⟨rfl, trivial⟩ [0] (by kernel_rfl)
                  · refine TL.move rfl rfl (v := .int .i64 j1) rfl ?_
                    refine TL.done ?_
                    exact TC.nrm () () ⟨rfl, trivial⟩ [0] (by kernel_rfl)
                  · refine TL.fa Try.underlying43 rfl Try.sizeOf40 rfl 2 rfl rfl rfl rfl ?_
                    refine TL.done ?_
                    exact TC.nrm () () ⟨rfl, trivial⟩ [0] (by kernel_rfl)
                  · refine TL.ixa i1 (2 + i1.toNat * 36) h1 Try.underlying40 Try.sizeOf39 rfl rfl rfl rfl (by omega) ?_
                    refine TL.done ?_
                    exact TC.nrm () () ⟨rfl, trivial⟩ [0] (by kernel_rfl)
                  · refine TL.ixa j1 (2 + (i1.toNat * 36 + j1.toNat * 6)) h2 Try.underlying39 Try.sizeOf38 rfl rfl rfl rfl (by omega) ?_
                    refine TL.done ?_
                    exact TC.nrm () () ⟨rfl, trivial⟩ [0] (by kernel_rfl)
                  · refine TL.loadS (i1.toNat * 36 + j1.toNat * 6) 2 (Src.box 0 rfl) Try.isAgg38 Try.sizeOf38 rfl (by omega) (v := sval [.arr 6 (enf u8v (sub a_3 (i1.toNat * 36 + j1.toNat * 6)))]) rfl (st := 2) rfl (by omega) rfl rfl rfl ?_
                    refine TL.done ?_
                    exact TC.nrm () () ⟨rfl, trivial⟩ [0] (by kernel_rfl)
                  · refine TL.move rfl rfl (v := .int .i64 k_1) rfl ?_
                    refine TL.done ?_
                    exact TC.nrm () () ⟨rfl, trivial⟩ [0] (by kernel_rfl)
                  · refine TL.callH (R := G.spec_l01Basis.R) hr1 Try.call155 rfl rfl rfl (fun w hS => G.spec_l01Basis.calls w k_1) ?_
                    rintro _ _ ⟨rfl, rfl⟩
                    refine TL.done ?_
                    exact TC.nrm () () ⟨rfl, trivial⟩ [0] (by kernel_rfl)
                  · refine TL.callH (R := G.spec_l01Times.R) hr2 Try.call154 rfl rfl rfl (fun w hS => G.spec_l01Times.calls w a_1 a_2 a_3 a_4 (sub a_3 (i1.toNat * 36 + j1.toNat * 6)) r_2) ?_
                    rintro _ _ ⟨rfl, rfl⟩
                    refine TL.done ?_
                    exact TC.nrm () () ⟨rfl, trivial⟩ [0] (by kernel_rfl)
                  · refine TL.loadM 0 4 (Src.box 0 rfl) Try.isAgg43 Try.sizeOf43 (mid := [.one (.int .i64 a_1), .one (.int .i64 a_2), .arr 216 (enf u8v a_3), .arr 6 (enf u8v a_4)]) rfl rfl rfl rfl rfl rfl ?_
                    refine TL.done ?_
                    exact TC.nrm () () ⟨rfl, trivial⟩ [0] (by kernel_rfl)
                  · refine TL.move rfl rfl (v := .int .i64 i1) rfl ?_
                    refine TL.done ?_
                    exact TC.nrm () () ⟨rfl, trivial⟩ [0] (by kernel_rfl)
                  · refine TL.callH (R := G.spec_l01Basis.R) hr3 Try.call155 rfl rfl rfl (fun w hS => G.spec_l01Basis.calls w i1) ?_
                    rintro _ _ ⟨rfl, rfl⟩
                    refine TL.done ?_
                    exact TC.nrm () () ⟨rfl, trivial⟩ [0] (by kernel_rfl)
                  · refine TL.move rfl rfl (v := .int .i64 j1) rfl ?_
                    refine TL.done ?_
                    exact TC.nrm () () ⟨rfl, trivial⟩ [0] (by kernel_rfl)
                  · refine TL.move rfl rfl (v := .int .i64 k_1) rfl ?_
                    refine TL.done ?_
                    exact TC.nrm () () ⟨rfl, trivial⟩ [0] (by kernel_rfl)
                  · refine TL.fa Try.underlying43 rfl Try.sizeOf40 rfl 2 rfl rfl rfl rfl ?_
                    refine TL.done ?_
                    exact TC.nrm () () ⟨rfl, trivial⟩ [0] (by kernel_rfl)
                  · refine TL.ixa j1 (2 + j1.toNat * 36) h2 Try.underlying40 Try.sizeOf39 rfl rfl rfl rfl (by omega) ?_
                    refine TL.done ?_
                    exact TC.nrm () () ⟨rfl, trivial⟩ [0] (by kernel_rfl)
                  · refine TL.ixa k_1 (2 + (j1.toNat * 36 + k_1.toNat * 6)) h3 Try.underlying39 Try.sizeOf38 rfl rfl rfl rfl (by omega) ?_
                    refine TL.done ?_
                    exact TC.nrm () () ⟨rfl, trivial⟩ [0] (by kernel_rfl)
                  · refine TL.loadS (j1.toNat * 36 + k_1.toNat * 6) 2 (Src.box 0 rfl) Try.isAgg38 Try.sizeOf38 rfl (by omega) (v := sval [.arr 6 (enf u8v (sub a_3 (j1.toNat * 36 + k_1.toNat * 6)))]) rfl (st := 2) rfl (by omega) rfl rfl rfl ?_
                    refine TL.done ?_
                    exact TC.nrm () () ⟨rfl, trivial⟩ [0] (by kernel_rfl)
                  · refine TL.callH (R := G.spec_l01Times.R) hr4 Try.call154 rfl rfl rfl (fun w hS => G.spec_l01Times.calls w a_1 a_2 a_3 a_4 r_4 (sub a_3 (j1.toNat * 36 + k_1.toNat * 6))) ?_
                    rintro _ _ ⟨rfl, rfl⟩
                    refine TL.done ?_
                    exact TC.nrm () () ⟨rfl, trivial⟩ [0] (by kernel_rfl)
                  · refine TL.neAu r_3 r_5 Try.underlying41 (info_of Try.type5) (by kernel_rfl) Try.underlying5 Try.isAgg5 (by kernel_rfl) rfl rfl rfl rfl ?_
                    refine TL.done ?_
                    exact TC.nrm () () ⟨rfl, trivial⟩ [0] (by kernel_rfl)
                · refine TC.cond (b := (!((List.range 6).all fun i_ => ((r_3 i_).toNat : Int) == ((r_5 i_).toNat : Int)))) rfl (fun c9 => ?_) (fun c10 => ?_)
                  · refine TC.seq ?_
                    refine TC.region ?_
                    refine TL.assign rfl rfl (v := .bool false) rfl ?_
                    refine TL.done ?_
                    exact TC.retF (Fin.loop Far.ret (Fin.loop Far.ret (Fin.loop Far.ret (Fin.body (fin1 (.inr rfl) rfl (.tmp rfl) [] rfl ⟨rfl, rfl⟩)))))
                  · refine TC.skip ?_
                    refine TC.region ?_
                    refine TL.move rfl rfl (v := .int .i64 k_1) rfl ?_
                    refine TL.bin .i64 k_1 1 rfl rfl rfl rfl (v := .int .i64 (w64 (k_1 + 1))) rfl ?_
                    refine TL.assign rfl rfl (v := .int .i64 (w64 (k_1 + 1))) rfl ?_
                    refine TL.done ?_
                    exact TC.next ((w64 (k_1 + 1))) (()) ⟨rfl, rfl, rfl, rfl, trivial⟩ [0] rfl
              · exact TC.brk (k_1) (()) ⟨rfl, rfl, rfl, rfl, trivial⟩ [0] rfl
            · rintro k_1 _
              refine TC.region ?_
              refine TL.move rfl rfl (v := .int .i64 j1) rfl ?_
              refine TL.bin .i64 j1 1 rfl rfl rfl rfl (v := .int .i64 (w64 (j1 + 1))) rfl ?_
              refine TL.assign rfl rfl (v := .int .i64 (w64 (j1 + 1))) rfl ?_
              refine TL.done ?_
              exact TC.next ((w64 (j1 + 1))) (()) ⟨rfl, rfl, rfl, trivial⟩ [0] rfl
          · exact TC.brk (j1) (()) ⟨rfl, rfl, rfl, trivial⟩ [0] rfl
        · rintro j1 _
          refine TC.region ?_
          refine TL.move rfl rfl (v := .int .i64 i1) rfl ?_
          refine TL.bin .i64 i1 1 rfl rfl rfl rfl (v := .int .i64 (w64 (i1 + 1))) rfl ?_
          refine TL.assign rfl rfl (v := .int .i64 (w64 (i1 + 1))) rfl ?_
          refine TL.done ?_
          exact TC.next ((w64 (i1 + 1))) (()) ⟨rfl, rfl, trivial⟩ [0] rfl
      · exact TC.brk (i1) (()) ⟨rfl, rfl, trivial⟩ [0] rfl
    · rintro i1 _
      refine TC.seq ?_
      refine TC.region ?_
      refine TL.loadM 0 4 (Src.box 0 rfl) Try.isAgg43 Try.sizeOf43 (mid := [.one (.int .i64 a_1), .one (.int .i64 a_2), .arr 216 (enf u8v a_3), .arr 6 (enf u8v a_4)]) rfl rfl rfl rfl rfl rfl ?_
      refine TL.call (R := G.spec_l01Find.R) Try.call156 rfl rfl rfl (fun w hS => G.spec_l01Find.calls w a_1 a_2 a_3 a_4) ?_
      rintro ⟨r_6, r_7⟩ _ _ ⟨rfl, rfl⟩
      refine TL.move rfl rfl (v := .tuple #[sval [.arr 6 (enf u8v r_6)], .bool r_7]) rfl ?_
      refine TL.extract rfl rfl rfl (v := sval [.arr 6 (enf u8v r_6)]) rfl ?_
      refine TL.extract rfl rfl rfl (v := .bool r_7) rfl ?_
      refine TL.alloc [.arr 6 (enf u8v (fun _ => (0 : UInt8)))] rfl rfl Try.zeroValue41 rfl fun b_2 => ?_
      refine TL.stM (news := [.arr 6 (enf u8v r_6)]) 0 0 1 rfl Try.sizeOf41 (ones_arr (fun _ => rfl) ones_nil) rfl rfl rfl rfl rfl rfl ?_
      refine TL.assign rfl rfl (v := .bool r_7) rfl ?_
      refine TL.done ?_
      refine TC.seq ?_
      refine TC.region ?_
      refine TL.move rfl rfl (v := .bool r_7) rfl ?_
      refine TL.assign rfl rfl (v := .bool r_7) rfl ?_
      refine TL.done ?_
      exact TC.retF (Fin.body (fin1 (.inr rfl) rfl (.tmp rfl) [] rfl ⟨rfl, rfl⟩))

end Go.Proofs.Ytiiljfpbcanphaa.G

/- spec.IsAlgebra, as a pure function. -/
set_option linter.unusedVariables false
namespace Go.Proofs.Ytiiljfpbcanphaa.G
open Go Go.Sx Go.Proofs

def spec_IsAlgebra.f (a_1 : Int) (a_2 : Int) (a_3 : Nat → UInt8) (a_4 : Nat → UInt8) : Option Bool := (G.spec_l01Algebra.f a_1 a_2 a_3 a_4).bind (fun r_1 => some r_1)

def spec_IsAlgebra.R (r : Bool) (v : Value) (L : List Asn) : Prop := v = .bool r ∧ L = []

set_option maxRecDepth 100000 in
set_option maxHeartbeats 4000000 in
theorem spec_IsAlgebra.calls (w : World) (a_1 : Int) (a_2 : Int) (a_3 : Nat → UInt8) (a_4 : Nat → UInt8) :
    ∀ r, spec_IsAlgebra.f a_1 a_2 a_3 a_4 = some r → Calls Try.prog 36 #[sval [.one (.int .i64 a_1), .one (.int .i64 a_2), .arr 216 (enf u8v a_3), .arr 6 (enf u8v a_4)]] w (Ret w (spec_IsAlgebra.R r)) := by

  refine calls_T (n := 5) (Γ := [(0, sval [.one (.int .i64 a_1), .one (.int .i64 a_2), .arr 216 (enf u8v a_3), .arr 6 (enf u8v a_4)])]) (R := spec_IsAlgebra.R) Try.func36 rfl rfl (Nat.le_of_ble_eq_true rfl) ⟨rfl, trivial⟩ ?_
  unfold spec_IsAlgebra.f
  refine TC.seq ?_
  refine TC.region ?_
  refine TL.box [.one (.int .i64 a_1), .one (.int .i64 a_2), .arr 216 (enf u8v a_3), .arr 6 (enf u8v a_4)] rfl rfl rfl rfl fun b_1 => ?_
  refine TL.assign rfl rfl (v := .bool false) rfl ?_
  refine TL.done ?_
  refine TC.seq ?_
  refine TC.region ?_
  refine TL.loadM 0 4 (Src.box 0 rfl) Try.isAgg43 Try.sizeOf43 (mid := [.one (.int .i64 a_1), .one (.int .i64 a_2), .arr 216 (enf u8v a_3), .arr 6 (enf u8v a_4)]) rfl rfl rfl rfl rfl rfl ?_
  refine TL.call (R := G.spec_l01Algebra.R) Try.call109 rfl rfl rfl (fun w hS => G.spec_l01Algebra.calls w a_1 a_2 a_3 a_4) ?_
  rintro r_1 _ _ ⟨rfl, rfl⟩
  refine TL.assign rfl rfl (v := .bool r_1) rfl ?_
  refine TL.done ?_
  exact TC.retF (Fin.body (fin1 (.inr rfl) rfl (.tmp rfl) [] rfl ⟨rfl, rfl⟩))

end Go.Proofs.Ytiiljfpbcanphaa.G

/- laws.toByteA6, as a pure function. -/
set_option linter.unusedVariables false
namespace Go.Proofs.Ytiiljfpbcanphaa.G
open Go Go.Sx Go.Proofs

def laws_toByteA6.b0 (a_1 : Nat → UInt8) : (Nat → UInt8) × Int → Option (LB ((Nat → UInt8) × Int)) := fun p => match p with | (out1, i1) => (bif (decide (i1 < 6)) then chk i1 6 (some (.next ((upd out1 i1.toNat (a_1 i1.toNat)), (w64 (i1 + 1))))) else some (.brk (out1, i1)))

def laws_toByteA6.f (a_1 : Nat → UInt8) : Option (Nat → UInt8) := (loop1 (laws_toByteA6.b0 a_1) ((fun _ => (0 : UInt8)), 0)).bind (fun p => match p with | (out1, i1) => some out1)

def laws_toByteA6.R (r : Nat → UInt8) (v : Value) (L : List Asn) : Prop := v = sval [.arr 6 (enf u8v r)] ∧ L = []

set_option maxRecDepth 100000 in
set_option maxHeartbeats 4000000 in
theorem laws_toByteA6.calls (w : World) (a_1 : Nat → UInt8) :
    ∀ r, laws_toByteA6.f a_1 = some r → Calls Try.prog 182 #[sval [.arr 6 (enf u8v a_1)]] w (Ret w (laws_toByteA6.R r)) := by

  refine calls_T (n := 15) (Γ := [(0, sval [.arr 6 (enf u8v a_1)])]) (R := laws_toByteA6.R) Try.func182 rfl rfl (Nat.le_of_ble_eq_true rfl) ⟨rfl, trivial⟩ ?_
  unfold laws_toByteA6.f
  refine TC.seq ?_
  refine TC.region ?_
  refine TL.box [.arr 6 (enf u8v a_1)] rfl rfl rfl rfl fun b_1 => ?_
  refine TL.alloc [.arr 6 (enf u8v (fun _ => (0 : UInt8)))] rfl rfl Try.zeroValue38 rfl fun b_2 => ?_
  refine TL.done ?_
  refine TC.seq ?_
  refine TC.region ?_
  refine TL.alloc [.arr 6 (enf u8v (fun _ => (0 : UInt8)))] rfl rfl Try.zeroValue38 rfl fun b_3 => ?_
  refine TL.done ?_
  refine TC.seq ?_
  refine TC.seq ?_
  refine TC.region ?_
  refine TL.assign rfl rfl (v := .int .i64 0) rfl ?_
  refine TL.done ?_
  refine TC.loop1 (σ := (Nat → UInt8) × Int) (γ := Unit) (Γ' := (fun p q => match p, q with | (out1, i1), _ => [(1, bp b_1 0), (2, bp b_2 0), (3, bp b_3 0), (4, .int .i64 i1)])) (L' := (fun p q => match p, q with | (out1, i1), _ => [box b_1 38 [.arr 6 (enf u8v a_1)], box b_2 38 [.arr 6 (enf u8v (fun _ => (0 : UInt8)))], box b_3 38 [.arr 6 (enf u8v out1)]])) (Γb := (fun p q => match p, q with | (out1, i1), _ => [(1, bp b_1 0), (2, bp b_2 0), (3, bp b_3 0), (4, .int .i64 i1)])) (Lb := (fun p q => match p, q with | (out1, i1), _ => [box b_1 38 [.arr 6 (enf u8v a_1)], box b_2 38 [.arr 6 (enf u8v (fun _ => (0 : UInt8)))], box b_3 38 [.arr 6 (enf u8v out1)]])) (((fun _ => (0 : UInt8)), 0)) (()) ⟨rfl, rfl, rfl, rfl, trivial⟩ [2, 1, 0] rfl ?_ ?_
  · rintro ⟨out1, i1⟩ _
    refine TC.seq ?_
    refine TC.seq ?_
    refine TC.region ?_
    refine TL.move rfl rfl (v := .int .i64 i1) rfl ?_
    refine TL.bin .i64 i1 6 rfl rfl rfl rfl (v := .bool (decide (i1 < 6))) rfl ?_
    refine TL.done ?_
    refine TC.cond (b := (decide (i1 < 6))) rfl (fun c1 => ?_) (fun c2 => ?_)
    · refine TC.skip ?_
      refine TC.seq ?_
      refine TC.block (NoEx.loop1 rfl) ?_
      refine TC.region ?_
      refine TL.move rfl rfl (v := .int .i64 i1) rfl ?_
      refine TL.move rfl rfl (v := .int .i64 i1) rfl ?_
      refine TL.chk fun h1 => ?_
      refine TL.ixa i1 i1.toNat h1 Try.underlying38 Try.sizeOf5 rfl rfl rfl rfl (by omega) ?_
      refine TL.loadA i1.toNat 0 (Src.box 0 rfl) Try.isAgg5 rfl (by omega) (v := u8v (a_1 i1.toNat)) rfl (st := 0) rfl (by omega) rfl rfl rfl ?_
      refine TL.ixa i1 i1.toNat h1 Try.underlying38 Try.sizeOf5 rfl rfl rfl rfl (by omega) ?_
      refine TL.stA (e := u8v) (z := (a_1 i1.toNat)) 2 0 i1.toNat rfl Try.sizeOf5 rfl (by omega) (s := 0) rfl (by omega) rfl rfl rfl rfl rfl ?_
      refine TL.done ?_
      refine TC.region ?_
      refine TL.move rfl rfl (v := .int .i64 i1) rfl ?_
      refine TL.bin .i64 i1 1 rfl rfl rfl rfl (v := .int .i64 (w64 (i1 + 1))) rfl ?_
      refine TL.assign rfl rfl (v := .int .i64 (w64 (i1 + 1))) rfl ?_
      refine TL.done ?_
      exact TC.next1 (((upd out1 i1.toNat (a_1 i1.toNat)), (w64 (i1 + 1)))) (()) ⟨rfl, rfl, rfl, rfl, trivial⟩ [0, 0, 0] rfl
    · exact TC.brk1 ((out1, i1)) (()) ⟨rfl, rfl, rfl, rfl, trivial⟩ [0, 0, 0] rfl
  · rintro ⟨out1, i1⟩ _
    refine TC.seq ?_
    refine TC.region ?_
    refine TL.loadM 0 1 (Src.box 2 rfl) Try.isAgg38 Try.sizeOf38 (mid := [.arr 6 (enf u8v out1)]) rfl rfl rfl rfl rfl rfl ?_
    refine TL.stM (news := [.arr 6 (enf u8v out1)]) 1 0 1 rfl Try.sizeOf38 (ones_arr (fun _ => rfl) ones_nil) rfl rfl rfl rfl rfl rfl ?_
    refine TL.done ?_
    exact TC.retF (Fin.body (fin1 (.inr rfl) rfl (.cellN rfl (Src.box 1 rfl) Try.isAgg38 Try.sizeOf38 rfl) [] rfl ⟨rfl, rfl⟩))

end Go.Proofs.Ytiiljfpbcanphaa.G

/- laws.toByteA6A6, as a pure function. -/
set_option linter.unusedVariables false
namespace Go.Proofs.Ytiiljfpbcanphaa.G
open Go Go.Sx Go.Proofs

def laws_toByteA6A6.b0 (a_1 : Nat → UInt8) : (Nat → UInt8) × Int → Option (LB ((Nat → UInt8) × Int)) := fun p => match p with | (out1, i1) => (bif (decide (i1 < 6)) then chk i1 6 ((G.laws_toByteA6.f (sub a_1 (i1.toNat * 6))).bind (fun r_1 => some (.next ((updN out1 (i1.toNat * 6) 6 r_1), (w64 (i1 + 1)))))) else some (.brk (out1, i1)))

def laws_toByteA6A6.f (a_1 : Nat → UInt8) : Option (Nat → UInt8) := (loop1 (laws_toByteA6A6.b0 a_1) ((fun _ => (0 : UInt8)), 0)).bind (fun p => match p with | (out1, i1) => some out1)

def laws_toByteA6A6.R (r : Nat → UInt8) (v : Value) (L : List Asn) : Prop := v = sval [.arr 36 (enf u8v r)] ∧ L = []

set_option maxRecDepth 100000 in
set_option maxHeartbeats 4000000 in
theorem laws_toByteA6A6.calls (w : World) (a_1 : Nat → UInt8) :
    ∀ r, laws_toByteA6A6.f a_1 = some r → Calls Try.prog 157 #[sval [.arr 36 (enf u8v a_1)]] w (Ret w (laws_toByteA6A6.R r)) := by

  refine calls_T (n := 16) (Γ := [(0, sval [.arr 36 (enf u8v a_1)])]) (R := laws_toByteA6A6.R) Try.func157 rfl rfl (Nat.le_of_ble_eq_true rfl) ⟨rfl, trivial⟩ ?_
  unfold laws_toByteA6A6.f
  refine TC.seq ?_
  refine TC.region ?_
  refine TL.box [.arr 36 (enf u8v a_1)] rfl rfl rfl rfl fun b_1 => ?_
  refine TL.alloc [.arr 36 (enf u8v (fun _ => (0 : UInt8)))] rfl rfl Try.zeroValue39 rfl fun b_2 => ?_
  refine TL.done ?_
  refine TC.seq ?_
  refine TC.region ?_
  refine TL.alloc [.arr 36 (enf u8v (fun _ => (0 : UInt8)))] rfl rfl Try.zeroValue39 rfl fun b_3 => ?_
  refine TL.done ?_
  refine TC.seq ?_
  refine TC.seq ?_
  refine TC.region ?_
  refine TL.assign rfl rfl (v := .int .i64 0) rfl ?_
  refine TL.done ?_
  refine TC.loop1 (σ := (Nat → UInt8) × Int) (γ := Unit) (Γ' := (fun p q => match p, q with | (out1, i1), _ => [(1, bp b_1 0), (2, bp b_2 0), (3, bp b_3 0), (4, .int .i64 i1)])) (L' := (fun p q => match p, q with | (out1, i1), _ => [box b_1 39 [.arr 36 (enf u8v a_1)], box b_2 39 [.arr 36 (enf u8v (fun _ => (0 : UInt8)))], box b_3 39 [.arr 36 (enf u8v out1)]])) (Γb := (fun p q => match p, q with | (out1, i1), _ => [(1, bp b_1 0), (2, bp b_2 0), (3, bp b_3 0), (4, .int .i64 i1)])) (Lb := (fun p q => match p, q with | (out1, i1), _ => [box b_1 39 [.arr 36 (enf u8v a_1)], box b_2 39 [.arr 36 (enf u8v (fun _ => (0 : UInt8)))], box b_3 39 [.arr 36 (enf u8v out1)]])) (((fun _ => (0 : UInt8)), 0)) (()) ⟨rfl, rfl, rfl, rfl, trivial⟩ [2, 1, 0] rfl ?_ ?_
  · rintro ⟨out1, i1⟩ _
    refine TC.seq ?_
    refine TC.seq ?_
    refine TC.region ?_
    refine TL.move rfl rfl (v := .int .i64 i1) rfl ?_
    refine TL.bin .i64 i1 6 rfl rfl rfl rfl (v := .bool (decide (i1 < 6))) rfl ?_
    refine TL.done ?_
    refine TC.cond (b := (decide (i1 < 6))) rfl (fun c1 => ?_) (fun c2 => ?_)
    · refine TC.skip ?_
      refine TC.seq ?_
      refine TC.block (NoEx.loop1 rfl) ?_
      refine TC.region ?_
      refine TL.move rfl rfl (v := .int .i64 i1) rfl ?_
      refine TL.move rfl rfl (v := .int .i64 i1) rfl ?_
      refine TL.chk fun h1 => ?_
      refine TL.ixa i1 (i1.toNat * 6) h1 Try.underlying39 Try.sizeOf38 rfl rfl rfl rfl (by omega) ?_
      refine TL.loadS (i1.toNat * 6) 0 (Src.box 0 rfl) Try.isAgg38 Try.sizeOf38 rfl (by omega) (v := sval [.arr 6 (enf u8v (sub a_1 (i1.toNat * 6)))]) rfl (st := 0) rfl (by omega) rfl rfl rfl ?_
      refine TL.call (R := G.laws_toByteA6.R) Try.call182 rfl rfl rfl (fun w hS => G.laws_toByteA6.calls w (sub a_1 (i1.toNat * 6))) ?_
      rintro r_1 _ _ ⟨rfl, rfl⟩
      refine TL.ixa i1 (i1.toNat * 6) h1 Try.underlying39 Try.sizeOf38 rfl rfl rfl rfl (by omega) ?_
      refine TL.stS (e := u8v) 2 0 (i1.toNat * 6) rfl Try.sizeOf38 (fun _ => rfl) rfl (by omega) (s := 0) rfl (by omega) rfl rfl rfl ?_
      refine TL.done ?_
      refine TC.region ?_
      refine TL.move rfl rfl (v := .int .i64 i1) rfl ?_
      refine TL.bin .i64 i1 1 rfl rfl rfl rfl (v := .int .i64 (w64 (i1 + 1))) rfl ?_
      refine TL.assign rfl rfl (v := .int .i64 (w64 (i1 + 1))) rfl ?_
      refine TL.done ?_
      exact TC.next1 (((updN out1 (i1.toNat * 6) 6 r_1), (w64 (i1 + 1)))) (()) ⟨rfl, rfl, rfl, rfl, trivial⟩ [0, 0, 0] rfl
    · exact TC.brk1 ((out1, i1)) (()) ⟨rfl, rfl, rfl, rfl, trivial⟩ [0, 0, 0] rfl
  · rintro ⟨out1, i1⟩ _
    refine TC.seq ?_
    refine TC.region ?_
    refine TL.loadM 0 1 (Src.box 2 rfl) Try.isAgg39 Try.sizeOf39 (mid := [.arr 36 (enf u8v out1)]) rfl rfl rfl rfl rfl rfl ?_
    refine TL.stM (news := [.arr 36 (enf u8v out1)]) 1 0 1 rfl Try.sizeOf39 (ones_arr (fun _ => rfl) ones_nil) rfl rfl rfl rfl rfl rfl ?_
    refine TL.done ?_
    exact TC.retF (Fin.body (fin1 (.inr rfl) rfl (.cellN rfl (Src.box 1 rfl) Try.isAgg39 Try.sizeOf39 rfl) [] rfl ⟨rfl, rfl⟩))

end Go.Proofs.Ytiiljfpbcanphaa.G

/- laws.toByteA6A6A6, as a pure function. -/
set_option linter.unusedVariables false
namespace Go.Proofs.Ytiiljfpbcanphaa.G
open Go Go.Sx Go.Proofs

def laws_toByteA6A6A6.b0 (a_1 : Nat → UInt8) : (Nat → UInt8) × Int → Option (LB ((Nat → UInt8) × Int)) := fun p => match p with | (out1, i1) => (bif (decide (i1 < 6)) then chk i1 6 ((G.laws_toByteA6A6.f (sub a_1 (i1.toNat * 36))).bind (fun r_1 => some (.next ((updN out1 (i1.toNat * 36) 36 r_1), (w64 (i1 + 1)))))) else some (.brk (out1, i1)))

def laws_toByteA6A6A6.f (a_1 : Nat → UInt8) : Option (Nat → UInt8) := (loop1 (laws_toByteA6A6A6.b0 a_1) ((fun _ => (0 : UInt8)), 0)).bind (fun p => match p with | (out1, i1) => some out1)

def laws_toByteA6A6A6.R (r : Nat → UInt8) (v : Value) (L : List Asn) : Prop := v = sval [.arr 216 (enf u8v r)] ∧ L = []

set_option maxRecDepth 100000 in
set_option maxHeartbeats 4000000 in
theorem laws_toByteA6A6A6.calls (w : World) (a_1 : Nat → UInt8) :
    ∀ r, laws_toByteA6A6A6.f a_1 = some r → Calls Try.prog 110 #[sval [.arr 216 (enf u8v a_1)]] w (Ret w (laws_toByteA6A6A6.R r)) := by

  refine calls_T (n := 16) (Γ := [(0, sval [.arr 216 (enf u8v a_1)])]) (R := laws_toByteA6A6A6.R) Try.func110 rfl rfl (Nat.le_of_ble_eq_true rfl) ⟨rfl, trivial⟩ ?_
  unfold laws_toByteA6A6A6.f
  refine TC.seq ?_
  refine TC.region ?_
  refine TL.box [.arr 216 (enf u8v a_1)] rfl rfl rfl rfl fun b_1 => ?_
  refine TL.alloc [.arr 216 (enf u8v (fun _ => (0 : UInt8)))] rfl rfl Try.zeroValue40 rfl fun b_2 => ?_
  refine TL.done ?_
  refine TC.seq ?_
  refine TC.region ?_
  refine TL.alloc [.arr 216 (enf u8v (fun _ => (0 : UInt8)))] rfl rfl Try.zeroValue40 rfl fun b_3 => ?_
  refine TL.done ?_
  refine TC.seq ?_
  refine TC.seq ?_
  refine TC.region ?_
  refine TL.assign rfl rfl (v := .int .i64 0) rfl ?_
  refine TL.done ?_
  refine TC.loop1 (σ := (Nat → UInt8) × Int) (γ := Unit) (Γ' := (fun p q => match p, q with | (out1, i1), _ => [(1, bp b_1 0), (2, bp b_2 0), (3, bp b_3 0), (4, .int .i64 i1)])) (L' := (fun p q => match p, q with | (out1, i1), _ => [box b_1 40 [.arr 216 (enf u8v a_1)], box b_2 40 [.arr 216 (enf u8v (fun _ => (0 : UInt8)))], box b_3 40 [.arr 216 (enf u8v out1)]])) (Γb := (fun p q => match p, q with | (out1, i1), _ => [(1, bp b_1 0), (2, bp b_2 0), (3, bp b_3 0), (4, .int .i64 i1)])) (Lb := (fun p q => match p, q with | (out1, i1), _ => [box b_1 40 [.arr 216 (enf u8v a_1)], box b_2 40 [.arr 216 (enf u8v (fun _ => (0 : UInt8)))], box b_3 40 [.arr 216 (enf u8v out1)]])) (((fun _ => (0 : UInt8)), 0)) (()) ⟨rfl, rfl, rfl, rfl, trivial⟩ [2, 1, 0] rfl ?_ ?_
  · rintro ⟨out1, i1⟩ _
    refine TC.seq ?_
    refine TC.seq ?_
    refine TC.region ?_
    refine TL.move rfl rfl (v := .int .i64 i1) rfl ?_
    refine TL.bin .i64 i1 6 rfl rfl rfl rfl (v := .bool (decide (i1 < 6))) rfl ?_
    refine TL.done ?_
    refine TC.cond (b := (decide (i1 < 6))) rfl (fun c1 => ?_) (fun c2 => ?_)
    · refine TC.skip ?_
      refine TC.seq ?_
      refine TC.block (NoEx.loop1 rfl) ?_
      refine TC.region ?_
      refine TL.move rfl rfl (v := .int .i64 i1) rfl ?_
      refine TL.move rfl rfl (v := .int .i64 i1) rfl ?_
      refine TL.chk fun h1 => ?_
      refine TL.ixa i1 (i1.toNat * 36) h1 Try.underlying40 Try.sizeOf39 rfl rfl rfl rfl (by omega) ?_
      refine TL.loadS (i1.toNat * 36) 0 (Src.box 0 rfl) Try.isAgg39 Try.sizeOf39 rfl (by omega) (v := sval [.arr 36 (enf u8v (sub a_1 (i1.toNat * 36)))]) rfl (st := 0) rfl (by omega) rfl rfl rfl ?_
      refine TL.call (R := G.laws_toByteA6A6.R) Try.call157 rfl rfl rfl (fun w hS => G.laws_toByteA6A6.calls w (sub a_1 (i1.toNat * 36))) ?_
      rintro r_1 _ _ ⟨rfl, rfl⟩
      refine TL.ixa i1 (i1.toNat * 36) h1 Try.underlying40 Try.sizeOf39 rfl rfl rfl rfl (by omega) ?_
      refine TL.stS (e := u8v) 2 0 (i1.toNat * 36) rfl Try.sizeOf39 (fun _ => rfl) rfl (by omega) (s := 0) rfl (by omega) rfl rfl rfl ?_
      refine TL.done ?_
      refine TC.region ?_
      refine TL.move rfl rfl (v := .int .i64 i1) rfl ?_
      refine TL.bin .i64 i1 1 rfl rfl rfl rfl (v := .int .i64 (w64 (i1 + 1))) rfl ?_
      refine TL.assign rfl rfl (v := .int .i64 (w64 (i1 + 1))) rfl ?_
      refine TL.done ?_
      exact TC.next1 (((updN out1 (i1.toNat * 36) 36 r_1), (w64 (i1 + 1)))) (()) ⟨rfl, rfl, rfl, rfl, trivial⟩ [0, 0, 0] rfl
    · exact TC.brk1 ((out1, i1)) (()) ⟨rfl, rfl, rfl, rfl, trivial⟩ [0, 0, 0] rfl
  · rintro ⟨out1, i1⟩ _
    refine TC.seq ?_
    refine TC.region ?_
    refine TL.loadM 0 1 (Src.box 2 rfl) Try.isAgg40 Try.sizeOf40 (mid := [.arr 216 (enf u8v out1)]) rfl rfl rfl rfl rfl rfl ?_
    refine TL.stM (news := [.arr 216 (enf u8v out1)]) 1 0 1 rfl Try.sizeOf40 (ones_arr (fun _ => rfl) ones_nil) rfl rfl rfl rfl rfl rfl ?_
    refine TL.done ?_
    exact TC.retF (Fin.body (fin1 (.inr rfl) rfl (.cellN rfl (Src.box 1 rfl) Try.isAgg40 Try.sizeOf40 rfl) [] rfl ⟨rfl, rfl⟩))

end Go.Proofs.Ytiiljfpbcanphaa.G
